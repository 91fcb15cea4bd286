/-
  Own work; plain Lean (SlFlat, SlA, SlTail, SlB, SlJb, SlN, SlScope, TdSt, JnDef).
-/
import Derived.Test.YtjejfkajcbdgjaaGreatSlFam
import Derived.MapKept
import Derived.ChangeKeysEq
import Derived.Laws.StructEq
import Derived.Recover
import Derived.Laws.Pointers
import Derived.Laws.Cover3
import Derived.Maps.RangeRun
import Derived.Test.YtjejfkajcbdgjaaGreatProg
import Derived.Laws.BytesArg
import Derived.Scope
set_option linter.all false
namespace Go.Sl
theorem nG{P:Program}{w:World}{r:Nat}{es:Array MapEntry}{clock:Nat}(hb:w.heap[r]? =some (.map es clock)):(getObj r).run P w= .ok (.map es clock) w:=by
 simp[getObj,Sem.run,hb]
theorem vJ{P:Program}{w:World}{r:Nat}{es:Array MapEntry}{clock:Nat}(o:Obj)(hb:w.heap[r]? =some (.map es clock)):(setObj r o).run P w= .ok () {w with heap:=w.heap.setIfInBounds r o}:=by
 simp[setObj,Sem.run,hb]
structure Key(κ:Type) where
 dec:DecidableEq κ
 enc:κ→Value
 d:TypeDesc
 same:∀a b,Instr.sameNow d (enc a) (enc b)=some (decide (a=b))
 bits:∀a,Instr.sameBits 10000 (enc a) (enc a)=true
 chk:∀(P:Program) (t:Nat),P.underlying t=some d→∀e a w,(Instr.checkKey e 10000 t (enc a)).run P w= .ok () w
section
variable {κ:Type}(K:Key κ)
def bIj(ks:List (κ×Value))(es:Array MapEntry):Prop:=es.toList.map (fun e=>(e.key,e.val))=ks.map fun p=>(K.enc p.1,p.2)
def bEw(b:Nat)(ks:List (κ×Value)):bU:=fun h=>∃es clock,h b=some (.map es clock)∧bIj K ks es
theorem bEw.mono(b:Nat)(ks:List (κ×Value)):rH (bEw K b ks):=fun _ _ hs ⟨es,c,h,k⟩=>⟨es,c,hs _ _ h,k⟩
variable {P:Program}{ro:Option Nat}{n:Nat}{ds:List Deferred}{β:Base}{Q:Exit→Act→World→Prop}{f:Fm}{L:List bU}{ops:Array Oper}{rest:List Oper}
variable {d:Option Tmp}{ty:TypeId}{ps:String}{af:Array Edge}{g:Option (Nat×Bool)}
end
inductive K where
 |int (q:IntKind)|bool|str
 deriving DecidableEq
def kOf:Value→Option K
 | .int q _=>some (.int q)
 | .bool _=>some .bool
 | .string _=>some .str
 |_=>none
def szB(P:Program)(t:TypeId)(n:Nat):Bool:=match P.info? t with|some i=>i.size==n|none=>false
def aNk(P:Program)(ly:TypeId→Option (List K)):List Field→Nat→Option (List K)
 |[],_=>some []
 |f::fs,off=>if f.name !="_"&&f.offset==off then
   match ly f.type with
   |some ks=>if szB P f.type ks.length then(aNk P ly fs (off+ks.length)).map (ks++ ·)else none
   |none=>none
  else none
def zC(P:Program):Nat→TypeId→Option (List K)
 |0,_=>none
 |d+1,t=>
  match P.underlying t with
  |some .bool=>some [.bool]
  |some (.int q)=>some [.int q]
  |some .string=>some [.str]
  |some (.array n e)=>match zC P d e with
   |some ks=>if szB P e ks.length&& !ks.isEmpty then some (List.replicate n ks).flatten else none
   |none=>none
  |some (.struct fs)=>if P.stoodInHeld t then none else aNk P (zC P d) fs.toList 0
  |_=>none
def gM(P:Program)(t:TypeId):Bool:=match P.underlying t with|some (.struct _)|some (.array _ _)=>true|_=>false
def tA(P:Program)(t:TypeId)(cs:List Value):Value:=if gM P t then .agg cs.toArray else cs.headD undef
section
variable {P:Program}
theorem aAd{t n:Nat}(h:szB P t n=true):∃i,P.info? t=some i∧i.size=n:=by
 unfold szB at h
 cases hi:P.info? t with
 |none=>rw[hi]at h;cases h
 |some i=>rw[hi]at h;exact⟨i,rfl,by simpa using h⟩
theorem aJa{t:TypeId}{d:TypeDesc}(hu:P.underlying t=some d)(w:World):(isAgg t).run P w= .ok (gM P t) w:=by
 unfold isAgg gM
 rw[Sem.run_bind,run_underlying hu w,hu]
 cases d<;>rfl
theorem qQ{t n:Nat}{d:TypeDesc}(hu:P.underlying t=some d)(hs:szB P t n=true)(h1:gM P t=false→n=1)(cs:Array Value)(off:Nat)(hb:off+n≤cs.size)(w:World):
  (part t cs off).run P w= .ok (tA P t ((cs.toList.drop off).take n)) w:=by
 obtain⟨i,hi,hn⟩:=aAd hs
 unfold part tA
 rw[Sem.run_bind,aJa hu w,Result.andThen_ok]
 cases ha:gM P t with
 |true=>
  simp only[if_true,Sem.run_bind,sizeOf,typeInfo,run_program,Result.andThen_ok,hi,Sem.run_pure,hn]
  congr 2
  apply Array.ext'
  simp[List.extract_eq_take_drop]
 |false=>
  have:=h1 ha
  subst this
  have hlt:off<cs.size:=by omega
  simp only[Bool.false_eq_true,if_false]
  rw[Array.getElem?_eq_getElem hlt]
  simp only[Sem.run_pure]
  congr 1
  rw[List.take_one,List.head?_drop]
  simp[hlt]
def EqT(P:Program)(d:Nat)(t:TypeId)(ks:List K):Prop:=
 ∀(w:World) (xs ys:List Value),xs.map kOf=ks.map some→ys.map kOf=ks.map some→∃r:Bool,(Op.equalIn d t (tA P t xs) (tA P t ys)).run P w= .ok r w∧(r=true↔xs=ys)
theorem aKt{d:Nat}{t:TypeId}{ks:List K}(h:zC P d t=some ks):(∃dd,P.underlying t=some dd)∧(gM P t=false→ks.length=1):=by
 cases d with
 |zero=>cases h
 |succ d=>
  unfold zC at h
  cases hu:P.underlying t with
  |none=>rw[hu]at h;cases h
  |some dd=>
   refine⟨⟨dd,rfl⟩,fun ha=> ?_⟩
   rw[hu]at h
   unfold gM at ha
   rw[hu]at ha
   cases dd<;>simp at h ha<;>subst h<;>rfl
theorem lN{xs:List Value}{ks:List K}(h:xs.map kOf=ks.map some)(o n:Nat):((xs.drop o).take n).map kOf=((ks.drop o).take n).map some:=by
 simp only[List.map_take,List.map_drop,h]
theorem aBj{d:Nat}(ih:∀t ks,zC P d t=some ks→EqT P d t ks):∀(fs:List Field) (off:Nat) (ks:List K),aNk P (zC P d) fs off=some ks→
  ∀(w:World) (X Y:Array Value) (kx:List K),X.toList.map kOf=kx.map some→Y.toList.map kOf=kx.map some→(kx.drop off).take ks.length=ks→off+ks.length≤kx.length→
   ∃r:Bool,(Op.eqFields d X Y fs).run P w= .ok r w∧(r=true↔(X.toList.drop off).take ks.length=(Y.toList.drop off).take ks.length)
 |[],off,ks,h,w,X,Y,kx,hX,hY,hk,hle=>by
  simp[aNk]at h;subst h
  exact⟨true,rfl,by simp⟩
 |f::fs,off,ks,h,w,X,Y,kx,hX,hY,hk,hle=>by
  unfold aNk at h
  cases hn:(f.name !="_"&&f.offset==off)with
  |false=>rw[hn]at h;simp at h
  |true=>
   rw[hn]at h
   simp only[if_true]at h
   simp only[Bool.and_eq_true,bne_iff_ne,ne_eq,beq_iff_eq]at hn
   obtain⟨hname,rfl⟩:=hn
   cases hl:zC P d f.type with
   |none=>rw[hl]at h;cases h
   |some k1=>
    rw[hl]at h
    simp only[]at h
    cases hz:szB P f.type k1.length with
    |false=>rw[hz]at h;simp at h
    |true=>
     rw[hz]at h
     simp only[if_true]at h
     cases hr:aNk P (zC P d) fs (f.offset+k1.length)with
     |none=>rw[hr]at h;cases h
     |some k2=>
      rw[hr]at h
      simp only[Option.map_some,Option.some.injEq]at h
      subst h
      simp only[List.length_append]at hle hk⊢
      have hxl:X.toList.length=kx.length:=by have:=congrArg List.length hX;simpa using this
      have hyl:Y.toList.length=kx.length:=by have:=congrArg List.length hY;simpa using this
      obtain⟨⟨dd,hu⟩,h1⟩:=aKt hl
      have px:=qQ hu hz h1 X f.offset (by rw[←Array.length_toList,hxl];omega) w
      have py:=qQ hu hz h1 Y f.offset (by rw[←Array.length_toList,hyl];omega) w
      have hk1:(kx.drop f.offset).take k1.length=k1:=by
       have:=congrArg (List.take k1.length) hk
       rw[List.take_take,Nat.min_eq_left (by omega)]at this
       simpa using this
      have hk2:(kx.drop (f.offset+k1.length)).take k2.length=k2:=by
       have:=congrArg (List.drop k1.length) hk
       rw[List.drop_take,List.drop_drop]at this
       simpa using this
      obtain⟨r1,e1,i1⟩:=ih f.type k1 hl w ((X.toList.drop f.offset).take k1.length) ((Y.toList.drop f.offset).take k1.length) (by rw[lN hX,hk1]) (by rw[lN hY,hk1])
      obtain⟨r2,e2,i2⟩:=aBj ih fs _ k2 hr w X Y kx hX hY hk2 (by omega)
      have split:∀Z:Array Value,(Z.toList.drop f.offset).take (k1.length+k2.length)=(Z.toList.drop f.offset).take k1.length++(Z.toList.drop (f.offset+k1.length)).take k2.length:=fun Z=>by
       rw[List.take_add,List.drop_drop]
      have lx:((X.toList.drop f.offset).take k1.length).length=((Y.toList.drop f.offset).take k1.length).length:=by simp only[List.length_take,List.length_drop];omega
      simp only[Op.eqFields,hname,ne_eq,not_false_eq_true,if_true,Sem.run_bind,px,py,Result.andThen_ok,e1]
      cases r1 with
      |false=>
       refine⟨false,by simp,?_⟩
       rw[split,split]
       constructor
       ·intro h;cases h
       ·intro h
        have:=(List.append_inj h lx).1
        exact absurd (i1.2 this) (by simp)
      |true=>
       refine⟨r2,by simpa using e2,?_⟩
       rw[split,split,i2]
       constructor
       ·intro h;rw[h,i1.1 rfl]
       ·intro h;exact(List.append_inj h lx).2
theorem aFx{d:Nat}{e:TypeId}{k1:List K}(h0:¬k1.length=0)(ih:EqT P d e k1)(hl:zC P d e=some k1)(hz:szB P e k1.length=true):∀(n j:Nat) (w:World) (X Y:Array Value) (kx:List K),X.toList.map kOf=kx.map some→Y.toList.map kOf=kx.map some→
  kx.drop (j*k1.length)=(List.replicate n k1).flatten→
   ∃r:Bool,(Op.eqItems d e (P.cellsOf e) X Y (List.range' j n)).run P w= .ok r w∧(r=true↔X.toList.drop (j*k1.length)=Y.toList.drop (j*k1.length))
 |0,j,w,X,Y,kx,hX,hY,hk=>by
  have hx:X.toList.drop (j*k1.length)=[]:=by
   have h2:(X.toList.drop (j*k1.length)).map kOf=[]:=by rw[List.map_drop,hX,←List.map_drop,hk];rfl
   simpa using h2
  have hy:Y.toList.drop (j*k1.length)=[]:=by
   have h2:(Y.toList.drop (j*k1.length)).map kOf=[]:=by rw[List.map_drop,hY,←List.map_drop,hk];rfl
   simpa using h2
  exact⟨true,rfl,by simp[hx,hy]⟩
 |n+1,j,w,X,Y,kx,hX,hY,hk=>by
  have hc:P.cellsOf e=k1.length:=by
   obtain⟨i,hi,hs⟩:=aAd hz
   simp[Program.cellsOf,hi,hs]
  have hxl:X.toList.length=kx.length:=by have:=congrArg List.length hX;simpa using this
  have hyl:Y.toList.length=kx.length:=by have:=congrArg List.length hY;simpa using this
  rw[List.replicate_succ,List.flatten_cons]at hk
  have hkl:kx.length-j*k1.length=k1.length+(List.replicate n k1).flatten.length:=by
   have:=congrArg List.length hk
   simpa using this
  have hle:k1.length=0∨j*k1.length+k1.length≤kx.length:=by omega
  obtain⟨⟨dd,hu⟩,h1⟩:=aKt hl
  have hk1:(kx.drop (j*k1.length)).take k1.length=k1:=by rw[hk];simp
  have hk2:kx.drop ((j+1)*k1.length)=(List.replicate n k1).flatten:=by
   rw[Nat.add_mul,Nat.one_mul,←List.drop_drop,hk];simp
  have hle':j*k1.length+k1.length≤kx.length:=by omega
  have px:=qQ hu hz h1 X (j*k1.length) (by rw[←Array.length_toList,hxl];omega) w
  have py:=qQ hu hz h1 Y (j*k1.length) (by rw[←Array.length_toList,hyl];omega) w
  obtain⟨r1,e1,i1⟩:=ih w ((X.toList.drop (j*k1.length)).take k1.length) ((Y.toList.drop (j*k1.length)).take k1.length) (by rw[lN hX,hk1]) (by rw[lN hY,hk1])
  obtain⟨r2,e2,i2⟩:=aFx h0 ih hl hz n (j+1) w X Y kx hX hY hk2
  have split:∀Z:Array Value,Z.toList.drop (j*k1.length)=(Z.toList.drop (j*k1.length)).take k1.length++Z.toList.drop ((j+1)*k1.length):=fun Z=>by
   rw[Nat.add_mul,Nat.one_mul,←List.drop_drop,List.take_append_drop]
  have lx:((X.toList.drop (j*k1.length)).take k1.length).length=((Y.toList.drop (j*k1.length)).take k1.length).length:=by simp only[List.length_take,List.length_drop];omega
  simp only[List.range'_succ,Op.eqItems,Sem.run_bind,hc,px,py,Result.andThen_ok,e1]
  rw[hc]at e2
  cases r1 with
  |false=>
   refine⟨false,by simp,?_⟩
   rw[split X,split Y]
   constructor
   ·intro h;cases h
   ·intro h
    have:=(List.append_inj h lx).1
    exact absurd (i1.2 this) (by simp)
  |true=>
   refine⟨r2,by simpa using e2,?_⟩
   rw[split X,split Y,i2]
   constructor
   ·intro h;rw[h,i1.1 rfl]
   ·intro h;exact(List.append_inj h lx).2
theorem bEl:∀(d:Nat) (t:TypeId) (ks:List K),zC P d t=some ks→EqT P d t ks
 |0,t,ks,h=>by cases h
 |d+1,t,ks,h=>by
  have ih:=bEl d
  intro w xs ys hx hy
  have h':=h
  unfold zC at h
  cases hu:P.underlying t with
  |none=>rw[hu]at h;cases h
  |some dd=>
   rw[hu]at h
   have leaf:ks.length=1→∃x y,xs=[x]∧ys=[y]:=fun h1=>by
    have lx:xs.length=1:=by have:=congrArg List.length hx;simp at this;omega
    have ly:ys.length=1:=by have:=congrArg List.length hy;simp at this;omega
    match xs,ys,lx,ly with
    |[x],[y],_,_=>exact⟨x,y,rfl,rfl⟩
   have hxl:xs.length=ks.length:=by have:=congrArg List.length hx;simpa using this
   have hyl:ys.length=ks.length:=by have:=congrArg List.length hy;simpa using this
   cases dd<;>simp only[]at h<;>try (cases h;done)
   case bool=>
    cases h
    obtain⟨x,y,rfl,rfl⟩:=leaf rfl
    simp at hx hy
    cases x<;>simp[kOf]at hx
    cases y<;>simp[kOf]at hy
    rename_i a b
    exact⟨a==b,by simp[tA,gM,hu,Op.equalIn,run_underlying hu],by simp⟩
   case int q=>
    cases h
    obtain⟨x,y,rfl,rfl⟩:=leaf rfl
    simp at hx hy
    cases x<;>simp[kOf]at hx
    cases y<;>simp[kOf]at hy
    subst hx;subst hy
    rename_i a j b
    exact⟨a==b,by simp[tA,gM,hu,Op.equalIn,run_underlying hu],by simp⟩
   case string=>
    cases h
    obtain⟨x,y,rfl,rfl⟩:=leaf rfl
    simp at hx hy
    cases x<;>simp[kOf]at hx
    cases y<;>simp[kOf]at hy
    rename_i a b
    exact⟨a==b,by simp[tA,gM,hu,Op.equalIn,run_underlying hu],by
     rw[beq_toListBytes,ByteArray.toList_eq,ByteArray.toList_eq]
     obtain⟨⟨a⟩⟩:=a
     obtain⟨⟨b⟩⟩:=b
     simp⟩
   case array n e=>
    cases hl:zC P d e with
    |none=>rw[hl]at h;cases h
    |some k1=>
     rw[hl]at h
     simp only[]at h
     cases hzz:(szB P e k1.length&& !k1.isEmpty)with
     |false=>rw[hzz]at h;simp at h
     |true=>
      rw[hzz]at h
      simp only[if_true,Option.some.injEq]at h
      subst h
      simp only[Bool.and_eq_true,Bool.not_eq_true']at hzz
      obtain⟨hz,hne⟩:=hzz
      obtain⟨i,hi,hs⟩:=aAd hz
      have e0:tA P t xs= .agg xs.toArray:=by simp[tA,gM,hu]
      have e1:tA P t ys= .agg ys.toArray:=by simp[tA,gM,hu]
      rw[e0,e1,run_equalIn_array w d xs.toArray ys.toArray hu hi]
      obtain⟨r,hr,hiff⟩:=aFx (by simpa using hne) (ih e k1 hl) hl hz n 0 w xs.toArray ys.toArray _ hx hy (by simp)
      refine⟨r,by rw[List.range_eq_range'];exact hr,by simpa using hiff⟩
   case struct fs=>
    cases hp:P.stoodInHeld t with
    |true=>rw[hp]at h;simp at h
    |false=>
     rw[hp]at h
     simp only[Bool.false_eq_true,if_false]at h
     have hf:P.fieldsOf t=fs:=by simp[Program.fieldsOf,hu]
     have e0:tA P t xs= .agg xs.toArray:=by simp[tA,gM,hu]
     have e1:tA P t ys= .agg ys.toArray:=by simp[tA,gM,hu]
     rw[e0,e1,run_equalIn_struct w d t xs.toArray ys.toArray (by rw[hf];exact hu) hp,hf]
     obtain⟨r,hr,hiff⟩:=aBj ih fs.toList 0 ks h w xs.toArray ys.toArray ks hx hy (by simp) (by omega)
     refine⟨r,hr,?_⟩
     rw[hiff]
     simp only[List.drop_zero]
     rw[List.take_of_length_le (by omega),List.take_of_length_le (by omega)]
variable {β:Base}{L:List bU}{f:Fm}{d:Option Tmp}{ty:TypeId}{ps:String}{af:Array Edge}{g:Option (Nat×Bool)}
theorem aCe{t:TypeId}{ks:List K}{xs ys:List Value}(hl:zC P 10000 t=some ks)(ha:gM P t=true)(hx:xs.map kOf=ks.map some)(hy:ys.map kOf=ks.map some)(w:World):
  ∃r:Bool,(Op.equalIn 10000 t (.agg xs.toArray) (.agg ys.toArray)).run P w= .ok r w∧(r=true↔xs=ys):=by
 have h:=bEl 10000 t ks hl w xs ys hx hy
 simpa only[tA,ha,if_true]using h
theorem qF{t t':TypeId}{x y:Operand}{ks:List K}{xs ys:List Value}{p:Prop}[Decidable p](hl:zC P 10000 t=some ks)(ha:gM P t=true)(hg:P.eqGuardType P.depth t=false)
 (hx:ev f x= .agg xs.toArray)(hy:ev f y= .agg ys.toArray)(kx:xs.map kOf=ks.map some)(ky:ys.map kOf=ks.map some)(hp:xs=ys↔p):EV P β L f ⟨d,.binOp .eql t x y t',ty,ps,af,g⟩ (.bool (decide p)):=fun w _=>by
 obtain⟨r,hr,hi⟩:=aCe hl ha kx ky w
 have e:r=decide p:=by
  cases r
  ·rw[decide_eq_false];intro h;exact absurd (hi.2 (hp.2 h)) (by simp)
  ·rw[decide_eq_true (hp.1 (hi.1 rfl))]
 simp only[execOp,hx,hy,Sem.run_bind,run_eqGuard_agg w _ t x y xs.toArray ys.toArray hg,Result.andThen_ok,run_eql_struct,hr,e]
 rfl
theorem iA{t t':TypeId}{x y:Operand}{ks:List K}{xs ys:List Value}{p:Prop}[Decidable p](hl:zC P 10000 t=some ks)(ha:gM P t=true)(hg:P.eqGuardType P.depth t=false)
 (hx:ev f x= .agg xs.toArray)(hy:ev f y= .agg ys.toArray)(kx:xs.map kOf=ks.map some)(ky:ys.map kOf=ks.map some)(hp:¬(xs=ys)↔p):EV P β L f ⟨d,.binOp .neq t x y t',ty,ps,af,g⟩ (.bool (decide p)):=fun w _=>by
 obtain⟨r,hr,hi⟩:=aCe hl ha kx ky w
 have e:(!r)=decide p:=by
  cases r
  ·have h:p:=hp.1 fun h=>absurd (hi.2 h) (by simp)
   rw[decide_eq_true h];rfl
  ·have h:¬p:=fun h=>(hp.2 h) (hi.1 rfl)
   rw[decide_eq_false h];rfl
 simp only[execOp,hx,hy,Sem.run_bind,run_eqGuard_agg w _ t x y xs.toArray ys.toArray hg,Result.andThen_ok,run_neq_struct,hr,e]
 rfl
end
section
variable {P:Program}{ro:Option Nat}{n:Nat}{ds:List Deferred}{β:Base}{Q:Exit→Act→World→Prop}{f:Fm}{L:List bU}{ops:Array Oper}{rest:List Oper}
variable {d:Option Tmp}{ty:TypeId}{ps:String}{af:Array Edge}{g:Option (Nat×Bool)}
theorem aYb{o:Oper}{d:Nat}{g:FuncId}{args:Array Value}(hd:o.dst=some d)(hn:Nat.blt d n=true)
 (he:∀w,(execOp (ev f) o).run P w= .ok (.enter g args) w)
 (hc:∀w,St β L w→Calls P g args w fun e w'=>(∃ch,e= .panicked ch∧∃L',St β L' w'∧iZ n ds β Q (.panic ch) f L')∨(∃v,e= .returned v∧∃L',St β L' w'∧cE P ro n ds β ops Q rest (dZ f d v) L')):
  uD P ro n ds β o Q (wpListIn (Fe ro) 3 P ops Q rest) f L:=by
 intro a w ha hw
 refine⟨fun _ _=>trivial,?_⟩
 rw[ha.eval,nH (he w) (by simp),he w,Oper.uponIn_enter,hd]
 refine⟨fun h=>by simp[Fe]at h,CallsIn.mono (pZ.2 (hc w hw)) ?_⟩
 rintro e w' (⟨ch,rfl,L',hw',k⟩|⟨v,rfl,L',hw',k⟩)
 ·exact k _ w' ha hw'
 ·exact k _ w' (ha.put hn v) hw'
theorem iJ{o:Oper}{d:Nat}{g:FuncId}{args:Array Value}(hgd:o.guard=none)(hd:o.dst=some d)(hn:Nat.blt d n=true)(he:CL P f o g args)
 (hc:∀w,St β L w→Calls P g args w fun e w'=>(∃ch,e= .panicked ch∧∃L',St β L' w'∧iZ n ds β Q (.panic ch) f L')∨(∃v,e= .returned v∧∃L',St β L' w'∧cE P ro n ds β ops Q rest (dZ f d v) L')):cE P ro n ds β ops Q (o::rest) f L:=
 qM hgd (aYb hd hn he hc)
theorem aWs{x:Operand}{t:TypeId}{v:Value}(hx:ev f x= .iface t v)(k:iZ n ds β Q (.panic [{v:= .iface t v,recovered:=false}]) f L):cE P ro n ds β ops Q (⟨d,.panic x,ty,ps,af,none⟩::rest) f L:=by
 refine qM rfl fun a w ha hw=>⟨fun _ _=>trivial,?_⟩
 have hr:(execOp (ev f) ⟨d,.panic x,ty,ps,af,none⟩).run P w= .halt (.panic (.iface t v)) w:=by simp[execOp,hx,Instr.panic]
 have hs:(Oper.semAt ro (ev f) ⟨d,.panic x,ty,ps,af,none⟩)=execOp (ev f) ⟨d,.panic x,ty,ps,af,none⟩:=Oper.semAt_eq ro _ _ fun c hc=>by cases hc
 rw[ha.eval,show(Fe ro).round=ro from rfl,hs,hr,Oper.uponIn_panic]
 exact k a w ha hw
theorem eG{K:Act→World→Prop}{ch:List PanicEntry}(h:iZ n ds β Q (.panic ch) f L):iZ n ds β (Exit.then K Q) (.panic ch) f L:=h
theorem iF{id:Nat}{ch:List PanicEntry}(h:iZ n ds β Q (.panic ch) f L):iZ n ds β (Exit.inBlock id Q) (.panic ch) f L:=h
theorem sX{fn:Func}{R:Ending→World→Prop}{ch:List PanicEntry}(h:∀w,St β L w→R (.panicked ch) w):iZ n [] β (bodyPost P fn R) (.panic ch) f L:=
 fun _ w ha hw=>⟨ha.defers,h w hw⟩
def Pr(φ:Prop):bU:=fun _=>φ
theorem St.pr{φ:Prop}{w:World}(hφ:φ)(h:St β L w):St β (Pr φ::L) w:=h.emp hφ
theorem St.unbun{M:List bU}{w:World}(h:St β (jE L::M) w):St β (L++M) w:=by
 obtain⟨ho,ht,hp,a,hd,hs,hs',hL⟩:=h
 exact⟨ho,ht,hp,a,hd,hs,hs',jE.append.2 hL⟩
theorem St.bun{M:List bU}{w:World}(h:St β (L++M) w):St β (jE L::M) w:=h.merge fun _ h=>h
theorem St.ex{α:Type}{r:α→bU}{M:List bU}{w:World}(h:St β ((fun a=>∃x,r x a)::M) w):∃x,St β (r x::M) w:=by
 obtain⟨ho,ht,hp,a,hd,hs,hs',p,q,h1,h2,h3,⟨x,hx⟩,h5⟩:=h
 exact⟨x,ho,ht,hp,a,hd,hs,hs',p,q,h1,h2,h3,hx,h5⟩
theorem kQ{c:Code}{r r':bU}(i:Nat)(hi:L[i]? =some r)(hr:∀a,r a→r' a)(k:eE P ro n ds β c Q f (L.set i r')):eE P ro n ds β c Q f L:=fun a w ha hw=>k a w ha (hw.conseq_at i hi hr)
theorem uN{e:Exit}{r r':bU}(i:Nat)(hi:L[i]? =some r)(hr:∀a,r a→r' a)(k:iZ n ds β Q e f (L.set i r')):iZ n ds β Q e f L:=fun a w ha hw=>k a w ha (hw.conseq_at i hi hr)
theorem iV{t t':TypeId}{x y:Operand}{p:Option Addr}(hx:ev f x= .pointer p)(hy:ev f y= .pointer none)(h:P.underlying t=some (.pointer (P.pointee t))):EV P β L f ⟨d,.binOp .eql t x y t',ty,ps,af,g⟩ (.bool p.isNone):=fun w _=>by
 simp[execOp,hx,hy,eqGuard,run_eql_pointer_nil w t p h]
theorem mX{t t':TypeId}{x y:Operand}{p:Option Addr}(hx:ev f x= .pointer p)(hy:ev f y= .pointer none)(h:P.underlying t=some (.pointer (P.pointee t))):EV P β L f ⟨d,.binOp .neq t x y t',ty,ps,af,g⟩ (.bool (!p.isNone)):=fun w _=>by
 simp[execOp,hx,hy,eqGuard,run_neq_pointer_nil w t p h]
theorem qD{t t' e:TypeId}{x y:Operand}{a:Option Addr}{l c:Nat}(hx:ev f x= .slice a l c)(hy:ev f y= .slice none 0 0)(h:P.underlying t=some (.slice e)):EV P β L f ⟨d,.binOp .eql t x y t',ty,ps,af,g⟩ (.bool a.isNone):=fun w _=>by
 have hb:(binOp .eql t (.slice a l c) (.slice none 0 0)).run P w= .ok (.bool a.isNone) w:=by
  simp only[binOp]
  simp[run_equal_slice_nil w t e a l c h]
 simp[execOp,hx,hy,eqGuard,hb]
theorem aVz{t:TypeId}{x:Operand}{a:UInt64}(hx:ev f x=Ux a):EV P β L f ⟨d,.unOp .xor t x,ty,ps,af,g⟩ (Ux (~~~a)):=fun w _=>by
 have h1:(Op.intBits BinOp.xor IntKind.u64 (if IntKind.u64.signed=true then-1 else IntKind.u64.max) (a.toNat:Int)).run P w= .ok (Ux (~~~a)) w:=by
  have e:(IntKind.u64.max:Int)=((18446744073709551615:UInt64).toNat:Int):=by decide
  have e2:(18446744073709551615:UInt64)^^^a= ~~~a:=by
   apply UInt64.toBitVec_inj.1
   simp
   exact BitVec.allOnes_xor
  have h:=aAi 18446744073709551615 a
  rw[e2]at h
  rw[if_neg (by decide),e]
  simp only[Op.intBits]
  exact congrArg (fun z=>Result.ok (Value.int IntKind.u64 z) w) h
 simp[execOp,hx,Op.unary,h1]
def xX(sps:List Sp)(N:Nat):Bool:=(List.range N).all fun j=>mem j (jI sps N)
theorem aGi{sps:List Sp}{N j:Nat}(h:xX sps N=true)(hj:j<N):j∈jI sps N:=mem_iff.1 (List.all_eq_true.1 h j (List.mem_range.2 hj))
def aLw(t:Tok)(N:Nat):Bool:=jN t.prod (Nat.blt · N)&&jN t.cons (Nat.blt · N)
end
section
variable {P:Program}{ro:Option Nat}{n:Nat}{ds:List Deferred}{β:Base}{Q:Exit→Act→World→Prop}
theorem aRl{opsA:List Oper}{oN:Oper}{ops:List Oper}{sps:List Sp}{toks:List Tok}{ini:List (Nat×Value)}{fin:List Nat}{M:List bU}
 (hA:ops=opsA++[oN])(hal:xX sps opsA.length=true)(hno:toks.all (fun t=>aLw t opsA.length)=true)(h1:qA ops sps ini=true)(h2:toks.all (mA ops sps)=true)(ho:Obs P ro n ds β ops sps toks ini opsA 0)(hf:fin.all (uO ops ini)=true)
 (hQ:∀f',KEv sps f' (sps.take opsA.length)→rA ini fin f'→cE P ro n ds β ops.toArray Q [oN] f' (rs (nY toks) f'++M)):
  ∀(fuel:Nat) (listed:Array Bool) (f:Fm) (a:Act) (w:World),listed.size=ops.length→((List.range ops.length).filter (fun j=> !listed.getD j false)).length≤fuel→
   Inv ops sps toks ini n ds β M (fun j=>listed.getD j false) f a w→listed.getD opsA.length false=false→wpAnyIn (Fe ro) 3 P .any ops.toArray Q fuel listed a w:=by
 have hc:=h1
 simp only[qA,Bool.and_eq_true]at hc
 obtain⟨⟨hlen,hops⟩,hsps⟩:=hc
 have hlen:=Nat.eq_of_beq_eq_true hlen
 have hop:∀{i:Nat} {o:Oper},ops[i]? =some o→(∀e∈o.after,Region.binds .any e=true→e.on<i)∧∀j∈jI sps i,behind sps o j=true:=by
  intro i o hi
  have:=jH hops hi
  simp only[Nat.zero_add,Bool.and_eq_true,List.all_eq_true]at this
  exact⟨fun e he hb=>by have:=this.1 e (by simpa using he);rw[hb]at this;simpa using this,this.2⟩
 have hsp:∀{i:Nat} {s:Sp},sps[i]? =some s→(∀j∈s.need,j∈s.anc)∧(∀x∈s.ini,∀p,ini[x]? =some p→aRi ops sps i p.1=true)∧(∀t∈s.sl,∀(j:Nat) o,ops[j]? =some o→o.dst=some t→j=i∨j∈s.anc):=by
  intro i s hi
  have:=jH hsps hi
  simp only[Nat.zero_add,Bool.and_eq_true,List.all_eq_true]at this
  refine⟨fun j hj=>mem_iff.1 (this.1.1 j hj),fun x hx p hp=> ?_,fun t hts j o hj hd=> ?_⟩
  ·have:=this.1.2 x hx;rw[hp]at this;exact this
  ·have:=jH (this.2 t hts) hj
   simp only[Nat.zero_add,nX.2 hd,Bool.not_true,Bool.false_or,Bool.or_eq_true]at this
   rcases this with h|h
   ·exact .inl (Nat.eq_of_beq_eq_true h)
   ·exact .inr (mem_iff.1 h)
 have hN:ops.length=opsA.length+1:=by rw[hA];simp
 have hoN:ops[opsA.length]? =some oN:=by rw[hA];simp
 have done:∀(listed:Array Bool) (f:Fm) (a:Act) (w:World),(∀j,j<opsA.length→listed.getD j false=true)→listed.getD opsA.length false=false→Inv ops sps toks ini n ds β M (fun j=>listed.getD j false) f a w→
   wpListIn (Fe ro) 3 P ops.toArray Q [oN] a w:=by
  intro listed f a w hall hlN I
  have hK:KEv sps f (sps.take opsA.length):=KEv.of fun s hs=>by
   obtain⟨j,hj⟩:=List.getElem?_of_mem hs
   have hjl:j<opsA.length:=by
    have:=(List.getElem?_eq_some_iff.1 hj).1
    simp at this;omega
   rw[List.getElem?_take_of_lt hjl]at hj
   exact I.k j s hj (hall j hjl)
  have hI:rA ini fin f:=rA.of fun x hx p hp=>by
   refine I.ini p (List.mem_of_getElem? hp) fun j o hj _ hd=> ?_
   have:=List.all_eq_true.1 hf x hx
   unfold uO at this;rw[hp]at this
   have:=List.all_eq_true.1 this o (List.mem_of_getElem? hj)
   rw[nX.2 hd]at this;cases this
  have hT:toks.filter (gJ fun j=>listed.getD j false)=nY toks:=by
   refine List.filter_congr fun t hm=> ?_
   have hlt:=List.all_eq_true.1 hno t hm
   simp only[aLw,Bool.and_eq_true]at hlt
   have hP:jN t.prod (fun j=>listed.getD j false)=true:=by
    cases hp:t.prod with
    |none=>rfl
    |some p=>have:=hlt.1;rw[hp]at this;exact hall p (by simpa[jN]using this)
   unfold gJ
   rw[hP]
   cases hcn:t.cons with
   |none=>rfl
   |some c=>have:=hlt.2;rw[hcn]at this;simp[iN,hall c (by simpa[jN]using this)]
  have hst:=I.st
  rw[hT]at hst
  exact hQ f hK hI a w I.hat hst
 have allSet:∀(fuel:Nat) (listed:Array Bool) (a:Act) (w:World),listed.size=ops.length→(∀j,j<ops.length→listed.getD j false=true)→Q .normal a w→wpAnyIn (Fe ro) 3 P .any ops.toArray Q fuel listed a w:=by
  intro fuel listed a w hsz hall hq
  have hr:Region.ready .any ops.toArray listed=[]:=by
   refine List.eq_nil_iff_forall_not_mem.2 fun j hj=> ?_
   obtain⟨hl,o,ho',_⟩:=mem_ready.1 hj
   have hj':j<ops.length:=by
    have:=(Array.getElem?_eq_some_iff.1 ho').1
    simpa using this
   have:=hall j hj'
   simp only[Array.getD_eq_getD_getElem?,Array.getElem?_eq_getElem (by omega:j<listed.size),Option.getD_some]at hl this
   rw[hl]at this;cases this
  cases fuel with
  |zero=>exact⟨hr,hq⟩
  |succ k=>exact⟨fun _=>hq,fun i hi=>by rw[hr]at hi;cases hi⟩
 intro fuel
 induction fuel with
 |zero=>
  intro listed f a w hsz hle I hlN
  have:opsA.length∈(List.range ops.length).filter (fun j=> !listed.getD j false):=List.mem_filter.2 ⟨List.mem_range.2 (by omega),by rw[hlN];rfl⟩
  have:=List.length_pos_of_mem this
  omega
 |succ fuel ih=>
  intro listed f a w hsz hle I hlN
  refine⟨fun hr=> ?_,fun i hi=> ?_⟩
  ·exfalso
   have least:∀j,j<ops.length→listed.getD j false=true:=by
    intro j
    induction j using Nat.strongRecOn with
    |_ j ihj=>
     intro hj
     cases hl:listed.getD j false with
     |true=>rfl
     |false=>
      have hl':listed.getD j true=false:=by
       simp only[Array.getD_eq_getD_getElem?,Array.getElem?_eq_getElem (by omega:j<listed.size),Option.getD_some]at hl⊢
       exact hl
      have ho:=List.getElem?_eq_getElem hj
      have:j∈Region.ready .any ops.toArray listed:=mem_ready.2 ⟨hl',_,(List.getElem?_toArray ..).trans ho,fun e he hb=>ihj e.on ((hop ho).1 e he hb) (by have:=(hop ho).1 e he hb;omega)⟩
      rw[hr]at this;simp at this
   have:=least opsA.length (by omega)
   rw[hlN]at this;cases this
  obtain⟨hl,o,ho',hdep⟩:=mem_ready.1 hi
  have ho'':ops[i]? =some o:=by simpa using ho'
  have hi':i<ops.length:=(List.getElem?_eq_some_iff.1 ho'').1
  have hDi:listed.getD i false=false:=by
   simp only[Array.getD_eq_getD_getElem?,Array.getElem?_eq_getElem (by omega:i<listed.size),Option.getD_some]at hl⊢
   exact hl
  have hanc:∀m∈jI sps i,listed.getD m false=true:=by
   intro m hm
   have hb:=(hop ho'').2 m hm
   unfold behind at hb
   obtain⟨e,he,hb⟩:=List.any_eq_true.1 hb
   simp only[Bool.and_eq_true,Bool.or_eq_true]at hb
   have hd:=hdep e (by simpa using he) hb.1
   rcases hb.2 with h|h
   ·have:=Nat.eq_of_beq_eq_true h;subst this;exact hd
   ·exact I.closed e.on hd m (mem_iff.1 h)
  by_cases hiN:i=opsA.length
  ·subst hiN
   rw[hoN]at ho''
   injection ho'' with ho''
   subst ho''
   have hall:∀j,j<opsA.length→listed.getD j false=true:=fun j hj=>hanc j (aGi hal hj)
   have hob:=done listed f a w hall hlN I
   have stepN:∀a' w',wpListIn (Fe ro) 3 P ops.toArray Q [] a' w'→wpAnyIn (Fe ro) 3 P .any ops.toArray Q fuel (listed.setIfInBounds opsA.length true) a' w':=by
    intro a' w' hq
    refine allSet fuel _ a' w' (by simp[hsz]) (fun j hj=> ?_) (by simpa only[wpListIn]using hq)
    by_cases e:j=opsA.length
    ·subst e;simp[Array.getD_eq_getD_getElem?,hsz,hi']
    ·rw[getD_set_ne _ (Ne.symm e)];exact hall j (by omega)
   unfold wpOpIn
   rw[ho']
   simp only
   unfold wpListIn at hob
   split at hob
   ·rename_i hwn
    rw[if_pos hwn]
    exact Oper.wpIn_mono stepN hob
   ·rename_i hwn
    rw[if_neg hwn]
    exact⟨hob.1,stepN _ _ hob.2⟩
  have hiA:i<opsA.length:=by omega
  have mM:opsA[i]? =some o:=by rw[hA,List.getElem?_append_left hiA]at ho'';exact ho''
  obtain⟨s,hs⟩:∃s,sps[i]? =some s:=⟨_,List.getElem?_eq_getElem (by omega)⟩
  have hsa:jI sps i=s.anc:=by unfold jI;rw[hs]
  have hob:=ho.get mM
  rw[Nat.zero_add]at hob
  unfold Ob at hob
  rw[hs]at hob
  have hob:=hob f (rs (toks.filter (fun t=>gJ (fun j=>listed.getD j false) t&& !mem i t.by_)) f++M)
   (aHp.of fun j hj s' hs'=>I.k j s' hs' (hanc j (by rw[hsa];exact(hsp hs).1 j hj)))
   (rA.of fun x hx p hp=>I.ini p (List.mem_of_getElem? hp) fun j oj hj hD hd=>by
    have:=jH ((hsp hs).2.1 x hx p hp) hj
    simp only[Nat.zero_add,nX.2 hd,Bool.not_true,Bool.false_or,Bool.or_eq_true]at this
    rcases this with h|h
    ·have:=Nat.eq_of_beq_eq_true h;subst this;rw[hDi]at hD;cases hD
    ·have:=I.closed j hD i (mem_iff.1 h);exact absurd (hDi.symm.trans this) (by simp))
  have hsplit:=aAv (ops:=ops) (D:=fun j=>listed.getD j false) I.closed hDi hanc h2
  have hst:St β (rs (qZ toks i) f++(rs (toks.filter (fun t=>gJ (fun j=>listed.getD j false) t&& !mem i t.by_)) f++M)) w:=by
   have:=I.st.perm (List.Perm.append_right M (List.Perm.map (fun t:Tok=>t.r (cut t.sl f)) hsplit.1))
   simpa[rs,List.append_assoc]using this
  have hD':(fun j=>(listed.setIfInBounds i true).getD j false)=nI (fun j=>listed.getD j false) i:=by
   funext j
   unfold nI
   by_cases e:j=i
   ·subst e
    simp[Array.getD_eq_getD_getElem?,hsz,hi']
   ·have:Nat.beq j i=false:=by
     cases h:Nat.beq j i with
     |false=>rfl
     |true=>exact absurd (Nat.eq_of_beq_eq_true h) e
    rw[this,getD_set_ne _ (Ne.symm e)];rfl
  have step:∀a' w',sT n ds β o.dst (fun f=>s.k (cut s.sl f)) f (rs (rO toks i)) (rs (toks.filter (fun t=>gJ (fun j=>listed.getD j false) t&& !mem i t.by_)) f++M) a' w'→
    wpAnyIn (Fe ro) 3 P .any ops.toArray Q fuel (listed.setIfInBounds i true) a' w':=by
   rintro a' w' ⟨f',hff,hat',hk',hst'⟩
   refine ih _ f' a' w' (by simp[hsz]) ?_ ?_ (by rw[getD_set_ne _ (by omega)];exact hlN)
   ·have:=wE (p:=fun j=> !listed.getD j false) (q:=fun j=> !(listed.setIfInBounds i true).getD j false) (i:=i) (l:=List.range ops.length) ?_ (by simp only[hDi];rfl) ?_ (List.mem_range.2 hi')
    ·omega
    ·intro x hx
     by_cases e:x=i
     ·subst e;rw[hDi];rfl
     ·rw[getD_set_ne _ (Ne.symm e)]at hx;exact hx
    ·have:=congrFun hD' i
     simp only[nI,Nat.beq_refl,Bool.true_or]at this
     simp only[this];rfl
   ·rw[hD']
    refine⟨?_,?_,?_,hat',?_⟩
    ·intro j hj m hm
     simp only[nI,Bool.or_eq_true]at hj⊢
     rcases hj with hj|hj
     ·have:=Nat.eq_of_beq_eq_true hj;subst this;exact .inr (hanc m hm)
     ·exact .inr (I.closed j hj m hm)
    ·intro j s' hs' hj
     simp only[nI,Bool.or_eq_true]at hj
     by_cases e:j=i
     ·subst e;rw[hs]at hs';injection hs' with hs';subst hs';exact hk'
     ·have hj:listed.getD j false=true:=by
       rcases hj with hj|hj
       ·exact absurd (Nat.eq_of_beq_eq_true hj) e
       ·exact hj
      rw[aDh (f:=f') (g:=f) (fun x hx=>hff x fun hd=> ?_)];exact I.k j s' hs' hj
      rcases(hsp hs').2.2 x hx i o ho'' hd with h|h
      ·exact e h.symm
      ·have:=I.closed j hj i (by unfold jI;rw[hs'];exact h);exact absurd (hDi.symm.trans this) (by simp)
    ·intro p hp hno
     rw[hff p.1 fun hd=>hno i o ho'' (by simp[nI]) hd]
     exact I.ini p hp fun j oj hj hD=>hno j oj hj (by simp only[nI,hD,Bool.or_true])
    ·have h3:rs (toks.filter (fun t=>gJ (fun j=>listed.getD j false) t&& !mem i t.by_)) f'=rs (toks.filter (fun t=>gJ (fun j=>listed.getD j false) t&& !mem i t.by_)) f:=by
      unfold rs
      refine List.map_congr_left fun t ht'=> ?_
      obtain⟨hm,hact⟩:=List.mem_filter.1 ht'
      rw[aDh (f:=f') (g:=f) fun x hx=>hff x fun hd=> ?_]
      have hc:=List.all_eq_true.1 h2 t hm
      simp only[mA,Bool.and_eq_true,List.all_eq_true]at hc
      have:=jH (hc.2 x hx) ho''
      simp only[Nat.zero_add,nX.2 hd,Bool.not_true,Bool.false_or]at this
      simp only[Bool.and_eq_true,gJ]at hact
      cases hp:t.prod with
      |none=>rw[hp]at this;cases this
      |some q=>
       rw[hp]at this hact
       simp only[iN,Bool.or_eq_true]at this
       have hq:listed.getD q false=true:=hact.1.1
       rcases this with h|h
       ·have:=Nat.eq_of_beq_eq_true h;subst this;rw[hDi]at hq;cases hq
       ·have:=I.closed q hq i (mem_iff.1 h);exact absurd (hDi.symm.trans this) (by simp)
     have:=hst'.perm (L':=rs (toks.filter (gJ (nI (fun j=>listed.getD j false) i))) f'++M) ?_
     ·exact this
     ·have hp:=List.Perm.append_right M (List.Perm.map (fun t:Tok=>t.r (cut t.sl f')) hsplit.2)
      refine List.Perm.trans ?_ hp.symm
      rw[←h3]
      simp[rs,List.append_assoc]
  have hob:=hob a w I.hat hst
  unfold wpOpIn
  rw[ho']
  unfold wpListIn at hob
  simp only
  split at hob
  ·rename_i hwn
   rw[if_pos hwn]
   exact Oper.wpIn_mono step (aLz (K:=sT n ds β o.dst (fun f=>s.k (cut s.sl f)) f (rs (rO toks i)) (rs (toks.filter (fun t=>gJ (fun j=>listed.getD j false) t&& !mem i t.by_)) f++M)) (by
    have hfun:(wpListIn (Fe ro) 3 P ops.toArray (Qn (sT n ds β o.dst (fun f=>s.k (cut s.sl f)) f (rs (rO toks i)) (rs (toks.filter (fun t=>gJ (fun j=>listed.getD j false) t&& !mem i t.by_)) f++M))) [])=sT n ds β o.dst (fun f=>s.k (cut s.sl f)) f (rs (rO toks i)) (rs (toks.filter (fun t=>gJ (fun j=>listed.getD j false) t&& !mem i t.by_)) f++M):=by
     funext a w;simp only[wpListIn,Qn]
    rw[hfun]at hob
    exact hob))
  ·rename_i hwn
   rw[if_neg hwn]
   refine⟨hob.1,step _ _ ?_⟩
   have:=hob.2
   simp only[wpListIn,Qn]at this
   exact this
theorem aHx{id:Nat}{opsA:List Oper}{oN:Oper}{f:Fm}{L:List bU}(sps:List Sp)(toks:List Tok)(ini:List (Nat×Value))(fin:List Nat)(M:List bU)(hm:P.follows .mixedOrders=true)
 (hal:xX sps opsA.length=true)(hno:toks.all (fun t=>aLw t opsA.length)=true)
 (h1:qA (opsA++[oN]) sps ini=true)(h2:toks.all (mA (opsA++[oN]) sps)=true)(hf:fin.all (uO (opsA++[oN]) ini)=true)(hL:L=rs (nA toks) f++M)(hi:uC f ini)
 (ho:Obs P ro n ds β (opsA++[oN]) sps toks ini opsA 0)
 (hQ:∀f',KEv sps f' (sps.take opsA.length)→rA ini fin f'→cE P ro n ds β (opsA++[oN]).toArray Q [oN] f' (rs (nY toks) f'++M)):eE P ro n ds β (.region id (opsA++[oN]).toArray true) Q f L:=by
 intro a w ha hw
 have hD0:∀j,(Array.replicate (opsA++[oN]).length false).getD j false=false:=by
  intro j
  by_cases hj:j<(opsA++[oN]).length
  ·rw[Array.getD_eq_getD_getElem?,Array.getElem?_eq_getElem (by simpa using hj)];simp
  ·rw[Array.getD_eq_getD_getElem?,Array.getElem?_eq_none (by simpa using hj)];rfl
 refine wpIn_region_any hm (aRl rfl hal hno h1 h2 ho hf hQ _ _ f a _ (by simp) ?_ ?_ (hD0 _))
 ·have:=List.length_filter_le (fun j=> !(Array.replicate (opsA++[oN]).toArray.size false).getD j false) (List.range (opsA++[oN]).length)
  simpa using this
 ·refine⟨fun j hj=> ?_,fun j s _ hj=> ?_,fun p hp _=>hi.get p hp,ha,?_⟩
  ·have:=hD0 j;exact absurd (hj.symm.trans this) (by simp)
  ·have:=hD0 j;exact absurd (hj.symm.trans this) (by simp)
  ·have hT:toks.filter (gJ fun j=>(Array.replicate (opsA++[oN]).toArray.size false).getD j false)=nA toks:=by
    refine List.filter_congr fun t _=> ?_
    unfold gJ
    have hD1:∀j,(Array.replicate (opsA++[oN]).toArray.size false).getD j false=false:=hD0
    cases t.prod<;>cases t.cons<;>simp only[jN,iN,hD1]<;>rfl
   rw[hT,←hL]
   exact hw.drew
theorem kH{id:Nat}{ops:List Oper}{oN:Oper}{f:Fm}{L:List bU}(N:Nat)(hl:ops.length=N+1)(hoN:ops[N]? =some oN)(sps:List Sp)(toks:List Tok)(ini:List (Nat×Value))(fin:List Nat)(M:List bU)(hm:P.follows .mixedOrders=true)
 (hal:xX sps N=true)(hno:toks.all (fun t=>aLw t N)=true)
 (h1:qA ops sps ini=true)(h2:toks.all (mA ops sps)=true)(hf:fin.all (uO ops ini)=true)(hL:L=rs (nA toks) f++M)(hi:uC f ini)
 (ho:Obs P ro n ds β ops sps toks ini (ops.take N) 0)
 (hQ:∀f',KEv sps f' (sps.take N)→rA ini fin f'→cE P ro n ds β ops.toArray Q [oN] f' (rs (nY toks) f'++M)):eE P ro n ds β (.region id ops.toArray true) Q f L:=by
 have he:ops=ops.take N++[oN]:=by
  have h:=List.take_add_one (l:=ops) (i:=N)
  rw[hoN,←hl,List.take_length]at h
  simpa using h
 have hlen:(ops.take N).length=N:=by simp;omega
 generalize ops.take N=opsA at*
 subst he
 subst hlen
 exact aHx sps toks ini fin M hm hal hno h1 h2 hf hL hi ho hQ
theorem dO{d:Nat}{v:Value}{f:Fm}{L:List bU}{ops:Array Oper}{rest:List Oper}(h:f d=v)(k:cE P ro n ds β ops Q rest (dZ f d v) L):cE P ro n ds β ops Q rest f L:=by rw[←sC h];exact k
end
structure KComp where
 kind:UInt8
 v0:Int
 v1:Int
 v2:Int
 v3:Int
 deriving DecidableEq
structure KEnt where
 id:Int
 comps:List KComp
 deriving DecidableEq
structure KWorld where
 tick:Int
 ents:List KEnt
 deriving DecidableEq
def iT:Rp UInt8:=Rp.flat 1 (fun x=>[Bx x]) (fun _=>rfl)
theorem yJ{p:Prop}[Decidable p](h:¬p):Ending.returned (.bool false)= .returned (.bool (decide p)):=by rw[decide_eq_false h]
theorem iY{α:Type}{xs:List α}{k:Nat}{a:α}(h:xs[k]? =some a):xs.take (k+1)=xs.take k++[a]:=by
 rw[List.take_add_one,h];rfl
theorem take_prefix{α:Type}{xs:List α}{k:Nat}{a:α}(h:xs[k]? =some a):xs.take k++[a]<+:xs:=by
 rw[←iY h];exact List.take_prefix _ _
open Go.RowKit
abbrev Bs:=List UInt8
abbrev BX(bs:Bs):List Value:=bs.map fun c=>Bx c
def BsR:Rp Bs:=Rp.slice iT
abbrev str(bs:Bs):ByteArray:=⟨bs.toArray⟩
theorem aEf{p:Option Addr}{m c T:Nat}{vs:List Value}{h:bQ}(hr:row (.slice p m c) T 1 m vs h):vs.length=m∧m≤c∧c≤maxLen:=by
 obtain⟨hl,⟨e,h0⟩|⟨b,cap,cur,e,hb,h1,h2,_⟩⟩:=hr
 ·injection e with _ _ e3
  subst e3;subst h0;refine⟨by simpa using hl,by omega,by unfold maxLen;omega⟩
 ·injection e with _ _ e3
  subst e3;exact⟨by simpa using hl,h1,h2⟩
theorem zV{α:Type}{enc:α→Value}{p:Option Addr}{m c T:Nat}{xs:List α}{h:bQ}(hr:row (.slice p m c) T 1 m (xs.map enc) h):m=xs.length∧dH (Rp.flat 1 (fun x=>[enc x]) (fun _=>rfl)) h p xs:=by
 have hl:=(aEf hr).1
 rw[List.length_map]at hl
 refine⟨hl.symm,fun j x hj=> ?_⟩
 have hlt:=(List.getElem?_eq_some_iff.1 hj).1
 obtain⟨b,cur,rfl,hb,_⟩:=nF hr (by omega)
 refine⟨rfl,[enc x],?_,rfl⟩
 show Cs h ((ba (some ⟨b,0,none⟩)).add (j*1)) _
 rw[Nat.mul_one]
 refine aEe hr ?_ (Nat.succ_pos _)
 rw[List.drop_eq_getElem_cons (by simpa using hlt)]
 have:=(List.getElem?_eq_some_iff.1 hj).2
 simp[this]
theorem aXz{p:Option Addr}{m c T:Nat}{bs:Bs}{h:bQ}(hr:row (.slice p m c) T 1 m (BX bs) h):dH iT h p bs:=(zV (enc:=fun x:UInt8=>Bx x) hr).2
theorem aTm{p:Option Addr}{m c T:Nat}{bs:Bs}{h:bQ}(hr:row (.slice p m c) T 1 m (BX bs) h):Sl iT h (.slice p m c) bs:=by
 have h1:=(zV (enc:=fun x:UInt8=>Bx x) hr).1
 have h2:=aEf hr
 exact⟨p,c,by rw[h1],by omega,by have:=h2.2.2;unfold maxLen at this;omega,aXz hr⟩
theorem wW{α:Type}{enc:α→Value}{h:bQ}{a:Option Addr}{xs:List α}(he:dH (Rp.flat 1 (fun x=>[enc x]) (fun _=>rfl)) h a xs):Cs h (ba a) (xs.map enc):=by
 intro j v hj
 rw[List.getElem?_map]at hj
 cases hx:xs[j]? with
 |none=>rw[hx]at hj;cases hj
 |some x=>
  rw[hx]at hj
  injection hj with hj
  obtain⟨_,cs,hc,hr⟩:=he j x hx
  have hr:cs=[enc x]:=hr
  subst hr
  have hc:Cs h ((ba a).add (j*1)) [enc x]:=hc
  rw[Nat.mul_one]at hc
  have:=hc 0 (enc x) rfl
  rw[Addr.add_zero']at this
  rw[←hj];exact this
theorem aQm{h:bQ}{a:Option Addr}{xs:Bs}(he:dH iT h a xs):Cs h (ba a) (BX xs):=wW (enc:=fun x:UInt8=>Bx x) he
theorem tL{α:Type}{R:Rp α}{h:bQ}{a:Option Addr}{xs:List α}(he:dH R h a xs)(hx:0<xs.length):a=some (ba a):=(he 0 _ (List.getElem?_eq_getElem hx)).1
theorem zJ{bs:Bs}{j:Nat}{b:UInt8}(hj:j<bs.length):rP (BX bs) (j*1) [Bx b]=BX (bs.set j b):=by
 unfold rP BX
 rw[Nat.mul_one,List.map_set]
 rw[List.set_eq_take_append_cons_drop,if_pos (by simpa using hj)]
 simp
theorem aCc{p:Option Addr}{m c T h:Nat}{bs:Bs}{a:bQ}(hr:row (.slice p m c) T 1 m (BX bs) a)(hh:h≤m):row (.slice p h c) T 1 (bs.take h).length (BX (bs.take h)) a:=by
 have hlen:=(zV (enc:=fun x:UInt8=>Bx x) hr).1
 have e:(bs.take h).length=h:=by simp;omega
 rw[e]
 obtain⟨hl,⟨e1,h0⟩|⟨b,cap,cur,e1,hb,h1,h2,h3,h4⟩⟩:=hr
 ·have:h=0:=by omega
  subst this
  injection e1 with e1 e2 e3
  subst e1;subst e3
  exact⟨by simp,.inl ⟨rfl,rfl⟩⟩
 ·injection e1 with e1 e2 e3
  subst e1;subst e3
  refine⟨by simp;omega,.inr ⟨b,c,cur,rfl,hb,by omega,h2,h3,?_⟩⟩
  have e5:cur.toList.take (h*1)=(cur.toList.take (m*1)).take (h*1):=by rw[List.take_take,Nat.min_eq_left (by omega)]
  rw[e5,h4];simp[List.map_take]
def inn(us:List Value)(xs:List Bs):bU:=fun h=>us.length=xs.length∧∀(i:Nat) x u,xs[i]? =some x→us[i]? =some u→Sl iT h u x
theorem inn.mono(us:List Value)(xs:List Bs):rH (inn us xs):=fun _ _ hs ⟨h1,h2⟩=>⟨h1,fun i x u hx hu=>Sl.mono iT u x _ _ hs (h2 i x u hx hu)⟩
theorem aWn(h:bQ):inn [] [] h:=⟨rfl,fun i x u hx _=>by simp at hx⟩
theorem aRj{us:List Value}{xs:List Bs}{u:Value}{x:Bs}{h:bQ}(hi:inn us xs h)(hu:Sl iT h u x):inn (us++[u]) (xs++[x]) h:=by
 refine⟨by simp[hi.1],fun i y v hy hv=> ?_⟩
 by_cases hlt:i<xs.length
 ·rw[List.getElem?_append_left hlt]at hy
  rw[List.getElem?_append_left (by rw[hi.1];exact hlt)]at hv
  exact hi.2 i y v hy hv
 ·have h1:=(List.getElem?_eq_some_iff.1 hy).1
  have:i=xs.length:=by simp at h1;omega
  subst this
  rw[List.getElem?_append_right (Nat.le_refl _)]at hy
  rw[←hi.1,List.getElem?_append_right (Nat.le_refl _)]at hv
  simp at hy hv
  subst hy;subst hv;exact hu
def shp(us:List Value):bU:=fun h=>∀u∈us,u= .slice none 0 0∨∃g m c cur,u= .slice (some ⟨g,0,none⟩) m c∧h g=some (.cells cur 5 (0,0))∧m≤c∧c≤maxLen∧cur.size=c
theorem shp.mono(us:List Value):rH (shp us):=fun _ _ hs h u hu=>(h u hu).imp id fun⟨g,m,c,cur,e,hg,r⟩=>⟨g,m,c,cur,e,hs _ _ hg,r⟩
theorem aXy{v:Value}{m:Nat}{vs:List Value}{h:bQ}(hr:row v 5 1 m vs h):shp [v] h:=fun u hu=>by
 simp only[List.mem_singleton]at hu
 subst hu
 obtain⟨_,⟨e,_⟩|⟨g,cap,cur,e,hg,h1,h2,h3,_⟩⟩:=hr
 ·exact .inl e
 ·exact .inr ⟨g,m,cap,cur,e,hg,h1,h2,by omega⟩
def ins(us:List Value)(xs:List Bs):bU:=fun h=>inn us xs h∧shp us h
theorem ins.mono(us:List Value)(xs:List Bs):rH (ins us xs):=fun _ _ hs ⟨h1,h2⟩=>⟨inn.mono _ _ _ _ hs h1,shp.mono _ _ _ hs h2⟩
theorem aWo(h:bQ):ins [] [] h:=⟨aWn h,fun _ hu=>by cases hu⟩
theorem aRk{us:List Value}{xs:List Bs}{u:Value}{x:Bs}{h:bQ}(hi:ins us xs h)(hu:Sl iT h u x)(hs:shp [u] h):ins (us++[u]) (xs++[x]) h:=
 ⟨aRj hi.1 hu,fun v hv=>by
  rcases List.mem_append.1 hv with h1|h1
  ·exact hi.2 v h1
  ·exact hs v h1⟩
def gQ(T:Nat)(p:Option Addr)(c:Nat)(xs:List Bs):bU:=fun h=>∃us,jE [row (.slice p xs.length c) T 1 xs.length us,ins us xs] h
theorem aXt{T:Nat}{p:Option Addr}{c:Nat}{xs:List Bs}{h:bQ}(hr:gQ T p c xs h):Sl BsR h (.slice p xs.length c) xs:=by
 obtain⟨us,a,b,_,ha,hb,hr,a',b',_,ha',_,hi,_⟩:=hr
 have hl:=aEf hr
 have hi:inn us xs h:=inn.mono _ _ _ _ (ha'.trans hb) hi.1
 refine⟨p,c,rfl,hl.2.1,by have:=hl.2.2;unfold maxLen at this;omega,fun j x hj=> ?_⟩
 have hlt:=(List.getElem?_eq_some_iff.1 hj).1
 obtain⟨q,cur,rfl,hq,_⟩:=nF hr (by omega)
 obtain⟨u,hu⟩:∃u,us[j]? =some u:=⟨_,List.getElem?_eq_getElem (by rw[hi.1];exact hlt)⟩
 refine⟨rfl,[u],Cs.mono _ _ _ _ ha (?_:Cs a _ _),u,rfl,hi.2 j x u hj hu⟩
 show Cs a ((ba (some ⟨q,0,none⟩)).add (j*1)) _
 rw[Nat.mul_one]
 refine aEe hr ?_ (Nat.succ_pos _)
 rw[List.drop_eq_getElem_cons (by omega)]
 have:=(List.getElem?_eq_some_iff.1 hu).2
 simp[this]
theorem zU(T:Nat)(h:bQ):gQ T none 0 [] h:=
 ⟨[],fun _=>none,h,fun _=> .inl rfl,fun _ _ h=>(by cases h),jF.refl _,eA _ _ _,fun _=>none,h,fun _=> .inl rfl,fun _ _ h=>(by cases h),jF.refl _,aWo _,trivial⟩
theorem Sl.parts{α:Type}{R:Rp α}{h:bQ}{p:Option Addr}{n c:Nat}{xs:List α}(hs:Sl R h (.slice p n c) xs):n=xs.length∧xs.length≤c∧c≤9223372036854775807∧dH R h p xs:=by
 obtain⟨a,c',e,h1,h2,h3⟩:=hs.get
 injection e with e1 e2 e3
 subst e1;subst e2;subst e3
 exact⟨rfl,h1,h2,h3⟩
section
variable {P:Program}{ro:Option Nat}{n:Nat}{ds:List Deferred}{β:Base}{Q:Exit→Act→World→Prop}{f:Fm}{L:List bU}{ops:Array Oper}{rest:List Oper}
variable {d:Option Tmp}{ty:TypeId}{ps:String}{af:Array Edge}{g:Option (Nat×Bool)}
theorem jE.head{r:bU}{rs:List bU}{h:bQ}(hL:jE (r::rs) h):∃a,jF a h∧r a:=let⟨a,_,_,ha,_,hr,_⟩:=hL;⟨a,ha,hr⟩
end
theorem aIp{α:Type _}(L:List α):L.Perm ((List.range L.length).filterMap (L[·]?)):=by
 have:(List.range L.length).filterMap (L[·]?)=L:=by
  induction L with
  |nil=>rfl
  |cons a l ih=>
   rw[List.length_cons,List.range_succ_eq_map,List.filterMap_cons,List.filterMap_map]
   simp only[List.getElem?_cons_zero]
   congr 1
 rw[this]
theorem aW{α:Type _}{L L':List α}(ix:List Nat)(n:Nat)(hn:L.length=n)(h:(List.range n).isPerm ix=true)(e:ix.filterMap (L[·]?)=L'):L.Perm L':=by
 subst e;subst hn
 exact(aIp L).trans ((List.isPerm_iff.1 h).filterMap _)
structure Fl(α:Type) where
 n:Nat
 enc:α→List Value
 len:∀x,(enc x).length=n
 one:∀x,(enc x).all (·.oneCell')=true
 pos:0<n
abbrev Fl.R{α:Type}(F:Fl α):Rp α:=Rp.flat F.n F.enc F.len
abbrev aK{α:Type}(F:Fl α)(T:Nat)(p:Option Addr)(c:Nat)(xs:List α):bU:=row (.slice p xs.length c) T F.n xs.length (xs.flatMap F.enc)
section
variable {α:Type}{F:Fl α}
theorem aIc(xs:List α):(xs.flatMap F.enc).length=xs.length*F.n:=by
 induction xs with
 |nil=>simp
 |cons x xs ih=>rw[List.flatMap_cons,List.length_append,ih,List.length_cons,F.len,Nat.add_mul];omega
theorem bBu(xs:List α):(xs.flatMap F.enc).all (·.oneCell')=true:=by
 rw[List.all_eq_true]
 intro v hv
 obtain⟨x,_,hx⟩:=List.mem_flatMap.1 hv
 exact List.all_eq_true.1 (F.one x) v hx
theorem aKg(xs:List α)(k:Nat):(xs.flatMap F.enc).drop (k*F.n)=(xs.drop k).flatMap F.enc:=by
 induction k generalizing xs with
 |zero=>simp
 |succ k ih=>
  cases xs with
  |nil=>simp
  |cons x xs=>
   rw[List.flatMap_cons,Nat.add_mul,Nat.one_mul,Nat.add_comm,←List.drop_drop,List.drop_left' (F.len x),ih];rfl
theorem aWf(xs:List α)(k:Nat):(xs.flatMap F.enc).take (k*F.n)=(xs.take k).flatMap F.enc:=by
 induction k generalizing xs with
 |zero=>simp
 |succ k ih=>
  cases xs with
  |nil=>simp
  |cons x xs=>
   rw[List.flatMap_cons,List.take_succ_cons,List.flatMap_cons,List.take_append,F.len,←ih,List.take_of_length_le (by rw[F.len];rw[Nat.add_mul];omega)]
   congr 2
   rw[Nat.add_mul];omega
theorem aGb{xs:List α}{k:Nat}{x:α}(hx:xs[k]? =some x):((xs.flatMap F.enc).drop (k*F.n)).take (F.enc x).length=F.enc x:=by
 obtain⟨h,e⟩:=List.getElem?_eq_some_iff.1 hx
 rw[aKg,List.drop_eq_getElem_cons h,e,List.flatMap_cons,List.take_left]
theorem bBv{xs:List α}{k:Nat}(h:k<xs.length)(x:α):rP (xs.flatMap F.enc) (k*F.n) (F.enc x)=(xs.set k x).flatMap F.enc:=by
 have e:xs.set k x=xs.take k++x::xs.drop (k+1):=List.set_eq_take_append_cons_drop .. |>.trans (if_pos h)
 rw[e,List.flatMap_append,List.flatMap_cons]
 unfold rP
 rw[aWf,F.len,show k*F.n+F.n=(k+1)*F.n by rw[Nat.add_mul];omega,aKg,List.append_assoc]
theorem aQn{h:bQ}{a:Option Addr}{xs:List α}(he:dH F.R h a xs):Cs h (ba a) (xs.flatMap F.enc):=by
 intro j v hj
 have hjl:=(List.getElem?_eq_some_iff.1 hj).1
 rw[aIc]at hjl
 have hn:=F.pos
 have hq:j/F.n<xs.length:=Nat.div_lt_of_lt_mul (by rw[Nat.mul_comm];exact hjl)
 obtain⟨ha,cs,hc,hr⟩:=he (j/F.n) _ (List.getElem?_eq_getElem hq)
 have hr:cs=F.enc xs[j/F.n]:=hr
 subst hr
 have hjm:j/F.n*F.n+j%F.n=j:=by rw[Nat.mul_comm];exact Nat.div_add_mod j F.n
 have key:(F.enc xs[j/F.n])[j%F.n]? =some v:=by
  rw[←aGb (F:=F) (List.getElem?_eq_getElem hq),List.getElem?_take_of_lt (by rw[F.len];exact Nat.mod_lt _ hn),List.getElem?_drop,hjm];exact hj
 have h2:=hc (j%F.n) v key
 rw[Addr.add_add',show j/F.n*F.R.n+j%F.n=j from hjm]at h2
 exact h2
theorem jC{T:Nat}{p:Option Addr}{c:Nat}{xs:List α}{a:bQ}(h:aK F T p c xs a):Sl F.R a (.slice p xs.length c) xs:=by
 rcases Nat.eq_zero_or_pos xs.length with h0|h0
 ·have hx:xs=[]:=List.eq_nil_of_length_eq_zero h0
  subst hx
  obtain⟨_,⟨e,_⟩|⟨b,cap,cur,e,hb,h1,h2,h3,h4⟩⟩:=h
  ·injection e with e1 e2 e3
   exact⟨p,c,rfl,by omega,by omega,fun j x hj=>by simp at hj⟩
  ·injection e with e1 e2 e3
   subst e3
   exact⟨p,c,rfl,h1,by unfold maxLen at h2;exact h2,fun j x hj=>by simp at hj⟩
 ·have h':=h
  obtain⟨b,cur,rfl,hb,h1,h2,h3,h4,h5⟩:=nF h h0
  refine⟨_,c,rfl,h1,by unfold maxLen at h2;exact h2,fun j x hj=>⟨rfl,F.enc x,?_,rfl⟩⟩
  exact aEe h' (aGb hj) (by rw[F.len];exact F.pos)
end
section
variable {P:Program}{ro:Option Nat}{n:Nat}{ds:List Deferred}{β:Base}{Q:Exit→Act→World→Prop}{f:Fm}{L:List bU}{ops:Array Oper}{rest:List Oper}
variable {d:Option Tmp}{ty:TypeId}{ps:String}{af:Array Edge}{g:Option (Nat×Bool)}
variable {α:Type}{F:Fl α}
theorem aGf{T c:Nat}{p:Option Addr}{xs:List α}(i:Nat)(hi:L[i]? =some (aK F T p c xs)):bH β L (fun h=>Sl F.R h (.slice p xs.length c) xs):=bH.of_res i hi (Sl.mono _ _ _) fun _ h=>jC h
theorem lF{T c k:Nat}{p:Option Addr}{xs:List α}{x:α}(i:Nat)(hi:L[i]? =some (aK F T p c xs))(hx:xs[k]? =some x):bH β L (fun h=>Cs h ((ba p).add (k*F.n)) (F.enc x)):=
 bEt i hi (aGb hx) (by rw[F.len];exact F.pos)
theorem aRn{T c k o:Nat}{p:Option Addr}{xs:List α}{x:α}{us:List Value}(i:Nat)(hi:L[i]? =some (aK F T p c xs))(hx:xs[k]? =some x)(hu:((F.enc x).drop o).take us.length=us):bH β L (fun h=>Cs h ((ba p).add (k*F.n+o)) us):=
 bH.imp (lF i hi hx) fun h hc=>by have:=Cs.sub o hc hu;rwa [Addr.add_add']at this
theorem mP{x y:Operand}{t k c T:Nat}{agg:Bool}{p:Option Addr}{xs:List α}{z:α}{v:Value}(i:Nat)(ht:tyB P t agg F.n=true)(hx:ev f x= .pointer (some ((ba p).add (k*F.n))))(hy:ev f y=v)(hv:v.cells.toList=F.enc z)
 (hi:L[i]? =some (aK F T p c xs))(hk:k<xs.length):MU P β L f ⟨d,.store t x y,ty,ps,af,g⟩ (L.set i (aK F T p c (xs.set k z))):=by
 have hn:v.cells.size=F.n:=by rw[←Array.length_toList,hv,F.len]
 have h:=qN (P:=P) (β:=β) (d:=d) (ty:=ty) (ps:=ps) (af:=af) (g:=g) (o:=k*F.n) i ht hx hy hi hn (by rw[hv];exact F.one z) (by have:=Nat.mul_le_mul_right F.n (show k+1≤xs.length from hk);rw[Nat.add_mul]at this;omega) (by omega)
 rw[hv,bBv hk]at h
 have e:aK F T p c (xs.set k z)=row (.slice p xs.length c) T F.n xs.length ((xs.set k z).flatMap F.enc):=by show row (.slice p (xs.set k z).length c) T F.n (xs.set k z).length _=_;rw[List.length_set]
 rw[e];exact h
theorem aIk{x y:Operand}{t e bytes k c c0:Nat}{p:Option Addr}{xs ys:List α}{ao:Option Addr}(i:Nat)(hsl:lY P t e F.n=true)(hel:vR P e F.n bytes=true)(hx:ev f x= .slice p xs.length c0)(hi:L[i]? =some (aK F e p c0 xs))
 (hy:ev f y= .slice ao k c)(hl:ys.length=k)(hk:bH β L (fun h=>dH F.R h ao ys))(hby:(xs.length+k)*bytes≤140737488355328)(h63:xs.length+k≤140737488355328):
  MV P β L f ⟨d,.call ⟨.builtin .append,#[x,y],#[t,t]⟩,ty,ps,af,g⟩ (fun v' L'=>∃p c,v'= .slice p (xs++ys).length c∧L'=L.set i (aK F e p c (xs++ys))):=fun w hw=>by
 have hkk:=hw.knows hk
 have hcs:bH β L (fun h=>Cs h (ba ao) (ys.flatMap F.enc)):=fun h hb hr=>aQn (hk h hb hr)
 have hsome:0<k→ao=some (ba ao):=fun h0=>by
  cases ys with
  |nil=>simp at hl;omega
  |cons a l=>exact(hkk 0 a rfl).1
 obtain⟨v',w',L',g1,g2,p',c',rfl,rfl⟩:=tN (P:=P) (ty:=ty) (ps:=ps) (af:=af) (g:=g) (d:=d) i hsl hel hx hi hy (by rw[aIc,hl]) hcs (bBu ys) hsome (by unfold maxLen;omega) hby w hw
 have e1:(xs++ys).length=xs.length+k:=by simp[hl]
 refine⟨_,w',_,g1,g2,p',c',by rw[e1],?_⟩
 show _=L.set i (row (.slice p' (xs++ys).length c') e F.n (xs++ys).length ((xs++ys).flatMap F.enc))
 rw[e1,List.flatMap_append]
theorem eL{x y:Operand}{t e:Nat}{j m cap T:Nat}{p:Option Addr}{xs:List α}(i:Nat)(hx:ev f x= .slice p m cap)(hm:m=xs.length)(hy:ev f y= .int .i64 (j:Int))(ht:lY P t e F.n=true)(hj:j<m)
 (hi:L[i]? =some (aK F T p cap xs)):EV P β L f ⟨d,.indexAddr t x y,ty,ps,af,g⟩ (.pointer (some ((ba p).add (j*F.n)))):=qG i hx hy ht hj (by omega) hi
theorem jK{T c m:Nat}{p:Option Addr}{xs:List α}(i:Nat)(hi:L[i]? =some (aK F T p c xs))(hm:m=xs.length):bH β L (fun h=>Sl F.R h (.slice p m c) xs):=by subst hm;exact aGf i hi
theorem gX{b T:Nat}{fr:Nat×Nat}{z:α}{cs:Array Value}(i:Nat)(hi:L[i]? =some (pt b (.cells cs T fr)))(hz:cs.toList=F.enc z):bH β L (fun h=>dH F.R h (some ⟨b,0,none⟩) [z]):=
 bH.of_res i hi (dH.mono _ _ _) fun a h j x hx=>by
  cases j with
  |zero=>
   have e:z=x:=by simpa using hx
   subst e
   refine⟨rfl,F.enc z,?_,rfl⟩
   rw[Nat.zero_mul]
   have e0:(ba (some ⟨b,0,none⟩)).add 0=⟨b,0,none⟩:=rfl
   rw[e0]
   exact Cs.of_pt h (by rw[List.drop_zero,hz,List.take_length])
  |succ j=>simp at hx
theorem xV{b T m:Nat}{fr:Nat×Nat}{xs:List α}{cs:Array Value}(i:Nat)(hi:L[i]? =some (pt b (.cells cs T fr)))(hz:cs.toList=xs.flatMap F.enc)(hm:m=xs.length)(hl:xs.length≤1048576):bH β L (fun h=>Sl F.R h (.slice (some ⟨b,0,none⟩) m m) xs):=by
 subst hm
 refine bH.of_res i hi (Sl.mono _ _ _) fun a h=>⟨_,_,rfl,Nat.le_refl _,by omega,fun j x hx=>⟨rfl,F.enc x,?_,rfl⟩⟩
 have e:(ba (some ⟨b,0,none⟩)).add (j*F.R.n)=⟨b,j*F.n,none⟩:=by
  show(⟨b,0,none⟩:Addr).add (j*F.n)=_
  unfold Addr.add;split<;>simp_all
 rw[e]
 exact Cs.of_pt h (by rw[hz];exact aGb hx)
end
section
variable {P:Program}{ro:Option Nat}{n:Nat}{ds:List Deferred}{β:Base}{Q:Exit→Act→World→Prop}{f:Fm}{L:List bU}
theorem gP{α:Type}{F:Fl α}{b T:Nat}{cs:Array Value}{xs:List α}(hx:cs.toList=xs.flatMap F.enc)(hl:xs.length≤1048576)(a:bQ)(h:pt b (.cells cs T) a):aK F T (some ⟨b,0,none⟩) xs.length xs a:=by
 have hs:cs.size=xs.length*F.n:=by rw[←Array.length_toList,hx,aIc]
 have:=aDz (m:=xs.length) (n:=F.n) (by unfold maxLen;omega) hs a h
 rwa [hx]at this
end
section
variable {P:Program}{ro:Option Nat}{n:Nat}{ds:List Deferred}{β:Base}{Q:Exit→Act→World→Prop}{f:Fm}{L:List bU}
variable {d:Option Tmp}{ty:TypeId}{ps:String}{af:Array Edge}{g:Option (Nat×Bool)}{α:Type}{F:Fl α}
theorem cF{x y:Operand}{t e bytes k c c0 m:Nat}{p:Option Addr}{xs ys:List α}{ao:Option Addr}(i:Nat)(hsl:lY P t e F.n=true)(hel:vR P e F.n bytes=true)(hx:ev f x= .slice p m c0)(hm:m=xs.length)(hi:L[i]? =some (aK F e p c0 xs))
 (hy:ev f y= .slice ao k c)(hl:ys.length=k)(hk:bH β L (fun h=>dH F.R h ao ys))(hby:(xs.length+k)*bytes≤140737488355328)(h63:xs.length+k≤140737488355328):
  MV P β L f ⟨d,.call ⟨.builtin .append,#[x,y],#[t,t]⟩,ty,ps,af,g⟩ (fun v' L'=>∃p c,v'= .slice p (xs++ys).length c∧L'=L.set i (aK F e p c (xs++ys))):=by
 subst hm;exact aIk i hsl hel hx hi hy hl hk hby h63
end
section
variable {P:Program}{ro:Option Nat}{n:Nat}{ds:List Deferred}{β:Base}{Q:Exit→Act→World→Prop}{f:Fm}{L:List bU}{ops:Array Oper}{rest:List Oper}
variable {d:Option Tmp}{ty:TypeId}{ps:String}{af:Array Edge}{g:Option (Nat×Bool)}
theorem bCp{o:Oper}(hd:o.dst=none)
 (hv:∀w,St β L w→∃v w' L',(execOp (ev f) o).run P w= .ok (.value v) w'∧St β L' w'∧cE P ro n ds β ops Q rest f L'):uD P ro n ds β o Q (wpListIn (Fe ro) 3 P ops Q rest) f L:=by
 intro a w ha hw
 obtain⟨v,w',L',hr,hw',k⟩:=hv w hw
 refine⟨fun _ _=>trivial,?_⟩
 rw[ha.eval,nH hr (by simp),hr,Oper.uponIn_value,hd]
 exact k _ w' ha hw'
theorem bEv{o:Oper}{Post:Value→List bU→Prop}(hg:o.guard=none)(hd:o.dst=none)(h:MV P β L f o Post)(k:∀v L',Post v L'→cE P ro n ds β ops Q rest f L'):cE P ro n ds β ops Q (o::rest) f L:=
 qM hg (bCp hd fun w hw=>let⟨v,w',L',hr,hw',hp⟩:=h w hw;⟨v,w',L',hr,hw',k v L' hp⟩)
end
structure MapK(P:Program)(κ ν:Type) where
 t:Nat
 kt:Nat
 et:Nat
 dec:DecidableEq κ
 enc:κ→Value
 encv:ν→Value
 zv:ν
 ht:P.underlying t=some (.map kt et)
 hz:(P.info? et).bind (·.zero)=some (encv zv)
 chk:∀e a w,(Instr.checkKey e 10000 kt (enc a)).run P w= .ok () w
 find:∀(k:κ) (ks:List κ) (es:List MapEntry) (w:World),es.map (·.key)=ks.map enc→∃r,(Instr.findKey kt (enc k) es).run P w= .ok r w∧
  (match r with|none=>k∉ks|some (j,v)=>ks[j]? =some k∧(es[j]?).map (·.val)=some v)
 bits:∀a,Instr.sameBits 10000 (enc a) (enc a)=true
section
variable {P:Program}{κ ν:Type}
theorem qL{kt:Nat}{d:TypeDesc}{enc:κ→Value}[DecidableEq κ](hd:P.underlying kt=some d)(hs:∀a b,Instr.sameNow d (enc a) (enc b)=some (decide (a=b)))
 (k:κ)(ks:List κ)(es:List MapEntry)(w:World)(h:es.map (·.key)=ks.map enc):∃r,(Instr.findKey kt (enc k) es).run P w= .ok r w∧
   (match r with|none=>k∉ks|some (j,v)=>ks[j]? =some k∧(es[j]?).map (·.val)=some v):=by
 have key:∀(ks:List κ) (es:List MapEntry) (i:Nat),es.map (·.key)=ks.map enc→∃r,Instr.findNow d (enc k) es i=some r∧
   (match r with|none=>k∉ks|some (j,v)=>i≤j∧ks[j-i]? =some k∧(es[j-i]?).map (·.val)=some v):=by
  intro ks
  induction ks with
  |nil=>
   intro es i h
   cases es with
   |nil=>exact⟨none,rfl,by simp⟩
   |cons e es=>simp at h
  |cons a ks ih=>
   intro es i h
   cases es with
   |nil=>simp at h
   |cons e es=>
    simp only[List.map_cons,List.cons.injEq]at h
    unfold Instr.findNow
    rw[h.1,hs]
    by_cases ek:k=a
    ·subst ek;exact⟨some (i,e.val),by simp,by simp⟩
    ·obtain⟨r',hr',hx⟩:=ih es (i+1) h.2
     refine⟨r',by simp[ek,hr'],?_⟩
     cases r' with
     |none=>simp only[List.mem_cons,not_or];exact⟨ek,hx⟩
     |some p=>
      obtain⟨g1,g2,g3⟩:=hx
      refine⟨by omega,?_,?_⟩
      ·rw[show p.1-i=(p.1-(i+1))+1 by omega,List.getElem?_cons_succ];exact g2
      ·rw[show p.1-i=(p.1-(i+1))+1 by omega,List.getElem?_cons_succ];exact g3
 obtain⟨r,hr,hx⟩:=key ks es 0 h
 refine⟨r,by simp[Instr.findKey,run_underlying hd,hr],?_⟩
 cases r with
 |none=>exact hx
 |some p=>exact⟨by simpa using hx.2.1,by simpa using hx.2.2⟩
variable (K:MapK P κ ν)
def MapK.look(ks:List (κ×ν))(k:κ):Option ν:=(ks.find? fun p=> @decide (p.1=k) (K.dec _ _)).map (·.2)
def MapK.put(ks:List (κ×ν))(k:κ)(v:ν):List (κ×ν):=if(K.look ks k).isSome then ks.map (fun p=> @ite _ (p.1=k) (K.dec _ _) (k,v) p)else ks++[(k,v)]
def MapK.del(ks:List (κ×ν))(k:κ):List (κ×ν):=ks.filter fun p=> !@decide (p.1=k) (K.dec _ _)
structure MapC(ks:List (κ×ν))(es:Array MapEntry)(clock:Nat):Prop where
 cells:es.toList.map (fun e=>(e.key,e.val))=ks.map fun p=>(K.enc p.1,K.encv p.2)
 keys:(ks.map (·.1)).Nodup
 births:(es.toList.map (·.born)).Nodup
 old:∀e∈es.toList,e.born<clock
def bB(b:Nat)(ks:List (κ×ν)):bU:=fun h=>∃es clock,h b=some (.map es clock)∧MapC K ks es clock
theorem bB.mono(b:Nat)(ks:List (κ×ν)):rH (bB K b ks):=fun _ _ hs ⟨es,c,h,k⟩=>⟨es,c,hs _ _ h,k⟩
variable {K}
theorem MapC.ks{ks:List (κ×ν)}{es:Array MapEntry}{c:Nat}(h:MapC K ks es c):es.toList.map (·.key)=(ks.map (·.1)).map K.enc:=by
 have:=congrArg (List.map (·.1)) h.cells
 simpa[List.map_map,Function.comp_def]using this
theorem MapC.at{ks:List (κ×ν)}{es:Array MapEntry}{c:Nat}(h:MapC K ks es c)(j:Nat):(es.toList[j]?).map (fun e=>(e.key,e.val))=(ks[j]?).map fun p=>(K.enc p.1,K.encv p.2):=by
 have:=congrArg (fun l=>l[j]?) h.cells
 simpa using this
theorem aDm{ks:List (κ×ν)}(hn:(ks.map (·.1)).Nodup){k:κ}{v:ν}{j:Nat}(h:ks[j]? =some (k,v)):K.look ks k=some v:=by
 unfold MapK.look
 obtain⟨hj,e⟩:=List.getElem?_eq_some_iff.1 h
 have hf:(ks.find? fun p=> @decide (p.1=k) (K.dec _ _))=some (k,v):=by
  rw[List.find?_eq_some_iff_getElem]
  refine⟨by simp,j,hj,e,fun i hi=> ?_⟩
  have:=List.nodup_iff_pairwise_ne.1 hn
  rw[List.pairwise_map,List.pairwise_iff_getElem]at this
  have h2:=this i j (by omega) hj hi
  rw[e]at h2
  simpa using h2
 rw[hf];rfl
theorem iM{ks:List (κ×ν)}{k:κ}:K.look ks k=none↔k∉ks.map (·.1):=by
 unfold MapK.look
 rw[Option.map_eq_none_iff,List.find?_eq_none]
 simp only[decide_eq_true_eq,List.mem_map,not_exists,not_and]
theorem kS{ks:List (κ×ν)}{k:κ}{v:ν}(h:K.look ks k=some v):(k,v)∈ks:=by
 unfold MapK.look at h
 rw[Option.map_eq_some_iff]at h
 obtain⟨p,hp,rfl⟩:=h
 have h1:=List.find?_some hp
 have h2:=List.mem_of_find?_eq_some hp
 simp only[decide_eq_true_eq]at h1
 subst h1;exact h2
end
open Go.ChangeMaps (setBlock)
section
variable {P:Program}{κ ν:Type}{K:MapK P κ ν}{ro:Option Nat}{n:Nat}{ds:List Deferred}{β:Base}{Q:Exit→Act→World→Prop}{f:Fm}{L:List bU}{ops:Array Oper}{rest:List Oper}
variable {d:Option Tmp}{ty:TypeId}{ps:String}{af:Array Edge}{g:Option (Nat×Bool)}
theorem aXe(b:Nat)(a:bQ)(h:pt b (.map #[] 0) a):bB K b [] a:=⟨#[],0,h,rfl,List.nodup_nil,List.nodup_nil,fun e he=>by simp at he⟩
theorem xY{t:Nat}:MV P β L f ⟨d,.makeMap t none,ty,ps,af,g⟩ (fun u L'=>∃b,u= .map (some b)∧L'=bB K b []::L):=fun w hw=>by
 refine⟨_,_,_,?_,(hw.new (.map #[] 0)).conseq fun a h=>aXe _ a h,_,rfl,rfl⟩
 simp[execOp,Instr.makeMap]
theorem aMd (K : MapK P κ ν) (w : World) : (zeroValue K.et).run P w = .ok (K.encv K.zv) w := by
  have hz := K.hz
  cases hi : P.info? K.et with
  | none => rw [hi] at hz; cases hz
  | some i => rw [hi] at hz; have hz' : i.zero = some (K.encv K.zv) := by simpa using hz
              simp [zeroValue, typeInfo, hi, hz']
theorem uP{ks:List (κ×ν)}{es:Array MapEntry}{c:Nat}(hc:MapC K ks es c)(k:κ)(w:World):∃r,(Instr.findKey K.kt (K.enc k) es.toList).run P w= .ok r w∧
  (match r with|none=>K.look ks k=none|some (j,v)=>∃u,K.look ks k=some u∧v=K.encv u∧ks[j]? =some (k,u)):=by
 obtain⟨r,hr,hx⟩:=K.find k (ks.map (·.1)) es.toList w hc.ks
 refine⟨r,hr,?_⟩
 cases r with
 |none=>exact iM.2 hx
 |some p=>
  obtain⟨j,v⟩:=p
  obtain⟨h1,h2⟩:=hx
  have h1:(ks.map (·.1))[j]? =some k:=h1
  have h2:(es.toList[j]?).map (·.val)=some v:=h2
  have ha:=hc.at j
  rw[List.getElem?_map]at h1
  cases hj:ks[j]? with
  |none=>rw[hj]at h1;cases h1
  |some q=>
   obtain⟨k',u⟩:=q
   rw[hj]at h1 ha
   simp only[Option.map_some,Option.some.injEq]at h1
   subst h1
   cases he:es.toList[j]? with
   |none=>rw[he]at h2;cases h2
   |some e=>
    rw[he]at h2 ha
    simp only[Option.map_some,Option.some.injEq,Prod.mk.injEq]at h2 ha
    exact⟨u,aDm hc.keys hj,by rw[←h2,ha.2],hj⟩
theorem xS{x y:Operand}{t b:Nat}{ks:List (κ×ν)}{k:κ}(ht:t=K.t)(hx:ev f x= .map (some b))(hy:ev f y=K.enc k)(hm:bH β L (bB K b ks)):
  EV P β L f ⟨d,.lookup t x y true,ty,ps,af,g⟩ (.tuple #[K.encv ((K.look ks k).getD K.zv),.bool (K.look ks k).isSome]):=fun w hw=>by
 obtain⟨es,c,hb,hc⟩:=hw.knows hm
 have hb:w.heap[b]? =some (.map es c):=hb
 obtain⟨r,hr,hx'⟩:=uP hc k w
 have hg:(getObj b).run P w= .ok (.map es c) w:=nG hb
 subst ht
 simp only[execOp,Instr.lookup,Sem.run_bind,run_underlying K.ht,Result.andThen_ok,hx,hy,hg,Sem.run_pure,K.chk,hr]
 cases r with
 |none=>
  have hl:K.look ks k=none:=hx'
  simp[aMd,hl]
 |some p=>
  obtain⟨j,v⟩:=p
  obtain⟨u,hl,hv,_⟩:=hx'
  simp[hl,hv]
theorem yS{x:Operand}{t b:Nat}{ks:List (κ×ν)}(ht:t=K.t)(hx:ev f x= .map (some b))(hm:bH β L (bB K b ks)):
  EV P β L f ⟨d,.call ⟨.builtin .len,#[x],#[t]⟩,ty,ps,af,g⟩ (Nx ks.length):=fun w hw=>by
 obtain⟨es,c,hb,hc⟩:=hw.knows hm
 have hb:w.heap[b]? =some (.map es c):=hb
 have hg:(getObj b).run P w= .ok (.map es c) w:=nG hb
 have hl:es.size=ks.length:=by have:=congrArg List.length hc.cells;simpa using this
 subst ht
 simp[execOp,resolve,invoke,builtin,hx,Builtin.len_,run_underlying K.ht,hg,hl]
 rfl
theorem aAs(w:World){t k e:Nat}(b:Option Nat)(h:P.underlying t=some (.map k e)):(Op.equal t (.map b) (.map none)).run P w= .ok b.isNone w:=by
 unfold Op.equal
 show(Op.equalIn (9999+1) t (.map b) (.map none)).run P w=_
 unfold Op.equalIn
 cases b<;>simp[run_underlying h]
theorem tK{t t' k e:Nat}{x y:Operand}{b:Option Nat}(hx:ev f x= .map b)(hy:ev f y= .map none)(h:P.underlying t=some (.map k e)):EV P β L f ⟨d,.binOp .eql t x y t',ty,ps,af,g⟩ (.bool b.isNone):=fun w _=>by
 have hb:(binOp .eql t (.map b) (.map none)).run P w= .ok (.bool b.isNone) w:=by
  simp only[binOp]
  simp[aAs w b h]
 simp[execOp,hx,hy,eqGuard,hb]
theorem St.mp_open{w:World}{b:Nat}{ks:List (κ×ν)}(i:Nat)(hw:St β L w)(hi:L[i]? =some (bB K b ks)):∃es c,w.heap[b]? =some (.map es c)∧MapC K ks es c∧St β (L.set i (Sl.pt b (.map es c))) w:=by
 obtain⟨es,c,hb,hc⟩:=hw.knows (bH.of_res i hi (bB.mono K b ks) fun _ h=>h)
 have hb:w.heap[b]? =some (.map es c):=hb
 refine⟨es,c,hb,hc,St.back i hi<| ?_⟩
 have h:=hw.front i hi
 refine h.turn rfl rfl rfl fun a ha hr=> ?_
 obtain⟨es',c',hb',hc'⟩:=hr
 have e:=ha _ _ hb'
 have e':w.heap[b]? =some (.map es' c'):=e
 rw[hb]at e'
 injection e' with e';injection e' with e1 e2;subst e1;subst e2
 exact⟨a,hb',ha,fun _ h1 h2=>⟨h2,rfl⟩⟩
theorem St.mp_put{w:World}{b:Nat}{ks ks':List (κ×ν)}{es es':Array MapEntry}{c c':Nat}(i:Nat)(hi:L[i]? =some (bB K b ks))(hb:w.heap[b]? =some (.map es c))(hw':St β (L.set i (Sl.pt b (.map es c))) w)(hc':MapC K ks' es' c'):
  St β (L.set i (bB K b ks')) {w with heap:=w.heap.setIfInBounds b (.map es' c')}:=by
 have hli:i<L.length:=(List.getElem?_eq_some_iff.1 hi).1
 have hb':b<w.heap.size:=(Array.getElem?_eq_some_iff.1 hb).1
 have h:=(hw'.front i (r:=Sl.pt b (.map es c)) (by simp[hli])).put (w':={w with heap:=w.heap.setIfInBounds b (.map es' c')}) (o':= .map es' c') rfl rfl rfl (by simp[hb']) fun k' hk' _=>by
  simp[Ne.symm hk']
 have h2:=h.conseq (r':=bB K b ks') fun a ha=>⟨es',c',ha,hc'⟩
 have h3:=St.back (L:=L.set i (Sl.pt b (.map es c))) i (r:=Sl.pt b (.map es c)) (by simp[hli]) h2
 simpa using h3
theorem MapC.push{ks:List (κ×ν)}{es:Array MapEntry}{c:Nat}(h:MapC K ks es c){k:κ}{v:ν}(hl:K.look ks k=none):MapC K (K.put ks k v) (es.push {key:=K.enc k,val:=K.encv v,born:=c}) (c+1):=by
 have hp:K.put ks k v=ks++[(k,v)]:=by unfold MapK.put;rw[hl];rfl
 rw[hp]
 refine⟨by simp[h.cells],?_,?_,?_⟩
 ·rw[List.map_append,List.nodup_append]
  refine⟨h.keys,by simp,fun a ha b hb=> ?_⟩
  simp at hb
  rw[hb]
  rintro rfl
  exact iM.1 hl ha
 ·simp only[Array.toList_push,List.map_append,List.map_cons,List.map_nil]
  rw[List.nodup_append]
  refine⟨h.births,by simp,fun a ha b hb=> ?_⟩
  simp at hb
  rw[hb]
  obtain⟨e,he,rfl⟩:=List.mem_map.1 ha
  have:=h.old e he
  omega
 ·intro e he
  simp only[Array.toList_push,List.mem_append,List.mem_singleton]at he
  rcases he with he|rfl
  ·have:=h.old e he;omega
  ·show c<c+1;omega
theorem aKs{ks:List (κ×ν)}(hn:(ks.map (·.1)).Nodup){i j:Nat}{p q:κ×ν}(hi:ks[i]? =some p)(hj:ks[j]? =some q)(h:i≠j):p.1≠q.1:=by
 intro e
 obtain⟨h1,e1⟩:=List.getElem?_eq_some_iff.1 hi
 obtain⟨h2,e2⟩:=List.getElem?_eq_some_iff.1 hj
 have:=List.nodup_iff_pairwise_ne.1 hn
 rw[List.pairwise_map,List.pairwise_iff_getElem]at this
 rcases Nat.lt_or_gt_of_ne h with hlt|hlt
 ·have:=this i j h1 h2 hlt;rw[e1,e2]at this;exact this e
 ·have:=this j i h2 h1 hlt;rw[e1,e2]at this;exact this e.symm
theorem MapC.turn{ks:List (κ×ν)}{es:Array MapEntry}{c j:Nat}(h:MapC K ks es c){k:κ}{u v:ν}(hj:ks[j]? =some (k,u)):MapC K (K.put ks k v) (es.modify j fun e=>{e with key:=K.enc k,val:=K.encv v}) c:=by
 have hp:K.put ks k v=ks.map (fun p=> @ite _ (p.1=k) (K.dec _ _) (k,v) p):=by unfold MapK.put;rw[aDm h.keys hj];rfl
 have hkeys:(K.put ks k v).map (·.1)=ks.map (·.1):=by
  rw[hp,List.map_map]
  refine List.map_congr_left fun p _=> ?_
  simp only[Function.comp]
  split
  ·rename_i e;exact e.symm
  ·rfl
 have hes:(es.modify j fun e=>{e with key:=K.enc k,val:=K.encv v}).toList=es.toList.modify j fun e=>{e with key:=K.enc k,val:=K.encv v}:=by simp
 refine⟨?_,by rw[hkeys];exact h.keys,?_,?_⟩
 ·rw[hes,hp]
  apply List.ext_getElem?
  intro i
  have ha:=h.at i
  simp only[List.getElem?_map,List.getElem?_modify]
  cases hi:ks[i]? with
  |none=>
   rw[hi]at ha
   cases he:es.toList[i]? with
   |none=>simp
   |some e=>rw[he]at ha;cases ha
  |some p=>
   rw[hi]at ha
   cases he:es.toList[i]? with
   |none=>rw[he]at ha;cases ha
   |some e=>
    rw[he]at ha
    simp only[Option.map_some,Option.some.injEq,Prod.mk.injEq]at ha
    by_cases hij:j=i
    ·subst hij
     rw[hj]at hi
     injection hi with hi
     subst hi
     simp
    ·have hne:¬p.1=k:=aKs h.keys hi hj (fun q=>hij q.symm)
     simp[hij,hne,ha]
 ·rw[hes]
  have:(es.toList.modify j fun e=>{e with key:=K.enc k,val:=K.encv v}).map (·.born)=es.toList.map (·.born):=by
   apply List.ext_getElem?
   intro i
   simp only[List.getElem?_map,List.getElem?_modify]
   by_cases hij:j=i
   ·subst hij;cases es.toList[j]? <;>simp
   ·simp[hij]
  rw[this];exact h.births
 ·intro e he
  rw[hes]at he
  obtain⟨i,hi⟩:=List.getElem?_of_mem he
  rw[List.getElem?_modify]at hi
  cases he2:es.toList[i]? with
  |none=>rw[he2]at hi;simp at hi
  |some e2=>
   rw[he2]at hi
   have hb:=h.old e2 (List.mem_of_getElem? he2)
   by_cases hij:j=i
   ·subst hij;simp at hi;rw[←hi];exact hb
   ·simp[hij]at hi;rw[←hi];exact hb
theorem rM{x y z:Operand}{t b:Nat}{ks:List (κ×ν)}{k:κ}{v:ν}(i:Nat)(ht:t=K.t)(hx:ev f x= .map (some b))(hy:ev f y=K.enc k)(hv:ev f z=K.encv v)(hi:L[i]? =some (bB K b ks)):
  MU P β L f ⟨d,.mapUpdate t x y z,ty,ps,af,g⟩ (L.set i (bB K b (K.put ks k v))):=fun w hw=>by
 obtain⟨es,c,hb,hc,hw'⟩:=hw.mp_open i hi
 obtain⟨r,hr,hx'⟩:=uP hc k w
 have hg:(getObj b).run P w= .ok (.map es c) w:=nG hb
 subst ht
 simp only[execOp,Instr.mapUpdate,Sem.run_bind,run_underlying K.ht,Result.andThen_ok,hx,hy,hv,hg,K.chk,hr]
 cases r with
 |none=>
  have hl:K.look ks k=none:=hx'
  refine⟨_,?_,St.mp_put i hi hb hw' (hc.push (v:=v) hl)⟩
  simp[vJ _ hb]
 |some p=>
  obtain⟨j,u⟩:=p
  obtain⟨u',hl,hu,hj⟩:=hx'
  have hst:∀w,(Instr.keyThatStays (K.enc k) (K.enc k)).run P w= .ok (K.enc k) w:=fun w=>by
   unfold Instr.keyThatStays
   rw[if_pos (K.bits k)];rfl
  have hej:((es[j]?).map (·.key)).getD (K.enc k)=K.enc k:=by
   have ha:=hc.at j
   rw[hj]at ha
   cases he:es[j]? with
   |none=>rfl
   |some e=>
    have he':es.toList[j]? =some e:=by simpa using he
    rw[he']at ha
    simp only[Option.map_some,Option.some.injEq,Prod.mk.injEq]at ha
    simp[ha.1]
  refine⟨_,?_,St.mp_put i hi hb hw' (hc.turn (v:=v) hj)⟩
  simp only[hej,Sem.run_bind,hst,Result.andThen_ok]
  simp[vJ _ hb]
theorem qJ:∀{ks:List (κ×ν)} {j:Nat} {k:κ} {u:ν},(ks.map (·.1)).Nodup→ks[j]? =some (k,u)→K.del ks k=ks.eraseIdx j
 |[],_,_,_,_,h=>by simp at h
 |p::ks,0,k,u,hn,h=>by
  injection h with h;subst h
  unfold MapK.del
  rw[List.filter_cons]
  simp only[decide_true,Bool.not_true,Bool.false_eq_true,if_false,List.eraseIdx_cons_zero]
  rw[List.filter_eq_self]
  intro q hq
  rw[List.map_cons,List.nodup_cons]at hn
  have:q.1≠k:=fun e=>hn.1 (List.mem_map.2 ⟨q,hq,e⟩)
  simp[this]
 |p::ks,j+1,k,u,hn,h=>by
  have hk:p.1≠k:=aKs hn (i:=0) (j:=j+1) rfl h (by omega)
  rw[List.map_cons,List.nodup_cons]at hn
  have ih:=qJ hn.2 (by simpa using h)
  unfold MapK.del at ih⊢
  rw[List.filter_cons,List.eraseIdx_cons_succ,←ih]
  simp[hk]
theorem MapC.erase{ks:List (κ×ν)}{es:Array MapEntry}{c j:Nat}(h:MapC K ks es c){k:κ}{u:ν}(hj:ks[j]? =some (k,u)):MapC K (K.del ks k) (es.eraseIdxIfInBounds j) c:=by
 have hl:es.toList.length=ks.length:=by have:=congrArg List.length h.cells;simpa using this
 have hes:(es.eraseIdxIfInBounds j).toList=es.toList.eraseIdx j:=by
  unfold Array.eraseIdxIfInBounds
  split
  ·simp
  ·rw[List.eraseIdx_of_length_le (by simp;omega)]
 have hm:∀{α β:Type} (f:α→β) (l:List α),(l.eraseIdx j).map f=(l.map f).eraseIdx j:=fun f l=>Go.ChangeMaps.map_eraseIdx f l j
 refine⟨?_,?_,?_,?_⟩
 ·rw[qJ h.keys hj,hes,hm,hm,h.cells]
 ·rw[qJ h.keys hj,hm];exact h.keys.sublist (List.eraseIdx_sublist _ _)
 ·rw[hes,hm];exact h.births.sublist (List.eraseIdx_sublist _ _)
 ·intro e he;rw[hes]at he;exact h.old e (List.mem_of_mem_eraseIdx he)
theorem oU{ks:List (κ×ν)}{k:κ}(h:K.look ks k=none):K.del ks k=ks:=by
 unfold MapK.del
 rw[List.filter_eq_self]
 intro p hp
 have:p.1≠k:=fun e=>iM.1 h (List.mem_map.2 ⟨p,hp,e⟩)
 simp[this]
theorem aRt{x y:Operand}{t t2 b:Nat}{ks:List (κ×ν)}{k:κ}(i:Nat)(ht:t=K.t)(hx:ev f x= .map (some b))(hy:ev f y=K.enc k)(hi:L[i]? =some (bB K b ks)):
  MV P β L f ⟨d,.call ⟨.builtin .delete,#[x,y],#[t,t2]⟩,ty,ps,af,g⟩ (fun v L'=>v= .tuple #[]∧L'=L.set i (bB K b (K.del ks k))):=fun w hw=>by
 obtain⟨es,c,hb,hc,hw'⟩:=hw.mp_open i hi
 obtain⟨r,hr,hx'⟩:=uP hc k w
 have hg:(getObj b).run P w= .ok (.map es c) w:=nG hb
 subst ht
 simp only[execOp,resolve,invoke,builtin,Sem.run_bind,Sem.run_pure,Result.andThen_ok,List.map_toArray,List.map_cons,List.map_nil,hx,hy,Builtin.delete_,List.getElem?_toArray,List.getElem?_cons_zero,List.getElem?_cons_succ,run_underlying K.ht,hg,K.chk,hr]
 cases r with
 |none=>
  have hl:K.look ks k=none:=hx'
  refine⟨.tuple #[],_,_,?_,St.mp_put i hi hb hw' (ks':=K.del ks k) (by rw[oU hl];exact hc),rfl,rfl⟩
  simp[vJ _ hb]
 |some p=>
  obtain⟨j,u⟩:=p
  obtain⟨u',hl,hu,hj⟩:=hx'
  refine⟨.tuple #[],_,_,?_,St.mp_put i hi hb hw' (hc.erase hj),rfl,rfl⟩
  simp[vJ _ hb]
end
open Go.ChangeMaps (setBlock)
section
variable {P:Program}{κ ν:Type}(K:MapK P κ ν){ro:Option Nat}{n:Nat}{ds:List Deferred}{β:Base}{Q:Exit→Act→World→Prop}{f:Fm}{L:List bU}{ops:Array Oper}{rest:List Oper}
variable {d:Option Tmp}{ty:TypeId}{ps:String}{af:Array Edge}{g:Option (Nat×Bool)}
def rgR(b r:Nat)(ks pre:List (κ×ν)):bU:=fun h=>∃(es:Array MapEntry) (clock:Nat) (seen:Array Nat) (zs dz rz:List (MapEntry×(κ×ν))),
 h b=some (.map es clock)∧h r=some (.mapIter (some b) clock seen clock)∧b≠r∧MapC K ks es clock∧es.toList=zs.map (·.1)∧ks=zs.map (·.2)∧(∀z∈zs,z.1.key=K.enc z.2.1∧z.1.val=K.encv z.2.2)∧
 (dz++rz).Perm zs∧seen.toList=dz.map (·.1.born)∧pre=dz.map (·.2)
variable {K}
theorem rgR.mono(b r:Nat)(ks pre:List (κ×ν)):rH (rgR K b r ks pre):=fun _ _ hs ⟨es,c,se,zs,dz,rz,h1,h2,h⟩=>⟨es,c,se,zs,dz,rz,hs _ _ h1,hs _ _ h2,h⟩
theorem MapC.zip{ks:List (κ×ν)}{es:Array MapEntry}{c:Nat}(h:MapC K ks es c):∃zs:List (MapEntry×(κ×ν)),es.toList=zs.map (·.1)∧ks=zs.map (·.2)∧∀z∈zs,z.1.key=K.enc z.2.1∧z.1.val=K.encv z.2.2:=by
 have key:∀(es:List MapEntry) (ks:List (κ×ν)),es.map (fun e=>(e.key,e.val))=ks.map (fun p=>(K.enc p.1,K.encv p.2))→∃zs:List (MapEntry×(κ×ν)),es=zs.map (·.1)∧ks=zs.map (·.2)∧∀z∈zs,z.1.key=K.enc z.2.1∧z.1.val=K.encv z.2.2:=by
  intro es
  induction es with
  |nil=>
   intro ks h
   cases ks with
   |nil=>exact⟨[],rfl,rfl,by simp⟩
   |cons a ks=>simp at h
  |cons e es ih=>
   intro ks h
   cases ks with
   |nil=>simp at h
   |cons a ks=>
    simp only[List.map_cons,List.cons.injEq,Prod.mk.injEq]at h
    obtain⟨zs,h1,h2,h3⟩:=ih ks h.2
    refine⟨(e,a)::zs,by simp[h1],by simp[h2],fun z hz=> ?_⟩
    rcases List.mem_cons.1 hz with rfl|hz
    ·exact h.1
    ·exact h3 z hz
 exact key _ _ h.cells
theorem wC{x:Operand}{t:Nat}{v:Value}{dd:TypeDesc}(hx:ev f x=v)(hu:P.underlying t=some dd)(hd:(match dd with| .interface _=>false|_=>true)=true):EV P β L f ⟨d,.makeInterface t x,ty,ps,af,g⟩ (.iface t v):=fun w _=>by
 subst hx
 simp only[execOp,Instr.makeInterface,Sem.run_bind,run_underlying hu,Result.andThen_ok]
 cases dd<;>simp_all
theorem yQ{x:Operand}{t xt:Nat}{v:Value}{dd:TypeDesc}(hx:ev f x= .iface t v)(hu:P.underlying t=some dd)(hd:(match dd with| .interface _=>false|_=>true)=true):EV P β L f ⟨d,.typeAssert x xt t false,ty,ps,af,g⟩ v:=fun w _=>by
 simp only[execOp,Instr.typeAssert,hx,Sem.run_bind,run_underlying hu,Result.andThen_ok]
 cases dd<;>simp_all
def aKn(P:Program)(h:Nat):Prop:=∃fn,P.funcs[h]? =some fn∧(fn.name=="runtime.NumGoroutine")=false∧fn.body.isNone=true∧Extern.findNext fn=none∧Extern.find fn=some Extern.MapsClone.clone
theorem aNz{t b:Nat}{es:Array MapEntry}{cl:Nat}{w:World}(hg:(getObj b).run P w= .ok (.map es cl) w):(Extern.MapsClone.clone #[.iface t (.map (some b))]).run P w= .ok (.iface t (.map (some w.heap.size))) (w.alloc (.map es cl)):=by
 have e:Extern.MapsClone.clone #[.iface t (.map (some b))]=(getObj b>>=fun o=>match o with
  | .map entries clock=>(newObj (.map entries clock)>>=fun r=>pure (.iface t (.map (some r))))
  |_=>stuck "maps.clone: a map expected"):=rfl
 rw[e]
 simp[hg]
theorem aDp{x c:Operand}{ts:Array TypeId}{t h b:Nat}{ks:List (κ×ν)}(i:Nat)(hc:ev f c= .func (.func h) #[] #[])(hh:aKn P h)(hx:ev f x= .iface t (.map (some b)))(hm:L[i]? =some (bB K b ks)):
  MV P β L f ⟨d,.call ⟨.value c,#[x],ts⟩,ty,ps,af,g⟩ (fun v L'=>∃b',v= .iface t (.map (some b'))∧L'=bB K b' ks::L):=fun w hw=>by
 obtain⟨es,cl,hb,hk⟩:=hw.knows (bH.of_res i hm (bB.mono K b ks) fun _ h=>h)
 have hb:w.heap[b]? =some (.map es cl):=hb
 have hg:(getObj b).run P w= .ok (.map es cl) w:=nG hb
 obtain⟨fn,h1,h2,h3,h4,h5⟩:=hh
 refine⟨.iface t (.map (some w.heap.size)),w.alloc (.map es cl),_,?_,(hw.new (.map es cl)).conseq fun a ha=>⟨es,cl,ha,hk⟩,w.heap.size,rfl,rfl⟩
 have h2':fn.name≠"runtime.NumGoroutine":=by simpa using h2
 have h3':fn.body=none:=by simpa using h3
 simp[execOp,resolve,hc,Deferred.ofValue,invoke,callFunc,h1,h2',h3',h4,h5,hx,aNz hg]
end
end Go.Sl
namespace Go.Td
open Go.Sl
abbrev aZ:Fl Int:=⟨1,fun x=>[Ix x],fun _=>rfl,fun _=>rfl,by decide⟩
structure KAm where
 a0:Int
 a1:Int
 a2:Int
 a3:Int
deriving DecidableEq
abbrev oT(a:KAm):List Value:=[Ix a.a0,Ix a.a1,Ix a.a2,Ix a.a3]
abbrev eK(a:KAm):Array Value:= #[Ix a.a0,Ix a.a1,Ix a.a2,Ix a.a3]
def zeroA:KAm:=⟨0,0,0,0⟩
def inA(n:Int):Bool:=decide (0≤n)&&decide (n≤2147483647)
def KAm.within(a:KAm):Bool:=inA a.a0&&inA a.a1&&inA a.a2&&inA a.a3
def KAm.plus(a b:KAm)(s:Int):KAm:=⟨a.a0+s*b.a0,a.a1+s*b.a1,a.a2+s*b.a2,a.a3+s*b.a3⟩
def KAm.bd(a:KAm)(N:Int):Prop:=(-N≤a.a0∧a.a0≤N)∧(-N≤a.a1∧a.a1≤N)∧(-N≤a.a2∧a.a2≤N)∧(-N≤a.a3∧a.a3≤N)
theorem kY{x y:KAm}:oT x=oT y↔x=y:=by
 constructor
 ·intro h;cases x;cases y;simp at h;obtain⟨rfl,rfl,rfl,rfl⟩:=h;rfl
 ·rintro rfl;rfl
structure KAct where
 kind:UInt8
 owner:Int
 other:Int
 hold:Int
 a:KAm
deriving DecidableEq
abbrev xH(x:KAct):List Value:=[Bx x.kind,Ix x.owner,Ix x.other,Ix x.hold,Ix x.a.a0,Ix x.a.a1,Ix x.a.a2,Ix x.a.a3]
abbrev cJ:Fl KAct:=⟨8,xH,fun _=>rfl,fun _=>rfl,by decide⟩
theorem aHq{x y:KAct}:xH x=xH y↔x=y:=by
 constructor
 ·intro h
  obtain⟨k,o,p,q,a⟩:=x;obtain⟨k',o',p',q',a'⟩:=y;cases a;cases a'
  simp only[xH,List.cons.injEq,and_true,Value.int.injEq,true_and]at h
  obtain⟨h0,rfl,rfl,rfl,rfl,rfl,rfl,rfl⟩:=h
  have:k=k':=by apply UInt8.toNat_inj.1;omega
  rw[this]
 ·rintro rfl;rfl
def fE(n:Int):Bool:=decide (1≤n)&&decide (n≤65536)
structure KHo where
 number:Int
 owner:Int
 a:KAm
deriving DecidableEq
abbrev hoE(x:KHo):List Value:=[Ix x.number,Ix x.owner,Ix x.a.a0,Ix x.a.a1,Ix x.a.a2,Ix x.a.a3]
abbrev fG:Fl KHo:=⟨6,hoE,fun _=>rfl,fun _=>rfl,by decide⟩
theorem aRb{x y:KHo}:hoE x=hoE y↔x=y:=by
 constructor
 ·intro h;obtain⟨n,o,a⟩:=x;obtain⟨m,p,b⟩:=y;cases a;cases b;simp at h;obtain⟨rfl,rfl,rfl,rfl,rfl,rfl⟩:=h;rfl
 ·rintro rfl;rfl
def bE:KHo:=⟨0,0,zeroA⟩
structure KRes where
 done:Bool
 at_:Int
 e:Int
 holds:List Int
deriving DecidableEq
structure KDeal where
 author:Int
 number:Int
 acts:List KAct
deriving DecidableEq
structure KMem where
 d:KDeal
 r:KRes
deriving DecidableEq
structure KMh where
 author:Int
 number:Int
 p:Option Addr
 n:Nat
 c:Nat
 done:Bool
 at_:Int
 e:Int
 q:Option Addr
 m:Nat
 k:Nat
abbrev mhE(x:KMh):List Value:=[Ix x.author,Ix x.number,.slice x.p x.n x.c,.bool x.done,Ix x.at_,Ix x.e,.slice x.q x.m x.k]
def xE:KMh:=⟨0,0,none,0,0,false,0,0,none,0,0⟩
end Go.Td
namespace Go.Sl
section
variable {P:Program}{β:Base}{f:Fm}{L:List bU}{d:Option Tmp}{ty:TypeId}{ps:String}{af:Array Edge}{g:Option (Nat×Bool)}{κ ν:Type}{K:MapK P κ ν}
theorem lL{x y:Operand}{t b:Nat}{ks:List (κ×ν)}{k:κ}(ht:t=K.t)(hx:ev f x= .map (some b))(hy:ev f y=K.enc k)(hm:bH β L (bB K b ks)):
  EV P β L f ⟨d,.lookup t x y false,ty,ps,af,g⟩ (K.encv ((K.look ks k).getD K.zv)):=fun w hw=>by
 obtain⟨es,c,hb,hc⟩:=hw.knows hm
 have hb:w.heap[b]? =some (.map es c):=hb
 obtain⟨r,hr,hx'⟩:=uP hc k w
 have hg:(getObj b).run P w= .ok (.map es c) w:=nG hb
 subst ht
 simp only[execOp,Instr.lookup,Sem.run_bind,run_underlying K.ht,Result.andThen_ok,hx,hy,hg,Sem.run_pure,K.chk,hr]
 cases r with
 |none=>
  have hl:K.look ks k=none:=hx'
  simp[aMd,hl]
 |some p=>
  obtain⟨j,v⟩:=p
  obtain⟨u,hl,hv,_⟩:=hx'
  simp[hl,hv]
end
end Go.Sl
namespace Go.Proofs
open Go Go.Sl Go.Td
noncomputable def cC:MapK Tryz.prog Int KAm where
 t:=84
 kt:=3
 et:=44
 dec:=inferInstance
 enc:=fun x=>Ix x
 encv:=fun a=> .agg (eK a)
 zv:=zeroA
 ht:=by kernel_rfl
 hz:=by kernel_rfl
 chk:=fun e a w=>by
  unfold Instr.checkKey
  simp only[Sem.run_bind,run_underlying (show Tryz.prog.underlying 3=some (.int .i64) by kernel_rfl),Result.andThen_ok]
  rfl
 find:=qL (d:= .int .i64) (by kernel_rfl) fun a b=>congrArg some (show(a==b)=decide (a=b) by by_cases h:a=b<;>simp[h])
 bits:=fun a=>by unfold Instr.sameBits;simp
noncomputable def bL:MapK Tryz.prog Int KHo where
 t:=85
 kt:=3
 et:=104
 dec:=inferInstance
 enc:=fun x=>Ix x
 encv:=fun a=> .agg (hoE a).toArray
 zv:=bE
 ht:=by kernel_rfl
 hz:=by kernel_rfl
 chk:=fun e a w=>by
  unfold Instr.checkKey
  simp only[Sem.run_bind,run_underlying (show Tryz.prog.underlying 3=some (.int .i64) by kernel_rfl),Result.andThen_ok]
  rfl
 find:=qL (d:= .int .i64) (by kernel_rfl) fun a b=>congrArg some (show(a==b)=decide (a=b) by by_cases h:a=b<;>simp[h])
 bits:=fun a=>by unfold Instr.sameBits;simp
noncomputable def dW:MapK Tryz.prog Int KMh where
 t:=86
 kt:=3
 et:=82
 dec:=inferInstance
 enc:=fun x=>Ix x
 encv:=fun a=> .agg (mhE a).toArray
 zv:=xE
 ht:=by kernel_rfl
 hz:=by kernel_rfl
 chk:=fun e a w=>by
  unfold Instr.checkKey
  simp only[Sem.run_bind,run_underlying (show Tryz.prog.underlying 3=some (.int .i64) by kernel_rfl),Result.andThen_ok]
  rfl
 find:=qL (d:= .int .i64) (by kernel_rfl) fun a b=>congrArg some (show(a==b)=decide (a=b) by by_cases h:a=b<;>simp[h])
 bits:=fun a=>by unfold Instr.sameBits;simp
end Go.Proofs
namespace Go.Sl
section
variable {P:Program}{ro:Option Nat}{n:Nat}{ds:List Deferred}{β:Base}{Q:Exit→Act→World→Prop}{f:Fm}{L:List bU}{ops:Array Oper}{rest:List Oper}
theorem cQ(f:Fm)(d:Nat)(v:Value):dZ f d v d=v:=by unfold dZ;simp
theorem bT(f:Fm){d e:Nat}(v:Value)(h:Nat.beq e d=false):dZ f d v e=f e:=by unfold dZ;rw[h]
theorem bCe{m p j d1:Nat}{x q:Operand}{o1:Oper}{t1 t2:TypeId}{s1 s2:String}{r1 r2:Array Edge}(b c:Bool)(hx:ev f x= .bool b)
 (h:b=true→(∀x1,cE P ro n ds β ops Q rest (dZ (dZ (dZ f m (.bool true)) d1 x1) p (.bool (c))) L)→cE P ro n ds β ops Q (o1::⟨some p,.pick (.tmp m) q (.const (.bool false)),t2,s2,r2,none⟩::rest) (dZ f m (.bool true)) L)
 (k:∀x1,cE P ro n ds β ops Q rest (dZ (dZ (dZ f m (.bool b)) d1 x1) p (.bool (b&&c))) L)(hm:Nat.blt m n=true:=by rfl)(hp:Nat.blt p n=true:=by rfl)(e1:o1.dst=some d1:=by rfl)(g1:o1.guard=some (j,true):=by rfl)(n1:Nat.blt d1 n=true:=by rfl)(a1:Nat.beq m d1=false:=by rfl)(hj:(ops[j]?).bind (·.dst)=some m:=by rfl):
  cE P ro n ds β ops Q (⟨some m,.move x,t1,s1,r1,none⟩::o1::⟨some p,.pick (.tmp m) q (.const (.bool false)),t2,s2,r2,none⟩::rest) f L:=by
 refine jW rfl rfl hm (v:= .bool b) (hx▸cI) ?_
 cases b
 ·
  refine cP g1 hj (b:=false) (by rw[cQ]) rfl e1 n1 ?_
  exact jW rfl rfl hp (v:= .bool false) (iL (by change dZ _ _ _ m=_;rw[bT _ _ a1,cQ])) (k undef)
 ·
  exact h rfl (by simpa using k)
theorem zA{m p j d1 d2:Nat}{x q:Operand}{o1 o2:Oper}{t1 t2:TypeId}{s1 s2:String}{r1 r2:Array Edge}(b c:Bool)(hx:ev f x= .bool b)
 (h:b=true→(∀x1 x2,cE P ro n ds β ops Q rest (dZ (dZ (dZ (dZ f m (.bool true)) d1 x1) d2 x2) p (.bool (c))) L)→cE P ro n ds β ops Q (o1::o2::⟨some p,.pick (.tmp m) q (.const (.bool false)),t2,s2,r2,none⟩::rest) (dZ f m (.bool true)) L)
 (k:∀x1 x2,cE P ro n ds β ops Q rest (dZ (dZ (dZ (dZ f m (.bool b)) d1 x1) d2 x2) p (.bool (b&&c))) L)(hm:Nat.blt m n=true:=by rfl)(hp:Nat.blt p n=true:=by rfl)(e1:o1.dst=some d1:=by rfl)(g1:o1.guard=some (j,true):=by rfl)(n1:Nat.blt d1 n=true:=by rfl)(a1:Nat.beq m d1=false:=by rfl)(e2:o2.dst=some d2:=by rfl)(g2:o2.guard=some (j,true):=by rfl)(n2:Nat.blt d2 n=true:=by rfl)(a2:Nat.beq m d2=false:=by rfl)(hj:(ops[j]?).bind (·.dst)=some m:=by rfl):
  cE P ro n ds β ops Q (⟨some m,.move x,t1,s1,r1,none⟩::o1::o2::⟨some p,.pick (.tmp m) q (.const (.bool false)),t2,s2,r2,none⟩::rest) f L:=by
 refine jW rfl rfl hm (v:= .bool b) (hx▸cI) ?_
 cases b
 ·
  refine cP g1 hj (b:=false) (by rw[cQ]) rfl e1 n1 ?_
  refine cP g2 hj (b:=false) (by rw[bT _ _ a1,cQ]) rfl e2 n2 ?_
  exact jW rfl rfl hp (v:= .bool false) (iL (by change dZ _ _ _ m=_;rw[bT _ _ a2,bT _ _ a1,cQ])) (k undef undef)
 ·
  exact h rfl (by simpa using k)
theorem wZ{m p j d1 d2:Nat}{x q:Operand}{o1 o2:Oper}{t1 t2:TypeId}{s1 s2:String}{r1 r2:Array Edge}(b c:Bool)(hx:ev f x= .bool b)
 (h:b=false→(∀x1 x2,cE P ro n ds β ops Q rest (dZ (dZ (dZ (dZ f m (.bool false)) d1 x1) d2 x2) p (.bool (c))) L)→cE P ro n ds β ops Q (o1::o2::⟨some p,.pick (.tmp m) (.const (.bool true)) q,t2,s2,r2,none⟩::rest) (dZ f m (.bool false)) L)
 (k:∀x1 x2,cE P ro n ds β ops Q rest (dZ (dZ (dZ (dZ f m (.bool b)) d1 x1) d2 x2) p (.bool (b||c))) L)(hm:Nat.blt m n=true:=by rfl)(hp:Nat.blt p n=true:=by rfl)(e1:o1.dst=some d1:=by rfl)(g1:o1.guard=some (j,false):=by rfl)(n1:Nat.blt d1 n=true:=by rfl)(a1:Nat.beq m d1=false:=by rfl)(e2:o2.dst=some d2:=by rfl)(g2:o2.guard=some (j,false):=by rfl)(n2:Nat.blt d2 n=true:=by rfl)(a2:Nat.beq m d2=false:=by rfl)(hj:(ops[j]?).bind (·.dst)=some m:=by rfl):
  cE P ro n ds β ops Q (⟨some m,.move x,t1,s1,r1,none⟩::o1::o2::⟨some p,.pick (.tmp m) (.const (.bool true)) q,t2,s2,r2,none⟩::rest) f L:=by
 refine jW rfl rfl hm (v:= .bool b) (hx▸cI) ?_
 cases b
 ·
  exact h rfl (by simpa using k)
 ·
  refine cP g1 hj (b:=true) (by rw[cQ]) rfl e1 n1 ?_
  refine cP g2 hj (b:=true) (by rw[bT _ _ a1,cQ]) rfl e2 n2 ?_
  exact jW rfl rfl hp (v:= .bool true) (mY (by change dZ _ _ _ m=_;rw[bT _ _ a2,bT _ _ a1,cQ])) (k undef undef)
theorem gF{m p j d1 d2 d3:Nat}{x q:Operand}{o1 o2 o3:Oper}{t1 t2:TypeId}{s1 s2:String}{r1 r2:Array Edge}(b c:Bool)(hx:ev f x= .bool b)
 (h:b=true→(∀x1 x2 x3,cE P ro n ds β ops Q rest (dZ (dZ (dZ (dZ (dZ f m (.bool true)) d1 x1) d2 x2) d3 x3) p (.bool (c))) L)→cE P ro n ds β ops Q (o1::o2::o3::⟨some p,.pick (.tmp m) q (.const (.bool false)),t2,s2,r2,none⟩::rest) (dZ f m (.bool true)) L)
 (k:∀x1 x2 x3,cE P ro n ds β ops Q rest (dZ (dZ (dZ (dZ (dZ f m (.bool b)) d1 x1) d2 x2) d3 x3) p (.bool (b&&c))) L)(hm:Nat.blt m n=true:=by rfl)(hp:Nat.blt p n=true:=by rfl)(e1:o1.dst=some d1:=by rfl)(g1:o1.guard=some (j,true):=by rfl)(n1:Nat.blt d1 n=true:=by rfl)(a1:Nat.beq m d1=false:=by rfl)(e2:o2.dst=some d2:=by rfl)(g2:o2.guard=some (j,true):=by rfl)(n2:Nat.blt d2 n=true:=by rfl)(a2:Nat.beq m d2=false:=by rfl)(e3:o3.dst=some d3:=by rfl)(g3:o3.guard=some (j,true):=by rfl)(n3:Nat.blt d3 n=true:=by rfl)(a3:Nat.beq m d3=false:=by rfl)(hj:(ops[j]?).bind (·.dst)=some m:=by rfl):
  cE P ro n ds β ops Q (⟨some m,.move x,t1,s1,r1,none⟩::o1::o2::o3::⟨some p,.pick (.tmp m) q (.const (.bool false)),t2,s2,r2,none⟩::rest) f L:=by
 refine jW rfl rfl hm (v:= .bool b) (hx▸cI) ?_
 cases b
 ·
  refine cP g1 hj (b:=false) (by rw[cQ]) rfl e1 n1 ?_
  refine cP g2 hj (b:=false) (by rw[bT _ _ a1,cQ]) rfl e2 n2 ?_
  refine cP g3 hj (b:=false) (by rw[bT _ _ a2,bT _ _ a1,cQ]) rfl e3 n3 ?_
  exact jW rfl rfl hp (v:= .bool false) (iL (by change dZ _ _ _ m=_;rw[bT _ _ a3,bT _ _ a2,bT _ _ a1,cQ])) (k undef undef undef)
 ·
  exact h rfl (by simpa using k)
theorem bAa{m p j d1 d2 d3:Nat}{x q:Operand}{o1 o2 o3:Oper}{t1 t2:TypeId}{s1 s2:String}{r1 r2:Array Edge}(b c:Bool)(hx:ev f x= .bool b)
 (h:b=false→(∀x1 x2 x3,cE P ro n ds β ops Q rest (dZ (dZ (dZ (dZ (dZ f m (.bool false)) d1 x1) d2 x2) d3 x3) p (.bool (c))) L)→cE P ro n ds β ops Q (o1::o2::o3::⟨some p,.pick (.tmp m) (.const (.bool true)) q,t2,s2,r2,none⟩::rest) (dZ f m (.bool false)) L)
 (k:∀x1 x2 x3,cE P ro n ds β ops Q rest (dZ (dZ (dZ (dZ (dZ f m (.bool b)) d1 x1) d2 x2) d3 x3) p (.bool (b||c))) L)(hm:Nat.blt m n=true:=by rfl)(hp:Nat.blt p n=true:=by rfl)(e1:o1.dst=some d1:=by rfl)(g1:o1.guard=some (j,false):=by rfl)(n1:Nat.blt d1 n=true:=by rfl)(a1:Nat.beq m d1=false:=by rfl)(e2:o2.dst=some d2:=by rfl)(g2:o2.guard=some (j,false):=by rfl)(n2:Nat.blt d2 n=true:=by rfl)(a2:Nat.beq m d2=false:=by rfl)(e3:o3.dst=some d3:=by rfl)(g3:o3.guard=some (j,false):=by rfl)(n3:Nat.blt d3 n=true:=by rfl)(a3:Nat.beq m d3=false:=by rfl)(hj:(ops[j]?).bind (·.dst)=some m:=by rfl):
  cE P ro n ds β ops Q (⟨some m,.move x,t1,s1,r1,none⟩::o1::o2::o3::⟨some p,.pick (.tmp m) (.const (.bool true)) q,t2,s2,r2,none⟩::rest) f L:=by
 refine jW rfl rfl hm (v:= .bool b) (hx▸cI) ?_
 cases b
 ·
  exact h rfl (by simpa using k)
 ·
  refine cP g1 hj (b:=true) (by rw[cQ]) rfl e1 n1 ?_
  refine cP g2 hj (b:=true) (by rw[bT _ _ a1,cQ]) rfl e2 n2 ?_
  refine cP g3 hj (b:=true) (by rw[bT _ _ a2,bT _ _ a1,cQ]) rfl e3 n3 ?_
  exact jW rfl rfl hp (v:= .bool true) (mY (by change dZ _ _ _ m=_;rw[bT _ _ a3,bT _ _ a2,bT _ _ a1,cQ])) (k undef undef undef)
theorem tM{m p j d1 d2 d3 d4:Nat}{x q:Operand}{o1 o2 o3 o4:Oper}{t1 t2:TypeId}{s1 s2:String}{r1 r2:Array Edge}(b c:Bool)(hx:ev f x= .bool b)
 (h:b=true→(∀x1 x2 x3 x4,cE P ro n ds β ops Q rest (dZ (dZ (dZ (dZ (dZ (dZ f m (.bool true)) d1 x1) d2 x2) d3 x3) d4 x4) p (.bool (c))) L)→cE P ro n ds β ops Q (o1::o2::o3::o4::⟨some p,.pick (.tmp m) q (.const (.bool false)),t2,s2,r2,none⟩::rest) (dZ f m (.bool true)) L)
 (k:∀x1 x2 x3 x4,cE P ro n ds β ops Q rest (dZ (dZ (dZ (dZ (dZ (dZ f m (.bool b)) d1 x1) d2 x2) d3 x3) d4 x4) p (.bool (b&&c))) L)(hm:Nat.blt m n=true:=by rfl)(hp:Nat.blt p n=true:=by rfl)(e1:o1.dst=some d1:=by rfl)(g1:o1.guard=some (j,true):=by rfl)(n1:Nat.blt d1 n=true:=by rfl)(a1:Nat.beq m d1=false:=by rfl)(e2:o2.dst=some d2:=by rfl)(g2:o2.guard=some (j,true):=by rfl)(n2:Nat.blt d2 n=true:=by rfl)(a2:Nat.beq m d2=false:=by rfl)(e3:o3.dst=some d3:=by rfl)(g3:o3.guard=some (j,true):=by rfl)(n3:Nat.blt d3 n=true:=by rfl)(a3:Nat.beq m d3=false:=by rfl)(e4:o4.dst=some d4:=by rfl)(g4:o4.guard=some (j,true):=by rfl)(n4:Nat.blt d4 n=true:=by rfl)(a4:Nat.beq m d4=false:=by rfl)(hj:(ops[j]?).bind (·.dst)=some m:=by rfl):
  cE P ro n ds β ops Q (⟨some m,.move x,t1,s1,r1,none⟩::o1::o2::o3::o4::⟨some p,.pick (.tmp m) q (.const (.bool false)),t2,s2,r2,none⟩::rest) f L:=by
 refine jW rfl rfl hm (v:= .bool b) (hx▸cI) ?_
 cases b
 ·
  refine cP g1 hj (b:=false) (by rw[cQ]) rfl e1 n1 ?_
  refine cP g2 hj (b:=false) (by rw[bT _ _ a1,cQ]) rfl e2 n2 ?_
  refine cP g3 hj (b:=false) (by rw[bT _ _ a2,bT _ _ a1,cQ]) rfl e3 n3 ?_
  refine cP g4 hj (b:=false) (by rw[bT _ _ a3,bT _ _ a2,bT _ _ a1,cQ]) rfl e4 n4 ?_
  exact jW rfl rfl hp (v:= .bool false) (iL (by change dZ _ _ _ m=_;rw[bT _ _ a4,bT _ _ a3,bT _ _ a2,bT _ _ a1,cQ])) (k undef undef undef undef)
 ·
  exact h rfl (by simpa using k)
theorem tE{m p j d1 d2 d3 d4:Nat}{x q:Operand}{o1 o2 o3 o4:Oper}{t1 t2:TypeId}{s1 s2:String}{r1 r2:Array Edge}(b c:Bool)(hx:ev f x= .bool b)
 (h:b=false→(∀x1 x2 x3 x4,cE P ro n ds β ops Q rest (dZ (dZ (dZ (dZ (dZ (dZ f m (.bool false)) d1 x1) d2 x2) d3 x3) d4 x4) p (.bool (c))) L)→cE P ro n ds β ops Q (o1::o2::o3::o4::⟨some p,.pick (.tmp m) (.const (.bool true)) q,t2,s2,r2,none⟩::rest) (dZ f m (.bool false)) L)
 (k:∀x1 x2 x3 x4,cE P ro n ds β ops Q rest (dZ (dZ (dZ (dZ (dZ (dZ f m (.bool b)) d1 x1) d2 x2) d3 x3) d4 x4) p (.bool (b||c))) L)(hm:Nat.blt m n=true:=by rfl)(hp:Nat.blt p n=true:=by rfl)(e1:o1.dst=some d1:=by rfl)(g1:o1.guard=some (j,false):=by rfl)(n1:Nat.blt d1 n=true:=by rfl)(a1:Nat.beq m d1=false:=by rfl)(e2:o2.dst=some d2:=by rfl)(g2:o2.guard=some (j,false):=by rfl)(n2:Nat.blt d2 n=true:=by rfl)(a2:Nat.beq m d2=false:=by rfl)(e3:o3.dst=some d3:=by rfl)(g3:o3.guard=some (j,false):=by rfl)(n3:Nat.blt d3 n=true:=by rfl)(a3:Nat.beq m d3=false:=by rfl)(e4:o4.dst=some d4:=by rfl)(g4:o4.guard=some (j,false):=by rfl)(n4:Nat.blt d4 n=true:=by rfl)(a4:Nat.beq m d4=false:=by rfl)(hj:(ops[j]?).bind (·.dst)=some m:=by rfl):
  cE P ro n ds β ops Q (⟨some m,.move x,t1,s1,r1,none⟩::o1::o2::o3::o4::⟨some p,.pick (.tmp m) (.const (.bool true)) q,t2,s2,r2,none⟩::rest) f L:=by
 refine jW rfl rfl hm (v:= .bool b) (hx▸cI) ?_
 cases b
 ·
  exact h rfl (by simpa using k)
 ·
  refine cP g1 hj (b:=true) (by rw[cQ]) rfl e1 n1 ?_
  refine cP g2 hj (b:=true) (by rw[bT _ _ a1,cQ]) rfl e2 n2 ?_
  refine cP g3 hj (b:=true) (by rw[bT _ _ a2,bT _ _ a1,cQ]) rfl e3 n3 ?_
  refine cP g4 hj (b:=true) (by rw[bT _ _ a3,bT _ _ a2,bT _ _ a1,cQ]) rfl e4 n4 ?_
  exact jW rfl rfl hp (v:= .bool true) (mY (by change dZ _ _ _ m=_;rw[bT _ _ a4,bT _ _ a3,bT _ _ a2,bT _ _ a1,cQ])) (k undef undef undef undef)
theorem oL{m p j d1 d2 d3 d4 d5:Nat}{x q:Operand}{o1 o2 o3 o4 o5:Oper}{t1 t2:TypeId}{s1 s2:String}{r1 r2:Array Edge}(b c:Bool)(hx:ev f x= .bool b)
 (h:b=true→(∀x1 x2 x3 x4 x5,cE P ro n ds β ops Q rest (dZ (dZ (dZ (dZ (dZ (dZ (dZ f m (.bool true)) d1 x1) d2 x2) d3 x3) d4 x4) d5 x5) p (.bool (c))) L)→cE P ro n ds β ops Q (o1::o2::o3::o4::o5::⟨some p,.pick (.tmp m) q (.const (.bool false)),t2,s2,r2,none⟩::rest) (dZ f m (.bool true)) L)
 (k:∀x1 x2 x3 x4 x5,cE P ro n ds β ops Q rest (dZ (dZ (dZ (dZ (dZ (dZ (dZ f m (.bool b)) d1 x1) d2 x2) d3 x3) d4 x4) d5 x5) p (.bool (b&&c))) L)(hm:Nat.blt m n=true:=by rfl)(hp:Nat.blt p n=true:=by rfl)(e1:o1.dst=some d1:=by rfl)(g1:o1.guard=some (j,true):=by rfl)(n1:Nat.blt d1 n=true:=by rfl)(a1:Nat.beq m d1=false:=by rfl)(e2:o2.dst=some d2:=by rfl)(g2:o2.guard=some (j,true):=by rfl)(n2:Nat.blt d2 n=true:=by rfl)(a2:Nat.beq m d2=false:=by rfl)(e3:o3.dst=some d3:=by rfl)(g3:o3.guard=some (j,true):=by rfl)(n3:Nat.blt d3 n=true:=by rfl)(a3:Nat.beq m d3=false:=by rfl)(e4:o4.dst=some d4:=by rfl)(g4:o4.guard=some (j,true):=by rfl)(n4:Nat.blt d4 n=true:=by rfl)(a4:Nat.beq m d4=false:=by rfl)(e5:o5.dst=some d5:=by rfl)(g5:o5.guard=some (j,true):=by rfl)(n5:Nat.blt d5 n=true:=by rfl)(a5:Nat.beq m d5=false:=by rfl)(hj:(ops[j]?).bind (·.dst)=some m:=by rfl):
  cE P ro n ds β ops Q (⟨some m,.move x,t1,s1,r1,none⟩::o1::o2::o3::o4::o5::⟨some p,.pick (.tmp m) q (.const (.bool false)),t2,s2,r2,none⟩::rest) f L:=by
 refine jW rfl rfl hm (v:= .bool b) (hx▸cI) ?_
 cases b
 ·
  refine cP g1 hj (b:=false) (by rw[cQ]) rfl e1 n1 ?_
  refine cP g2 hj (b:=false) (by rw[bT _ _ a1,cQ]) rfl e2 n2 ?_
  refine cP g3 hj (b:=false) (by rw[bT _ _ a2,bT _ _ a1,cQ]) rfl e3 n3 ?_
  refine cP g4 hj (b:=false) (by rw[bT _ _ a3,bT _ _ a2,bT _ _ a1,cQ]) rfl e4 n4 ?_
  refine cP g5 hj (b:=false) (by rw[bT _ _ a4,bT _ _ a3,bT _ _ a2,bT _ _ a1,cQ]) rfl e5 n5 ?_
  exact jW rfl rfl hp (v:= .bool false) (iL (by change dZ _ _ _ m=_;rw[bT _ _ a5,bT _ _ a4,bT _ _ a3,bT _ _ a2,bT _ _ a1,cQ])) (k undef undef undef undef undef)
 ·
  exact h rfl (by simpa using k)
theorem bCf{m p j d1 d2 d3 d4 d5 d6:Nat}{x q:Operand}{o1 o2 o3 o4 o5 o6:Oper}{t1 t2:TypeId}{s1 s2:String}{r1 r2:Array Edge}(b c:Bool)(hx:ev f x= .bool b)
 (h:b=true→(∀x1 x2 x3 x4 x5 x6,cE P ro n ds β ops Q rest (dZ (dZ (dZ (dZ (dZ (dZ (dZ (dZ f m (.bool true)) d1 x1) d2 x2) d3 x3) d4 x4) d5 x5) d6 x6) p (.bool (c))) L)→cE P ro n ds β ops Q (o1::o2::o3::o4::o5::o6::⟨some p,.pick (.tmp m) q (.const (.bool false)),t2,s2,r2,none⟩::rest) (dZ f m (.bool true)) L)
 (k:∀x1 x2 x3 x4 x5 x6,cE P ro n ds β ops Q rest (dZ (dZ (dZ (dZ (dZ (dZ (dZ (dZ f m (.bool b)) d1 x1) d2 x2) d3 x3) d4 x4) d5 x5) d6 x6) p (.bool (b&&c))) L)(hm:Nat.blt m n=true:=by rfl)(hp:Nat.blt p n=true:=by rfl)(e1:o1.dst=some d1:=by rfl)(g1:o1.guard=some (j,true):=by rfl)(n1:Nat.blt d1 n=true:=by rfl)(a1:Nat.beq m d1=false:=by rfl)(e2:o2.dst=some d2:=by rfl)(g2:o2.guard=some (j,true):=by rfl)(n2:Nat.blt d2 n=true:=by rfl)(a2:Nat.beq m d2=false:=by rfl)(e3:o3.dst=some d3:=by rfl)(g3:o3.guard=some (j,true):=by rfl)(n3:Nat.blt d3 n=true:=by rfl)(a3:Nat.beq m d3=false:=by rfl)(e4:o4.dst=some d4:=by rfl)(g4:o4.guard=some (j,true):=by rfl)(n4:Nat.blt d4 n=true:=by rfl)(a4:Nat.beq m d4=false:=by rfl)(e5:o5.dst=some d5:=by rfl)(g5:o5.guard=some (j,true):=by rfl)(n5:Nat.blt d5 n=true:=by rfl)(a5:Nat.beq m d5=false:=by rfl)(e6:o6.dst=some d6:=by rfl)(g6:o6.guard=some (j,true):=by rfl)(n6:Nat.blt d6 n=true:=by rfl)(a6:Nat.beq m d6=false:=by rfl)(hj:(ops[j]?).bind (·.dst)=some m:=by rfl):
  cE P ro n ds β ops Q (⟨some m,.move x,t1,s1,r1,none⟩::o1::o2::o3::o4::o5::o6::⟨some p,.pick (.tmp m) q (.const (.bool false)),t2,s2,r2,none⟩::rest) f L:=by
 refine jW rfl rfl hm (v:= .bool b) (hx▸cI) ?_
 cases b
 ·
  refine cP g1 hj (b:=false) (by rw[cQ]) rfl e1 n1 ?_
  refine cP g2 hj (b:=false) (by rw[bT _ _ a1,cQ]) rfl e2 n2 ?_
  refine cP g3 hj (b:=false) (by rw[bT _ _ a2,bT _ _ a1,cQ]) rfl e3 n3 ?_
  refine cP g4 hj (b:=false) (by rw[bT _ _ a3,bT _ _ a2,bT _ _ a1,cQ]) rfl e4 n4 ?_
  refine cP g5 hj (b:=false) (by rw[bT _ _ a4,bT _ _ a3,bT _ _ a2,bT _ _ a1,cQ]) rfl e5 n5 ?_
  refine cP g6 hj (b:=false) (by rw[bT _ _ a5,bT _ _ a4,bT _ _ a3,bT _ _ a2,bT _ _ a1,cQ]) rfl e6 n6 ?_
  exact jW rfl rfl hp (v:= .bool false) (iL (by change dZ _ _ _ m=_;rw[bT _ _ a6,bT _ _ a5,bT _ _ a4,bT _ _ a3,bT _ _ a2,bT _ _ a1,cQ])) (k undef undef undef undef undef undef)
 ·
  exact h rfl (by simpa using k)
end
section
variable {P:Program}{ro:Option Nat}{n:Nat}{ds:List Deferred}{β:Base}{Q:Exit→Act→World→Prop}{f:Fm}{L:List bU}{ops:Array Oper}{rest:List Oper}
variable {d:Option Tmp}{ty:TypeId}{ps:String}{af:Array Edge}{g:Option (Nat×Bool)}
theorem bF{x y:Operand}{t len e n k b o:Nat}{ik:IntKind}(hx:ev f x= .pointer (some ⟨b,o,none⟩))(hy:ev f y= .int ik (k:Int))(ht:arB P t len e n=true)(hk:k<len):
  EV P β L f ⟨d,.indexAddr t x y,ty,ps,af,g⟩ (.pointer (some ⟨b,o+k*n,none⟩)):=fun w _=>by
 have e0:(⟨b,o,none⟩:Addr).add (k*n)=⟨b,o+k*n,none⟩:=by unfold Addr.add;split<;>simp_all
 rw[←e0]
 unfold arB at ht
 simp only[Bool.and_eq_true]at ht
 obtain⟨h1,h2⟩:=ht
 cases hu:P.underlying t with
 |none=>rw[hu]at h1;cases h1
 |some dd=>
  rw[hu]at h1
  cases dd<;>simp only[]at h1<;>try (cases h1)
  rename_i l' e'
  have he:l'=len∧e'=e:=by simpa using h1
  obtain⟨rfl,rfl⟩:=he
  cases hi:P.info? e' with
  |none=>rw[hi]at h2;cases h2
  |some i=>
   rw[hi]at h2
   have hn:i.size=n:=by simpa using h2
   simp only[execOp,hx,hy,Instr.indexAt,Instr.sureAddr,asIntOf,Sem.run_bind,run_underlying hu,Sem.run_pure,Result.andThen_ok]
   simp[hk,sizeOf,typeInfo,hi,hn]
theorem aQj{x:Operand}{s k off m:Nat}{cs:Array Value}{v:Value}(hx:ev f x= .agg cs)(hf:aId P s k off m false=true)(hv:cs[off]? =some v):EV P β L f ⟨d,.field s x k,ty,ps,af,g⟩ v:=fun w _=>by
 unfold aId at hf
 cases hu:P.underlying s with
 |none=>rw[hu]at hf;cases hf
 |some dd=>
  rw[hu]at hf
  cases dd<;>simp only[]at hf<;>try (cases hf)
  rename_i fs
  cases hk:fs[k]? with
  |none=>rw[hk]at hf;cases hf
  |some fl=>
   rw[hk]at hf
   simp only[Bool.and_eq_true,Bool.not_eq_true',beq_eq_false_iff_ne,ne_eq,beq_iff_eq]at hf
   obtain⟨⟨ho,ht⟩,hn⟩:=hf
   have ha:=(tyF ht).agg w
   subst ho
   simp[execOp,hx,Instr.field,run_underlying hu,hk,asAgg,part,ha,hv]
end
section
variable {P:Program}{ro:Option Nat}{n:Nat}{ds:List Deferred}{β:Base}{Q:Exit→Act→World→Prop}{f:Fm}{L:List bU}{ops:Array Oper}{rest:List Oper}
variable {d:Option Tmp}{ty:TypeId}{ps:String}{af:Array Edge}{g:Option (Nat×Bool)}
end
section
variable {P:Program}{ro:Option Nat}{n:Nat}{ds:List Deferred}{β:Base}{Q:Exit→Act→World→Prop}{f:Fm}{L:List bU}{ops:Array Oper}{rest:List Oper}
variable {d:Option Tmp}{ty:TypeId}{ps:String}{af:Array Edge}{g:Option (Nat×Bool)}
end
structure H3 where
 p:Option Addr
 n:Nat
 c:Nat
structure HV(α:Type) where
 p:Option Addr
 c:Nat
 xs:List α
def HV.h{α:Type}(v:HV α):H3:=⟨v.p,v.xs.length,v.c⟩
structure Z5 where
 h:H3
 q:Option Addr
 e:Nat
section
variable {α:Type}(F:Fl α)(T:Nat)(mk:Nat→Nat→α)
def mkL{α:Type}(mk:Nat→Nat→α)(k n:Nat):List α:=(List.range n).map (mk k)
end
section
variable {α:Type}{F:Fl α}{T:Nat}{mk:Nat→Nat→α}
end
section
variable {P:Program}{ro:Option Nat}{n:Nat}{ds:List Deferred}{β:Base}{Q:Exit→Act→World→Prop}{f:Fm}{L:List bU}{ops:Array Oper}{rest:List Oper}
variable {d:Option Tmp}{ty:TypeId}{ps:String}{af:Array Edge}{g:Option (Nat×Bool)}
variable {α:Type}{F:Fl α}{T:Nat}
end
theorem aCa{α:Type}{F:Fl α}{x0:α}{z:Value}(hz:z.cells.toList=F.enc x0):∀c,rT z.cells.toList c=(List.replicate c x0).flatMap F.enc
 |0=>rfl
 |c+1=>by
  rw[List.replicate_succ,List.flatMap_cons,←aCa hz c,hz];rfl
theorem aRs{α:Type}{F:Fl α}{x0:α}{P:Program}{β:Base}{L:List bU}{f:Fm}{d:Option Tmp}{ty:TypeId}{ps:String}{af:Array Edge}{g:Option (Nat×Bool)}{x y:Operand}{t e bytes c:Nat}{z:Value}(hsl:lY P t e F.n=true)(hel:vR P e F.n bytes=true)(hz:(P.info? e).bind (·.zero)=some z)(hzc:z.cells.toList=F.enc x0)(hx:ev f x= .int .i64 (c:Int))(hy:ev f y= .int .i64 (c:Int))(hc:c≤maxLen)(hb:c*bytes≤140737488355328):
  MV P β L f ⟨d,.makeSlice t x y,ty,ps,af,g⟩ (fun u L'=>∃b,u= .slice (some ⟨b,0,none⟩) c c∧L'=aK F e (some ⟨b,0,none⟩) c (List.replicate c x0)::L):=fun w hw=>by
 have hzn:z.cells.size=F.n:=by
  have:=congrArg List.length hzc
  rw[F.len]at this;simpa using this
 cases c with
 |zero=>
  obtain⟨u,w',L',h1,h2,b,rfl,rfl⟩:=aRr (P:=P) (β:=β) (L:=L) (f:=f) (d:=d) (ty:=ty) (ps:=ps) (af:=af) (g:=g) (x:=x) (y:=y) hsl hx hy w hw
  exact⟨_,w',_,h1,h2.conseq fun a ha=>⟨by simp,.inr ⟨b,0,#[],rfl,ha,Nat.le_refl _,by unfold maxLen;omega,by simp,by simp⟩⟩,b,rfl,rfl⟩
 |succ c=>
  obtain⟨u,w',L',h1,h2,b,rfl,rfl⟩:=aKv (P:=P) (β:=β) (L:=L) (f:=f) (d:=d) (ty:=ty) (ps:=ps) (af:=af) (g:=g) (x:=x) (y:=y) hsl hel hz hzn hx hy (Nat.mul_pos (Nat.succ_pos _) F.pos) hc hb w hw
  refine⟨_,w',_,h1,h2.conseq fun a ha=> ?_,b,rfl,rfl⟩
  rw[aCa hzc]at ha
  show row (.slice _ (List.replicate (c+1) x0).length _) _ _ (List.replicate (c+1) x0).length _ a
  rw[List.length_replicate];exact ha
def FnV(P:Program){α:Type}(β:Base)(fn:Value)(enc:α→List Value)(S:α→Prop)(res:α→Value):Prop:=
 ∃g fst cap,fn= .func (.func g) fst.toArray cap.toArray∧cfB P g=true∧∀β₁,jF β.heap β₁.heap→∀x,S x→∀w,St β₁ [] w→Calls P g (fst++enc x++cap).toArray w fun r w'=>r= .returned (res x)∧St β₁ [] w'
theorem FnV.mono{P:Program}{α:Type}{β β':Base}{fn:Value}{enc:α→List Value}{S:α→Prop}{res:α→Value}(h:FnV P β fn enc S res)(hs:jF β.heap β'.heap):FnV P β' fn enc S res:=by
 obtain⟨g,fst,cap,e,hc,hk⟩:=h
 exact⟨g,fst,cap,e,hc,fun β₁ h1=>hk β₁ (hs.trans h1)⟩
theorem aWg{P:Program}{α:Type}{β:Base}{fn:Value}{enc:α→List Value}{S:α→Prop}{res:α→Value}(h:FnV P β fn enc (fun _=>True) res):FnV P β fn enc S res:=by
 obtain⟨g,fst,cap,e,hc,hk⟩:=h
 exact⟨g,fst,cap,e,hc,fun β₁ h1 x _=>hk β₁ h1 x trivial⟩
def aIh{α:Type}(p:α→Bool)(xs:List α):Int:=match xs.findIdx? p with|some i=>(i:Int)|none=> -1
theorem aNf{α:Type}{p:α→Bool}{xs:List α}{k:Nat}{x:α}(hx:xs[k]? =some x)(hp:p x=true)(hno:∀y∈xs.take k,p y=false):aIh p xs=k:=by
 have:xs.findIdx? p=some k:=by
  rw[List.findIdx?_eq_some_iff_getElem]
  obtain⟨h,e⟩:=List.getElem?_eq_some_iff.1 hx
  refine⟨h,by rw[e];exact hp,fun j hj=> ?_⟩
  have hj':j<xs.length:=by omega
  have:=hno xs[j] (by rw[List.mem_take_iff_getElem];exact⟨j,by omega,rfl⟩)
  simpa using this
 unfold aIh;rw[this]
theorem aRg{α:Type}{p:α→Bool}{xs:List α}{k:Nat}(hk:xs.length≤k)(hno:∀y∈xs.take k,p y=false):aIh p xs= -1:=by
 rw[List.take_of_length_le hk]at hno
 have:xs.findIdx? p=none:=List.findIdx?_eq_none_iff.2 hno
 unfold aIh;rw[this]
theorem aRf{α:Type}{p:α→Bool}{xs:List α}{k:Nat}{x:α}(hx:xs[k]? =some x)(hp:p x=false)(hno:∀y∈xs.take k,p y=false):∀y∈xs.take (k+1),p y=false:=by
 rw[List.take_add_one,hx]
 intro z hz
 rcases List.mem_append.1 hz with hz|hz
 ·exact hno z hz
 ·simp at hz;rw[hz];exact hp
theorem aWm{α:Type}(p:α→Bool)(xs:List α):decide ((0:Int)≤aIh p xs)=xs.any p:=by
 unfold aIh
 cases h:xs.findIdx? p with
 |none=>
  have:=List.findIdx?_eq_none_iff.1 h
  have e:xs.any p=false:=List.any_eq_false.2 fun x hx=>by simp[this x hx]
  rw[e];rfl
 |some i=>
  obtain⟨hi,hp,_⟩:=List.findIdx?_eq_some_iff_getElem.1 h
  have e:xs.any p=true:=List.any_eq_true.2 ⟨_,List.getElem_mem hi,hp⟩
  rw[e];exact decide_eq_true (Int.natCast_nonneg i)
structure DelInv{α:Type}(p:α→Bool)(xs ws:List α)(i j:Nat):Prop where
 len:ws.length=xs.length
 le:i≤j
 lj:j≤xs.length
 kept:ws.take i=(xs.take j).filter fun x=> !p x
 rest:ws.drop j=xs.drop j
theorem DelInv.get{α:Type}{p:α→Bool}{xs ws:List α}{i j:Nat}(h:DelInv p xs ws i j){x:α}(hx:ws[j]? =some x):xs[j]? =some x:=by
 have h1:(ws.drop j)[0]? =(xs.drop j)[0]? :=by rw[h.rest]
 rw[List.getElem?_drop,List.getElem?_drop,Nat.add_zero]at h1
 rw[←h1];exact hx
theorem DelInv.skip{α:Type}{p:α→Bool}{xs ws:List α}{i j:Nat}{x:α}(h:DelInv p xs ws i j)(hx:ws[j]? =some x)(hp:p x=true):DelInv p xs ws i (j+1):=by
 have hx':=h.get hx
 have hl:=(List.getElem?_eq_some_iff.1 hx').1
 refine⟨h.len,by have:=h.le;omega,by omega,?_,?_⟩
 ·rw[List.take_add_one,hx',List.filter_append,←h.kept];simp[hp]
 ·rw[←List.drop_drop,←List.drop_drop,h.rest]
theorem DelInv.keep{α:Type}{p:α→Bool}{xs ws:List α}{i j:Nat}{x:α}(h:DelInv p xs ws i j)(hx:ws[j]? =some x)(hp:p x=false):DelInv p xs (ws.set i x) (i+1) (j+1):=by
 have hx':=h.get hx
 have hl:=(List.getElem?_eq_some_iff.1 hx').1
 have hle:=h.le
 have hlen:=h.len
 refine⟨by rw[List.length_set];exact h.len,by omega,by omega,?_,?_⟩
 ·rw[List.take_add_one,List.take_add_one,hx',List.filter_append,←h.kept]
  rw[List.take_set_of_le (by omega),List.getElem?_set_self (by omega)]
  simp[hp]
 ·rw[List.drop_set_of_lt (by omega),←List.drop_drop,←List.drop_drop,h.rest]
theorem DelInv.done{α:Type}{p:α→Bool}{xs ws:List α}{i j:Nat}(h:DelInv p xs ws i j)(hj:xs.length≤j):ws.take i=xs.filter fun x=> !p x:=by
 rw[h.kept,List.take_of_length_le hj]
abbrev rB(p:Option Addr)(xs:Bs)(c:Nat):bU:=row (.slice p xs.length c) 5 1 xs.length (BX xs)
abbrev sB{α:Type}(p:Option Addr)(xs:List α)(c:Nat):Value:= .slice p xs.length c
abbrev pp(b o:Nat):Value:= .pointer (some ⟨b,o,none⟩)
theorem kU{β:Base}{L:List bU}{h:bQ}{p:Option Addr}{m c T:Nat}{bs:Bs}(kn:∀F,bH β L F→F h)(i:Nat)(hi:L[i]? =some (row (.slice p m c) T 1 m (BX bs))):Sl iT h (.slice p m c) bs:=kn (fun h=>Sl iT h (.slice p m c) bs) (bH.of_res i hi (Sl.mono iT _ _) fun _ h=>aTm h)
theorem kB{β:Base}{L:List bU}{a:Addr}{cs:List Value}(h:Cs β.heap a cs):bH β L (fun h=>Cs h a cs):=bH.of_base (Cs.mono _ _) h
section
variable {P:Program}{ro:Option Nat}{n:Nat}{ds:List Deferred}{β:Base}{Q:Exit→Act→World→Prop}{f g:Fm}{L L' M:List bU}{ops:Array Oper}{rest:List Oper}
variable {d:Nat}{op:Op}{ty:TypeId}{ps:String}{af:Array Edge}{v:Value}{gd:Option (Nat×Bool)}
theorem lv(h:EV P β L f ⟨some d,op,ty,ps,af,none⟩ v)(k:cE P ro n ds β ops Q rest (dZ f d v) L)(hn:Nat.blt d n=true:=by rfl):cE P ro n ds β ops Q (⟨some d,op,ty,ps,af,none⟩::rest) f L:=jW rfl rfl hn h k
theorem lu(h:MU P β L f ⟨none,op,ty,ps,af,none⟩ L')(k:cE P ro n ds β ops Q rest f L'):cE P ro n ds β ops Q (⟨none,op,ty,ps,af,none⟩::rest) f L:=bIi rfl rfl h k
theorem aWd{e:Exit}(ix:List Nat)(m:Nat)(hm:L.length=m)(h:(List.range m).isPerm ix=true)(k:iZ n ds β Q e f (ix.filterMap (L[·]?))):iZ n ds β Q e f L:=aQr (aW ix m hm h rfl) k
theorem sU{c:Code}(ix:List Nat)(m:Nat)(hm:L.length=m)(h:(List.range m).isPerm ix=true)(k:eE P ro n ds β c Q f (ix.filterMap (L[·]?))):eE P ro n ds β c Q f L:=bBf (aW ix m hm h rfl) k
theorem aN{y:Code}(h:eE P ro n ds β y Q f L):cE P ro n ds β ops (Exit.then (y.wpIn (Fe ro) 3 P Q) Q) [] f L:=aH (bA h)
theorem bD{id:Nat}{l:List Oper}{y:Code}(h:cE P ro n ds β l.toArray (Exit.then (y.wpIn (Fe ro) 3 P Q) Q) l f L):eE P ro n ds β (.seq (.region id l.toArray false) y) Q f L:=aL (aC h)
theorem eY{id:Nat}{l:List Oper}{y:Code}(h:cE P ro n ds β l.toArray (Exit.then (y.wpIn (Fe ro) 3 P Q) Q) l f L):cE P ro n ds β ops (Exit.then ((Code.seq (.region id l.toArray false) y).wpIn (Fe ro) 3 P Q) Q) [] f L:=aN (bD h)
theorem xJ{id:Nat}{l:List Oper}(h:cE P ro n ds β l.toArray Q l f L):cE P ro n ds β ops (Exit.then ((Code.region id l.toArray false).wpIn (Fe ro) 3 P Q) Q) [] f L:=aN (aC h)
theorem kM{e:Exit→Act→World→Prop}{id:Nat}{l:List Oper}{y:Code}(h:cE P ro n ds β l.toArray (Exit.then (y.wpIn (Fe ro) 3 P e) e) l f L):iZ n ds β (Exit.then ((Code.seq (.region id l.toArray false) y).wpIn (Fe ro) 3 P e) e) .normal f L:=bA (bD h)
theorem qV{x y:Code}(h:eE P ro n ds β x (Exit.then (y.wpIn (Fe ro) 3 P Q) Q) f L):iZ n ds β (Exit.then ((Code.seq x y).wpIn (Fe ro) 3 P Q) Q) .normal f L:=bA (aL h)
theorem ftr(h:iZ n ds β Q .ret f L):iZ n ds β (Exit.then (Code.ret.wpIn (Fe ro) 3 P Q) Q) .normal f L:=bA (aV h)
theorem eB{y:Code}(h:eE P ro n ds β y Q f L):eE P ro n ds β .skip (Exit.then (y.wpIn (Fe ro) 3 P Q) Q) f L:=cG (bA h)
theorem eR{x y z:Code}(h:eE P ro n ds β x (Exit.then (y.wpIn (Fe ro) 3 P (Exit.then (z.wpIn (Fe ro) 3 P Q) Q)) (Exit.then (z.wpIn (Fe ro) 3 P Q) Q)) f L):eE P ro n ds β (.seq (.seq x y) z) Q f L:=aL (aL h)
theorem cT{d:Option Tmp}{c:Operand}{xs:List Operand}{ts:Array TypeId}{g:FuncId}{vs:List Value}(hg:cfB P g=true)(hx:ev f c= .func (.func g) #[] #[])(ha:xs.map (ev f)=vs):CL P f ⟨d,.call ⟨.value c,xs.toArray,ts⟩,ty,ps,af,gd⟩ g vs.toArray:=
 uJ (fst:=[]) (cap:=[]) hg hx ha (by simp)
theorem pV{g:FuncId}{args:Array Value}(he:CL P f ⟨some d,op,ty,ps,af,none⟩ g args)(hn:Nat.blt d n=true)
 (hc:∀w β1,jF β.heap β1.heap→(∀F,bH β L F→F β1.heap)→St β1 [] w→(∀L' w',St β1 L' w'→St β (L'++L) w')→Calls P g args w fun e w'=>∃v,e= .returned v∧∃L',St β L' w'∧cE P ro n ds β ops Q rest (dZ f d v) L'):
  cE P ro n ds β ops Q (⟨some d,op,ty,ps,af,none⟩::rest) f L:=aX rfl rfl hn he fun w hw=>by
 obtain⟨β1,sb,kn,hw1,back⟩:=St.frame_all hw
 exact hc w β1 sb kn hw1 back
theorem vS{k:Fm→Prop}{out:Fm→List bU}(e:g=f)(hk:k (dZ f d v))(h:EV P β L' g ⟨some d,op,ty,ps,af,none⟩ v)(hp:L'.Perm (out (dZ f d v)++M))(hL:L=L')(hn:Nat.blt d n=true:=by rfl):
  cE P ro n ds β ops (Qn (sT n ds β (some d) k f out M)) [⟨some d,op,ty,ps,af,none⟩] f L:=zH hL e (jW rfl rfl hn h (aH (aO e hk hp)))
theorem gO{k:Fm→Prop}{out:Fm→List bU}(e:g=f)(hk:k (dZ f d v))(h:EV P β M g ⟨some d,op,ty,ps,af,none⟩ v)(hp:M.Perm (out (dZ f d v)++M))(hL:L=M:=by rfl)(hn:Nat.blt d n=true:=by rfl):
  cE P ro n ds β ops (Qn (sT n ds β (some d) k f out M)) [⟨some d,op,ty,ps,af,none⟩] f L:=vS e hk h hp hL hn
theorem obg{j x:Nat}{b:Bool}{k:Fm→Prop}{out:Fm→List bU}(e:g=f)(h:EV P β L' g ⟨some d,op,ty,ps,af,some (j,b)⟩ v)(ho:(ops[j]?).bind (·.dst)=some x)(hf:g x= .bool b)(hn:Nat.blt d n=true)(hk:k (dZ f d v))(hp:L'.Perm (out (dZ f d v)++M))(hL:L=L'):
  cE P ro n ds β ops (Qn (sT n ds β (some d) k f out M)) [⟨some d,op,ty,ps,af,some (j,b)⟩] f L:=zH hL e (cU rfl ho hf rfl hn h (aH (aO e hk hp)))
end
class TyC (P:Program) (t:TypeId) (agg:outParam Bool) (n:outParam Nat):Prop where ok:tyB P t agg n=true:=by kernel_rfl
class FldC (P:Program) (s k:Nat) (off n:outParam Nat) (agg:outParam Bool):Prop where ok:aId P s k off n agg=true:=by kernel_rfl
class UndC (P:Program) (t:TypeId) (e:outParam TypeId):Prop where ok:P.underlying t=some (.slice e):=by kernel_rfl
class ZerC (P:Program) (t:Nat) (z:outParam Value):Prop where ok:(P.info? t).bind (·.zero)=some z:=by kernel_rfl
class CfC (P:Program) (g:FuncId):Prop where ok:cfB P g=true:=by kernel_rfl
class ArrC (P:Program) (t:Nat) (len e n:outParam Nat):Prop where ok:arB P t len e n=true:=by kernel_rfl
section
variable {P:Program}{β:Base}{f:Fm}{L:List bU}{d:Option Tmp}{ty:TypeId}{ps:String}{af:Array Edge}{g:Option (Nat×Bool)}{x y:Operand}
theorem aU{k:IntKind}{a:Int}(hx:ev f x= .int k a:=by first|rfl|assumption):EV P β L f ⟨d,.move x,ty,ps,af,g⟩ (.int k a):=hx▸cI
theorem bN{k:IntKind}{a:Int}(hx:ev f x= .int k a:=by first|rfl|assumption):EV P β L f ⟨d,.assign x,ty,ps,af,g⟩ (.int k a):=hx▸eC
theorem fM{c:Bool}(hx:ev f x= .bool c:=by first|rfl|assumption):EV P β L f ⟨d,.move x,ty,ps,af,g⟩ (.bool c):=hx▸cI
theorem dP{c:Bool}(hx:ev f x= .bool c:=by first|rfl|assumption):EV P β L f ⟨d,.assign x,ty,ps,af,g⟩ (.bool c):=hx▸eC
theorem dS{q:Option Addr}(hx:ev f x= .pointer q:=by first|rfl|assumption):EV P β L f ⟨d,.move x,ty,ps,af,g⟩ (.pointer q):=hx▸cI
theorem oap{q:Option Addr}(hx:ev f x= .pointer q:=by first|rfl|assumption):EV P β L f ⟨d,.assign x,ty,ps,af,g⟩ (.pointer q):=hx▸eC
theorem fL{q:Option Addr}{i j:Nat}(hx:ev f x= .slice q i j:=by first|rfl|assumption):EV P β L f ⟨d,.move x,ty,ps,af,g⟩ (.slice q i j):=hx▸cI
theorem iO{q:Option Addr}{i j:Nat}(hx:ev f x= .slice q i j:=by first|rfl|assumption):EV P β L f ⟨d,.assign x,ty,ps,af,g⟩ (.slice q i j):=hx▸eC
theorem oM{vs:Array Value}(hx:ev f x= .tuple vs:=by first|rfl|assumption):EV P β L f ⟨d,.move x,ty,ps,af,g⟩ (.tuple vs):=hx▸cI
theorem omf{fn:Fn}{vs us:Array Value}(hx:ev f x= .func fn vs us:=by first|rfl|assumption):EV P β L f ⟨d,.move x,ty,ps,af,g⟩ (.func fn vs us):=hx▸cI
theorem oaf{fn:Fn}{vs us:Array Value}(hx:ev f x= .func fn vs us:=by first|rfl|assumption):EV P β L f ⟨d,.assign x,ty,ps,af,g⟩ (.func fn vs us):=hx▸eC
theorem eF{c:Bool}{c0:Operand}(hc:ev f c0= .bool true:=by first|rfl|assumption)(hx:ev f x= .bool c:=by first|rfl|assumption):EV P β L f ⟨d,.pick c0 x y,ty,ps,af,g⟩ (.bool c):=hx▸mY hc
theorem dT{c:Bool}{c0:Operand}(hc:ev f c0= .bool false:=by first|rfl|assumption)(hx:ev f y= .bool c:=by first|rfl|assumption):EV P β L f ⟨d,.pick c0 x y,ty,ps,af,g⟩ (.bool c):=hx▸iL hc
theorem aY{s k off m:Nat}{ag:Bool}{b o:Nat}[h:FldC P s k off m ag](hx:ev f x= .pointer (some ⟨b,o,none⟩):=by first|rfl|assumption):EV P β L f ⟨d,.fieldAddr s x k,ty,ps,af,g⟩ (.pointer (some ⟨b,o+off,none⟩)):=aMx hx h.ok
theorem ofa{s k off m:Nat}{ag:Bool}{a:Addr}[h:FldC P s k off m ag](hx:ev f x= .pointer (some a):=by first|rfl|assumption):EV P β L f ⟨d,.fieldAddr s x k,ty,ps,af,g⟩ (.pointer (some (a.add off))):=rJ hx h.ok
theorem gY{a:Option Addr}{m c:Nat}{t e:TypeId}[h:UndC P t e](hx:ev f x= .slice a m c:=by first|rfl|assumption):EV P β L f ⟨d,.call ⟨.builtin .len,#[x],#[t]⟩,ty,ps,af,g⟩ (.int .i64 (m:Int)):=aZx hx h.ok
theorem eS{a:Addr}(hx:ev f x= .pointer (some a):=by first|rfl|assumption):EV P β L f ⟨d,.nilCheck x,ty,ps,af,g⟩ (.pointer (some a)):=bEk hx
theorem cY{t b o:Nat}{cs:Array Value}{T:TypeId}{fr:Nat×Nat}{k:IntKind}{a:Int}[h:TyC P t false 1](i0:Nat)(hx:ev f x= .pointer (some ⟨b,o,none⟩):=by first|rfl|assumption)(hi:L[i0]? =some (pt b (.cells cs T fr)):=by rfl)(hv:(cs.toList.drop o).take 1=[.int k a]:=by rfl):EV P β L f ⟨d,.load t x,ty,ps,af,g⟩ (.int k a):=bI h.ok hx (cD i0 hi hv)
theorem olb{t b o:Nat}{cs:Array Value}{T:TypeId}{fr:Nat×Nat}{c:Bool}[h:TyC P t false 1](i0:Nat)(hx:ev f x= .pointer (some ⟨b,o,none⟩):=by first|rfl|assumption)(hi:L[i0]? =some (pt b (.cells cs T fr)):=by rfl)(hv:(cs.toList.drop o).take 1=[.bool c]:=by rfl):EV P β L f ⟨d,.load t x,ty,ps,af,g⟩ (.bool c):=bI h.ok hx (cD i0 hi hv)
theorem iR{t b o:Nat}{cs:Array Value}{T:TypeId}{fr:Nat×Nat}{q:Option Addr}[h:TyC P t false 1](i0:Nat)(hx:ev f x= .pointer (some ⟨b,o,none⟩):=by first|rfl|assumption)(hi:L[i0]? =some (pt b (.cells cs T fr)):=by rfl)(hv:(cs.toList.drop o).take 1=[.pointer q]:=by rfl):EV P β L f ⟨d,.load t x,ty,ps,af,g⟩ (.pointer q):=bI h.ok hx (cD i0 hi hv)
theorem fQ{t b o:Nat}{cs:Array Value}{T:TypeId}{fr:Nat×Nat}{q:Option Addr}{i j:Nat}[h:TyC P t false 1](i0:Nat)(hx:ev f x= .pointer (some ⟨b,o,none⟩):=by first|rfl|assumption)(hi:L[i0]? =some (pt b (.cells cs T fr)):=by rfl)(hv:(cs.toList.drop o).take 1=[.slice q i j]:=by rfl):EV P β L f ⟨d,.load t x,ty,ps,af,g⟩ (.slice q i j):=bI h.ok hx (cD i0 hi hv)
theorem dK{t b o:Nat}{cs:Array Value}{T:TypeId}{fr:Nat×Nat}{m:Nat}{us:List Value}[h:TyC P t true m](i0:Nat)(hx:ev f x= .pointer (some ⟨b,o,none⟩):=by first|rfl|assumption)(hi:L[i0]? =some (pt b (.cells cs T fr)):=by rfl)(hv:(cs.toList.drop o).take m=us:=by rfl)(hl:us.length=m:=by rfl):EV P β L f ⟨d,.load t x,ty,ps,af,g⟩ (.agg us.toArray):=fV h.ok hx (cD i0 hi (by rw[hl];exact hv)) hl
theorem gN{t t':TypeId}{k:IntKind}{a b:Int}(hx:ev f x= .int k a:=by first|rfl|assumption)(hy:ev f y= .int k b:=by first|rfl|assumption):EV P β L f ⟨d,.binOp .lss t x y t',ty,ps,af,g⟩ (.bool (decide (a<b))):=aJz hx hy
theorem ole{t t':TypeId}{k:IntKind}{a b:Int}(hx:ev f x= .int k a:=by first|rfl|assumption)(hy:ev f y= .int k b:=by first|rfl|assumption):EV P β L f ⟨d,.binOp .leq t x y t',ty,ps,af,g⟩ (.bool (decide (a≤b))):=aZy hx hy
theorem oQ{t t':TypeId}{k:IntKind}{a b:Int}(hx:ev f x= .int k a:=by first|rfl|assumption)(hy:ev f y= .int k b:=by first|rfl|assumption):EV P β L f ⟨d,.binOp .gtr t x y t',ty,ps,af,g⟩ (.bool (decide (b<a))):=aZw hx hy
theorem oge{t t':TypeId}{k:IntKind}{a b:Int}(hx:ev f x= .int k a:=by first|rfl|assumption)(hy:ev f y= .int k b:=by first|rfl|assumption):EV P β L f ⟨d,.binOp .geq t x y t',ty,ps,af,g⟩ (.bool (decide (b≤a))):=bEi hx hy
theorem fD{t t':TypeId}{k:IntKind}{a b:Int}(hx:ev f x= .int k a:=by first|rfl|assumption)(hy:ev f y= .int k b:=by first|rfl|assumption):EV P β L f ⟨d,.binOp .eql t x y t',ty,ps,af,g⟩ (.bool (decide (a=b))):=dX hx hy
theorem lO{t t':TypeId}{k:IntKind}{a b:Int}(hx:ev f x= .int k a:=by first|rfl|assumption)(hy:ev f y= .int k b:=by first|rfl|assumption):EV P β L f ⟨d,.binOp .neq t x y t',ty,ps,af,g⟩ (.bool (decide (a≠b))):=aBi hx hy
theorem rF{t t':TypeId}{a b:Int}(hx:ev f x= .int .i64 a:=by first|rfl|assumption)(hy:ev f y= .int .i64 b:=by first|rfl|assumption)(h: -9223372036854775808≤a+b∧a+b≤9223372036854775807:=by omega):EV P β L f ⟨d,.binOp .add t x y t',ty,ps,af,g⟩ (.int .i64 (a+b)):=bO hx hy (rD h)
theorem omn{t t':TypeId}{a b:Int}(hx:ev f x= .int .i64 a:=by first|rfl|assumption)(hy:ev f y= .int .i64 b:=by first|rfl|assumption)(h: -9223372036854775808≤a-b∧a-b≤9223372036854775807:=by omega):EV P β L f ⟨d,.binOp .sub t x y t',ty,ps,af,g⟩ (.int .i64 (a-b)):=oX hx hy (rD h)
theorem otm{t t':TypeId}{a b:Int}(hx:ev f x= .int .i64 a:=by first|rfl|assumption)(hy:ev f y= .int .i64 b:=by first|rfl|assumption)(h: -9223372036854775808≤a*b∧a*b≤9223372036854775807:=by omega):EV P β L f ⟨d,.binOp .mul t x y t',ty,ps,af,g⟩ (.int .i64 (a*b)):=tC hx hy (rD h)
theorem opn{t t':TypeId}{a b:Nat}(hx:ev f x= .int .i64 (a:Int):=by rfl)(hy:ev f y= .int .i64 (b:Int):=by rfl)(h:a+b≤9223372036854775807:=by omega):EV P β L f ⟨d,.binOp .add t x y t',ty,ps,af,g⟩ (.int .i64 ((a+b:Nat):Int)):=bO hx hy (cW (by omega) h)
theorem mB{t:Nat}{c:Bool}(hx:ev f x= .bool c:=by first|rfl|assumption):EV P β L f ⟨d,.unOp .not t x,ty,ps,af,g⟩ (.bool (!c)):=aFw hx
theorem ond{t:Nat}{p:Prop}[Decidable p](hx:ev f x= .bool (decide p):=by first|rfl|assumption):EV P β L f ⟨d,.unOp .not t x,ty,ps,af,g⟩ (.bool (decide ¬p)):=aWa hx
theorem omx{k:IntKind}{a b:Int}{ts:Array TypeId}(hx:ev f x= .int k a:=by first|rfl|assumption)(hy:ev f y= .int k b:=by first|rfl|assumption):EV P β L f ⟨d,.call ⟨.builtin .max,#[x,y],ts⟩,ty,ps,af,g⟩ (.int k (max a b)):=bEj hx hy
theorem omz{k:IntKind}{a b:Int}{ts:Array TypeId}(hx:ev f x= .int k a:=by first|rfl|assumption)(hy:ev f y= .int k b:=by first|rfl|assumption):EV P β L f ⟨d,.call ⟨.builtin .min,#[x,y],ts⟩,ty,ps,af,g⟩ (.int k (min a b)):=aKa hx hy
theorem pW{us':Array Value}{i':Nat}{k:IntKind}{a:Int}(hx:ev f x= .tuple us':=by first|rfl|assumption)(hv:us'[i']? =some (.int k a):=by rfl):EV P β L f ⟨d,.extract x i',ty,ps,af,g⟩ (.int k a):=oW hx hv
theorem yA{us':Array Value}{i':Nat}{c:Bool}(hx:ev f x= .tuple us':=by first|rfl|assumption)(hv:us'[i']? =some (.bool c):=by rfl):EV P β L f ⟨d,.extract x i',ty,ps,af,g⟩ (.bool c):=oW hx hv
theorem oxp{us':Array Value}{i':Nat}{q:Option Addr}(hx:ev f x= .tuple us':=by first|rfl|assumption)(hv:us'[i']? =some (.pointer q):=by rfl):EV P β L f ⟨d,.extract x i',ty,ps,af,g⟩ (.pointer q):=oW hx hv
theorem oxs{us':Array Value}{i':Nat}{q:Option Addr}{i j:Nat}(hx:ev f x= .tuple us':=by first|rfl|assumption)(hv:us'[i']? =some (.slice q i j):=by rfl):EV P β L f ⟨d,.extract x i',ty,ps,af,g⟩ (.slice q i j):=oW hx hv
theorem rG{us':Array Value}{i':Nat}{vs:Array Value}(hx:ev f x= .tuple us':=by first|rfl|assumption)(hv:us'[i']? =some (.agg vs):=by rfl):EV P β L f ⟨d,.extract x i',ty,ps,af,g⟩ (.agg vs):=oW hx hv
end
section
variable {P:Program}{ro:Option Nat}{n:Nat}{ds:List Deferred}{β:Base}{Q:Exit→Act→World→Prop}{f:Fm}{L:List bU}{ops:Array Oper}{rest:List Oper}
variable {d:Nat}{op:Op}{ty:TypeId}{ps:String}{af:Array Edge}{v:Value}
theorem lE(h:EV P β L f ⟨some d,op,ty,ps,af,none⟩ v)(k:cE P ro n ds β ops Q rest (dZ f d v) L)(hn:Nat.blt d n=true:=by rfl):cE P ro n ds β ops Q (⟨some d,op,ty,ps,af,none⟩::rest) f L:=jW rfl rfl hn h k
theorem qE(h:EV P β L f ⟨some d,op,ty,ps,af,none⟩ v)(k:aAn P n ds β ops Q rest (dZ f d v) L)(hn:Nat.blt d n=true:=by rfl):aAn P n ds β ops Q (⟨some d,op,ty,ps,af,none⟩::rest) f L:=dU rfl rfl hn h k
theorem gE{j e:Nat}{b:Bool}(h:EV P β L f ⟨some d,op,ty,ps,af,some (j,b)⟩ v)(k:cE P ro n ds β ops Q rest (dZ f d v) L)(ho:(ops[j]?).bind (·.dst)=some e:=by rfl)(hf:f e= .bool b:=by rfl)(hn:Nat.blt d n=true:=by rfl):cE P ro n ds β ops Q (⟨some d,op,ty,ps,af,some (j,b)⟩::rest) f L:=cU rfl ho hf rfl hn h k
theorem gH{d:Option Tmp}{c:Operand}{xs:List Operand}{ts:Array TypeId}{g:FuncId}{vs:List Value}[h:CfC P g](hx:ev f c= .func (.func g) #[] #[]:=by rfl)(ha:xs.map (ev f)=vs:=by rfl):CL P f ⟨d,.call ⟨.value c,xs.toArray,ts⟩,ty,ps,af,none⟩ g vs.toArray:=cT h.ok hx ha
theorem gI{g:FuncId}{args:Array Value}{u:Value}(he:CL P f ⟨some d,op,ty,ps,af,none⟩ g args)(hc:∀w β1,jF β.heap β1.heap→(∀F,bH β L F→F β1.heap)→St β1 [] w→Calls P g args w fun r w'=>r= .returned u∧St β1 [] w')(k:cE P ro n ds β ops Q rest (dZ f d u) L)(hn:Nat.blt d n=true:=by rfl):
  cE P ro n ds β ops Q (⟨some d,op,ty,ps,af,none⟩::rest) f L:=pV he hn fun w β1 sb kn hw1 back=>(hc w β1 sb kn hw1).mono fun e w' ⟨h1,h2⟩=>⟨u,h1,L,back [] w' h2,k⟩
theorem kX{α:Type}(l:List α)(k:Nat)(h:k<l.length):∃x,l[k]? =some x:=⟨_,List.getElem?_eq_getElem h⟩
theorem gB{t:Nat}{z:Value}[h:ZerC P t z](k:∀b:Nat,cE P ro n ds β ops Q rest (dZ f d (.pointer (some ⟨b,0,none⟩))) (pt b (.cells z.cells t)::L))(hn:Nat.blt d n=true:=by rfl):cE P ro n ds β ops Q (⟨some d,.alloc t,ty,ps,af,none⟩::rest) f L:=
 dA rfl rfl hn (aWw h.ok) fun v L' ⟨b,h1,h2⟩=>by subst h1;subst h2;exact k b
theorem iP{j e:Nat}{b b':Bool}(k:cE P ro n ds β ops Q rest (dZ f d undef) L)(ho:(ops[j]?).bind (·.dst)=some e:=by rfl)(hf:f e= .bool b:=by rfl)(hb:(b==b')=false:=by rfl)(hn:Nat.blt d n=true:=by rfl):cE P ro n ds β ops Q (⟨some d,op,ty,ps,af,some (j,b')⟩::rest) f L:=cP rfl ho hf hb rfl hn k
theorem aT{M:List bU}{k:Fm→Prop}{out:Fm→List bU}(h:EV P β L f ⟨some d,op,ty,ps,af,none⟩ v)(hk:k (dZ f d v):=by rfl)(hp:L.Perm (out (dZ f d v)++M):=by first|exact List.Perm.refl _|exact aB 0 rfl)(hn:Nat.blt d n=true:=by rfl):
  cE P ro n ds β ops (Qn (sT n ds β (some d) k f out M)) [⟨some d,op,ty,ps,af,none⟩] f L:=vS rfl hk h hp rfl hn
theorem obG{M:List bU}{j e:Nat}{b:Bool}{k:Fm→Prop}{out:Fm→List bU}(h:EV P β L f ⟨some d,op,ty,ps,af,some (j,b)⟩ v)(ho:(ops[j]?).bind (·.dst)=some e:=by rfl)(hf:f e= .bool b:=by first|rfl|assumption)(hk:k (dZ f d v):=by rfl)(hp:L.Perm (out (dZ f d v)++M):=by first|exact List.Perm.refl _|exact aB 0 rfl)(hn:Nat.blt d n=true:=by rfl):
  cE P ro n ds β ops (Qn (sT n ds β (some d) k f out M)) [⟨some d,op,ty,ps,af,some (j,b)⟩] f L:=obg rfl h ho hf hn hk hp rfl
theorem bxp{t:Nat}{x:Operand}{q:Option Addr}(k':∀b0:Nat,cE P ro n ds β ops Q rest (dZ f d (.pointer (some ⟨b0,0,none⟩))) (pt b0 (.cells (Value.cells (.pointer q)) t)::L))(hx:ev f x= .pointer q:=by rfl)(hn:Nat.blt d n=true:=by rfl):cE P ro n ds β ops Q (⟨some d,.box t x,ty,ps,af,none⟩::rest) f L:=
 dA rfl rfl hn (zE hx) fun v L' ⟨b0,h1,h2⟩=>by subst h1;subst h2;exact k' b0
theorem bxs{t:Nat}{x:Operand}{q:Option Addr}{i j:Nat}(k':∀b0:Nat,cE P ro n ds β ops Q rest (dZ f d (.pointer (some ⟨b0,0,none⟩))) (pt b0 (.cells (Value.cells (.slice q i j)) t)::L))(hx:ev f x= .slice q i j:=by rfl)(hn:Nat.blt d n=true:=by rfl):cE P ro n ds β ops Q (⟨some d,.box t x,ty,ps,af,none⟩::rest) f L:=
 dA rfl rfl hn (zE hx) fun v L' ⟨b0,h1,h2⟩=>by subst h1;subst h2;exact k' b0
theorem mL{t:Nat}{x:Operand}{vs:Array Value}(k':∀b0:Nat,cE P ro n ds β ops Q rest (dZ f d (.pointer (some ⟨b0,0,none⟩))) (pt b0 (.cells (Value.cells (.agg vs)) t)::L))(hx:ev f x= .agg vs:=by rfl)(hn:Nat.blt d n=true:=by rfl):cE P ro n ds β ops Q (⟨some d,.box t x,ty,ps,af,none⟩::rest) f L:=
 dA rfl rfl hn (zE hx) fun v L' ⟨b0,h1,h2⟩=>by subst h1;subst h2;exact k' b0
end
section
variable {P:Program}{ro:Option Nat}{n:Nat}{ds:List Deferred}{β:Base}{Q:Exit→Act→World→Prop}
end
section
variable {P:Program}{β:Base}{f:Fm}{L:List bU}{d:Option Tmp}{ty:TypeId}{ps:String}{af:Array Edge}{g:Option (Nat×Bool)}{x y:Operand}
theorem bIh{s k off m o:Nat}{ag:Bool}{a:Addr}(hx:ev f x= .pointer (some (a.add o)))(h:aId P s k off m ag=true):EV P β L f ⟨d,.fieldAddr s x k,ty,ps,af,g⟩ (.pointer (some (a.add (o+off)))):=eZ (by rw[Addr.add_add']) (rJ hx h)
theorem sW{t e n k len cap:Nat}{a:Option Addr}(ht:lY P t e n=true)(ha:a=some (ba a))(hx:ev f x= .slice a len cap:=by first|rfl|assumption)(hy:ev f y= .int .i64 (k:Int):=by first|rfl|assumption)(hk:k<len:=by omega):EV P β L f ⟨d,.indexAddr t x y,ty,ps,af,g⟩ (.pointer (some ((ba a).add (k*n)))):=iQ hx hy ht hk ha
theorem mS{t T n b o:Nat}{ag:Bool}{cs:Array Value}(i:Nat)(cs':Array Value)[h:TyC P t ag n]{v:Value}(hx:ev f x= .pointer (some ⟨b,o,none⟩):=by rfl)(hi:L[i]? =some (pt b (.cells cs T)):=by rfl)
 (hy:ev f y=v:=by rfl)(hn:v.cells.size=n:=by rfl)(hfit:Nat.ble (o+n) cs.size=true:=by rfl)(h1:v.cells.toList.all (·.oneCell')=true:=by rfl)(hc:over cs o v.cells.toList=cs':=by rfl):
  MU P β L f ⟨d,.store t x y,ty,ps,af,g⟩ (L.set i (pt b (.cells cs' T))):=uT i h.ok hx hi hy hn hfit h1 hc
end
abbrev sv(d:Nat)(v:Value)(a n i:List Nat):Sp:=⟨a,n,i,[d],fun f=>f d=v⟩
abbrev tk(r:bU)(b:List Nat):Tok:=⟨none,none,b,[],fun _=>r⟩
section
variable {P:Program}{ro:Option Nat}{n:Nat}{ds:List Deferred}{β:Base}{Q:Exit→Act→World→Prop}
theorem cny{id:Nat}{ops:List Oper}{f:Fm}{L:List bU}(sps:List Sp)(toks:List Tok)(ini:List (Nat×Value))(fin:List Nat)(M:List bU)(hi:uC f ini)(ho:Obs P ro n ds β ops sps toks ini ops 0)
 (hQ:∀f',KEv sps f' sps→rA ini fin f'→iZ n ds β Q .normal f' (rs (nY toks) f'++M))(hm:P.follows .mixedOrders=true:=by kernel_rfl)
 (h1:qA ops sps ini=true:=by kernel_rfl)(h2:toks.all (mA ops sps)=true:=by kernel_rfl)(hf:fin.all (uO ops ini)=true:=by kernel_rfl)(hL:L=rs (nA toks) f++M:=by rfl):
  eE P ro n ds β (.region id ops.toArray true) Q f L:=aJr sps toks ini fin M hm h1 h2 hf hL hi ho hQ
end
theorem bJ{P:Program}{ro:Option Nat}{n:Nat}{ds:List Deferred}{β:Base}{Q:Exit→Act→World→Prop}{f:Fm}{L:List bU}{c:Code}(d:Nat){v:Value}(h:f d=v)(k:eE P ro n ds β c Q (dZ f d v) L):eE P ro n ds β c Q f L:=bCn h k
abbrev oP(P:Program)(g:FuncId)(a:Array Value)(β:Base)(w:World)(x:Value):Prop:=Calls P g a w fun r w'=>r= .returned x∧St β [] w'
open Go.RowKit
section
variable {P:Program}{ro:Option Nat}{n:Nat}{ds:List Deferred}{β:Base}{Q:Exit→Act→World→Prop}{f:Fm}{L:List bU}{ops:Array Oper}{rest:List Oper}
variable {d:Option Tmp}{ty:TypeId}{ps:String}{af:Array Edge}{g:Option (Nat×Bool)}
def dC:Value→Option Addr| .slice a _ _=>a|_=>none
def dE:Value→Nat| .slice _ _ c=>c|_=>0
theorem aWt{L':List bU}(hL:L=L')(k:cE P ro n ds β ops Q rest f L'):cE P ro n ds β ops Q rest f L:=by subst hL;exact k
theorem rC{c:Code}{L':List bU}(hL:L=L')(k:eE P ro n ds β c Q f L'):eE P ro n ds β c Q f L:=by subst hL;exact k
theorem aDl{L':List bU}(hp:L.Perm L')(k:cE P ro n ds β ops Q rest f L'):cE P ro n ds β ops Q rest f L:=fun a w ha hw=>k a w ha (hw.perm hp)
theorem bCg{α:Type}{enc:α→Value}{xs:List α}{k:Nat}{x:α}(h:xs[k]? =some x):((xs.map enc).drop (k*1)).take [enc x].length=[enc x]:=by
 have hlt:=(List.getElem?_eq_some_iff.1 h).1
 have hx:=(List.getElem?_eq_some_iff.1 h).2
 rw[Nat.mul_one,List.drop_eq_getElem_cons (by simpa using hlt)]
 simp[hx]
abbrev lS{α:Type}(enc:α→Value):Rp α:=Rp.flat 1 (fun x=>[enc x]) (fun _=>rfl)
theorem aKq{α:Type}{enc:α→Value}{b T:Nat}{fr:Nat×Nat}{xs:List α}(i:Nat)(hi:L[i]? =some (pt b (.cells (xs.map enc).toArray T fr))):bH β L (fun h=>dH (lS enc) h (some ⟨b,0,none⟩) xs):=
 bH.of_res i hi (dH.mono _ _ _) fun a h j x hx=>by
  refine⟨rfl,[enc x],?_,rfl⟩
  have e:(ba (some ⟨b,0,none⟩)).add (j*(lS enc).n)=⟨b,j,none⟩:=by
   show(⟨b,0,none⟩:Addr).add (j*1)=_
   rw[Nat.mul_one]
   unfold Addr.add;split<;>simp_all
  rw[e]
  refine Cs.of_pt h ?_
  have:=bCg (enc:=enc) hx
  rw[Nat.mul_one]at this
  simpa using this
theorem aVb{α:Type}{enc:α→Value}(h1:∀x,(enc x).oneCell'=true)(xs:List α):(xs.map enc).all (·.oneCell')=true:=by
 induction xs with
 |nil=>rfl
 |cons a l ih=>simp only[List.map_cons,List.all_cons,Bool.and_eq_true];exact⟨h1 a,ih⟩
theorem mO{α:Type}{enc:α→Value}{x y:Operand}{t e bytes m k c:Nat}{v:Value}{xs ys:List α}{ao:Option Addr}(i:Nat)(h1:∀x,(enc x).oneCell'=true)(hsl:lY P t e 1=true)(hel:vR P e 1 bytes=true)(hx:ev f x=v)(hi:L[i]? =some (row v e 1 m (xs.map enc)))
 (hm:xs.length=m)(hy:ev f y= .slice ao k c)(hl:ys.length=k)(hk:bH β L (fun h=>dH (lS enc) h ao ys))(hby:(m+k)*bytes≤140737488355328)(h63:m+k≤140737488355328):
  MV P β L f ⟨d,.call ⟨.builtin .append,#[x,y],#[t,t]⟩,ty,ps,af,g⟩ (fun v' L'=>∃p c,v'= .slice p (xs++ys).length c∧L'=L.set i (row (.slice p (xs++ys).length c) e 1 (xs++ys).length ((xs++ys).map enc))):=fun w hw=>by
 have hkk:=hw.knows hk
 have hcs:bH β L (fun h=>Cs h (ba ao) (ys.map enc)):=fun h hb hr=>wW (hk h hb hr)
 obtain⟨v',w',L',g1,g2,p,c',rfl,rfl⟩:=tN (P:=P) (ty:=ty) (ps:=ps) (af:=af) (g:=g) (d:=d) i hsl hel hx hi hy (by simp[hl]) hcs (aVb h1 ys) (fun h=>tL hkk (by omega)) (by unfold maxLen;omega) hby w hw
 have e1:(xs++ys).length=m+k:=by simp[hm,hl]
 rw[e1]
 exact⟨_,w',_,g1,g2,p,c',rfl,by rw[List.map_append]⟩
theorem sF(x:UInt8):(Bx x).oneCell'=true:=rfl
def aRh(P:Program)(t:TypeId):Bool:=match P.underlying t with|some (.interface _)=>false|some _=>true|none=>false
theorem aVx{t:TypeId}{x:Operand}{v:Value}(ht:aRh P t=true)(hx:ev f x=v):EV P β L f ⟨d,.makeInterface t x,ty,ps,af,g⟩ (.iface t v):=fun w _=>by
 unfold aRh at ht
 cases hu:P.underlying t with
 |none=>rw[hu]at ht;cases ht
 |some dd=>
  rw[hu]at ht
  cases dd<;>simp_all [execOp,Instr.makeInterface,run_underlying hu]
theorem aHz{x:Operand}{t1 t2 e m c:Nat}{a:Option Addr}{bs:Bs}(hx:ev f x= .slice a m c)(hl:bs.length=m)(h1:P.underlying t1=some (.slice e))(he:P.underlying e=some (.int .u8))(h2:P.underlying t2=some .string)
 (hk:bH β L (fun h=>dH iT h a bs)):EV P β L f ⟨d,.convert t1 t2 x,ty,ps,af,g⟩ (.string (str bs)):=fun w hw=>by
 subst hl
 have hkk:=hw.knows hk
 cases a with
 |none=>
  have hz:bs=[]:=by
   cases bs with
   |nil=>rfl
   |cons b l=>have:=tL hkk (by simp);cases this
  subst hz
  simp[execOp,hx,convert,run_underlying h1,run_underlying h2,run_underlying he]
  rfl
 |some ad=>
  have hc:Cs (ph w) ad (BX bs):=aQm hkk
  have hr:=run_convert_bytes_back (P:=P) w t1 t2 e ad c bs h1 he h2 fun j hj=>hc j _ (by simp[hj])
  simp[execOp,hx,hr]
theorem aLm:∀c,rT [Value.int .u8 0] c=BX (List.replicate c 0)
 |0=>rfl
 |c+1=>by unfold rT;rw[aLm c];rfl
theorem aKu{x y:Operand}{t e c:Nat}(hsl:lY P t e 1=true)(hel:vR P e 1 1=true)(hz:(P.info? e).bind (·.zero)=some (.int .u8 0))(hx:ev f x= .int .i64 (c:Int))(hy:ev f y= .int .i64 (c:Int))(h0:0<c)(hc:c≤140737488355328):
  MV P β L f ⟨d,.makeSlice t x y,ty,ps,af,g⟩ (fun u L'=>∃b,u= .slice (some ⟨b,0,none⟩) (List.replicate c (0:UInt8)).length c∧L'=row (.slice (some ⟨b,0,none⟩) (List.replicate c (0:UInt8)).length c) e 1 (List.replicate c (0:UInt8)).length (BX (List.replicate c 0))::L):=fun w hw=>by
 obtain⟨v,w',L',h1,h2,b,rfl,rfl⟩:=aKv (P:=P) (ty:=ty) (ps:=ps) (af:=af) (g:=g) (d:=d) hsl hel hz rfl hx hy (by omega) (by unfold maxLen;omega) (by omega) w hw
 have e1:(List.replicate c (0:UInt8)).length=c:=by simp
 rw[e1]
 have e2:rT (Value.int .u8 0).cells.toList c=BX (List.replicate c 0):=aLm c
 rw[e2]at h2
 exact⟨_,w',_,h1,h2,b,rfl,rfl⟩
end
theorem bBg{i:Nat}{s:List Nat}{f:Fm}:cut (i::s) f i=f i:=by simp[cut,mem]
theorem bBh{i a:Nat}{s:List Nat}{f:Fm}:cut (a::i::s) f i=f i:=by simp[cut,mem]
theorem bBi{i a b:Nat}{s:List Nat}{f:Fm}:cut (a::b::i::s) f i=f i:=by simp[cut,mem]
theorem bBj{i a b c:Nat}{s:List Nat}{f:Fm}:cut (a::b::c::i::s) f i=f i:=by simp[cut,mem]
theorem lt0:nY []=[]:=rfl
theorem lt1{p:Option Nat}{b s:List Nat}{r:Fm→bU}{l:List Tok}:nY (⟨p,none,b,s,r⟩::l)=⟨p,none,b,s,r⟩::nY l:=rfl
theorem lt2{p:Option Nat}{c:Nat}{b s:List Nat}{r:Fm→bU}{l:List Tok}:nY (⟨p,some c,b,s,r⟩::l)=nY l:=rfl
theorem rs0{f:Fm}:rs [] f=[]:=rfl
theorem rs1{p c:Option Nat}{b s:List Nat}{r:Fm→bU}{l:List Tok}{f:Fm}:rs (⟨p,c,b,s,r⟩::l) f=r (cut s f)::rs l f:=rfl
theorem mm0{i:Nat}:mem i []=false:=rfl
theorem mm1{i:Nat}{l:List Nat}:mem i (i::l)=true:=by simp[mem]
theorem mm2{i a:Nat}{l:List Nat}(h:i≠a):mem i (a::l)=mem i l:=by simp[mem,h]
theorem us0{i:Nat}:qZ [] i=[]:=rfl
theorem us1{i:Nat}{p c:Option Nat}{b s:List Nat}{r:Fm→bU}{l:List Tok}(h:mem i b=true):qZ (⟨p,c,b,s,r⟩::l) i=⟨p,c,b,s,r⟩::qZ l i:=by unfold qZ;rw[List.filter_cons,if_pos h]
theorem us2{i:Nat}{p c:Option Nat}{b s:List Nat}{r:Fm→bU}{l:List Tok}(h:mem i b=false):qZ (⟨p,c,b,s,r⟩::l) i=qZ l i:=by unfold qZ;rw[List.filter_cons,if_neg (by simp[h])]
abbrev u0:Option Nat×List Nat:=(none,[])
abbrev u1(b:List Nat):Option Nat×List Nat:=(none,b)
def tkz:List bU→List (Option Nat×List Nat)→List Tok
 |[],_=>[]
 |r::l,[]=>⟨none,none,[],[],fun _=>r⟩::tkz l []
 |r::l,(c,b)::u=>⟨none,c,b,[],fun _=>r⟩::tkz l u
theorem tz0{u:List (Option Nat×List Nat)}:tkz [] u=[]:=by unfold tkz;rfl
theorem tz1{r:bU}{l:List bU}:tkz (r::l) []=⟨none,none,[],[],fun _=>r⟩::tkz l []:=rfl
theorem tz2{r:bU}{l:List bU}{c:Option Nat}{b:List Nat}{u:List (Option Nat×List Nat)}:tkz (r::l) ((c,b)::u)=⟨none,c,b,[],fun _=>r⟩::tkz l u:=rfl
theorem aUo(f:Fm):∀(L:List bU) (u:List (Option Nat×List Nat)),rs (nA (tkz L u)) f=L
 |[],u=>by rw[tz0];rfl
 |r::l,[]=>congrArg (r:: ·) (aUo f l [])
 |r::l,(c,b)::u=>congrArg (r:: ·) (aUo f l u)
theorem bDi{new:List Tok}(h:new.all (fun t=>t.prod.isSome)=true)(L:List bU)(u:List (Option Nat×List Nat))(f:Fm):L=rs (nA (tkz L u++new)) f++[]:=by
 have h2:nA new=[]:=by
  unfold nA
  rw[List.filter_eq_nil_iff]
  intro t ht
  have:=List.all_eq_true.1 h t ht
  cases hp:t.prod with
  |none=>rw[hp]at this;cases this
  |some _=>simp
 rw[List.append_nil]
 unfold nA at h2⊢
 rw[List.filter_append,h2,List.append_nil]
 exact(aUo f L u).symm
section
variable {P:Program}{ro:Option Nat}{n:Nat}{ds:List Deferred}{β:Base}{Q:Exit→Act→World→Prop}{f g:Fm}{L L':List bU}{ops:Array Oper}{rest:List Oper}
theorem jD{e:Exit}(k:iZ n ds β Q e f L')(hL:L=L':=by first|(simp only[lt0,lt1,lt2,rs0,rs1,bBg,bBh,bBi,bBj,List.cons_append,List.nil_append,List.append_nil]<;>rfl)|rfl):iZ n ds β Q e f L:=bEm hL k
theorem lre(k:cE P ro n ds β ops Q rest f L')(hL:L=L':=by first|(simp only[lt0,lt1,lt2,rs0,rs1,bBg,bBh,bBi,bBj,List.cons_append,List.nil_append,List.append_nil]<;>rfl)|rfl):cE P ro n ds β ops Q rest f L:=aWt hL k
theorem tZ{e:Exit}(ix:List Nat)(m:Nat)(k:iZ n ds β Q e f L')(hL:ix.filterMap (L[·]?)=L':=by simp only[List.set_cons_zero,List.set_cons_succ,List.filterMap_cons,List.filterMap_nil,List.getElem?_cons_zero,List.getElem?_cons_succ]<;>rfl)(hm:L.length=m:=by rfl)(h:(List.range m).isPerm ix=true:=by kernel_rfl):iZ n ds β Q e f L:=aQr (aW ix m hm h hL) k
theorem dL(e:g=f)(k:cE P ro n ds β ops Q rest g L')(hL:L=L':=by first|(simp only[us0,us1,us2,mm0,mm1,mm2,ne_eq,Nat.reduceAdd,Nat.reduceEqDiff,not_false_eq_true,rs0,rs1,bBg,bBh,bBi,bBj,List.cons_append,List.nil_append]<;>rfl)|rfl):cE P ro n ds β ops Q rest f L:=zH hL e k
theorem jS{id:Nat}{ops:List Oper}{toks:List Tok}(sps:List Sp)(us:List (Option Nat×List Nat))(new:List Tok)(ini:List (Nat×Value))(fin:List Nat)(hi:uC f ini)(ho:Obs P ro n ds β ops sps toks ini ops 0)
 (hQ:∀f',KEv sps f' sps→rA ini fin f'→iZ n ds β Q .normal f' (rs (nY toks) f'++[]))(hL:L=L':=by first|(simp only[List.set_cons_zero,List.set_cons_succ]<;>rfl)|rfl)
 (hT:tkz L' us++new=toks:=by simp only[tz0,tz1,tz2,List.cons_append,List.nil_append,List.append_nil]<;>rfl)(hm:P.follows .mixedOrders=true:=by kernel_rfl)
 (h1:qA ops sps ini=true:=by kernel_rfl)(h2:toks.all (mA ops sps)=true:=by kernel_rfl)(hf:fin.all (uO ops ini)=true:=by kernel_rfl)(hn:new.all (fun t=>t.prod.isSome)=true:=by kernel_rfl):
  eE P ro n ds β (.region id ops.toArray true) Q f L:=by
 subst hL;subst hT
 exact aJr sps _ ini fin [] hm h1 h2 hf (bDi hn _ _ _) hi ho hQ
end
section
variable {P:Program}{n:Nat}{ds:List Deferred}{β:Base}{Q:Exit→Act→World→Prop}{f:Fm}{L:List bU}
theorem aVn{c:Code}(h:eE P none n ds β c (Exit.noGoto Q) f L):eE P none n ds β (.scope c) Q f L:=fun a w ha hw=>
 wpIn_wide.2 (wp_scope_straight (wpIn_wide.1 (h a w ha hw)))
theorem aVl{ro:Option Nat}{l:Nat}(h:iZ n ds β Q .normal f L):eE P ro n ds β (.label l) Q f L:=fun a w ha hw=>wpIn_label (h a w ha hw)
theorem aFz(h:iZ n ds β Q .ret f L):iZ n ds β (Exit.noGoto Q) .ret f L:=fun a w ha hw=>h a w ha hw
end
section
variable {P:Program}{β:Base}{f:Fm}{L:List bU}{d:Option Tmp}{ty:TypeId}{ps:String}{af:Array Edge}{g:Option (Nat×Bool)}{κ ν:Type}{K:MapK P κ ν}
theorem lG{x y z:Operand}{t b:Nat}{ks:List (κ×ν)}{k:κ}{v:ν}(i:Nat)(ht:t=K.t)(hx:ev f x= .map (some b))(hy:ev f y=K.enc k)(hv:ev f z=K.encv v)(hi:L[i]? =some (bB K b ks)):
  MU P β L f ⟨d,.insert t x y z,ty,ps,af,g⟩ (L.set i (bB K b (K.put ks k v))):=fun w hw=>
 rM (d:=d) (ty:=ty) (ps:=ps) (af:=af) (g:=g) i ht hx hy hv hi w hw
end
end Go.Sl
namespace Go.Td
open Go Go.Sl Go.Proofs
noncomputable def iS (ps:List (Int×KAm)) (n:Int):KAm:=(cC.look ps n).getD zeroA
noncomputable def addX (ps:List (Int×KAm)) (n:Int) (a:KAm):Bool:= !((iS ps n).plus a 1).within||(!(cC.look ps n).isSome&&decide (¬(iS ps n).plus a 1=zeroA)&&decide ((256:Int)≤(ps.length:Int)))
noncomputable def iI (ps:List (Int×KAm)) (n:Int) (a:KAm):List (Int×KAm):=if addX ps n a then ps else if(iS ps n).plus a 1=zeroA then ps else cC.put ps n ((iS ps n).plus a 1)
noncomputable def hO (ps:List (Int×KAm)) (n:Int) (a:KAm):Int:=if addX ps n a then 4 else 0
noncomputable def iW (ps:List (Int×KAm)) (n:Int) (a:KAm):Bool:= !((iS ps n).plus a (-1)).within
noncomputable def dQ (ps:List (Int×KAm)) (n:Int) (a:KAm):List (Int×KAm):=if iW ps n a then ps else if(iS ps n).plus a (-1)=zeroA then cC.del (cC.put ps n ((iS ps n).plus a (-1))) n else cC.put ps n ((iS ps n).plus a (-1))
noncomputable def eI (ps:List (Int×KAm)) (n:Int) (a:KAm):Int:=if iW ps n a then 330 else 0
structure KSt where
 ps:List (Int×KAm)
 hs:List (Int×KHo)
 last:Int
 su:KAm
abbrev vO(mp mh mm:Nat)(la:Int)(su:KAm):Array Value:= #[.map (some mp),.map (some mh),Ix la,Ix su.a0,Ix su.a1,Ix su.a2,Ix su.a3,.map (some mm)]
noncomputable def mF (s:KSt) (x:KAct):KSt×Int×Int:=(⟨iI s.ps x.owner x.a,s.hs,s.last,if hO s.ps x.owner x.a=0 then s.su.plus x.a 1 else s.su⟩,0,hO s.ps x.owner x.a)
noncomputable def mD (s:KSt) (x:KAct):KSt×Int×Int:=(⟨dQ s.ps x.owner x.a,s.hs,s.last,if eI s.ps x.owner x.a=0 then s.su.plus x.a (-1)else s.su⟩,0,eI s.ps x.owner x.a)
noncomputable def lA (s:KSt) (x:KAct):KSt×Int×Int:=
 if eI s.ps x.owner x.a=0 then(⟨iI (dQ s.ps x.owner x.a) x.other x.a,s.hs,s.last,s.su⟩,0,hO (dQ s.ps x.owner x.a) x.other x.a)
 else(⟨dQ s.ps x.owner x.a,s.hs,s.last,s.su⟩,0,eI s.ps x.owner x.a)
noncomputable def kI (s:KSt) (x:KAct):KSt×Int×Int:=
 if eI s.ps x.owner x.a=0 then
  if(128:Int)≤(s.hs.length:Int)then(⟨dQ s.ps x.owner x.a,s.hs,s.last,s.su⟩,0,5)
  else(⟨dQ s.ps x.owner x.a,bL.put s.hs (s.last+1) ⟨s.last+1,x.owner,x.a⟩,s.last+1,s.su⟩,s.last+1,0)
 else(⟨dQ s.ps x.owner x.a,s.hs,s.last,s.su⟩,0,eI s.ps x.owner x.a)
noncomputable def mM (hs:List (Int×KHo)) (n:Int):KHo:=(bL.look hs n).getD bE
noncomputable def eD (s:KSt) (hold other:Int):KSt×Int×Int:=
 if(bL.look s.hs hold).isSome then(⟨iI s.ps other (mM s.hs hold).a,bL.del s.hs hold,s.last,s.su⟩,0,hO s.ps other (mM s.hs hold).a)else(s,0,6)
noncomputable def nC (s:KSt) (x:KAct):KSt×Int×Int:=(s,0,eI s.ps x.owner x.a)
noncomputable def dB (s:KSt) (x:KAct):KSt×Int×Int:=
 if(x.kind.toNat:Int)=1 then mF s x else if(x.kind.toNat:Int)=2 then mD s x else if(x.kind.toNat:Int)=3 then lA s x else if(x.kind.toNat:Int)=4 then kI s x
 else if(x.kind.toNat:Int)=5 then eD s x.hold (mM s.hs x.hold).owner else if(x.kind.toNat:Int)=6 then eD s x.hold x.other else nC s x
noncomputable def jY (s0:KSt):KSt→List Int→Nat→List KAct→KSt×KRes
 |s,made,_,[]=>(s,⟨true,0,0,made⟩)
 |s,made,k,x::xs=>if(dB s x).2.2=0 then jY s0 (dB s x).1 (if 0<(dB s x).2.1 then made++[(dB s x).2.1]else made) (k+1) xs else(s0,⟨false,(k:Int),(dB s x).2.2,[]⟩)
noncomputable def aE (s:KSt) (acts:List KAct):KSt×KRes:=jY s s [] 0 acts
def okP(ps:List (Int×KAm)):Prop:=∀p∈ps,p.2.within=true
def okH(hs:List (Int×KHo)):Prop:=∀p∈hs,p.2.a.within=true
theorem mR{a:KAm}(h:a.within=true):a.bd 2147483647:=by
 unfold KAm.within inA at h
 simp only[Bool.and_eq_true,decide_eq_true_eq]at h
 unfold KAm.bd
 omega
theorem nR{a:KAm}{M N:Int}(h:a.bd M)(hMN:M≤N):a.bd N:=by unfold KAm.bd at*;omega
theorem aZk:zeroA.bd 4611686018427387903:=by unfold KAm.bd zeroA;decide
theorem oF:zeroA.within=true:=by decide
theorem aSl{ps:List (Int×KAm)}(h:okP ps)(n:Int):(iS ps n).within=true:=by
 unfold iS
 cases e:cC.look ps n with
 |none=>exact oF
 |some v=>exact h _ (kS e)
theorem bCj{hs:List (Int×KHo)}(h:okH hs)(n:Int):(mM hs n).a.within=true:=by
 unfold mM
 cases e:bL.look hs n with
 |none=>exact oF
 |some v=>exact h _ (kS e)
theorem tO{ps:List (Int×KAm)}(h:okP ps)(n:Int):((cC.look ps n).getD zeroA).bd 4611686018427387903:=nR (mR (aSl h n)) (by decide)
theorem bCk{hs:List (Int×KHo)}(h:okH hs)(n:Int):((bL.look hs n).getD bE).a.bd 4611686018427387903:=nR (mR (bCj h n)) (by decide)
section
variable {P:Program}{κ ν:Type}{K:MapK P κ ν}{ks:List (κ×ν)}{k:κ}{v:ν}{Q:ν→Prop}
theorem yB(h:∀p∈ks,Q p.2)(hv:Q v):∀p∈K.put ks k v,Q p.2:=by
 unfold MapK.put
 split
 ·intro p hp
  obtain⟨q,hq,rfl⟩:=List.mem_map.1 hp
  letI:=K.dec
  by_cases hk:q.1=k
  ·simp only[hk,if_true];exact hv
  ·simp only[hk,if_false];exact h q hq
 ·intro p hp
  rcases List.mem_append.1 hp with hp|hp
  ·exact h p hp
  ·rw[List.mem_singleton.1 hp];exact hv
theorem aJw(h:∀p∈ks,Q p.2):∀p∈K.del ks k,Q p.2:=fun p hp=>h p (List.mem_filter.1 hp).1
end
theorem aCw{ps:List (Int×KAm)}(h:okP ps)(n:Int)(a:KAm):okP (iI ps n a):=by
 unfold iI
 split
 ·exact h
 ·rename_i hx
  split
  ·exact h
  ·refine yB (Q:=fun z:KAm=>z.within=true) h ?_
   unfold addX at hx
   simp only[Bool.or_eq_true,Bool.not_eq_true',not_or]at hx
   simpa using hx.1
theorem rX{ps:List (Int×KAm)}(h:okP ps)(n:Int)(a:KAm):okP (dQ ps n a):=by
 unfold dQ
 split
 ·exact h
 ·rename_i hx
  have hw:((iS ps n).plus a (-1)).within=true:=by unfold iW at hx;simpa using hx
  split
  ·exact aJw (Q:=fun z:KAm=>z.within=true) (yB (Q:=fun z:KAm=>z.within=true) h hw)
  ·exact yB (Q:=fun z:KAm=>z.within=true) h hw
structure GoodS(s:KSt)(M:Int):Prop where
 p:okP s.ps
 h:okH s.hs
 su:s.su.bd M
 l0:0≤s.last
 lM:s.last≤M
theorem GoodS.le{s:KSt}{M N:Int}(h:GoodS s M)(hMN:M≤N):GoodS s N:=⟨h.p,h.h,nR h.su hMN,h.l0,by have:=h.lM;omega⟩
theorem aLf{a b:KAm}{M:Int}{s:Int}(hs:s=1∨s= -1)(ha:a.bd M)(hb:b.within=true):(a.plus b s).bd (M+2147483648):=by
 have hb:=mR hb
 unfold KAm.bd KAm.plus at*
 rcases hs with rfl|rfl<;>simp only[]<;>omega
theorem bHx{s:KSt}{M:Int}(h:GoodS s M)(n:Int)(a:KAm)(hs:List (Int×KHo))(hh:okH hs):GoodS ⟨iI s.ps n a,hs,s.last,s.su⟩ (M+2147483648):=⟨aCw h.p _ _,hh,nR h.su (by omega),h.l0,by have:=h.lM;simp only[];omega⟩
theorem aAu{s:KSt}{M:Int}{x:KAct}(h:GoodS s M)(hx:x.a.within=true):GoodS (dB s x).1 (M+2147483648):=by
 have hpay:∀q o,GoodS (eD s q o).1 (M+2147483648):=fun q o=>by
  unfold eD
  split
  ·exact bHx h _ _ _ (aJw (Q:=fun z:KHo=>z.a.within=true) h.h)
  ·exact h.le (by omega)
 have htk:GoodS ⟨dQ s.ps x.owner x.a,s.hs,s.last,s.su⟩ (M+2147483648):=⟨rX h.p _ _,h.h,nR h.su (by omega),h.l0,by have:=h.lM;simp only[];omega⟩
 unfold dB
 split
 ·refine⟨aCw h.p _ _,h.h,?_,h.l0,by have:=h.lM;simp only[mF];omega⟩
  simp only[mF]
  split
  ·exact aLf (.inl rfl) h.su hx
  ·exact nR h.su (by omega)
 ·split
  ·refine⟨rX h.p _ _,h.h,?_,h.l0,by have:=h.lM;simp only[mD];omega⟩
   simp only[mD]
   split
   ·exact aLf (.inr rfl) h.su hx
   ·exact nR h.su (by omega)
  ·split
   ·unfold lA
    split
    ·exact⟨aCw (rX h.p _ _) _ _,h.h,nR h.su (by omega),h.l0,by have:=h.lM;simp only[];omega⟩
    ·exact htk
   ·split
    ·unfold kI
     split
     ·split
      ·exact htk
      ·exact⟨rX h.p _ _,yB (Q:=fun z:KHo=>z.a.within=true) h.h hx,nR h.su (by omega),by have:=h.l0;simp only[];omega,by have:=h.lM;simp only[];omega⟩
     ·exact htk
    ·split
     ·exact hpay _ _
     ·split
      ·exact hpay _ _
      ·exact h.le (by omega)
theorem aLq{s0 s:KSt}{made:List Int}{k:Nat}{xs:List KAct}(h:xs.length≤k):jY s0 s made k (xs.drop k)=(s,⟨true,0,0,made⟩):=by
 rw[List.drop_eq_nil_of_le h];rfl
theorem aLp{s0 s:KSt}{made:List Int}{k:Nat}{xs:List KAct}{x:KAct}(hx:xs[k]? =some x)(he:¬(dB s x).2.2=0):jY s0 s made k (xs.drop k)=(s0,⟨false,(k:Int),(dB s x).2.2,[]⟩):=by
 obtain⟨hk,rfl⟩:=List.getElem?_eq_some_iff.1 hx
 rw[List.drop_eq_getElem_cons hk];exact if_neg he
theorem zY{s0 s:KSt}{made:List Int}{k:Nat}{xs:List KAct}{x:KAct}(hx:xs[k]? =some x)(he:(dB s x).2.2=0):jY s0 s made k (xs.drop k)=jY s0 (dB s x).1 (if 0<(dB s x).2.1 then made++[(dB s x).2.1]else made) (k+1) (xs.drop (k+1)):=by
 obtain⟨hk,rfl⟩:=List.getElem?_eq_some_iff.1 hx
 rw[List.drop_eq_getElem_cons hk];exact if_pos he
end Go.Td
namespace Go.Jn
open Go.Sl
def aXb(z:UInt64):UInt64:=
 let z:=(z^^^z>>>30)*0xbf58476d1ce4e5b9
 let z:=(z^^^z>>>27)*0x94d049bb133111eb
 z^^^z>>>31
def yL(d w:UInt64):UInt64:=aXb (d*0x9e3779b97f4a7c15+w+1)
def eV(t:Int):UInt64:=yL 0 (U t)
def xL(h:UInt64)(xs:List UInt64):UInt64:=xs.foldl (fun h w=>h*0x9e3779b97f4a7c15+w+1) h
def bCr(xs:List UInt64):UInt64:=aXb (xL 0 xs)
theorem aOb(h:UInt64)(xs:List UInt64)(x:UInt64):xL h (xs++[x])=xL h xs*0x9e3779b97f4a7c15+x+1:=by simp[xL]
def qT(s:ByteArray):List UInt64:=s.data.toList.map UInt8.toUInt64
def aSh(bs:Bs):UInt64:=bCr (qT (str bs))
def oG(h:UInt64)(bs:Bs):UInt64:=bs.foldl (fun n x=>(n<<<8)|||x.toUInt64) h
def bW(bs:Bs):UInt64:=oG 0 bs
theorem aJl(h:UInt64)(bs:Bs)(x:UInt8):oG h (bs++[x])=(oG h bs<<<8)|||x.toUInt64:=by simp[oG]
def be:Nat→UInt64→Bs
 |0,_=>[]
 |k+1,n=>(n>>>UInt64.ofNat (8*k)).toUInt8::be k n
theorem bX:∀(k:Nat) (n:UInt64),(be k n).length=k
 |0,_=>rfl
 |k+1,n=>by simp[be,bX k n]
def aDf(e n:Int)(bs:Bs):UInt64:=yL (yL (aSh bs) (U n)) (U e)
def bR(e n:Int)(bs:Bs):Bs:=be 4 (U (bs.length:Int))++be 4 (~~~(U (bs.length:Int)))++be 8 (U n)++bs++be 8 (aDf e n bs)
theorem dM(e n:Int)(bs:Bs):(bR e n bs).length=24+bs.length:=by simp[bR,bX];omega
def rsz(xs:Bs):UInt64:=bW (xs.take 4)
def rin(xs:Bs):UInt64:=bW ((xs.take 8).drop 4)
def rno(xs:Bs):UInt64:=bW ((xs.take 16).drop 8)
def mK(xs:Bs):Prop:=((xs.length:Nat):Int)<(24:Int)∨(((rsz xs^^^rin xs).toNat:Int)≠(4294967295:Int))∨(65536:Int)<((rsz xs).toNat:Int)∨((xs.length:Nat):Int)-(24:Int)<(((rsz xs).toNat:Nat):Int)∨(4611686018427387904:Int)<((rno xs).toNat:Int)
instance (xs:Bs):Decidable (mK xs):=by unfold mK;infer_instance
def rpl(xs:Bs):Bs:=(xs.take (16+(rsz xs).toNat)).drop 16
def aYa(xs:Bs):UInt64:=bW ((xs.take (24+(rsz xs).toNat)).drop (16+(rsz xs).toNat))
def iE(xs:Bs):Nat:=if mK xs then 0 else(rno xs).toNat
def bP(xs:Bs):Bs:=if mK xs then []else rpl xs
def kD(e:Int)(xs:Bs):Bool:=if mK xs then false else decide (aYa xs=aDf e ((rno xs).toNat:Int) (rpl xs))
def rR(a:Option Addr)(c:Nat)(xs:Bs):Option Addr:=if mK xs then none else sD a c 16 1
def rE(c:Nat)(xs:Bs):Nat:=if mK xs then 0 else c-16
theorem zT{e:Int}{xs:Bs}(h:kD e xs=true):24+(bP xs).length≤xs.length:=by
 unfold kD bP at*
 by_cases hb:mK xs
 ·rw[if_pos hb]at h;cases h
 ·rw[if_neg hb]
  unfold mK at hb
  simp only[not_or,Int.not_lt]at hb
  simp[rpl];omega
theorem tT{xs:Bs}:(bP xs).length≤65536:=by
 unfold bP
 by_cases hb:mK xs
 ·rw[if_pos hb];simp
 ·rw[if_neg hb]
  unfold mK at hb
  simp only[not_or,Int.not_lt]at hb
  simp[rpl];omega
theorem tS{xs:Bs}:iE xs≤4611686018427387904:=by
 unfold iE
 by_cases hb:mK xs
 ·rw[if_pos hb];omega
 ·rw[if_neg hb]
  unfold mK at hb
  simp only[not_or,Int.not_lt]at hb
  omega
theorem aNv{h:bQ}{a:Option Addr}{c:Nat}{xs:Bs}(hc:xs.length≤c)(he:dH iT h a xs):dH iT h (rR a c xs) (bP xs):=by
 unfold rR bP
 by_cases hb:mK xs
 ·rw[if_pos hb,if_pos hb];intro j x hx;simp at hx
 ·rw[if_neg hb,if_neg hb]
  have hb':=hb
  unfold mK at hb'
  simp only[not_or,Int.not_lt]at hb'
  exact dH.drop 16 (by simp;omega) (dH.take _ he)
theorem aXq{c:Nat}{xs:Bs}(hc:xs.length≤c):(bP xs).length≤rE c xs:=by
 unfold bP rE
 by_cases hb:mK xs
 ·rw[if_pos hb,if_pos hb];simp
 ·rw[if_neg hb,if_neg hb]
  unfold mK at hb
  simp only[not_or,Int.not_lt]at hb
  simp[rpl];omega
theorem aIw{h:bQ}{a:Option Addr}{c:Nat}{xs:Bs}(hc:xs.length≤c)(hm:c≤9223372036854775807)(he:dH iT h a xs):Sl iT h (.slice (rR a c xs) (bP xs).length (rE c xs)) (bP xs):=
 ⟨_,_,rfl,aXq hc,by unfold rE;split<;>omega,aNv hc he⟩
def oB(e:Int):Nat→Nat→Bs→List Bs
 |0,_,_=>[]
 |f+1,n,xs=>if kD e xs=true∧iE xs=n∧n≠4611686018427387904 then bP xs::oB e f (n+1) (xs.drop (24+(bP xs).length))else []
structure KS where
 head:Bs
 a:Bs
 b:Bs
 power:Int
 deriving DecidableEq
structure KI where
 epoch:Nat
 next:Nat
 state:Bs
 recs:List Bs
 size:Nat
 deriving DecidableEq
def KS.area(k:KS)(e:Nat):Bs:=if e%2=0 then k.a else k.b
def KS.setArea(k:KS)(e:Nat)(xs:Bs):KS:=if e%2=0 then{k with a:=xs}else{k with b:=xs}
def KS.okP(k:KS):Prop:=(k.head.length=0∨k.head.length=32)∧k.a.length≤262144∧k.b.length≤262144∧-1≤k.power
instance (k:KS):Decidable k.okP:=by unfold KS.okP;infer_instance
def qI(best:UInt64)(k:Nat)(head:Bs):UInt64:=
 let n:=bW ((head.take (k*16+8)).drop (k*16))
 let s:=bW ((head.take (k*16+16)).drop (k*16+8))
 if best<n∧n<4611686018427387904∧n%2=U (((k*16)/16:Nat):Int)∧s=eV (n.toNat:Int)then n else best
def eT(head:Bs):Nat→UInt64
 |0=>0
 |k+1=>qI (eT head k) k head
theorem wD(head:Bs):∀j,(eT head j).toNat<4611686018427387904
 |0=>by show(0:UInt64).toNat<_;decide
 |j+1=>by
  unfold eT qI
  simp only
  split
  ·rename_i h;exact h.2.1
  ·exact wD head j
theorem bBs{xs:Bs}{j:Nat}(h1:((eT xs j).toNat:Int)<((bW ((xs.take (j*16+8)).drop (j*16))).toNat:Int))(h2:((bW ((xs.take (j*16+8)).drop (j*16))).toNat:Int)<(4611686018427387904:Int))
 (h3:((bW ((xs.take (j*16+8)).drop (j*16))%(2:UInt64)).toNat:Int)=((U ((((j*16)/16:Nat):Int))).toNat:Int))(h4:((bW ((xs.take (j*16+16)).drop (j*16+8))).toNat:Int)=((eV (((bW ((xs.take (j*16+8)).drop (j*16))).toNat:Nat):Int)).toNat:Int)):
  eT xs (j+1)=bW ((xs.take (j*16+8)).drop (j*16)):=by
 have c1:eT xs j<bW ((xs.take (j*16+8)).drop (j*16)):=UInt64.lt_iff_toNat_lt.2 (by omega)
 have c2:bW ((xs.take (j*16+8)).drop (j*16))<4611686018427387904:=UInt64.lt_iff_toNat_lt.2 (by
  have h3:(4611686018427387904:UInt64).toNat=4611686018427387904:=rfl
  omega)
 have c3:=UInt64.toNat_inj.1 (Int.ofNat_inj.1 h3)
 have c4:=UInt64.toNat_inj.1 (Int.ofNat_inj.1 h4)
 show qI _ _ _=_
 unfold qI
 exact if_pos ⟨c1,c2,c3,c4⟩
theorem bBo{xs:Bs}{j:Nat}(h1:¬((eT xs j).toNat:Int)<((bW ((xs.take (j*16+8)).drop (j*16))).toNat:Int)):eT xs (j+1)=eT xs j:=by
 rw[eT,qI,if_neg]
 intro h;have:=UInt64.lt_iff_toNat_lt.1 h.1;omega
theorem bBp{xs:Bs}{j:Nat}(h2:¬((bW ((xs.take (j*16+8)).drop (j*16))).toNat:Int)<(4611686018427387904:Int)):eT xs (j+1)=eT xs j:=by
 rw[eT,qI,if_neg]
 intro h;have h1:=UInt64.lt_iff_toNat_lt.1 h.2.1
 have h3:(4611686018427387904:UInt64).toNat=4611686018427387904:=rfl
 omega
theorem bBq{xs:Bs}{j:Nat}(h3:¬((bW ((xs.take (j*16+8)).drop (j*16))%(2:UInt64)).toNat:Int)=((U ((((j*16)/16:Nat):Int))).toNat:Int)):eT xs (j+1)=eT xs j:=by
 rw[eT,qI,if_neg]
 intro h;exact h3 (by rw[h.2.2.1])
theorem bBr{xs:Bs}{j:Nat}(h4:¬((bW ((xs.take (j*16+16)).drop (j*16+8))).toNat:Int)=((eV (((bW ((xs.take (j*16+8)).drop (j*16))).toNat:Nat):Int)).toNat:Int)):eT xs (j+1)=eT xs j:=by
 rw[eT,qI,if_neg]
 intro h;exact h4 (by rw[h.2.2.2])
def bM(head:Bs):Nat:=(eT head (head.length/16)).toNat
def bK:List Bs→Nat
 |[]=>0
 |r::l=>24+r.length+bK l
def nE(e:Nat)(n:Nat)(xs:Bs):List Bs:=oB (e:Int) (xs.length+1) n xs
def pK(k:KS):Option KI:=
 let e:=bM k.head
 let ar:=k.area e
 if e=0 then some ⟨0,nE 0 0 ar|>.length,[],nE 0 0 ar,bK (nE 0 0 ar)⟩
 else if kD e ar=true then
  let sz:=24+(bP ar).length
  let rs:=nE e (iE ar) (ar.drop sz)
  some ⟨e,iE ar+rs.length,bP ar,rs,sz+bK rs⟩
 else none
def wr(xs:Bs)(at_:Nat):Bs→Bs
 |[]=>xs
 |b::bs=>wr (if at_<xs.length then xs.set at_ b else xs++[b]) (at_+1) bs
def pw(p:Int)(m:Nat):Nat:=if p<0 then m else min p.toNat m
def pl(p:Int)(m:Nat):Int:=if p<0 then p else p-(min p.toNat m:Nat)
end Go.Jn
