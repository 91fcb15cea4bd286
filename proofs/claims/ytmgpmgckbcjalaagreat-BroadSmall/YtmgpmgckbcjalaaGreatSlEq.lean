/-
  '==' on values without references: as their cells. Own work; plain Lean.
-/
import Derived.Test.YtmgpmgckbcjalaaGreatSlNum
import Derived.ChangeKeysEq
import Derived.Laws.StructEq
namespace Go.Sl
inductive K where
 |int (q:IntKind)|bool|str
 deriving DecidableEq
def kOf:Value→Option K
 | .int q _=>some (.int q)
 | .bool _=>some .bool
 | .string _=>some .str
 |_=>none
def szB(P:Program)(t:TypeId)(n:Nat):Bool:=match P.info? t with|some i=>i.size==n|none=>false
def layF(P:Program)(ly:TypeId→Option (List K)):List Field→Nat→Option (List K)
 |[],_=>some []
 |f::fs,off=>if f.name !="_"&&f.offset==off then
   match ly f.type with
   |some ks=>if szB P f.type ks.length then(layF P ly fs (off+ks.length)).map (ks++ ·)else none
   |none=>none
  else none
def lay(P:Program):Nat→TypeId→Option (List K)
 |0,_=>none
 |d+1,t=>
  match P.underlying t with
  |some .bool=>some [.bool]
  |some (.int q)=>some [.int q]
  |some .string=>some [.str]
  |some (.array n e)=>match lay P d e with
   |some ks=>if szB P e ks.length&& !ks.isEmpty then some (List.replicate n ks).flatten else none
   |none=>none
  |some (.struct fs)=>if P.stoodInHeld t then none else layF P (lay P d) fs.toList 0
  |_=>none
def isAggT(P:Program)(t:TypeId):Bool:=match P.underlying t with|some (.struct _)|some (.array _ _)=>true|_=>false
def valT(P:Program)(t:TypeId)(cs:List Value):Value:=if isAggT P t then .agg cs.toArray else cs.headD undef
section
variable {P:Program}
theorem szB_info{t n:Nat}(h:szB P t n=true):∃i,P.info? t=some i∧i.size=n:=by
 unfold szB at h
 cases hi:P.info? t with
 |none=>rw[hi]at h;cases h
 |some i=>rw[hi]at h;exact⟨i,rfl,by simpa using h⟩
theorem run_isAggT{t:TypeId}{d:TypeDesc}(hu:P.underlying t=some d)(w:World):(isAgg t).run P w= .ok (isAggT P t) w:=by
 unfold isAgg isAggT
 rw[Sem.run_bind,run_underlying hu w,hu]
 cases d<;>rfl
theorem run_part_t{t n:Nat}{d:TypeDesc}(hu:P.underlying t=some d)(hs:szB P t n=true)(h1:isAggT P t=false→n=1)(cs:Array Value)(off:Nat)(hb:off+n≤cs.size)(w:World):
  (part t cs off).run P w= .ok (valT P t ((cs.toList.drop off).take n)) w:=by
 obtain⟨i,hi,hn⟩:=szB_info hs
 unfold part valT
 rw[Sem.run_bind,run_isAggT hu w,Result.andThen_ok]
 cases ha:isAggT P t with
 |true=>
  simp only[if_true,Sem.run_bind,sizeOf,typeInfo,run_program,Result.andThen_ok,hi,Sem.run_pure,hn]
  congr 2
  apply Array.ext'
  simp[List.extract_eq_take_drop]
 |false=>
  have:=h1 ha
  subst this
  have hlt:off<cs.size:=by omega
  simp only[Bool.false_eq_true,if_false]
  rw[Array.getElem?_eq_getElem hlt]
  simp only[Sem.run_pure]
  congr 1
  rw[List.take_one,List.head?_drop]
  simp[hlt]
def EqT(P:Program)(d:Nat)(t:TypeId)(ks:List K):Prop:=
 ∀(w:World) (xs ys:List Value),xs.map kOf=ks.map some→ys.map kOf=ks.map some→∃r:Bool,(Op.equalIn d t (valT P t xs) (valT P t ys)).run P w= .ok r w∧(r=true↔xs=ys)
theorem lay_und{d:Nat}{t:TypeId}{ks:List K}(h:lay P d t=some ks):(∃dd,P.underlying t=some dd)∧(isAggT P t=false→ks.length=1):=by
 cases d with
 |zero=>cases h
 |succ d=>
  unfold lay at h
  cases hu:P.underlying t with
  |none=>rw[hu]at h;cases h
  |some dd=>
   refine⟨⟨dd,rfl⟩,fun ha=> ?_⟩
   rw[hu]at h
   unfold isAggT at ha
   rw[hu]at ha
   cases dd<;>simp at h ha<;>subst h<;>rfl
theorem map_take_drop{xs:List Value}{ks:List K}(h:xs.map kOf=ks.map some)(o n:Nat):((xs.drop o).take n).map kOf=((ks.drop o).take n).map some:=by
 simp only[List.map_take,List.map_drop,h]
theorem eq_fields{d:Nat}(ih:∀t ks,lay P d t=some ks→EqT P d t ks):∀(fs:List Field) (off:Nat) (ks:List K),layF P (lay P d) fs off=some ks→
  ∀(w:World) (X Y:Array Value) (kx:List K),X.toList.map kOf=kx.map some→Y.toList.map kOf=kx.map some→(kx.drop off).take ks.length=ks→off+ks.length≤kx.length→
   ∃r:Bool,(Op.eqFields d X Y fs).run P w= .ok r w∧(r=true↔(X.toList.drop off).take ks.length=(Y.toList.drop off).take ks.length)
 |[],off,ks,h,w,X,Y,kx,hX,hY,hk,hle=>by
  simp[layF]at h;subst h
  exact⟨true,rfl,by simp⟩
 |f::fs,off,ks,h,w,X,Y,kx,hX,hY,hk,hle=>by
  unfold layF at h
  cases hn:(f.name !="_"&&f.offset==off)with
  |false=>rw[hn]at h;simp at h
  |true=>
   rw[hn]at h
   simp only[if_true]at h
   simp only[Bool.and_eq_true,bne_iff_ne,ne_eq,beq_iff_eq]at hn
   obtain⟨hname,rfl⟩:=hn
   cases hl:lay P d f.type with
   |none=>rw[hl]at h;cases h
   |some k1=>
    rw[hl]at h
    simp only[]at h
    cases hz:szB P f.type k1.length with
    |false=>rw[hz]at h;simp at h
    |true=>
     rw[hz]at h
     simp only[if_true]at h
     cases hr:layF P (lay P d) fs (f.offset+k1.length)with
     |none=>rw[hr]at h;cases h
     |some k2=>
      rw[hr]at h
      simp only[Option.map_some,Option.some.injEq]at h
      subst h
      simp only[List.length_append]at hle hk⊢
      have hxl:X.toList.length=kx.length:=by have:=congrArg List.length hX;simpa using this
      have hyl:Y.toList.length=kx.length:=by have:=congrArg List.length hY;simpa using this
      obtain⟨⟨dd,hu⟩,h1⟩:=lay_und hl
      have px:=run_part_t hu hz h1 X f.offset (by rw[←Array.length_toList,hxl];omega) w
      have py:=run_part_t hu hz h1 Y f.offset (by rw[←Array.length_toList,hyl];omega) w
      have hk1:(kx.drop f.offset).take k1.length=k1:=by
       have:=congrArg (List.take k1.length) hk
       rw[List.take_take,Nat.min_eq_left (by omega)]at this
       simpa using this
      have hk2:(kx.drop (f.offset+k1.length)).take k2.length=k2:=by
       have:=congrArg (List.drop k1.length) hk
       rw[List.drop_take,List.drop_drop]at this
       simpa using this
      obtain⟨r1,e1,i1⟩:=ih f.type k1 hl w ((X.toList.drop f.offset).take k1.length) ((Y.toList.drop f.offset).take k1.length) (by rw[map_take_drop hX,hk1]) (by rw[map_take_drop hY,hk1])
      obtain⟨r2,e2,i2⟩:=eq_fields ih fs _ k2 hr w X Y kx hX hY hk2 (by omega)
      have split:∀Z:Array Value,(Z.toList.drop f.offset).take (k1.length+k2.length)=(Z.toList.drop f.offset).take k1.length++(Z.toList.drop (f.offset+k1.length)).take k2.length:=fun Z=>by
       rw[List.take_add,List.drop_drop]
      have lx:((X.toList.drop f.offset).take k1.length).length=((Y.toList.drop f.offset).take k1.length).length:=by simp only[List.length_take,List.length_drop];omega
      simp only[Op.eqFields,hname,ne_eq,not_false_eq_true,if_true,Sem.run_bind,px,py,Result.andThen_ok,e1]
      cases r1 with
      |false=>
       refine⟨false,by simp,?_⟩
       rw[split,split]
       constructor
       ·intro h;cases h
       ·intro h
        have:=(List.append_inj h lx).1
        exact absurd (i1.2 this) (by simp)
      |true=>
       refine⟨r2,by simpa using e2,?_⟩
       rw[split,split,i2]
       constructor
       ·intro h;rw[h,i1.1 rfl]
       ·intro h;exact(List.append_inj h lx).2
theorem eq_items{d:Nat}{e:TypeId}{k1:List K}(h0:¬k1.length=0)(ih:EqT P d e k1)(hl:lay P d e=some k1)(hz:szB P e k1.length=true):∀(n j:Nat) (w:World) (X Y:Array Value) (kx:List K),X.toList.map kOf=kx.map some→Y.toList.map kOf=kx.map some→
  kx.drop (j*k1.length)=(List.replicate n k1).flatten→
   ∃r:Bool,(Op.eqItems d e (P.cellsOf e) X Y (List.range' j n)).run P w= .ok r w∧(r=true↔X.toList.drop (j*k1.length)=Y.toList.drop (j*k1.length))
 |0,j,w,X,Y,kx,hX,hY,hk=>by
  have hx:X.toList.drop (j*k1.length)=[]:=by
   have h2:(X.toList.drop (j*k1.length)).map kOf=[]:=by rw[List.map_drop,hX,←List.map_drop,hk];rfl
   simpa using h2
  have hy:Y.toList.drop (j*k1.length)=[]:=by
   have h2:(Y.toList.drop (j*k1.length)).map kOf=[]:=by rw[List.map_drop,hY,←List.map_drop,hk];rfl
   simpa using h2
  exact⟨true,rfl,by simp[hx,hy]⟩
 |n+1,j,w,X,Y,kx,hX,hY,hk=>by
  have hc:P.cellsOf e=k1.length:=by
   obtain⟨i,hi,hs⟩:=szB_info hz
   simp[Program.cellsOf,hi,hs]
  have hxl:X.toList.length=kx.length:=by have:=congrArg List.length hX;simpa using this
  have hyl:Y.toList.length=kx.length:=by have:=congrArg List.length hY;simpa using this
  rw[List.replicate_succ,List.flatten_cons]at hk
  have hkl:kx.length-j*k1.length=k1.length+(List.replicate n k1).flatten.length:=by
   have:=congrArg List.length hk
   simpa using this
  have hle:k1.length=0∨j*k1.length+k1.length≤kx.length:=by omega
  obtain⟨⟨dd,hu⟩,h1⟩:=lay_und hl
  have hk1:(kx.drop (j*k1.length)).take k1.length=k1:=by rw[hk];simp
  have hk2:kx.drop ((j+1)*k1.length)=(List.replicate n k1).flatten:=by
   rw[Nat.add_mul,Nat.one_mul,←List.drop_drop,hk];simp
  have hle':j*k1.length+k1.length≤kx.length:=by omega
  have px:=run_part_t hu hz h1 X (j*k1.length) (by rw[←Array.length_toList,hxl];omega) w
  have py:=run_part_t hu hz h1 Y (j*k1.length) (by rw[←Array.length_toList,hyl];omega) w
  obtain⟨r1,e1,i1⟩:=ih w ((X.toList.drop (j*k1.length)).take k1.length) ((Y.toList.drop (j*k1.length)).take k1.length) (by rw[map_take_drop hX,hk1]) (by rw[map_take_drop hY,hk1])
  obtain⟨r2,e2,i2⟩:=eq_items h0 ih hl hz n (j+1) w X Y kx hX hY hk2
  have split:∀Z:Array Value,Z.toList.drop (j*k1.length)=(Z.toList.drop (j*k1.length)).take k1.length++Z.toList.drop ((j+1)*k1.length):=fun Z=>by
   rw[Nat.add_mul,Nat.one_mul,←List.drop_drop,List.take_append_drop]
  have lx:((X.toList.drop (j*k1.length)).take k1.length).length=((Y.toList.drop (j*k1.length)).take k1.length).length:=by simp only[List.length_take,List.length_drop];omega
  simp only[List.range'_succ,Op.eqItems,Sem.run_bind,hc,px,py,Result.andThen_ok,e1]
  rw[hc]at e2
  cases r1 with
  |false=>
   refine⟨false,by simp,?_⟩
   rw[split X,split Y]
   constructor
   ·intro h;cases h
   ·intro h
    have:=(List.append_inj h lx).1
    exact absurd (i1.2 this) (by simp)
  |true=>
   refine⟨r2,by simpa using e2,?_⟩
   rw[split X,split Y,i2]
   constructor
   ·intro h;rw[h,i1.1 rfl]
   ·intro h;exact(List.append_inj h lx).2
theorem eq_t:∀(d:Nat) (t:TypeId) (ks:List K),lay P d t=some ks→EqT P d t ks
 |0,t,ks,h=>by cases h
 |d+1,t,ks,h=>by
  have ih:=eq_t d
  intro w xs ys hx hy
  have h':=h
  unfold lay at h
  cases hu:P.underlying t with
  |none=>rw[hu]at h;cases h
  |some dd=>
   rw[hu]at h
   have leaf:ks.length=1→∃x y,xs=[x]∧ys=[y]:=fun h1=>by
    have lx:xs.length=1:=by have:=congrArg List.length hx;simp at this;omega
    have ly:ys.length=1:=by have:=congrArg List.length hy;simp at this;omega
    match xs,ys,lx,ly with
    |[x],[y],_,_=>exact⟨x,y,rfl,rfl⟩
   have hxl:xs.length=ks.length:=by have:=congrArg List.length hx;simpa using this
   have hyl:ys.length=ks.length:=by have:=congrArg List.length hy;simpa using this
   cases dd<;>simp only[]at h<;>try (cases h;done)
   case bool=>
    cases h
    obtain⟨x,y,rfl,rfl⟩:=leaf rfl
    simp at hx hy
    cases x<;>simp[kOf]at hx
    cases y<;>simp[kOf]at hy
    rename_i a b
    exact⟨a==b,by simp[valT,isAggT,hu,Op.equalIn,run_underlying hu],by simp⟩
   case int q=>
    cases h
    obtain⟨x,y,rfl,rfl⟩:=leaf rfl
    simp at hx hy
    cases x<;>simp[kOf]at hx
    cases y<;>simp[kOf]at hy
    subst hx;subst hy
    rename_i a j b
    exact⟨a==b,by simp[valT,isAggT,hu,Op.equalIn,run_underlying hu],by simp⟩
   case string=>
    cases h
    obtain⟨x,y,rfl,rfl⟩:=leaf rfl
    simp at hx hy
    cases x<;>simp[kOf]at hx
    cases y<;>simp[kOf]at hy
    rename_i a b
    exact⟨a==b,by simp[valT,isAggT,hu,Op.equalIn,run_underlying hu],by
     rw[beq_toListBytes,ByteArray.toList_eq,ByteArray.toList_eq]
     obtain⟨⟨a⟩⟩:=a
     obtain⟨⟨b⟩⟩:=b
     simp⟩
   case array n e=>
    cases hl:lay P d e with
    |none=>rw[hl]at h;cases h
    |some k1=>
     rw[hl]at h
     simp only[]at h
     cases hzz:(szB P e k1.length&& !k1.isEmpty)with
     |false=>rw[hzz]at h;simp at h
     |true=>
      rw[hzz]at h
      simp only[if_true,Option.some.injEq]at h
      subst h
      simp only[Bool.and_eq_true,Bool.not_eq_true']at hzz
      obtain⟨hz,hne⟩:=hzz
      obtain⟨i,hi,hs⟩:=szB_info hz
      have e0:valT P t xs= .agg xs.toArray:=by simp[valT,isAggT,hu]
      have e1:valT P t ys= .agg ys.toArray:=by simp[valT,isAggT,hu]
      rw[e0,e1,run_equalIn_array w d xs.toArray ys.toArray hu hi]
      obtain⟨r,hr,hiff⟩:=eq_items (by simpa using hne) (ih e k1 hl) hl hz n 0 w xs.toArray ys.toArray _ hx hy (by simp)
      refine⟨r,by rw[List.range_eq_range'];exact hr,by simpa using hiff⟩
   case struct fs=>
    cases hp:P.stoodInHeld t with
    |true=>rw[hp]at h;simp at h
    |false=>
     rw[hp]at h
     simp only[Bool.false_eq_true,if_false]at h
     have hf:P.fieldsOf t=fs:=by simp[Program.fieldsOf,hu]
     have e0:valT P t xs= .agg xs.toArray:=by simp[valT,isAggT,hu]
     have e1:valT P t ys= .agg ys.toArray:=by simp[valT,isAggT,hu]
     rw[e0,e1,run_equalIn_struct w d t xs.toArray ys.toArray (by rw[hf];exact hu) hp,hf]
     obtain⟨r,hr,hiff⟩:=eq_fields ih fs.toList 0 ks h w xs.toArray ys.toArray ks hx hy (by simp) (by omega)
     refine⟨r,hr,?_⟩
     rw[hiff]
     simp only[List.drop_zero]
     rw[List.take_of_length_le (by omega),List.take_of_length_le (by omega)]
variable {β:Base}{L:List Res}{f:Fm}{d:Option Tmp}{ty:TypeId}{ps:String}{af:Array Edge}{g:Option (Nat×Bool)}
theorem run_eql_t{t:TypeId}{ks:List K}{xs ys:List Value}(hl:lay P 10000 t=some ks)(ha:isAggT P t=true)(hx:xs.map kOf=ks.map some)(hy:ys.map kOf=ks.map some)(w:World):
  ∃r:Bool,(Op.equalIn 10000 t (.agg xs.toArray) (.agg ys.toArray)).run P w= .ok r w∧(r=true↔xs=ys):=by
 have h:=eq_t 10000 t ks hl w xs ys hx hy
 simpa only[valT,ha,if_true]using h
theorem e_eql_t{t t':TypeId}{x y:Operand}{ks:List K}{xs ys:List Value}{p:Prop}[Decidable p](hl:lay P 10000 t=some ks)(ha:isAggT P t=true)(hg:P.eqGuardType P.depth t=false)
 (hx:ev f x= .agg xs.toArray)(hy:ev f y= .agg ys.toArray)(kx:xs.map kOf=ks.map some)(ky:ys.map kOf=ks.map some)(hp:xs=ys↔p):EV P β L f ⟨d,.binOp .eql t x y t',ty,ps,af,g⟩ (.bool (decide p)):=fun w _=>by
 obtain⟨r,hr,hi⟩:=run_eql_t hl ha kx ky w
 have e:r=decide p:=by
  cases r
  ·rw[decide_eq_false];intro h;exact absurd (hi.2 (hp.2 h)) (by simp)
  ·rw[decide_eq_true (hp.1 (hi.1 rfl))]
 simp only[execOp,hx,hy,Sem.run_bind,run_eqGuard_agg w _ t x y xs.toArray ys.toArray hg,Result.andThen_ok,run_eql_struct,hr,e]
 rfl
theorem e_neq_t{t t':TypeId}{x y:Operand}{ks:List K}{xs ys:List Value}{p:Prop}[Decidable p](hl:lay P 10000 t=some ks)(ha:isAggT P t=true)(hg:P.eqGuardType P.depth t=false)
 (hx:ev f x= .agg xs.toArray)(hy:ev f y= .agg ys.toArray)(kx:xs.map kOf=ks.map some)(ky:ys.map kOf=ks.map some)(hp:¬(xs=ys)↔p):EV P β L f ⟨d,.binOp .neq t x y t',ty,ps,af,g⟩ (.bool (decide p)):=fun w _=>by
 obtain⟨r,hr,hi⟩:=run_eql_t hl ha kx ky w
 have e:(!r)=decide p:=by
  cases r
  ·have h:p:=hp.1 fun h=>absurd (hi.2 h) (by simp)
   rw[decide_eq_true h];rfl
  ·have h:¬p:=fun h=>(hp.2 h) (hi.1 rfl)
   rw[decide_eq_false h];rfl
 simp only[execOp,hx,hy,Sem.run_bind,run_eqGuard_agg w _ t x y xs.toArray ys.toArray hg,Result.andThen_ok,run_neq_struct,hr,e]
 rfl
end
end Go.Sl
