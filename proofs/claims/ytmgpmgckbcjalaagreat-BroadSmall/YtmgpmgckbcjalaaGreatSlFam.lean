/-
  Own work; plain Lean (SlBuild, SlSlice, SlCells, SlMore, SlMake, SlFam).
-/
import Derived.Test.YtmgpmgckbcjalaaGreatSlAny
namespace Go.Sl
section
variable {P:Program}{ro:Option Nat}{n:Nat}{ds:List Deferred}{β:Base}{Q:Exit→Act→World→Prop}{f:Fm}{L:List Res}{ops:Array Oper}{rest:List Oper}
variable {d:Option Tmp}{ty:TypeId}{ps:String}{af:Array Edge}{g:Option (Nat×Bool)}
def placesB(P:Program):List Field→List (Nat×Nat)→Bool
 |[],[]=>true
 |x::l,(o,s)::m=>Nat.beq x.offset o&&(match P.info? x.type with|some i=>Nat.beq i.size s|none=>false)&&placesB P l m
 |_,_=>false
def stB(P:Program)(t:Nat)(pl:List (Nat×Nat)):Bool:=
 match P.underlying t with
 |some (.struct fs)=>placesB P fs.toList pl
 |_=>false
theorem run_places{w:World}:∀(l:List Field) (m:List (Nat×Nat)),placesB P l m=true→(l.mapM fun x=>do pure (x.offset,←sizeOf x.type):Sem (List (Nat×Nat))).run P w= .ok m w
 |[],[],_=>by simp
 |[],_::_,h=>by simp[placesB]at h
 |_::_,[],h=>by simp[placesB]at h
 |x::l,(o,s)::m,h=>by
  simp only[placesB,Bool.and_eq_true]at h
  obtain⟨⟨h1,h2⟩,h3⟩:=h
  cases hi:P.info? x.type with
  |none=>rw[hi]at h2;cases h2
  |some i=>
   rw[hi]at h2
   have e1:=Nat.eq_of_beq_eq_true h1
   have e2:=Nat.eq_of_beq_eq_true h2
   have ih:=run_places (w:=w) l m h3
   have hs:(sizeOf x.type).run P w= .ok s w:=by simp[sizeOf,typeInfo,hi,e2]
   rw[List.mapM_cons,Sem.run_bind,Sem.run_bind,hs]
   simp only[Result.andThen_ok,Sem.run_pure]
   rw[Sem.run_bind,ih]
   simp[e1]
theorem e_build{t:Nat}{parts:List (Nat×Operand)}{z:Value}{pl:List (Nat×Nat)}{vs:List (Nat×Value)}{cells:Array Value}(hz:(P.info? t).bind (·.zero)=some z)(ht:stB P t pl=true)
 (hp:(parts.map fun(i,x)=>(i,ev f x))=vs)(hf:Instr.fill (pl[·]?) z.cells vs=some cells):EV P β L f ⟨d,.build t parts.toArray,ty,ps,af,g⟩ (.agg cells):=fun w _=>by
 unfold stB at ht
 cases hu:P.underlying t with
 |none=>rw[hu]at ht;cases ht
 |some dd=>
  rw[hu]at ht
  cases dd<;>simp only[]at ht<;>try (cases ht)
  rename_i fs
  cases hi:P.info? t with
  |none=>rw[hi]at hz;cases hz
  |some i=>
   rw[hi]at hz
   have hz':i.zero=some z:=by simpa using hz
   have hzv:(zeroValue t).run P w= .ok z w:=by simp[zeroValue,typeInfo,hi,hz']
   have hpl:=run_places (w:=w) _ _ ht
   have hm:(fs.mapM fun x=>do pure (x.offset,←sizeOf x.type):Sem (Array (Nat×Nat))).run P w= .ok pl.toArray w:=by
    rw[Array.mapM_eq_mapM_toList,map_eq_pure_bind,Sem.run_bind,hpl]
    simp
   simp only[execOp,Instr.build,Sem.run_bind,hzv,Result.andThen_ok,run_underlying hu,hm]
   simp[hp,hf]
def rsv:List Value→Value
 |[v]=>v
 |vs=> .tuple vs.toArray
def rdSem(tmps:Array Value):ResultVar→Sem Value
 | .tmp t=>pure (tmps.getD t undef)
 | .cell a t=>do loadVar t (←asAddr (tmps.getD a undef))
def Rd(P:Program)(β:Base)(L:List Res)(f:Fm)(r:ResultVar)(v:Value):Prop:=
 ∀(a:Act) w,(∀i,a.tmps.getD i undef=f i)→St β L w→(rdSem a.tmps r).run P w= .ok v w
def Rds(P:Program)(β:Base)(L:List Res)(f:Fm):List ResultVar→List Value→Prop
 |[],[]=>True
 |r::l,v::m=>Rd P β L f r v∧Rds P β L f l m
 |_,_=>False
theorem rd_tmp{t:Nat}{v:Value}(h:f t=v):Rd P β L f (.tmp t) v:=fun a w ha _=>by simp[rdSem,ha,h]
theorem rd_cell{x t n:Nat}{a:Addr}{cs:List Value}(ht:tyB P t true n=true)(hx:f x= .pointer (some a))(hk:Knows β L (fun h=>Cs h a cs))(hl:cs.length=n):Rd P β L f (.cell x t) (.agg cs.toArray):=fun b w ha hw=>by
 have h:=(run_loadVar_cs (tyF ht) (hw.knows hk) hl).1 rfl
 simp[rdSem,ha,hx,asAddr,h]
theorem run_rds{a:Act}{w:World}(ha:∀i,a.tmps.getD i undef=f i)(hw:St β L w):∀(l:List ResultVar) (m:List Value),Rds P β L f l m→(l.mapM (rdSem a.tmps)).run P w= .ok m w
 |[],[],_=>by simp
 |[],_::_,h=>h.elim
 |_::_,[],h=>h.elim
 |r::l,v::m,h=>by
  rw[List.mapM_cons,Sem.run_bind,h.1 a w ha hw]
  simp only[Result.andThen_ok]
  rw[Sem.run_bind,run_rds ha hw l m h.2]
  simp
theorem run_results{fn:Func}{a:Act}{w:World}{l:List ResultVar}{m:List Value}(hr:fn.results=l.toArray)(ha:∀i,a.tmps.getD i undef=f i)(hw:St β L w)(h:Rds P β L f l m):(results fn a.tmps).run P w= .ok (rsv m) w:=by
 have hm:(fn.results.mapM (rdSem a.tmps)).run P w= .ok m.toArray w:=by
  rw[hr,Array.mapM_eq_mapM_toList,map_eq_pure_bind,Sem.run_bind,run_rds ha hw l m h]
  simp
 have he:results fn a.tmps=(do
   let vs ←fn.results.mapM (rdSem a.tmps)
   pure (if h:vs.size=1 then vs[0]else .tuple vs)):=rfl
 rw[he,Sem.run_bind,hm]
 simp only[Result.andThen_ok,Sem.run_pure]
 match m with
 |[]=>simp[rsv]
 |[v]=>simp[rsv]
 |v::v'::m=>simp[rsv]
theorem retG{fn:Func}{R:Ending→World→Prop}{l:List ResultVar}{m:List Value}{v:Value}(hr:fn.results=l.toArray)(h:Rds P β L f l m)(hv:rsv m=v)(hR:∀w,St β L w→R (.returned v) w):Fin n [] β (bodyPost P fn R) .ret f L:=
 fun a w ha hw=>bodyPost_ret (v:=v) (by rw[run_results hr ha.get hw h,hv]) ha.defers (hR w hw)
theorem ev_eq{o:Oper}{v v':Value}(h:v=v')(e:EV P β L f o v):EV P β L f o v':=by subst h;exact e
theorem c_perm{c:Code}{L':List Res}(hp:L.Perm L')(k:RunC P ro n ds β c Q f L'):RunC P ro n ds β c Q f L:=fun a w ha hw=>k a w ha (hw.perm hp)
def repL(l:List Value):Nat→List Value
 |0=>[]
 |k+1=>l++repL l k
theorem repL_length(l:List Value):∀k,(repL l k).length=k*l.length
 |0=>by simp[repL]
 |k+1=>by simp[repL,repL_length l k,Nat.add_mul,Nat.add_comm]
theorem repL_get(l:List Value):∀(k i:Nat),i<k*l.length→(repL l k)[i]? =l[i%l.length]?
 |0,i,h=>by simp at h
 |k+1,i,h=>by
  unfold repL
  by_cases hi:i<l.length
  ·rw[List.getElem?_append_left hi,Nat.mod_eq_of_lt hi]
  ·have hl:l.length≤i:=by omega
   rw[List.getElem?_append_right hl,repL_get l k (i-l.length) (by rw[Nat.add_mul]at h;omega),Nat.mod_eq_sub_mod hl]
theorem rep_eq(cs:Array Value)(k:Nat):(Array.range (k*cs.size)).map (cs[· %cs.size]!)=(repL cs.toList k).toArray:=by
 apply Array.ext
 ·simp[repL_length]
 ·intro i h1 h2
  have hi:i<k*cs.size:=by simpa using h1
  have hs:0<cs.size:=by
   rcases Nat.eq_zero_or_pos cs.size with h|h
   ·rw[h]at hi;simp at hi
   ·exact h
  have hg:=repL_get cs.toList k i (by simpa using hi)
  have hm:i%cs.size<cs.size:=Nat.mod_lt _ hs
  simp only[Array.length_toList,Array.getElem?_toList]at hg
  rw[Array.getElem?_eq_getElem hm]at hg
  have h2':i<(repL cs.toList k).length:=by simpa using h2
  rw[List.getElem?_eq_getElem h2']at hg
  simp only[Array.getElem_map,Array.getElem_range,List.getElem_toArray]
  rw[getElem!_pos cs _ hm]
  exact(Option.some.inj hg).symm
theorem m_slices{t e n len:Nat}{parts:List (Nat×Operand)}{z:Value}{vs:List (Nat×Value)}{cells:Array Value}(hsl:slB P t e n=true)(hz:(P.info? e).bind (·.zero)=some z)(hn:z.cells.size=n)
 (hp:(parts.map fun(i,x)=>(i,ev f x))=vs)(hs:(Nat.ble 1 (len*n)&&Nat.ble (len*n) 16777216)=true)
 (hf:Instr.fill (fun i=>some (i*n,n)) (repL z.cells.toList len).toArray vs=some cells):
  MV P β L f ⟨d,.buildSlice t len parts.toArray,ty,ps,af,g⟩ (fun u L'=>∃b,u= .slice (some ⟨b,0,none⟩) len len∧L'=pt b (.cells cells e)::L):=by
 subst hn
 exact m_slice hsl hz hp hs (by rw[rep_eq];exact hf)
theorem f_perm{e:Exit}{L':List Res}(hp:L.Perm L')(k:Fin n ds β Q e f L'):Fin n ds β Q e f L:=fun a w ha hw=>k a w ha (hw.perm hp)
theorem St.merge{M:List Res}{w:World}{r:Res}(h:St β (L++M) w)(hr:∀a,Sat L a→r a):St β (r::M) w:=by
 obtain⟨ho,ht,hp,a,hd,hs,hs',hL⟩:=h
 obtain⟨x,y,hab,ha,hb,hLa,hMb⟩:=Sat.append.1 hL
 exact⟨ho,ht,hp,a,hd,hs,hs',x,y,hab,ha,hb,hr x hLa,hMb⟩
theorem e_not_p{x:Operand}{t:Nat}{p:Prop}[Decidable p](hx:ev f x= .bool (decide p)):EV P β L f ⟨d,.unOp .not t x,ty,ps,af,g⟩ (.bool (decide ¬p)):=
 ev_eq (by rw[decide_not]) (e_not (a:=decide p) hx)
theorem Sl.nil{α:Type}(R:Rp α)(h:PHeap):Sl R h (.slice none 0 0) []:=⟨none,0,rfl,Nat.le_refl _,by omega,fun j x hj=>by simp at hj⟩
end
end Go.Sl
namespace Go.Sl
section
variable {P:Program}{ro:Option Nat}{n:Nat}{ds:List Deferred}{β:Base}{Q:Exit→Act→World→Prop}{f:Fm}{L:List Res}{ops:Array Oper}{rest:List Oper}
variable {d:Option Tmp}{ty:TypeId}{ps:String}{af:Array Edge}{g:Option (Nat×Bool)}
theorem run_bound{k:Nat}{y:Nat}{c:BoundsCode}{w:World}(h:k≤y):(Instr.sliceBound (.int .i64 (k:Int)) y c).run P w= .ok k w:=by
 unfold Instr.sliceBound asIntOf
 simp only[Sem.run_bind,Sem.run_pure,Result.andThen_ok]
 rw[if_pos (by omega)]
 simp
def adv(a:Option Addr)(cap l k:Nat):Option Addr:=if cap=l then a else a.map (·.add (l*k))
theorem e_slice_hi{x y:Operand}{t e k len cap h:Nat}{a:Option Addr}(ht:slB P t e k=true)(hx:ev f x= .slice a len cap)(hy:ev f y= .int .i64 (h:Int))(hh:h≤cap):
  EV P β L f ⟨d,.slice t x none (some y) none,ty,ps,af,g⟩ (.slice a h cap):=fun w _=>by
 obtain⟨hu,i,hi,hn⟩:=slB_split ht
 have e0:∀a:Addr,a.add 0=a:=fun a=>by unfold Addr.add;split<;>simp_all
 simp[execOp,Instr.sliceAt,Instr.slice,run_underlying hu,hx,hy,Instr.sliceBounds,run_bound hh,sizeOf,typeInfo,hi]
 intro _
 cases a<;>simp[e0]
theorem e_slice_lo{x y:Operand}{t e k len cap l:Nat}{a:Option Addr}(ht:slB P t e k=true)(hx:ev f x= .slice a len cap)(hy:ev f y= .int .i64 (l:Int))(hl:l≤len):
  EV P β L f ⟨d,.slice t x (some y) none none,ty,ps,af,g⟩ (.slice (adv a cap l k) (len-l) (cap-l)):=fun w _=>by
 obtain⟨hu,i,hi,hn⟩:=slB_split ht
 simp[execOp,Instr.sliceAt,Instr.slice,run_underlying hu,hx,hy,Instr.sliceBounds,run_bound hl,sizeOf,typeInfo,hi,hn,adv]
theorem Elems.take{α:Type}{R:Rp α}{h:PHeap}{a:Option Addr}{xs:List α}(k:Nat)(he:Elems R h a xs):Elems R h a (xs.take k):=fun j x hj=>by
 have hlt:=(List.getElem?_eq_some_iff.1 hj).1
 rw[List.getElem?_take_of_lt (by simp at hlt;omega)]at hj
 exact he j x hj
theorem Elems.drop{α:Type}{R:Rp α}{h:PHeap}{a:Option Addr}{xs:List α}{cap:Nat}(l:Nat)(hc:xs.length≤cap)(he:Elems R h a xs):Elems R h (adv a cap l R.n) (xs.drop l):=fun j x hj=>by
 rw[List.getElem?_drop]at hj
 have hlt:=(List.getElem?_eq_some_iff.1 hj).1
 obtain⟨ha,cs,hcs,hr⟩:=he _ x hj
 have e:adv a cap l R.n=some ((ba a).add (l*R.n)):=by
  unfold adv
  rw[if_neg (by omega)]
  conv=>lhs;rw[ha]
  rfl
 rw[e]
 refine⟨rfl,cs,?_,hr⟩
 show Cs h (((ba a).add (l*R.n)).add (j*R.n)) cs
 rw[Addr.add_add',←Nat.add_mul];exact hcs
theorem nat_tmod(a b:Nat):(a:Int).tmod (b:Int)=((a%b:Nat):Int):=by
 rw[Int.tmod_eq_emod_of_nonneg (by omega)];rfl
theorem nat_tdiv(a b:Nat):(a:Int).tdiv (b:Int)=((a/b:Nat):Int):=by
 rw[Int.tdiv_eq_ediv_of_nonneg (by omega)];rfl
end
end Go.Sl
namespace Go.Sl
section
variable {P:Program}{ro:Option Nat}{n:Nat}{ds:List Deferred}{β:Base}{Q:Exit→Act→World→Prop}{f:Fm}{L:List Res}{ops:Array Oper}{rest:List Oper}
variable {d:Option Tmp}{ty:TypeId}{ps:String}{af:Array Edge}{g:Option (Nat×Bool)}
theorem row_open{p:Option Addr}{m c T k:Nat}{vs:List Value}{a:PHeap}(h:row (.slice p m c) T k m vs a)(hm:0<m):
  ∃b cur,p=some ⟨b,0,none⟩∧a b=some (.cells cur T (0,0))∧m≤c∧c≤maxLen∧cur.size=c*k∧cur.toList.take (m*k)=vs∧vs.length=m*k:=by
 obtain⟨hl,⟨e,h0⟩|⟨b,cap,cur,e,hb,h1,h2,h3,h4⟩⟩:=h
 ·omega
 ·injection e with e1 e2 e3
  subst e3
  exact⟨b,cur,e1,hb,h1,h2,h3,h4,hl⟩
theorem row_some{p:Option Addr}{m c T k:Nat}{vs:List Value}{w:World}(i:Nat)(hi:L[i]? =some (row (.slice p m c) T k m vs))(hm:0<m)(hw:St β L w):p=some (ba p):=
 hw.knows (F:=fun _=>p=some (ba p)) (Knows.of_res i hi (fun _ _ _ h=>h) fun a h=>by
  obtain⟨b,cur,rfl,_⟩:=row_open h hm
  rfl)
theorem e_indexRow{x y:Operand}{t e:Nat}{j len cap m c T k:Nat}{p:Option Addr}{vs:List Value}(i:Nat)(hx:ev f x= .slice p len cap)(hy:ev f y= .int .i64 (j:Int))(ht:slB P t e k=true)(hj:j<len)(hlm:len≤m)
 (hi:L[i]? =some (row (.slice p m c) T k m vs)):EV P β L f ⟨d,.indexAddr t x y,ty,ps,af,g⟩ (.pointer (some ((ba p).add (j*k)))):=fun w hw=>
 e_indexAddr hx hy ht hj (row_some i hi (by omega) hw) w hw
theorem row_cs{p:Option Addr}{m c T k o:Nat}{vs us:List Value}{a:PHeap}(h:row (.slice p m c) T k m vs a)(hu:(vs.drop o).take us.length=us)(h0:0<us.length):Cs a ((ba p).add o) us:=by
 have hm:0<m:=by
  rcases Nat.eq_zero_or_pos m with rfl|hm
  ·have hl:=h.1
   have:vs=[]:=List.eq_nil_of_length_eq_zero (by rw[hl];simp)
   subst this
   have hu':us.length=0:=by rw[←hu];simp
   omega
  ·exact hm
 obtain⟨b,cur,rfl,hb,_,_,_,h4,_⟩:=row_open h hm
 have hc:Cs a ⟨b,0,none⟩ vs:=Cs.of_pt (o:=0) hb (by simp only[List.drop_zero];rw[←h4];simp)
 exact Cs.sub o hc hu
theorem k_row{p:Option Addr}{m c T k o:Nat}{vs us:List Value}(i:Nat)(hi:L[i]? =some (row (.slice p m c) T k m vs))(hu:(vs.drop o).take us.length=us)(h0:0<us.length):Knows β L (fun h=>Cs h ((ba p).add o) us):=
 Knows.of_res i hi (Cs.mono _ _) fun _ h=>row_cs h hu h0
theorem over_take(cur us:List Value)(o M:Nat)(h:o+us.length≤M)(hM:M≤cur.length):
  (cur.take o++us++cur.drop (o+us.length)).take M=(cur.take M).take o++us++(cur.take M).drop (o+us.length):=by
 have hl:(cur.take o++us).length=o+us.length:=by simp;omega
 rw[List.take_append,List.take_of_length_le (by omega),hl,List.take_take,Nat.min_eq_left (by omega),List.drop_take]
def overL(vs:List Value)(o:Nat)(us:List Value):List Value:=vs.take o++us++vs.drop (o+us.length)
theorem overL_length{vs us:List Value}{o:Nat}(h:o+us.length≤vs.length):(overL vs o us).length=vs.length:=by
 simp[overL];omega
theorem m_storeRow{x y:Operand}{t m c T k o q:Nat}{agg:Bool}{p:Option Addr}{vs:List Value}{v:Value}(i:Nat)(ht:tyB P t agg q=true)(hx:ev f x= .pointer (some ((ba p).add o)))(hy:ev f y=v)
 (hi:L[i]? =some (row (.slice p m c) T k m vs))(hn:v.cells.size=q)(h1:v.cells.toList.all (·.oneCell')=true)(hfit:o+q≤m*k)(hm:0<m):
  MU P β L f ⟨d,.store t x y,ty,ps,af,g⟩ (L.set i (row (.slice p m c) T k m (overL vs o v.cells.toList))):=fun w hw=>by
 have hex:∃a,Sub a (ph w)∧row (.slice p m c) T k m vs a:=by
  obtain⟨_,_,_,hh,hd,hs,hs',hL⟩:=hw
  obtain⟨a,ha,hr⟩:=hL.each _ (List.mem_of_getElem? hi)
  exact⟨a,ha.trans hs',hr⟩
 obtain⟨a,ha,hr⟩:=hex
 obtain⟨b,cur,rfl,hb,h2,h3,h4,h5,h6⟩:=row_open hr hm
 have hbw:w.heap[b]? =some (.cells cur T (0,0)):=ha _ _ hb
 have hs:=(tyF ht).size w
 have hmc:m*k≤c*k:=Nat.mul_le_mul_right k h2
 have hst:=run_storeCells_at P b o T v.cells.toList 0 cur w hbw (by simp[hn];omega) (List.all_eq_true.1 h1)
 simp only[Nat.add_zero]at hst
 have hadd:(ba (some (⟨b,0,none⟩:Addr))).add o=⟨b,o,none⟩:=by unfold ba Addr.add;split<;>simp_all
 rw[hadd]at hx
 refine⟨w.setRow b (over cur o v.cells.toList),?_,?_⟩
 ·simp only[execOp,hx,hy,Instr.storeAt,Instr.sureAddr,Sem.run_bind,Sem.run_pure,Result.andThen_ok,storeVar,hs,hn,ne_eq,not_true_eq_false,if_false,hst,over]
 ·refine St.back i hi ((hw.front i hi).turn rfl rfl rfl fun a' ha' hr'=> ?_)
  obtain⟨b',cur',e1,hb',g2,g3,g4,g5,g6⟩:=row_open hr' hm
  injection e1 with e1
  injection e1 with e1
  subst e1
  have hbw':w.heap[b]? =some (.cells cur' T (0,0)):=ha' _ _ hb'
  rw[hbw]at hbw'
  injection hbw' with e2
  injection e2 with e2
  subst e2
  have hol:(overL vs o v.cells.toList).length=m*k:=by rw[overL_length (by simp[hn];omega),h6]
  have hvl:vs.length=m*k:=h6
  refine⟨fun k'=>if k'=b then some (.cells (over cur o v.cells.toList) T (0,0))else none,?_,?_,?_⟩
  ·refine⟨hol,.inr ⟨b,c,over cur o v.cells.toList,rfl,by simp,h2,h3,?_,?_⟩⟩
   ·simp[over,hn];omega
   ·subst h5
    have hvn:v.cells.toList.length=q:=by simp[hn]
    exact over_take cur.toList v.cells.toList o (m*k) (by omega) (by simp;omega)
  ·intro k' z hz
   by_cases e:k'=b
   ·subst e;simp at hz;subst hz;exact setRow_heap w k' cur _ T _ hbw
   ·simp[e]at hz
  ·intro k' hlt hak
   have hne:k'≠b:=by rintro rfl;rw[hb']at hak;cases hak
   exact⟨by simp[hne],setRow_other w b k' _ hne⟩
theorem c_freeze2{c:Code}{M K:List Res}(hL:L=M++K)(k:∀β',Ext β β'→(∀F,Knows β K F→F β'.heap)→(∀L' w',St β' L' w'→St β (L'++K) w')→RunC P ro n ds β' c Q f M):RunC P ro n ds β c Q f L:=fun a w ha hw=>by
 subst hL
 obtain⟨β₁,ext,kn,hw1,back⟩:=hw.frameX
 exact k β₁ ext kn back a w ha hw1
theorem c_rowcap{code:Code}{p:Option Addr}{m c T k:Nat}{vs:List Value}(i:Nat)(hi:L[i]? =some (row (.slice p m c) T k m vs))(h:m≤c→c≤maxLen→RunC P ro n ds β code Q f L):RunC P ro n ds β code Q f L:=fun a w ha hw=>by
 have hc:m≤c∧c≤maxLen:=hw.knows (F:=fun _=>m≤c∧c≤maxLen) (Knows.of_res i hi (fun _ _ _ h=>h) fun _ hr=>by
  obtain⟨_,⟨e,h0⟩|⟨b,cap,cur,e,hb,h1,h2,_⟩⟩:=hr
  ·injection e with _ _ e3
   subst e3;subst h0;unfold maxLen;omega
  ·injection e with _ _ e3
   subst e3;exact⟨h1,h2⟩)
 exact h hc.1 hc.2 a w ha hw
theorem m_append_any{x y:Operand}{t e n bytes m k c:Nat}{v:Value}{vs news:List Value}{ao:Option Addr}(i:Nat)(hsl:slB P t e n=true)(hel:elB P e n bytes=true)(hx:ev f x=v)(hi:L[i]? =some (row v e n m vs))
 (hy:ev f y= .slice ao k c)(hl:news.length=k*n)(hnews:Knows β L (fun h=>Cs h (ba ao) news))(h1:news.all (·.oneCell')=true)(ha:0<k→ao=some (ba ao))(h63:m+k≤maxLen)(hby:(m+k)*bytes≤140737488355328):
  MV P β L f ⟨d,.call ⟨.builtin .append,#[x,y],#[t,t]⟩,ty,ps,af,g⟩ (fun v' L'=>(v'= .slice none 0 0↔v= .slice none 0 0∧k=0)∧L'=L.set i (row v' e n (m+k) (vs++news))):=by
 rcases Nat.eq_zero_or_pos k with rfl|hk
 ·have hz:news=[]:=List.eq_nil_of_length_eq_zero (by simpa using hl)
  subst hz
  intro w hw
  obtain⟨v',w',L',h1,h2,rfl,rfl⟩:=m_append_nil (P:=P) (ty:=ty) (ps:=ps) (af:=af) (g:=g) (d:=d) i hsl hx hi hy w hw
  refine⟨v',w',_,h1,h2,by simp,?_⟩
  rw[List.append_nil,Nat.add_zero]
  obtain⟨hlt,he⟩:=List.getElem?_eq_some_iff.1 hi
  rw[←he,List.set_getElem_self]
 ·rw[ha hk]at hy
  exact m_append i hsl hel hx hi hy hl hnews h1 h63 hby
theorem m_append_w{x y:Operand}{t e n bytes m k c:Nat}{v:Value}{vs news:List Value}{ao:Option Addr}(i:Nat)(hsl:slB P t e n=true)(hel:elB P e n bytes=true)(hx:ev f x=v)(hi:L[i]? =some (row v e n m vs))
 (hy:ev f y= .slice ao k c)(hl:news.length=k*n)(hnews:Knows β L (fun h=>Cs h (ba ao) news))(h1:news.all (·.oneCell')=true)(ha:0<k→ao=some (ba ao))(h63:m+k≤maxLen)(hby:(m+k)*bytes≤140737488355328):
  MV P β L f ⟨d,.call ⟨.builtin .append,#[x,y],#[t,t]⟩,ty,ps,af,g⟩ (fun v' L'=>∃p c,v'= .slice p (m+k) c∧L'=L.set i (row (.slice p (m+k) c) e n (m+k) (vs++news))):=fun w hw=>by
 obtain⟨v',w',L',g1,g2,_,rfl⟩:=m_append_any (P:=P) (ty:=ty) (ps:=ps) (af:=af) (g:=g) (d:=d) i hsl hel hx hi hy hl hnews h1 ha h63 hby w hw
 have hi':(L.set i (row v' e n (m+k) (vs++news)))[i]? =some (row v' e n (m+k) (vs++news)):=by
  have:=(List.getElem?_eq_some_iff.1 hi).1
  rw[List.getElem?_set_self this]
 have hc:∃p c,v'= .slice p (m+k) c:=g2.knows (F:=fun _=>∃p c,v'= .slice p (m+k) c) (Knows.of_res i hi' (fun _ _ _ h=>h) fun _ hr=>by
  obtain⟨_,⟨e,h0⟩|⟨b,cap,cur,e,hb,h1,h2,_⟩⟩:=hr
  ·rw[h0];exact⟨_,_,e⟩
  ·exact⟨_,_,e⟩)
 obtain⟨p,c,rfl⟩:=hc
 exact⟨_,w',_,g1,g2,p,c,rfl,rfl⟩
end
end Go.Sl
namespace Go.Sl
section
variable {P:Program}{ro:Option Nat}{n:Nat}{ds:List Deferred}{β:Base}{Q:Exit→Act→World→Prop}{f:Fm}{L:List Res}{ops:Array Oper}{rest:List Oper}
variable {d:Option Tmp}{ty:TypeId}{ps:String}{af:Array Edge}{g:Option (Nat×Bool)}
end
end Go.Sl
namespace Go.Sl
section
variable {P:Program}{ro:Option Nat}{n:Nat}{ds:List Deferred}{β:Base}{Q:Exit→Act→World→Prop}{f:Fm}{L:List Res}{ops:Array Oper}{rest:List Oper}
variable {d:Option Tmp}{ty:TypeId}{ps:String}{af:Array Edge}{g:Option (Nat×Bool)}
theorem m_make0{x y:Operand}{t e n bytes c:Nat}{z:Value}(hsl:slB P t e n=true)(hel:elB P e n bytes=true)(hz:(P.info? e).bind (·.zero)=some z)(hx:ev f x= .int .i64 0)(hy:ev f y= .int .i64 (c:Int))
 (h0:0<c*n)(hc:c≤maxLen)(hb:c*bytes≤140737488355328):
  MV P β L f ⟨d,.makeSlice t x y,ty,ps,af,g⟩ (fun u L'=>∃b,u= .slice (some ⟨b,0,none⟩) 0 c∧L'=row (.slice (some ⟨b,0,none⟩) 0 c) e n 0 []::L):=fun w hw=>by
 obtain⟨hu,i,hi,hn2⟩:=slB_split hsl
 have hz':i.zero=some z:=by rw[hi]at hz;simpa using hz
 have hbytes:i.bytes=bytes:=by
  unfold elB at hel;rw[hi]at hel;simp only[Bool.and_eq_true]at hel
  simp only[beq_iff_eq]at hel
  exact hel.1.1.2
 have hw1:IntKind.i64.wrap (c:Int)=(c:Int):=i64w (by unfold maxLen at hc;omega)
 have hw0:IntKind.i64.wrap 0=0:=by decide
 have hroom:¬(roomBytes<c*i.bytes):=by rw[hbytes];unfold roomBytes;omega
 have hbig:¬((281474976710656:Int)<(i.bytes:Int)*(c:Int)):=by
  rw[hbytes,Int.mul_comm]
  have h1:((c*bytes:Nat):Int)≤140737488355328:=by omega
  rw[Int.natCast_mul]at h1
  omega
 have hne:¬(c*n=0):=by omega
 have hzv:∀w,(zeroValue e).run P w= .ok z w:=fun w=>by simp[zeroValue,typeInfo,hi,hz']
 refine⟨.slice (some ⟨w.heap.size,0,none⟩) 0 c,w.alloc (.cells ((Array.range (c*n)).map (z.cells[· %z.cells.size]!)) e (0,0)),_,?_,(hw.new (.cells ((Array.range (c*n)).map (z.cells[· %z.cells.size]!)) e)).conseq (r':=row (.slice (some ⟨w.heap.size,0,none⟩) 0 c) e n 0 []) (fun a ha=> ?_),_,rfl,rfl⟩
 ·simp only[execOp,Instr.makeSlice,hx,hy,Sem.run_bind,run_underlying hu,Result.andThen_ok,asInt,asIntOf,sizeOf,typeInfo,run_program,hi,Sem.run_pure,hw0,hw1]
  have hcn:¬((c:Int)<0):=by omega
  simp[hcn,hbig,askRoom,hroom,hi,hn2,hne,hzv,newRow]
 ·refine⟨by simp,.inr ⟨w.heap.size,c,_,rfl,ha,by omega,hc,by simp,by simp⟩⟩
theorem m_make00{x y:Operand}{t e n:Nat}(hsl:slB P t e n=true)(hx:ev f x= .int .i64 0)(hy:ev f y= .int .i64 0):
  MV P β L f ⟨d,.makeSlice t x y,ty,ps,af,g⟩ (fun u L'=>∃b,u= .slice (some ⟨b,0,none⟩) 0 0∧L'=pt b (.cells #[] e)::L):=fun w hw=>by
 obtain⟨hu,i,hi,hn2⟩:=slB_split hsl
 have hw0:IntKind.i64.wrap 0=0:=by decide
 refine⟨_,_,_,?_,hw.new (.cells #[] e),_,rfl,rfl⟩
 simp only[execOp,Instr.makeSlice,hx,hy,Sem.run_bind,run_underlying hu,Result.andThen_ok,asInt,asIntOf,sizeOf,typeInfo,run_program,hi,Sem.run_pure,hw0]
 simp[askRoom,hi,newRow,show(Array.range 0:Array Nat)= #[]from by simp[Array.range]]
end
end Go.Sl
namespace Go.Sl
section
variable {P:Program}{ro:Option Nat}{n:Nat}{ds:List Deferred}{β:Base}{Q:Exit→Act→World→Prop}{f:Fm}{L:List Res}{ops:Array Oper}{rest:List Oper}
variable {d:Option Tmp}{ty:TypeId}{ps:String}{af:Array Edge}{g:Option (Nat×Bool)}
theorem run_append_two{t e n bytes:Nat}(hsl:slB P t e n=true)(hel:elB P e n bytes=true){v:Value}{m:Nat}{vs:List Value}{w:World}(hown:w.ownsRow 0 e n v m vs)
   (ad:Addr)(k c:Nat)(news:List Value)(hl:news.length=k*n)(hnews:Cs (ph w) ad news)(h1:news.all (·.oneCell')=true)(h63:m+k≤maxLen)(hby:(m+k)*bytes≤140737488355328)(ty:TypeId)(hk:0<k):
    ∃v' w',(Builtin.append_ #[t,t] ty #[v,.slice (some ad) k c]).run P w= .ok v' w'∧w'.ownsRow 0 e n v' (m+k) (vs++news)∧w.grownBy w' v.ownBlock∧
      ((∃b cap cur cur',v= .slice (some ⟨b,0,none⟩) m cap∧v'= .slice (some ⟨b,0,none⟩) (m+k) cap∧w.heap[b]? =some (.cells cur e (0,0))∧w'.heap[b]? =some (.cells cur' e (0,0))∧cur'.size=cur.size∧cur'.toList.take (m*n)=cur.toList.take (m*n))∨
       ((∀b,v'.ownBlock=some b→w.heap.size≤b)∧∀b,b<w.heap.size→w'.heap[b]? =w.heap[b]?))∧w.drawn≤w'.drawn:=by
  obtain⟨v',w',hr,ho,hg,hnil,hnew,hdr⟩:=run_append_row (P:=P) hsl hel hown ad k c news hl hnews h1 h63 hby ty
  refine⟨v',w',hr,ho,hg,?_,hdr⟩
  unfold slB at hsl
  simp only[Bool.and_eq_true]at hsl
  obtain⟨hs1,hs2⟩:=hsl
  unfold elB at hel
  cases hu:P.underlying t with
  |none=>rw[hu]at hs1;cases hs1
  |some dd=>
    rw[hu]at hs1
    cases dd<;>simp only[]at hs1<;>try (cases hs1)
    rename_i e'
    have he:e'=e:=by simpa using hs1
    subst he
    cases hi:P.info? e' with
    |none=>rw[hi]at hs2;cases hs2
    |some i=>
      rw[hi]at hel
      simp only[Bool.and_eq_true,beq_iff_eq,Bool.not_eq_true',beq_eq_false_iff_ne,ne_eq]at hel
      obtain⟨⟨⟨hn,hb⟩,hz⟩,hn0⟩:=hel
      cases hzz:i.zero with
      |none=>rw[hzz]at hz;cases hz
      |some z=>
        subst hn
        subst hb
        rcases hown.2 with⟨rfl,rfl⟩|⟨g,cap,cur,rfl,hbg,hgg,hnc,hcm,hcs,htake⟩
        · have hby':k*i.bytes≤281474976710656:=by simp only[Nat.zero_add]at hby;omega
          have h63':k≤9223372036854775807:=by simp only[maxLen]at h63;omega
          have hx:=run_append_nil (P:=P) w t ty e' i z hu hi hzz ad k c news hl hnews (by omega) (by omega) hby'
          rw[hr]at hx
          injection hx with hx1 hx2
          subst hx1
          exact .inr ⟨fun b hb=>by simp[Value.ownBlock]at hb;omega,fun b hb=>hg.block b hb (by simp[Value.ownBlock])⟩
        · by_cases hroom:m+k≤cap
          · have hfit:m*i.size+news.length≤cur.size:=by rw[hl,hcs,←Nat.add_mul];exact Nat.mul_le_mul_right _ hroom
            have hx:=run_append_room (P:=P) w t ty e' i hu hi g m cap cur hgg ad k c news hl hnews (List.all_eq_true.1 h1) hroom hfit
            rw[hr]at hx
            injection hx with hx1 hx2
            subst hx1;subst hx2
            refine .inl ⟨g,cap,cur,_,rfl,rfl,hgg,setRow_heap w g cur _ e' _ hgg,?_,?_⟩
            · simp;omega
            · have:m*i.size≤cur.size:=by omega
              simp[Nat.min_eq_left,List.length_take,this]
          · have holds:∀j u,vs[j]? =some u→w.cell? ((⟨g,0,none⟩:Addr).add j)=some u:=hown.cells (g:=g) rfl
            have h63':m+k≤9223372036854775807:=by simp only[maxLen]at h63;omega
            have hx:=run_append_grow (P:=P) w t ty e' i z hu hi hzz ⟨g,0,none⟩ m cap vs hown.1 holds ad k c news hl hnews (by omega) (by omega) (growslice_fits (by omega) hby)
            rw[hr]at hx
            injection hx with hx1 hx2
            subst hx1;subst hx2
            refine .inr ⟨fun b hb=>by simp[Value.ownBlock]at hb;omega,fun b hb=> ?_⟩
            show(w.drew.alloc _).heap[b]? =_
            simp only[World.alloc]
            rw[Array.getElem?_push_lt (by exact hb)]
            exact(Array.getElem?_eq_getElem hb).symm
end
end Go.Sl
namespace Go.Sl
section
variable {P:Program}{ro:Option Nat}{n:Nat}{ds:List Deferred}{β:Base}{Q:Exit→Act→World→Prop}{f:Fm}{L:List Res}{ops:Array Oper}{rest:List Oper}
variable {d:Option Tmp}{ty:TypeId}{ps:String}{af:Array Edge}{g:Option (Nat×Bool)}
theorem m_makeN{x y:Operand}{t e n bytes c:Nat}{z:Value}(hsl:slB P t e n=true)(hel:elB P e n bytes=true)(hz:(P.info? e).bind (·.zero)=some z)(hzn:z.cells.size=n)(hx:ev f x= .int .i64 (c:Int))(hy:ev f y= .int .i64 (c:Int))
 (h0:0<c*n)(hc:c≤maxLen)(hb:c*bytes≤140737488355328):
  MV P β L f ⟨d,.makeSlice t x y,ty,ps,af,g⟩ (fun u L'=>∃b,u= .slice (some ⟨b,0,none⟩) c c∧L'=row (.slice (some ⟨b,0,none⟩) c c) e n c (repL z.cells.toList c)::L):=fun w hw=>by
 obtain⟨hu,i,hi,hn2⟩:=slB_split hsl
 have hz':i.zero=some z:=by rw[hi]at hz;simpa using hz
 have hbytes:i.bytes=bytes:=by
  unfold elB at hel;rw[hi]at hel;simp only[Bool.and_eq_true]at hel
  simp only[beq_iff_eq]at hel
  exact hel.1.1.2
 have hw1:IntKind.i64.wrap (c:Int)=(c:Int):=i64w (by unfold maxLen at hc;omega)
 have hroom:¬(roomBytes<c*i.bytes):=by rw[hbytes];unfold roomBytes;omega
 have hbig:¬((281474976710656:Int)<(i.bytes:Int)*(c:Int)):=by
  rw[hbytes,Int.mul_comm]
  have h1:((c*bytes:Nat):Int)≤140737488355328:=by omega
  rw[Int.natCast_mul]at h1
  omega
 have hne:¬(c*n=0):=by omega
 have hzv:∀w,(zeroValue e).run P w= .ok z w:=fun w=>by simp[zeroValue,typeInfo,hi,hz']
 subst hzn
 refine⟨.slice (some ⟨w.heap.size,0,none⟩) c c,w.alloc (.cells (repL z.cells.toList c).toArray e (0,0)),_,?_,(hw.new (.cells (repL z.cells.toList c).toArray e)).conseq (r':=row (.slice (some ⟨w.heap.size,0,none⟩) c c) e z.cells.size c (repL z.cells.toList c)) (fun a ha=> ?_),_,rfl,rfl⟩
 ·simp only[execOp,Instr.makeSlice,hx,hy,Sem.run_bind,run_underlying hu,Result.andThen_ok,asInt,asIntOf,sizeOf,typeInfo,run_program,hi,Sem.run_pure,hw1]
  have hcn:¬((c:Int)<0):=by omega
  rw[←rep_eq]
  simp[hcn,hbig,askRoom,hroom,hi,hn2,hne,hzv,newRow]
 ·refine⟨by rw[repL_length];simp,.inr ⟨w.heap.size,c,_,rfl,ha,Nat.le_refl _,hc,by simp[repL_length],?_⟩⟩
  rw[List.take_of_length_le (by simp[repL_length])]
end
end Go.Sl
