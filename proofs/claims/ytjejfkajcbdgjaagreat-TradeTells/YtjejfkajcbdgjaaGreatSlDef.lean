/-
  Own work; plain Lean (JnLaw, SlMpB, SlDef).
-/
import Derived.Test.YtjejfkajcbdgjaaGreatJnOp
set_option linter.all false
namespace Go.Jn
open Go.Sl
def uG(bs:Bs):Nat:=bs.foldl (fun n x=>n*256+x.toNat) 0
theorem aDi(h:Nat):∀bs:Bs,bs.foldl (fun n x=>n*256+x.toNat) h=h*256^bs.length+uG bs
 |[]=>by simp[uG]
 |x::bs=>by
  have h1:=aDi (h*256+x.toNat) bs
  have h2:=aDi (0*256+x.toNat) bs
  simp only[List.foldl_cons,uG,List.length_cons]at*
  rw[h1,h2,Nat.pow_succ,Nat.add_mul]
  simp only[Nat.zero_mul,Nat.zero_add]
  rw[Nat.mul_assoc h,Nat.mul_comm 256]
  omega
theorem rU(x:UInt8)(bs:Bs):uG (x::bs)=x.toNat*256^bs.length+uG bs:=by
 have:=aDi (0*256+x.toNat) bs
 simpa[uG]using this
theorem aKi:∀bs:Bs,uG bs<256^bs.length
 |[]=>by simp[uG]
 |x::bs=>by
  rw[rU,List.length_cons,Nat.pow_succ]
  have h1:=aKi bs
  have h2:=x.toNat_lt
  have h3:x.toNat*256^bs.length≤255*256^bs.length:=Nat.mul_le_mul_right _ (by omega)
  omega
theorem aOg{h:UInt64}{x:UInt8}(hh:h.toNat<72057594037927936):((h<<<8)|||x.toUInt64).toNat=h.toNat*256+x.toNat:=by
 have h2:=x.toNat_lt
 have e1:(h<<<(8:UInt64)).toNat=h.toNat<<<8:=by
  rw[UInt64.toNat_shiftLeft]
  simp only[UInt64.reduceToNat,Nat.reduceMod,Nat.shiftLeft_eq]
  omega
 rw[UInt64.toNat_or,e1]
 have e2:x.toUInt64.toNat=x.toNat:=by simp
 rw[e2,←Nat.shiftLeft_add_eq_or_of_lt (by omega),Nat.shiftLeft_eq]
theorem aCe:∀(bs:Bs) (h:UInt64),h.toNat*256^bs.length+uG bs<18446744073709551616→(nW h bs).toNat=h.toNat*256^bs.length+uG bs
 |[],h,_=>by simp[nW,uG]
 |x::bs,h,hlt=>by
  rw[rU,List.length_cons,Nat.pow_succ]at hlt
  have hp:0<256^bs.length:=Nat.pow_pos (by decide)
  have h1:h.toNat<72057594037927936:=by
   have:h.toNat*(256^bs.length*256)=h.toNat*256*256^bs.length:=by rw[Nat.mul_comm (256^bs.length),Nat.mul_assoc]
   have h3:h.toNat*256*1≤h.toNat*256*256^bs.length:=Nat.mul_le_mul_left _ hp
   omega
  have e:=aOg (x:=x) h1
  have ih:=aCe bs ((h<<<8)|||x.toUInt64) (by
   rw[e,Nat.add_mul,Nat.mul_assoc,Nat.mul_comm 256];omega)
  show(nW ((h<<<8)|||x.toUInt64) bs).toNat=_
  rw[ih,e,rU,List.length_cons,Nat.pow_succ,Nat.add_mul,Nat.mul_assoc,Nat.mul_comm 256]
  omega
theorem aCf{bs:Bs}(h:bs.length≤8):(bS bs).toNat=uG bs:=by
 have h1:=aKi bs
 have h2:256^bs.length≤256^8:=Nat.pow_le_pow_right (by decide) h
 have:=aCe bs 0 (by simp only[UInt64.reduceToNat,Nat.zero_mul,Nat.zero_add];omega)
 simpa[bS]using this
theorem aDh:∀(k:Nat) (n:UInt64),k≤8→uG (be k n)=n.toNat%256^k
 |0,n,_=>by simp[be,uG,Nat.mod_one]
 |k+1,n,hk=>by
  have ih:=aDh k n (by omega)
  have h8:(UInt64.ofNat (8*k)).toNat%64=8*k:=by simp;omega
  have hs:((n>>>UInt64.ofNat (8*k)).toUInt8).toNat=(n.toNat/256^k)%256:=by
   rw[UInt64.toNat_toUInt8,UInt64.toNat_shiftRight,h8,Nat.shiftRight_eq_div_pow,Nat.pow_mul]
  rw[be,rU,ih,bT,hs,Nat.pow_succ,Nat.mod_mul]
  rw[Nat.mul_comm]
  omega
theorem pK(n:UInt64):bS (be 8 n)=n:=by
 apply UInt64.toNat_inj.1
 rw[aCf (by simp[bT]),aDh 8 n (by omega)]
 exact Nat.mod_eq_of_lt (by have:=n.toNat_lt;simpa using this)
theorem wA(n:UInt64):(bS (be 4 n)).toNat=n.toNat%4294967296:=by
 rw[aCf (by simp[bT]),aDh 4 n (by omega)]
theorem aUh{x:UInt64}(h:x.toNat<4294967296):(x^^^bS (be 4 (~~~x)))=4294967295:=by
 have e1:bS (be 4 (~~~x))= ~~~x%4294967296:=by
  apply UInt64.toNat_inj.1
  rw[wA,UInt64.toNat_mod]
  rfl
 rw[e1]
 have e2: ~~~x%4294967296= ~~~x&&&4294967295:=by
  apply UInt64.toNat_inj.1
  rw[UInt64.toNat_mod,UInt64.toNat_and]
  show _%2^32=_&&&(2^32-1)
  rw[Nat.and_two_pow_sub_one_eq_mod]
 rw[e2]
 have e3:x&&&4294967295=x:=by
  apply UInt64.toNat_inj.1
  rw[UInt64.toNat_and]
  show _&&&(2^32-1)=_
  rw[Nat.and_two_pow_sub_one_eq_mod]
  exact Nat.mod_eq_of_lt h
 conv=>lhs;lhs;rw[←e3]
 apply UInt64.toBitVec_inj.1
 simp only[UInt64.toBitVec_xor,UInt64.toBitVec_and,UInt64.toBitVec_not]
 ext i hi
 simp only[BitVec.getElem_xor,BitVec.getElem_and,BitVec.getElem_not]
 cases x.toBitVec[i]<;>simp
end Go.Jn
namespace Go.Sl
open Go.ChangeMaps (setBlock)
section
variable {P:Program}{κ ν:Type}(K:MapK P κ ν){ro:Option Nat}{n:Nat}{ds:List Deferred}{β:Base}{Q:Exit→Act→World→Prop}{f:Fm}{L:List bU}{ops:Array Oper}{rest:List Oper}
variable {d:Option Tmp}{ty:TypeId}{ps:String}{af:Array Edge}{g:Option (Nat×Bool)}
def itR(β:Base)(b r:Nat)(ks pre:List (κ×ν)):bU:=fun h=>∃(es:Array MapEntry) (clock:Nat) (seen:Array Nat) (zs dz rz:List (MapEntry×(κ×ν))),
 β.heap b=some (.map es clock)∧h r=some (.mapIter (some b) clock seen clock)∧b≠r∧MapC K ks es clock∧es.toList=zs.map (·.1)∧ks=zs.map (·.2)∧(∀z∈zs,z.1.key=K.enc z.2.1∧z.1.val=K.encv z.2.2)∧
 (dz++rz).Perm zs∧seen.toList=dz.map (·.1.born)∧pre=dz.map (·.2)
variable {K}
theorem itR.mono(β:Base)(b r:Nat)(ks pre:List (κ×ν)):sG (itR K β b r ks pre):=fun _ _ hs ⟨es,c,se,zs,dz,rz,h1,h2,h⟩=>⟨es,c,se,zs,dz,rz,h1,hs _ _ h2,h⟩
theorem aCz{b:Nat}{o:Obj}{w:World}(hw:St β L w)(h:β.heap b=some o):w.heap[b]? =some o:=hw.knows (bF.of_base (F:=fun h=>h b=some o) (fun _ _ s h=>s _ _ h) h)
theorem yR{x:Operand}{t b:Nat}{ks:List (κ×ν)}(ht:t=K.t)(hx:ev f x= .map (some b))(hm:aZ K b ks β.heap):
  MV P β L f ⟨d,.range t x,ty,ps,af,g⟩ (fun u L'=>∃r,u= .pointer (some ⟨r,0,none⟩)∧L'=itR K β b r ks []::L):=fun w hw=>by
 obtain⟨es,c,hbβ,hc⟩:=hm
 have hb:w.heap[b]? =some (.map es c):=aCz hw hbβ
 have hg:(getObj b).run P w= .ok (.map es c) w:=mY hb
 have hlt:b<w.heap.size:=(Array.getElem?_eq_some_iff.1 hb).1
 subst ht
 refine⟨.pointer (some ⟨w.heap.size,0,none⟩),w.alloc (.mapIter (some b) c #[] c),_,?_,?_,w.heap.size,rfl,rfl⟩
 ·simp[execOp,Instr.range,run_underlying K.ht,hx,hg]
 ·have h3:=hw.new (.mapIter (some b) c #[] c)
  refine St.merge (L:=[pt w.heap.size (.mapIter (some b) c #[] c)]) (M:=L) h3 fun a ha=> ?_
  obtain⟨p,q,_,hp,hq,h4,_⟩:=ha
  obtain⟨zs,z1,z2,z3⟩:=hc.zip
  exact⟨es,c,#[],zs,[],zs,hbβ,hp _ _ h4,by omega,hc,z1,z2,z3,List.Perm.refl _,rfl,rfl⟩
theorem aWb{b r:Nat}{ks pre:List (κ×ν)}{w:World}(i:Nat)(hw:St β L w)(hi:L[i]? =some (itR K β b r ks pre))(ty:Nat):
  (pre.Perm ks∧(Instr.next (.pointer (some ⟨r,0,none⟩)) false ty).run P w= .ok (.tuple #[.bool false]) w)∨
  ∃x:κ×ν,∃w',(Instr.next (.pointer (some ⟨r,0,none⟩)) false ty).run P w= .ok (.tuple #[.bool true,K.enc x.1,K.encv x.2]) w'∧(∃rs,(pre++[x]++rs).Perm ks)∧St β (L.set i (itR K β b r ks (pre++[x]))) w':=by
 obtain⟨es,c,seen,zs,dz,rz,hbβ,hr,hbr,hc,z1,z2,z3,hperm,hseen,hpre⟩:=hw.knows (bF.of_res i hi (itR.mono β b r ks pre) fun _ h=>h)
 have hb:w.heap[b]? =some (.map es c):=aCz hw hbβ
 have hr:w.heap[r]? =some (.mapIter (some b) c seen c):=hr
 have hborn:(zs.map fun z=>z.1.born).Nodup:=by
  have:=hc.births
  rw[z1,List.map_map]at this
  exact this
 have hnd:((dz++rz).map fun z=>z.1.born).Nodup:=(hperm.map _).nodup_iff.2 hborn
 rcases run_next_at (P:=P) w ty r b c c seen es c hr hb hc.old (Nat.le_refl _)with⟨h0,hrun⟩|⟨e,he,w1,hw1,hrun⟩
 ·refine .inl ⟨?_,hrun⟩
  have hrz:rz=[]:=by
   cases rz with
   |nil=>rfl
   |cons z rz=>
    exfalso
    have hz:z∈zs:=hperm.mem_iff.1 (List.mem_append_right _ List.mem_cons_self)
    have hze:z.1∈es.toList:=by rw[z1];exact List.mem_map.2 ⟨z,hz,rfl⟩
    have hns:¬z.1.born∈seen.toList:=by
     rw[hseen]
     intro hm
     rw[List.map_append,List.nodup_append]at hnd
     exact hnd.2.2 _ hm _ (List.mem_map.2 ⟨z,List.mem_cons_self,rfl⟩) rfl
    have:z.1∈(leftOf es seen):=by
     unfold leftOf
     rw[Array.mem_filter]
     exact⟨by simpa using hze,by simpa using hns⟩
    have:=Array.size_pos_of_mem this
    omega
  subst hrz
  rw[List.append_nil]at hperm
  rw[hpre,z2]
  exact hperm.map _
 ·right
  have he2:e∈es.toList∧¬e.born∈seen.toList:=by
   unfold leftOf at he
   simp only[Array.toList_filter,List.mem_filter]at he
   exact⟨he.1,by simpa using he.2⟩
  have hz:∃z∈zs,z.1=e:=by
   rw[z1]at he2
   obtain⟨z,hz,e1⟩:=List.mem_map.1 he2.1
   exact⟨z,hz,e1⟩
  obtain⟨z,hz,rfl⟩:=hz
  have hzr:z∈rz:=by
   rcases List.mem_append.1 (hperm.mem_iff.2 hz)with h|h
   ·exfalso;rw[hseen]at he2;exact he2.2 (List.mem_map.2 ⟨z,h,rfl⟩)
   ·exact h
  obtain⟨A,B,rfl⟩:=List.append_of_mem hzr
  have hperm2:(dz++[z]++(A++B)).Perm zs:=by
   refine List.Perm.trans ?_ hperm
   rw[List.append_assoc]
   refine List.Perm.append_left dz ?_
   exact(List.perm_middle (a:=z) (l₁:=A) (l₂:=B)).symm
  refine⟨z.2,setBlock w1 r (.mapIter (some b) c (seen.push z.1.born) c),?_,⟨(A++B).map (·.2),?_⟩,?_⟩
  ·rw[hrun,(z3 z hz).1,(z3 z hz).2]
  ·rw[hpre,z2]
   have:=hperm2.map (·.2)
   simpa using this
  ·have hw1':St β L w1:=by rcases hw1 with rfl|rfl;exact hw;exact hw.drew
   have hr1:w1.heap[r]? =some (.mapIter (some b) c seen c):=by rcases hw1 with rfl|rfl<;>exact hr
   have hrl:r<w1.heap.size:=(Array.getElem?_eq_some_iff.1 hr1).1
   refine St.back i hi ((hw1'.front i hi).turn rfl rfl rfl fun a ha hra=> ?_)
   obtain⟨es',c',seen',_,_,_,k1,k2,_⟩:=hra
   refine⟨fun k=>if k=r then some (.mapIter (some b) c (seen.push z.1.born) c)else a k,?_,?_,?_⟩
   ·exact⟨es,c,seen.push z.1.born,zs,dz++[z],A++B,hbβ,by simp,hbr,hc,z1,z2,z3,hperm2,by simp[hseen],by simp[hpre]⟩
   ·intro k o hk
    show(setBlock w1 r _).heap[k]? =some o
    unfold setBlock
    by_cases e:k=r
    ·subst e;simp at hk;subst hk;simp[hrl]
    ·simp[e]at hk
     have:=ha _ _ hk
     have h9:w1.heap[k]? =some o:=this
     simp[Ne.symm e,h9]
   ·intro k hk hak
    have hne:k≠r:=by rintro rfl;rw[k2]at hak;cases hak
    refine⟨by simp[hne,hak],?_⟩
    show(setBlock w1 r _).heap[k]? =_
    unfold setBlock
    simp[Ne.symm hne]
theorem aDf{x:Operand}{b r:Nat}{ks pre:List (κ×ν)}(i:Nat)(hx:ev f x= .pointer (some ⟨r,0,none⟩))(hi:L[i]? =some (itR K β b r ks pre)):
  MV P β L f ⟨d,.next x false,ty,ps,af,g⟩ (fun v L'=>(v= .tuple #[.bool false]∧pre.Perm ks∧L'=L)∨(∃x:κ×ν,v= .tuple #[.bool true,K.enc x.1,K.encv x.2]∧(∃rs,(pre++[x]++rs).Perm ks)∧L'=L.set i (itR K β b r ks (pre++[x])))):=fun w hw=>by
 rcases aWb i hw hi ty with⟨hp,hrun⟩|⟨x,w',hrun,hp,hw'⟩
 ·exact⟨_,w,L,by simp[execOp,hx,hrun],hw,.inl ⟨rfl,hp,rfl⟩⟩
 ·exact⟨_,w',_,by simp[execOp,hx,hrun],hw',.inr ⟨x,rfl,hp,rfl⟩⟩
theorem yC{x:Operand}{b r:Nat}{ks pre:List (κ×ν)}{y:κ×ν}(i:Nat)(hx:ev f x= .pointer (some ⟨r,0,none⟩))(hi:L[i]? =some (itR K β b r ks (pre++[y]))):
  EV P β L f ⟨d,.entry x,ty,ps,af,g⟩ (.tuple #[K.enc y.1,K.encv y.2]):=fun w hw=>by
 obtain⟨es,c,seen,zs,dz,rz,hbβ,hr,hbr,hc,z1,z2,z3,hperm,hseen,hpre⟩:=hw.knows (bF.of_res i hi (itR.mono β b r ks (pre++[y])) fun _ h=>h)
 have hb:w.heap[b]? =some (.map es c):=aCz hw hbβ
 have hr:w.heap[r]? =some (.mapIter (some b) c seen c):=hr
 have hne:dz≠[]:=by rintro rfl;simp at hpre
 obtain⟨dz',z,rfl⟩:∃dz' z,dz=dz'++[z]:=⟨dz.dropLast,dz.getLast hne,(List.dropLast_concat_getLast hne).symm⟩
 rw[List.map_append]at hpre hseen
 have hy:y=z.2:=by
  have:=congrArg List.getLast? hpre
  simpa using this
 have hz:z∈zs:=hperm.mem_iff.1 (by simp)
 have hs:seen=(dz'.map (·.1.born)).toArray.push z.1.born:=by
  apply Array.toList_inj.1
  simp[hseen]
 subst hs
 have hze:z.1∈es.toList:=by rw[z1];exact List.mem_map.2 ⟨z,hz,rfl⟩
 have hrun:=run_entry_at (P:=P) w r b c (dz'.map (·.1.born)).toArray es c z.1 hr hb hze hc.births
 rw[hy]
 simp[execOp,hx,hrun,(z3 z hz).1,(z3 z hz).2]
end
section
variable {P:Program}{n:Nat}{ds:List Deferred}{β:Base}{Q:Exit→Act→World→Prop}{f:Fm}{L:List bU}{ops:Array Oper}{rest:List Oper}
variable {d:Option Tmp}{ty:TypeId}{ps:String}{af:Array Edge}{g:Option (Nat×Bool)}
theorem bAv{g:FuncId}{fn:Func}{c:Code}{args:Array Value}{w:World}{R:Ending→World→Prop}(hf:P.funcs[g]? =some fn)(hb:fn.body=some c)(hn:fn.ntmps=n)(hs:Nat.ble args.size n=true)
 (h:eA P none n [] β c (bodyPostD P fn R) (sQ args) L)(hw:St β L w):Calls P g args w R:=by
 refine calls_of_wp_defers hf hb (wpIn_wide.1 (h _ w ⟨rfl,?_,fun i=> ?_⟩ hw))
 ·rw[hn]
  have:args.size≤n:=by simpa using hs
  simp;omega
 ·simp only[sQ,Array.getD_eq_getD_getElem?]
  by_cases hi:i<args.size
  ·rw[Array.getElem?_append_left hi]
  ·rw[Array.getElem?_append_right (by omega),Array.getElem?_eq_none (by omega:args.size≤i)]
   by_cases hj:i-args.size<fn.ntmps-args.size
   ·simp[hj]
   ·simp[hj]
theorem aWc{o:Oper}{dd:Deferred}(hg:o.guard=none)(hd:o.dst=none)(he:∀w,(execOp (ev f) o).run P w= .ok (.defer dd) w)(k:bZ P none n (dd::ds) β ops Q rest f L):bZ P none n ds β ops Q (o::rest) f L:=by
 refine qB hg fun a w ha hw=>⟨fun _ _=>trivial,?_⟩
 rw[ha.eval,show(Fe none).round=none from rfl,Oper.semAt_none,he w,Oper.uponIn_defer,hd]
 exact k _ w ⟨by show dd::a.defers=_;rw[ha.defers],ha.size,ha.get⟩ hw
theorem aHb{id:Nat}{o0 o1:Oper}{a:Act}{cs:List Frame}{w:World}{QS:Exit→Act→List Frame→World→Prop}{d0 d1:Nat}{v:Value}{cs':List Frame}(ha:At n ds f a)(h0:o0.guard=none)(h1:o1.guard=none)
 (r0:(execOp (ev f) o0).run P w= .ok .recover w)(hd0:o0.dst=some d0)(b0:Nat.blt d0 n=true)(hv:(execOp (ev (dV f d0 v)) o1).run P w= .ok (.value v) w)(hd1:o1.dst=some d1)(b1:Nat.blt d1 n=true)
 (hrec:recoverD cs=some (v,cs')∨recoverD cs=none∧v= .nilIface∧cs'=cs)(k:∀a',At n ds (dV (dV f d0 v) d1 v) a'→QS .normal a' cs' w):(Code.region id #[o0,o1] false).wpS P QS a cs w:=by
 have ha1:=ha.put b0 v
 have step1:∀cs,wpOpsS P #[o0,o1] QS [1] (a.put (some d0) v) cs w=QS .normal ((a.put (some d0) v).put (some d1) v) cs w:=fun cs=>by
  simp only[wpOpsS]
  have hw1:Region.wanted o1 (yielded #[o0,o1] (a.put (some d0) v).tmps)=true:=by simp[Region.wanted,h1]
  simp only[List.getElem?_toArray,List.getElem?_cons_succ,List.getElem?_cons_zero,hw1,if_true]
  rw[ha1.eval,hv]
  simp only[Oper.upon,hd1]
 refine wpS_region ?_
 show wpOpsS P #[o0,o1] QS [0,1] a cs w
 rw[wpOpsS]
 have hw0:Region.wanted o0 (yielded #[o0,o1] a.tmps)=true:=by simp[Region.wanted,h0]
 simp only[List.getElem?_toArray,List.getElem?_cons_zero,hw0,if_true]
 rw[ha.eval,r0]
 rcases hrec with h|⟨h,rfl,rfl⟩
 ·simp only[h,hd0]
  rw[step1]
  exact k _ (ha1.put b1 v)
 ·simp only[h,hd0]
  rw[step1]
  exact k _ (ha1.put b1 _)
theorem aLk{c:Code}{a:Act}{cs:List Frame}{w:World}{QS:Exit→Act→List Frame→World→Prop}(h:eA P none n ds β c (fun e a w=>QS e a cs w) f L)(ha:At n ds f a)(hw:St β L w):c.wpS P QS a cs w:=wpS_of_wp (wpIn_wide.1 (h a w ha hw))
theorem bDs{fn:Func}{c₀:Frame}{cs:List Frame}{R:Ending→FrameMode→World→Prop}{u':FrameMode}(hr:fn.results= #[])(h:∀w,St β L w→R (.returned (.tuple #[])) u' w):
  iQ n [] β (fun e a w=>bodyPostS P fn c₀ cs R e a ({c₀ with mode:=u'}::cs) w) .normal f L:=fun a w ha hw=>
 ⟨ha.defers,u',rfl,_,results_none hr _ _ _,h w hw⟩
theorem aMk{t u:TypeId}{x:Operand}{v:Value}(hx:ev f x= .iface u v)(hu:aQw P u=true):EV P β L f ⟨d,.typeAssert x t u true,ty,ps,af,g⟩ (.tuple #[v,.bool true]):=fun w _=>by
 unfold aQw at hu
 cases hh:P.underlying u with
 |none=>rw[hh]at hu;cases hu
 |some dd=>
  rw[hh]at hu
  cases dd<;>simp_all [execOp,Instr.typeAssert,run_underlying hh]
def ifB(P:Program)(t:TypeId):Bool:=match P.underlying t with|some (.interface _)=>true|_=>false
theorem aJw{t:TypeId}(h:ifB P t=true):∃ms,P.underlying t=some (.interface ms):=by
 unfold ifB at h
 cases hh:P.underlying t with
 |none=>rw[hh]at h;cases h
 |some dd=>rw[hh]at h;cases dd<;>simp_all
theorem aPz{t t':TypeId}{x:Operand}{u:TypeId}{v:Value}(ht:ifB P t=true)(hx:ev f x= .iface u v):EV P β L f ⟨d,.binOp .neq t x (.const .nilIface) t',ty,ps,af,g⟩ (.bool true):=fun w _=>by
 obtain⟨ms,hu⟩:=aJw ht
 have h1:(binOp .neq t (.iface u v) .nilIface).run P w= .ok (.bool true) w:=by
  have h2:(Op.equal t (.iface u v) .nilIface).run P w= .ok false w:=by
   have h3:∀d,(Op.equalIn (d+1) t (.iface u v) .nilIface).run P w= .ok false w:=fun d=>by simp[Op.equalIn,run_underlying hu]
   exact h3 9999
  simp only[binOp]
  simp[h2]
 have h0:eqGuard .neq t x (.const .nilIface) (.iface u v) .nilIface=pure ():=rfl
 have hy:ev f (.const .nilIface)= .nilIface:=rfl
 simp only[execOp,hx,hy,h0]
 simp[h1]
theorem aMj{t t':TypeId}{x:Operand}(ht:ifB P t=true)(hx:ev f x= .nilIface):EV P β L f ⟨d,.binOp .neq t x (.const .nilIface) t',ty,ps,af,g⟩ (.bool false):=fun w _=>by
 obtain⟨ms,hu⟩:=aJw ht
 have h1:(binOp .neq t .nilIface .nilIface).run P w= .ok (.bool false) w:=by
  have h2:(Op.equal t .nilIface .nilIface).run P w= .ok true w:=by
   have h3:∀d,(Op.equalIn (d+1) t .nilIface .nilIface).run P w= .ok true w:=fun d=>by simp[Op.equalIn,run_underlying hu]
   exact h3 9999
  simp only[binOp]
  simp[h2]
 have h0:eqGuard .neq t x (.const .nilIface) .nilIface .nilIface=pure ():=eqGuard_nil_constR _ _ _ _
 have hy:ev f (.const .nilIface)= .nilIface:=rfl
 simp only[execOp,hx,hy,h0]
 simp[h1]
end
end Go.Sl
