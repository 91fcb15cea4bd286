/-
  Rows of structs without references: one's own slices of them, element by element. Own work; plain Lean.
-/
import Derived.Test.YtmgpmgckbcjalaaGreatSlFam
import Derived.Test.YtmgpmgckbcjalaaGreatSlRf
namespace Go.Sl
structure Fl(α:Type) where
 n:Nat
 enc:α→List Value
 len:∀x,(enc x).length=n
 one:∀x,(enc x).all (·.oneCell')=true
 pos:0<n
abbrev Fl.R{α:Type}(F:Fl α):Rp α:=Rp.flat F.n F.enc F.len
abbrev rowF{α:Type}(F:Fl α)(T:Nat)(p:Option Addr)(c:Nat)(xs:List α):Res:=row (.slice p xs.length c) T F.n xs.length (xs.flatMap F.enc)
section
variable {α:Type}{F:Fl α}
theorem fl_len(xs:List α):(xs.flatMap F.enc).length=xs.length*F.n:=by
 induction xs with
 |nil=>simp
 |cons x xs ih=>rw[List.flatMap_cons,List.length_append,ih,List.length_cons,F.len,Nat.add_mul];omega
theorem fl_one(xs:List α):(xs.flatMap F.enc).all (·.oneCell')=true:=by
 rw[List.all_eq_true]
 intro v hv
 obtain⟨x,_,hx⟩:=List.mem_flatMap.1 hv
 exact List.all_eq_true.1 (F.one x) v hx
theorem fl_drop(xs:List α)(k:Nat):(xs.flatMap F.enc).drop (k*F.n)=(xs.drop k).flatMap F.enc:=by
 induction k generalizing xs with
 |zero=>simp
 |succ k ih=>
  cases xs with
  |nil=>simp
  |cons x xs=>
   rw[List.flatMap_cons,Nat.add_mul,Nat.one_mul,Nat.add_comm,←List.drop_drop,List.drop_left' (F.len x),ih];rfl
theorem fl_take(xs:List α)(k:Nat):(xs.flatMap F.enc).take (k*F.n)=(xs.take k).flatMap F.enc:=by
 induction k generalizing xs with
 |zero=>simp
 |succ k ih=>
  cases xs with
  |nil=>simp
  |cons x xs=>
   rw[List.flatMap_cons,List.take_succ_cons,List.flatMap_cons,List.take_append,F.len,←ih,List.take_of_length_le (by rw[F.len];rw[Nat.add_mul];omega)]
   congr 2
   rw[Nat.add_mul];omega
theorem fl_at{xs:List α}{k:Nat}{x:α}(hx:xs[k]? =some x):((xs.flatMap F.enc).drop (k*F.n)).take (F.enc x).length=F.enc x:=by
 obtain⟨h,e⟩:=List.getElem?_eq_some_iff.1 hx
 rw[fl_drop,List.drop_eq_getElem_cons h,e,List.flatMap_cons,List.take_left]
theorem fl_set{xs:List α}{k:Nat}(h:k<xs.length)(x:α):overL (xs.flatMap F.enc) (k*F.n) (F.enc x)=(xs.set k x).flatMap F.enc:=by
 have e:xs.set k x=xs.take k++x::xs.drop (k+1):=List.set_eq_take_append_cons_drop .. |>.trans (if_pos h)
 rw[e,List.flatMap_append,List.flatMap_cons]
 unfold overL
 rw[fl_take,F.len,show k*F.n+F.n=(k+1)*F.n by rw[Nat.add_mul];omega,fl_drop,List.append_assoc]
theorem elems_fl{h:PHeap}{a:Option Addr}{xs:List α}(he:Elems F.R h a xs):Cs h (ba a) (xs.flatMap F.enc):=by
 intro j v hj
 have hjl:=(List.getElem?_eq_some_iff.1 hj).1
 rw[fl_len]at hjl
 have hn:=F.pos
 have hq:j/F.n<xs.length:=Nat.div_lt_of_lt_mul (by rw[Nat.mul_comm];exact hjl)
 obtain⟨ha,cs,hc,hr⟩:=he (j/F.n) _ (List.getElem?_eq_getElem hq)
 have hr:cs=F.enc xs[j/F.n]:=hr
 subst hr
 have hjm:j/F.n*F.n+j%F.n=j:=by rw[Nat.mul_comm];exact Nat.div_add_mod j F.n
 have key:(F.enc xs[j/F.n])[j%F.n]? =some v:=by
  rw[←fl_at (F:=F) (List.getElem?_eq_getElem hq),List.getElem?_take_of_lt (by rw[F.len];exact Nat.mod_lt _ hn),List.getElem?_drop,hjm];exact hj
 have h2:=hc (j%F.n) v key
 rw[Addr.add_add',show j/F.n*F.R.n+j%F.n=j from hjm]at h2
 exact h2
theorem rowF_sl{T:Nat}{p:Option Addr}{c:Nat}{xs:List α}{a:PHeap}(h:rowF F T p c xs a):Sl F.R a (.slice p xs.length c) xs:=by
 rcases Nat.eq_zero_or_pos xs.length with h0|h0
 ·have hx:xs=[]:=List.eq_nil_of_length_eq_zero h0
  subst hx
  obtain⟨_,⟨e,_⟩|⟨b,cap,cur,e,hb,h1,h2,h3,h4⟩⟩:=h
  ·injection e with e1 e2 e3
   exact⟨p,c,rfl,by omega,by omega,fun j x hj=>by simp at hj⟩
  ·injection e with e1 e2 e3
   subst e3
   exact⟨p,c,rfl,h1,by unfold maxLen at h2;exact h2,fun j x hj=>by simp at hj⟩
 ·have h':=h
  obtain⟨b,cur,rfl,hb,h1,h2,h3,h4,h5⟩:=row_open h h0
  refine⟨_,c,rfl,h1,by unfold maxLen at h2;exact h2,fun j x hj=>⟨rfl,F.enc x,?_,rfl⟩⟩
  exact row_cs h' (fl_at hj) (by rw[F.len];exact F.pos)
end
section
variable {P:Program}{ro:Option Nat}{n:Nat}{ds:List Deferred}{β:Base}{Q:Exit→Act→World→Prop}{f:Fm}{L:List Res}{ops:Array Oper}{rest:List Oper}
variable {d:Option Tmp}{ty:TypeId}{ps:String}{af:Array Edge}{g:Option (Nat×Bool)}
variable {α:Type}{F:Fl α}
theorem k_fl{T c:Nat}{p:Option Addr}{xs:List α}(i:Nat)(hi:L[i]? =some (rowF F T p c xs)):Knows β L (fun h=>Sl F.R h (.slice p xs.length c) xs):=Knows.of_res i hi (Sl.mono _ _ _) fun _ h=>rowF_sl h
theorem k_flAt{T c k:Nat}{p:Option Addr}{xs:List α}{x:α}(i:Nat)(hi:L[i]? =some (rowF F T p c xs))(hx:xs[k]? =some x):Knows β L (fun h=>Cs h ((ba p).add (k*F.n)) (F.enc x)):=
 k_row i hi (fl_at hx) (by rw[F.len];exact F.pos)
theorem k_flPart{T c k o:Nat}{p:Option Addr}{xs:List α}{x:α}{us:List Value}(i:Nat)(hi:L[i]? =some (rowF F T p c xs))(hx:xs[k]? =some x)(hu:((F.enc x).drop o).take us.length=us):Knows β L (fun h=>Cs h ((ba p).add (k*F.n+o)) us):=
 Knows.imp (k_flAt i hi hx) fun h hc=>by have:=Cs.sub o hc hu;rwa [Addr.add_add']at this
theorem m_storeFl{x y:Operand}{t k c T:Nat}{agg:Bool}{p:Option Addr}{xs:List α}{z:α}{v:Value}(i:Nat)(ht:tyB P t agg F.n=true)(hx:ev f x= .pointer (some ((ba p).add (k*F.n))))(hy:ev f y=v)(hv:v.cells.toList=F.enc z)
 (hi:L[i]? =some (rowF F T p c xs))(hk:k<xs.length):MU P β L f ⟨d,.store t x y,ty,ps,af,g⟩ (L.set i (rowF F T p c (xs.set k z))):=by
 have hn:v.cells.size=F.n:=by rw[←Array.length_toList,hv,F.len]
 have h:=m_storeRow (P:=P) (β:=β) (d:=d) (ty:=ty) (ps:=ps) (af:=af) (g:=g) (o:=k*F.n) i ht hx hy hi hn (by rw[hv];exact F.one z) (by have:=Nat.mul_le_mul_right F.n (show k+1≤xs.length from hk);rw[Nat.add_mul]at this;omega) (by omega)
 rw[hv,fl_set hk]at h
 have e:rowF F T p c (xs.set k z)=row (.slice p xs.length c) T F.n xs.length ((xs.set k z).flatMap F.enc):=by show row (.slice p (xs.set k z).length c) T F.n (xs.set k z).length _=_;rw[List.length_set]
 rw[e];exact h
theorem m_appendFl{x y:Operand}{t e bytes k c c0:Nat}{p:Option Addr}{xs ys:List α}{ao:Option Addr}(i:Nat)(hsl:slB P t e F.n=true)(hel:elB P e F.n bytes=true)(hx:ev f x= .slice p xs.length c0)(hi:L[i]? =some (rowF F e p c0 xs))
 (hy:ev f y= .slice ao k c)(hl:ys.length=k)(hk:Knows β L (fun h=>Elems F.R h ao ys))(hby:(xs.length+k)*bytes≤140737488355328)(h63:xs.length+k≤140737488355328):
  MV P β L f ⟨d,.call ⟨.builtin .append,#[x,y],#[t,t]⟩,ty,ps,af,g⟩ (fun v' L'=>∃p c,v'= .slice p (xs++ys).length c∧L'=L.set i (rowF F e p c (xs++ys))):=fun w hw=>by
 have hkk:=hw.knows hk
 have hcs:Knows β L (fun h=>Cs h (ba ao) (ys.flatMap F.enc)):=fun h hb hr=>elems_fl (hk h hb hr)
 have hsome:0<k→ao=some (ba ao):=fun h0=>by
  cases ys with
  |nil=>simp at hl;omega
  |cons a l=>exact(hkk 0 a rfl).1
 obtain⟨v',w',L',g1,g2,p',c',rfl,rfl⟩:=m_append_w (P:=P) (ty:=ty) (ps:=ps) (af:=af) (g:=g) (d:=d) i hsl hel hx hi hy (by rw[fl_len,hl]) hcs (fl_one ys) hsome (by unfold maxLen;omega) hby w hw
 have e1:(xs++ys).length=xs.length+k:=by simp[hl]
 refine⟨_,w',_,g1,g2,p',c',by rw[e1],?_⟩
 show _=L.set i (row (.slice p' (xs++ys).length c') e F.n (xs++ys).length ((xs++ys).flatMap F.enc))
 rw[e1,List.flatMap_append]
theorem e_indexFlN{x y:Operand}{t e:Nat}{j m cap T:Nat}{p:Option Addr}{xs:List α}(i:Nat)(hx:ev f x= .slice p m cap)(hm:m=xs.length)(hy:ev f y= .int .i64 (j:Int))(ht:slB P t e F.n=true)(hj:j<m)
 (hi:L[i]? =some (rowF F T p cap xs)):EV P β L f ⟨d,.indexAddr t x y,ty,ps,af,g⟩ (.pointer (some ((ba p).add (j*F.n)))):=e_indexRow i hx hy ht hj (by omega) hi
theorem k_flN{T c m:Nat}{p:Option Addr}{xs:List α}(i:Nat)(hi:L[i]? =some (rowF F T p c xs))(hm:m=xs.length):Knows β L (fun h=>Sl F.R h (.slice p m c) xs):=by subst hm;exact k_fl i hi
theorem k_ptFl{b T:Nat}{fr:Nat×Nat}{z:α}{cs:Array Value}(i:Nat)(hi:L[i]? =some (pt b (.cells cs T fr)))(hz:cs.toList=F.enc z):Knows β L (fun h=>Elems F.R h (some ⟨b,0,none⟩) [z]):=
 Knows.of_res i hi (Elems.mono _ _ _) fun a h j x hx=>by
  cases j with
  |zero=>
   have e:z=x:=by simpa using hx
   subst e
   refine⟨rfl,F.enc z,?_,rfl⟩
   rw[Nat.zero_mul]
   have e0:(ba (some ⟨b,0,none⟩)).add 0=⟨b,0,none⟩:=rfl
   rw[e0]
   exact Cs.of_pt h (by rw[List.drop_zero,hz,List.take_length])
  |succ j=>simp at hx
theorem k_ptFls{b T m:Nat}{fr:Nat×Nat}{xs:List α}{cs:Array Value}(i:Nat)(hi:L[i]? =some (pt b (.cells cs T fr)))(hz:cs.toList=xs.flatMap F.enc)(hm:m=xs.length)(hl:xs.length≤1048576):Knows β L (fun h=>Sl F.R h (.slice (some ⟨b,0,none⟩) m m) xs):=by
 subst hm
 refine Knows.of_res i hi (Sl.mono _ _ _) fun a h=>⟨_,_,rfl,Nat.le_refl _,by omega,fun j x hx=>⟨rfl,F.enc x,?_,rfl⟩⟩
 have e:(ba (some ⟨b,0,none⟩)).add (j*F.R.n)=⟨b,j*F.n,none⟩:=by
  show(⟨b,0,none⟩:Addr).add (j*F.n)=_
  unfold Addr.add;split<;>simp_all
 rw[e]
 exact Cs.of_pt h (by rw[hz];exact fl_at hx)
end
end Go.Sl
namespace Go.Sl
section
variable {P:Program}{ro:Option Nat}{n:Nat}{ds:List Deferred}{β:Base}{Q:Exit→Act→World→Prop}{f:Fm}{L:List Res}
theorem pt_rowF{α:Type}{F:Fl α}{b T:Nat}{cs:Array Value}{xs:List α}(hx:cs.toList=xs.flatMap F.enc)(hl:xs.length≤1048576)(a:PHeap)(h:pt b (.cells cs T) a):rowF F T (some ⟨b,0,none⟩) xs.length xs a:=by
 have hs:cs.size=xs.length*F.n:=by rw[←Array.length_toList,hx,fl_len]
 have:=pt_row (m:=xs.length) (n:=F.n) (by unfold maxLen;omega) hs a h
 rwa [hx]at this
end
end Go.Sl
namespace Go.Sl
section
variable {P:Program}{ro:Option Nat}{n:Nat}{ds:List Deferred}{β:Base}{Q:Exit→Act→World→Prop}{f:Fm}{L:List Res}
variable {d:Option Tmp}{ty:TypeId}{ps:String}{af:Array Edge}{g:Option (Nat×Bool)}{α:Type}{F:Fl α}
theorem m_appendFlN{x y:Operand}{t e bytes k c c0 m:Nat}{p:Option Addr}{xs ys:List α}{ao:Option Addr}(i:Nat)(hsl:slB P t e F.n=true)(hel:elB P e F.n bytes=true)(hx:ev f x= .slice p m c0)(hm:m=xs.length)(hi:L[i]? =some (rowF F e p c0 xs))
 (hy:ev f y= .slice ao k c)(hl:ys.length=k)(hk:Knows β L (fun h=>Elems F.R h ao ys))(hby:(xs.length+k)*bytes≤140737488355328)(h63:xs.length+k≤140737488355328):
  MV P β L f ⟨d,.call ⟨.builtin .append,#[x,y],#[t,t]⟩,ty,ps,af,g⟩ (fun v' L'=>∃p c,v'= .slice p (xs++ys).length c∧L'=L.set i (rowF F e p c (xs++ys))):=by
 subst hm;exact m_appendFl i hsl hel hx hi hy hl hk hby h63
end
end Go.Sl
