/-
  Lists that are filled with marks and made longer: two slices that may share a block, resources one after the other. Own work; plain Lean.
-/
import Derived.Test.YtmgpmgckbcjalaaGreatSlFam
import Derived.Test.YtmgpmgckbcjalaaGreatSlFlat
namespace Go.Sl
section
variable {P:Program}{ro:Option Nat}{n:Nat}{ds:List Deferred}{β:Base}{Q:Exit→Act→World→Prop}{f:Fm}{L:List Res}{ops:Array Oper}{rest:List Oper}
variable {d:Option Tmp}{ty:TypeId}{ps:String}{af:Array Edge}{g:Option (Nat×Bool)}
def famW(z:Nat)(v u:Value)(T n m:Nat)(vs us:List Value):Res:=fun h=>row v T z n vs h∧row u T z m us h∧n≤m
theorem famW_start{z:Nat}{v:Value}{T n:Nat}{vs:List Value}(a:PHeap)(h:row v T z n vs a):famW z v v T n n vs vs a:=⟨h,h,Nat.le_refl _⟩
theorem famW_first{z:Nat}{v u:Value}{T n m:Nat}{vs us:List Value}(a:PHeap)(h:famW z v u T n m vs us a):row v T z n vs a:=h.1
theorem St.famW{z T n m m':Nat}{v u u':Value}{vs us us':List Value}{L:List Res}{w w':World}(h:St β (famW z v u T n m vs us::L) w)(ho:w'.ownsRow 0 T z u' m' us')(hm:m≤m')(hp:0<m')(hg:w.grownBy w' u.ownBlock)
   (hc:(∃b cap cur cur',u= .slice (some ⟨b,0,none⟩) m cap∧u'= .slice (some ⟨b,0,none⟩) m' cap∧w.heap[b]? =some (.cells cur T (0,0))∧w'.heap[b]? =some (.cells cur' T (0,0))∧cur'.size=cur.size∧cur'.toList.take (m*z)=cur.toList.take (m*z))∨
       ((∀b,u'.ownBlock=some b→w.heap.size≤b)∧∀b,b<w.heap.size→w'.heap[b]? =w.heap[b]?))(hdr:w.drawn≤w'.drawn):St β (Sl.famW z v u' T n m' vs us'::L) w':=by
  refine h.turn hg.os hg.tape hg.output (fun a ha hr=> ?_) hdr
  obtain⟨rv,ru,hnm⟩:=hr
  rcases hc with⟨b,cap,cur,cur',rfl,rfl,h1,h2,h3,h4⟩|⟨h1,h2⟩
  · have hab:a b=some (.cells cur T (0,0)):=by
      obtain⟨_,⟨e,_⟩|⟨b2,cap2,cur2,e,hb2,_⟩⟩:=ru
      · cases e
      · injection e with e1 e2 e3
        injection e1 with e1
        injection e1 with e1
        subst e1
        have:=ha _ _ hb2
        rw[show ph w b=w.heap[b]? from rfl,h1]at this
        injection this with this
        rw[hb2,this]
    have hne:∀k,k<w.heap.size→k≠b→w'.heap[k]? =w.heap[k]? :=fun k hk hkb=>hg.block k hk (by simp only[Value.ownBlock,ne_eq,Option.some.injEq];exact fun e=>hkb e)
    refine⟨fun k=>if k=b then some (.cells cur' T (0,0))else a k,⟨?_,?_,by omega⟩,?_,?_⟩
    · obtain⟨hl,⟨rfl,h0⟩|⟨bv,capv,curv,rfl,hbv,g1,g2,g3,g4⟩⟩:=rv
      · exact⟨hl,.inl ⟨rfl,h0⟩⟩
      · by_cases e:bv=b
        · subst e
          rw[hab]at hbv
          injection hbv with hbv
          injection hbv with hbv
          subst hbv
          refine⟨hl,.inr ⟨bv,capv,cur',rfl,by simp,g1,g2,by rw[h3];exact g3,?_⟩⟩
          have e1:cur'.toList.take (n*z)=(cur'.toList.take (m*z)).take (n*z):=by rw[List.take_take,Nat.min_eq_left (Nat.mul_le_mul_right z hnm)]
          rw[e1,h4,List.take_take,Nat.min_eq_left (Nat.mul_le_mul_right z hnm)]
          exact g4
        · exact⟨hl,.inr ⟨bv,capv,curv,rfl,by simp[e,hbv],g1,g2,g3,g4⟩⟩
    · obtain⟨hl,⟨e,_⟩|⟨b',cap',cur2,e,_,hb',g1,g2,g3,g4⟩⟩:=ho
      · cases e
      · injection e with e1 e2 e3
        injection e1 with e1
        injection e1 with e1
        subst e1;subst e3
        rw[h2]at hb'
        injection hb' with hb'
        injection hb' with hb'
        subst hb'
        exact⟨hl,.inr ⟨b,cap,cur',rfl,by simp,g1,g2,g3,g4⟩⟩
    · intro k o hk
      by_cases e:k=b
      · subst e;simp at hk;subst hk;exact h2
      · simp[e]at hk
        have hk2:=ha _ _ hk
        have hlt:k<w.heap.size:=(Array.getElem?_eq_some_iff.1 hk2).1
        show w'.heap[k]? =some o
        rw[hne k hlt e];exact hk2
    · intro k hk hak
      have e:k≠b:=by rintro rfl;rw[hab]at hak;cases hak
      exact⟨by simp[e,hak],hne k hk e⟩
  · obtain⟨hl,⟨rfl,h0⟩|⟨b',cap',cur',rfl,_,hb',g1,g2,g3,g4⟩⟩:=ho
    · omega
    · have hnew:=h1 b' rfl
      refine⟨fun k=>if k=b' then some (.cells cur' T (0,0))else a k,⟨?_,⟨hl,.inr ⟨b',cap',cur',rfl,by simp,g1,g2,g3,g4⟩⟩,by omega⟩,?_,?_⟩
      · obtain⟨hlv,⟨rfl,h0⟩|⟨bv,capv,curv,rfl,hbv,k1,k2,k3,k4⟩⟩:=rv
        · exact⟨hlv,.inl ⟨rfl,h0⟩⟩
        · have hlt:bv<w.heap.size:=(Array.getElem?_eq_some_iff.1 (ha _ _ hbv)).1
          have e:bv≠b':=by omega
          exact⟨hlv,.inr ⟨bv,capv,curv,rfl,by simp[e,hbv],k1,k2,k3,k4⟩⟩
      · intro k o hk
        by_cases e:k=b'
        · subst e;simp at hk;subst hk;exact hb'
        · simp[e]at hk
          have hk2:=ha _ _ hk
          have hlt:k<w.heap.size:=(Array.getElem?_eq_some_iff.1 hk2).1
          show w'.heap[k]? =some o
          rw[h2 k hlt];exact hk2
      · intro k hk hak
        have e:k≠b':=by omega
        exact⟨by simp[e,hak],h2 k hk⟩
theorem m_append_famW{x y:Operand}{z t e bytes m k c q:Nat}{v u:Value}{vs us news:List Value}{ad:Addr}(i:Nat)(hsl:slB P t e z=true)(hel:elB P e z bytes=true)(hx:ev f x=u)(hi:L[i]? =some (famW z v u e q m vs us))
 (hy:ev f y= .slice (some ad) k c)(hl:news.length=k*z)(hnews:Knows β L (fun h=>Cs h ad news))(h1:news.all (·.oneCell')=true)(hk:0<k)(h63:m+k≤maxLen)(hby:(m+k)*bytes≤140737488355328):
  MV P β L f ⟨d,.call ⟨.builtin .append,#[x,y],#[t,t]⟩,ty,ps,af,g⟩ (fun v' L'=>∃p c,v'= .slice p (m+k) c∧L'=L.set i (famW z v (.slice p (m+k) c) e q (m+k) vs (us++news))):=fun w hw=>by
 have hown:w.ownsRow 0 e z u m us:=by
  obtain⟨a,ha,hr⟩:∃a,Sub a (ph w)∧famW z v u e q m vs us a:=by
   obtain⟨_,_,_,hh,hd,hs,hs',hL⟩:=hw
   obtain⟨a,ha,hr⟩:=hL.each _ (List.mem_of_getElem? hi)
   exact⟨a,ha.trans hs',hr⟩
  exact hr.2.1.owns ha
 obtain⟨v',w',hr,ho,hg,hcase,hdr⟩:=run_append_two (P:=P) hsl hel hown ad k c news hl (hw.knows hnews) h1 h63 hby ty hk
 have hc:∃p c,v'= .slice p (m+k) c:=by
  rcases ho.2 with⟨e1,e2⟩|⟨b,cap,cur,e1,_⟩
  ·omega
  ·exact⟨_,_,e1⟩
 obtain⟨p,c',rfl⟩:=hc
 refine⟨_,w',_,?_,St.back i hi ((hw.front i hi).famW ho (by omega) (by omega) hg hcase hdr),p,c',rfl,rfl⟩
 simp only[execOp,resolve,invoke,builtin,Sem.run_bind,Sem.run_pure,Result.andThen_ok,List.map_toArray,List.map_cons,List.map_nil,hx,hy,hr]
end
section
variable {P:Program}{ro:Option Nat}{n:Nat}{ds:List Deferred}{β:Base}{Q:Exit→Act→World→Prop}{f:Fm}{L:List Res}{ops:Array Oper}{rest:List Oper}
variable {d:Option Tmp}{ty:TypeId}{ps:String}{af:Array Edge}{g:Option (Nat×Bool)}
theorem St.headR{r:Res}{Ls M:List Res}{w:World}(h:St β (Sat (r::Ls)::M) w):St β (Sat Ls::r::M) w:=by
 have h2:(r::Ls++M).Perm (Ls++(r::M)):=(List.perm_middle (a:=r) (l₁:=Ls) (l₂:=M)).symm
 exact(h.unbun.perm h2).merge fun _ q=>q
theorem St.snocR{r:Res}{Ls M:List Res}{w:World}(h:St β (Sat Ls::r::M) w):St β (Sat (Ls++[r])::M) w:=by
 refine St.merge (L:=Ls++[r]) ?_ fun _ q=>q
 rw[List.append_assoc];exact h.unbun
theorem c_headR{c:Code}{r:Res}{Ls M:List Res}(hL:L=Sat (r::Ls)::M)(k:RunC P ro n ds β c Q f (Sat Ls::r::M)):RunC P ro n ds β c Q f L:=fun a w ha hw=>by
 subst hL;exact k a w ha hw.headR
theorem c_snocR{c:Code}{r:Res}{Ls Ls' M:List Res}(hL:L=Sat Ls::r::M)(he:Ls++[r]=Ls')(k:RunC P ro n ds β c Q f (Sat Ls'::M)):RunC P ro n ds β c Q f L:=fun a w ha hw=>by
 subst hL;subst he;exact k a w ha hw.snocR
theorem St.takeN{Ls M:List Res}{i:Nat}{r:Res}{w:World}(hi:Ls[i]? =some r)(h:St β (Sat Ls::M) w):St β (Sat (Ls.eraseIdx i)::r::M) w:=by
 have h2:(Ls++M).Perm (Ls.eraseIdx i++(r::M)):=by
  refine((perm_front i hi).append_right M).trans ?_
  rw[List.cons_append]
  exact(List.perm_middle (a:=r) (l₁:=Ls.eraseIdx i) (l₂:=M)).symm
 exact(h.unbun.perm h2).merge fun _ q=>q
theorem St.putN{Ls M:List Res}{i:Nat}{r:Res}{w:World}(hi:Ls[i]? =some r)(h:St β (Sat (Ls.eraseIdx i)::r::M) w):St β (Sat Ls::M) w:=by
 have h2:(Ls.eraseIdx i++(r::M)).Perm (Ls++M):=by
  refine(List.perm_middle (a:=r) (l₁:=Ls.eraseIdx i) (l₂:=M)).trans ?_
  rw[←List.cons_append]
  exact(perm_front i hi).symm.append_right M
 exact(h.unbun.perm h2).merge fun _ q=>q
theorem c_takeN{c:Code}{Ls M:List Res}{r:Res}(i:Nat)(hi:Ls[i]? =some r)(hL:L=Sat Ls::M)(k:RunC P ro n ds β c Q f (Sat (Ls.eraseIdx i)::r::M)):RunC P ro n ds β c Q f L:=fun a w ha hw=>by
 subst hL;exact k a w ha (hw.takeN hi)
theorem c_putN{c:Code}{Ls M:List Res}{r:Res}(i:Nat)(hi:Ls[i]? =some r)(hL:L=Sat (Ls.eraseIdx i)::r::M)(k:RunC P ro n ds β c Q f (Sat Ls::M)):RunC P ro n ds β c Q f L:=fun a w ha hw=>by
 subst hL;exact k a w ha (hw.putN hi)
end
def fromK{γ:Type}(f:Nat→γ→Res):Nat→List γ→List Res
 |_,[]=>[]
 |k,x::l=>f k x::fromK f (k+1) l
theorem fromK_snoc{γ:Type}(f:Nat→γ→Res)(x:γ):∀(k:Nat) (l:List γ),fromK f k (l++[x])=fromK f k l++[f (k+l.length) x]
 |k,[]=>rfl
 |k,y::l=>by
  show f k y::fromK f (k+1) (l++[x])=f k y::(fromK f (k+1) l++[f (k+(l.length+1)) x])
  rw[fromK_snoc f x (k+1) l,show k+1+l.length=k+(l.length+1) by omega]
theorem fromK_at{γ:Type}(f:Nat→γ→Res){x:γ}:∀{k i:Nat} {l:List γ},l[i]? =some x→(fromK f k l)[i]? =some (f (k+i) x)
 |k,0,[],h=>by cases h
 |k,i+1,[],h=>by cases h
 |k,0,y::l,h=>by injection h with h;subst h;rfl
 |k,i+1,y::l,h=>by
  show(fromK f (k+1) l)[i]? =_
  rw[fromK_at f (k:=k+1) (i:=i) (l:=l) (by simpa using h),show k+1+i=k+(i+1) by omega]
theorem fromK_at0{γ:Type}(f:Nat→γ→Res){x:γ}{i:Nat}{l:List γ}(h:l[i]? =some x):(fromK f 0 l)[i]? =some (f i x):=by
 rw[fromK_at f h,Nat.zero_add]
theorem snocK{γ:Type}(f:Nat→γ→Res)(x:γ)(l:List γ):fromK f 0 l++[f l.length x]=fromK f 0 (l++[x]):=by
 rw[fromK_snoc,Nat.zero_add]
structure H3 where
 p:Option Addr
 n:Nat
 c:Nat
abbrev H3F:Fl H3:=⟨1,fun h=>[.slice h.p h.n h.c],fun _=>rfl,fun _=>rfl,by decide⟩
structure HV(α:Type) where
 p:Option Addr
 c:Nat
 xs:List α
def HV.h{α:Type}(v:HV α):H3:=⟨v.p,v.xs.length,v.c⟩
structure Z5 where
 h:H3
 q:Option Addr
 e:Nat
section
variable {α:Type}(F:Fl α)(T:Nat)(mk:Nat→Nat→α)
def mkL{α:Type}(mk:Nat→Nat→α)(k n:Nat):List α:=(List.range n).map (mk k)
def ownV(v:HV α):Res:=rowF F T v.p v.c v.xs
def rowK(k:Nat)(h:H3):Res:=rowF F T h.p h.c (mkL mk k h.n)
def famF(p:Option Addr)(c:Nat)(xs:List α)(q:Option Addr)(e:Nat)(ys:List α):Res:=famW F.n (.slice p xs.length c) (.slice q ys.length e) T xs.length ys.length (xs.flatMap F.enc) (ys.flatMap F.enc)
def famK(k:Nat)(z:Z5):Res:=famF F T z.h.p z.h.c (mkL mk k z.h.n) z.q z.e (mkL mk k (z.h.n+64))
def famM(n0 k:Nat)(z:Z5):Res:=famF F T z.h.p z.h.c (mkL mk k z.h.n) z.q z.e (mkL mk k z.h.n++mkL mk (k+n0) 64)
end
def gh3(z:Z5):H3:=⟨z.q,z.h.n+64,z.e⟩
section
variable {α:Type}{F:Fl α}{T:Nat}{mk:Nat→Nat→α}
theorem mkL_len(k n:Nat):(mkL mk k n).length=n:=by unfold mkL;simp
theorem mkL_succ(k n:Nat):mkL mk k n++[mk k n]=mkL mk k (n+1):=by unfold mkL;rw[List.range_succ,List.map_append];rfl
theorem mkL_at{k n i:Nat}(h:i<n):(mkL mk k n)[i]? =some (mk k i):=by unfold mkL;simp[h]
theorem mkL_at2{k n i:Nat}{R:List α}(h:i<n):(mkL mk k n++R)[i]? =some (mk k i):=by rw[List.getElem?_append_left (by rw[mkL_len];exact h)];exact mkL_at h
theorem mkp_len{k i:Nat}{R:List α}(h:i≤R.length):(mkL mk k i++R.drop i).length=R.length:=by rw[List.length_append,mkL_len,List.length_drop];omega
theorem mkp_step{k i:Nat}{R:List α}(h:i<R.length):(mkL mk k i++R.drop i).set i (mk k i)=mkL mk k (i+1)++R.drop (i+1):=by
 rw[List.set_append,if_neg (by rw[mkL_len];omega),mkL_len,Nat.sub_self,List.drop_eq_getElem_cons h,List.set_cons_zero,←mkL_succ,List.append_assoc];rfl
theorem mkp_done{k i:Nat}{R:List α}(h:R.length≤i):mkL mk k i++R.drop i=mkL mk k i:=by rw[List.drop_eq_nil_of_le h,List.append_nil]
theorem mkp_zero{k:Nat}{R:List α}:mkL mk k 0++R.drop 0=R:=by unfold mkL;simp
theorem famF_start{p:Option Addr}{c:Nat}{xs:List α}(a:PHeap)(h:rowF F T p c xs a):famF F T p c xs p c xs a:=famW_start a h
theorem famF_first{p q:Option Addr}{c e:Nat}{xs ys:List α}(a:PHeap)(h:famF F T p c xs q e ys a):rowF F T p c xs a:=famW_first a h
end
section
variable {P:Program}{ro:Option Nat}{n:Nat}{ds:List Deferred}{β:Base}{Q:Exit→Act→World→Prop}{f:Fm}{L:List Res}{ops:Array Oper}{rest:List Oper}
variable {d:Option Tmp}{ty:TypeId}{ps:String}{af:Array Edge}{g:Option (Nat×Bool)}
variable {α:Type}{F:Fl α}{T:Nat}
theorem m_append_famF{x y:Operand}{t bytes m k:Nat}{p q:Option Addr}{c e cc:Nat}{xs ys zs:List α}{ad:Addr}(i:Nat)(hsl:slB P t T F.n=true)(hel:elB P T F.n bytes=true)(hx:ev f x= .slice q m e)(hi:L[i]? =some (famF F T p c xs q e ys))(hm:m=ys.length)
 (hy:ev f y= .slice (some ad) k cc)(hl:zs.length=k)(hnews:Knows β L (fun h=>Cs h ad (zs.flatMap F.enc)))(hk:0<k)(h63:m+k≤maxLen)(hby:(m+k)*bytes≤140737488355328):
  MV P β L f ⟨d,.call ⟨.builtin .append,#[x,y],#[t,t]⟩,ty,ps,af,g⟩ (fun v' L'=>∃p' c',v'= .slice p' (m+k) c'∧L'=L.set i (famF F T p c xs p' c' (ys++zs))):=fun w hw=>by
 subst hm
 obtain⟨v',w',L',h1,h2,p',c',h3,h4⟩:=m_append_famW (P:=P) (β:=β) (L:=L) (f:=f) (d:=d) (ty:=ty) (ps:=ps) (af:=af) (g:=g) (x:=x) (y:=y) (z:=F.n) (t:=t) (e:=T) (bytes:=bytes) (m:=ys.length) (k:=k) (c:=cc) (q:=xs.length) (v:= .slice p xs.length c) (u:= .slice q ys.length e) (vs:=xs.flatMap F.enc) (us:=ys.flatMap F.enc) (news:=zs.flatMap F.enc) (ad:=ad) i hsl hel hx hi hy (by rw[fl_len,hl]) hnews (fl_one _) hk h63 hby w hw
 refine⟨v',w',L',h1,h2,p',c',h3,?_⟩
 rw[h4]
 unfold famF
 rw[List.flatMap_append,List.length_append,hl]
theorem e_indexFam2F{x y:Operand}{t:Nat}{j m:Nat}{p q:Option Addr}{c e cc:Nat}{xs ys:List α}(i:Nat)(hx:ev f x= .slice q m cc)(hm:m≤ys.length)(hy:ev f y= .int .i64 (j:Int))(ht:slB P t T F.n=true)(hj:j<m)
 (hi:L[i]? =some (famF F T p c xs q e ys)):EV P β L f ⟨d,.indexAddr t x y,ty,ps,af,g⟩ (.pointer (some ((ba q).add (j*F.n)))):=fun w hw=>
 e_indexAddr hx hy ht hj (hw.knows (F:=fun _=>q=some (ba q)) (Knows.of_res i hi (fun _ _ _ h=>h) fun a h=>by
  obtain⟨b,cur,rfl,_⟩:=row_open h.2.1 (by omega)
  rfl)) w hw
theorem e_indexFam1F{x y:Operand}{t:Nat}{j m:Nat}{p q:Option Addr}{c e cc:Nat}{xs ys:List α}(i:Nat)(hx:ev f x= .slice p m cc)(hm:m≤xs.length)(hy:ev f y= .int .i64 (j:Int))(ht:slB P t T F.n=true)(hj:j<m)
 (hi:L[i]? =some (famF F T p c xs q e ys)):EV P β L f ⟨d,.indexAddr t x y,ty,ps,af,g⟩ (.pointer (some ((ba p).add (j*F.n)))):=fun w hw=>
 e_indexAddr hx hy ht hj (hw.knows (F:=fun _=>p=some (ba p)) (Knows.of_res i hi (fun _ _ _ h=>h) fun a h=>by
  obtain⟨b,cur,rfl,_⟩:=row_open h.1 (by omega)
  rfl)) w hw
theorem k_fam2F{p q:Option Addr}{c e j:Nat}{xs ys:List α}{x:α}(i:Nat)(hi:L[i]? =some (famF F T p c xs q e ys))(hx:ys[j]? =some x):Knows β L (fun h=>Cs h ((ba q).add (j*F.n)) (F.enc x)):=
 Knows.of_res i hi (Cs.mono _ _) fun _ h=>row_cs h.2.1 (fl_at hx) (by rw[F.len];exact F.pos)
theorem k_fam1F{p q:Option Addr}{c e j:Nat}{xs ys:List α}{x:α}(i:Nat)(hi:L[i]? =some (famF F T p c xs q e ys))(hx:xs[j]? =some x):Knows β L (fun h=>Cs h ((ba p).add (j*F.n)) (F.enc x)):=
 Knows.of_res i hi (Cs.mono _ _) fun _ h=>row_cs h.1 (fl_at hx) (by rw[F.len];exact F.pos)
end
theorem k_rowF_all{α:Type}{F:Fl α}{T:Nat}{β:Base}{L:List Res}{p:Option Addr}{c:Nat}{xs:List α}(i:Nat)(hi:L[i]? =some (rowF F T p c xs))(h0:0<xs.length):Knows β L (fun h=>Cs h (ba p) (xs.flatMap F.enc)):=
 Knows.of_res i hi (Cs.mono _ _) fun a h=>by
  obtain⟨b,cur,rfl,hb,_,_,_,h4,_⟩:=row_open h h0
  exact Cs.of_pt (o:=0) hb (by simp only[List.drop_zero];rw[←h4];simp)
theorem uncons{γ:Type}{post:List γ}{a b:Nat}(h:b=a+post.length)(hl:a<b):∃x po,post=x::po:=by
 cases post with
 |nil=>simp at h;omega
 |cons x po=>exact⟨x,po,rfl⟩
theorem unnil{γ:Type}{post:List γ}{a b:Nat}(h:b=a+post.length)(hl:¬a<b):post=[]:=by
 cases post with
 |nil=>rfl
 |cons x po=>simp at h;omega
theorem rep_flatA{α:Type}{F:Fl α}{x0:α}{z:Value}(hz:z.cells.toList=F.enc x0):∀c,repL z.cells.toList c=(List.replicate c x0).flatMap F.enc
 |0=>rfl
 |c+1=>by
  rw[List.replicate_succ,List.flatMap_cons,←rep_flatA hz c,hz];rfl
theorem m_makeFl{α:Type}{F:Fl α}{x0:α}{P:Program}{β:Base}{L:List Res}{f:Fm}{d:Option Tmp}{ty:TypeId}{ps:String}{af:Array Edge}{g:Option (Nat×Bool)}{x y:Operand}{t e bytes c:Nat}{z:Value}(hsl:slB P t e F.n=true)(hel:elB P e F.n bytes=true)(hz:(P.info? e).bind (·.zero)=some z)(hzc:z.cells.toList=F.enc x0)(hx:ev f x= .int .i64 (c:Int))(hy:ev f y= .int .i64 (c:Int))(hc:c≤maxLen)(hb:c*bytes≤140737488355328):
  MV P β L f ⟨d,.makeSlice t x y,ty,ps,af,g⟩ (fun u L'=>∃b,u= .slice (some ⟨b,0,none⟩) c c∧L'=rowF F e (some ⟨b,0,none⟩) c (List.replicate c x0)::L):=fun w hw=>by
 have hzn:z.cells.size=F.n:=by
  have:=congrArg List.length hzc
  rw[F.len]at this;simpa using this
 cases c with
 |zero=>
  obtain⟨u,w',L',h1,h2,b,rfl,rfl⟩:=m_make00 (P:=P) (β:=β) (L:=L) (f:=f) (d:=d) (ty:=ty) (ps:=ps) (af:=af) (g:=g) (x:=x) (y:=y) hsl hx hy w hw
  exact⟨_,w',_,h1,h2.conseq fun a ha=>⟨by simp,.inr ⟨b,0,#[],rfl,ha,Nat.le_refl _,by unfold maxLen;omega,by simp,by simp⟩⟩,b,rfl,rfl⟩
 |succ c=>
  obtain⟨u,w',L',h1,h2,b,rfl,rfl⟩:=m_makeN (P:=P) (β:=β) (L:=L) (f:=f) (d:=d) (ty:=ty) (ps:=ps) (af:=af) (g:=g) (x:=x) (y:=y) hsl hel hz hzn hx hy (Nat.mul_pos (Nat.succ_pos _) F.pos) hc hb w hw
  refine⟨_,w',_,h1,h2.conseq fun a ha=> ?_,b,rfl,rfl⟩
  rw[rep_flatA hzc]at ha
  show row (.slice _ (List.replicate (c+1) x0).length _) _ _ (List.replicate (c+1) x0).length _ a
  rw[List.length_replicate];exact ha
theorem gs_set{A:List Z5}{m:Nat}{z:Z5}{x:H3}:(A.map gh3++x::List.replicate m (⟨none,0,0⟩:H3)).set A.length (gh3 z)=(A++[z]).map gh3++List.replicate m (⟨none,0,0⟩:H3):=by
 rw[List.set_append,if_neg (by rw[List.length_map];omega),List.length_map,Nat.sub_self,List.set_cons_zero,List.map_append,List.append_assoc];rfl
theorem gs_set2{A B:List Z5}{z y:Z5}:(A.map gh3++(y::B).map gh3).set A.length (gh3 z)=(A++[z]).map gh3++B.map gh3:=by
 rw[List.map_cons,List.set_append,if_neg (by rw[List.length_map];omega),List.length_map,Nat.sub_self,List.set_cons_zero,List.map_append,List.append_assoc];rfl
theorem mid_at{γ:Type}{A B:List γ}{x:γ}{i:Nat}(h:i=A.length):(A++x::B)[i]? =some x:=by subst h;rw[List.getElem?_append_right (Nat.le_refl _),Nat.sub_self];rfl
end Go.Sl
