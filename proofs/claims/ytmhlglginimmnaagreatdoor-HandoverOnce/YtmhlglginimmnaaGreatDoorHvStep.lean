/-
  A step of a town. Own work; plain Lean.
-/
import Derived.Test.YtmhlglginimmnaaGreatDoorHv35
set_option linter.all false
namespace Go.Hv
open Go Go.Sl Go.Proofs Go.Jn
def TStepped(β:Base)(T:Nat)(ss:P3)(Ss:List Nat)(i N:Nat)(w:World):Prop:=
 ∃(gs:P3) (Gs Us:List Nat) (p:Option Addr) (c:Nat) (tg nx:KN7) (Xs:List KG) (ms:List KMs),Gs.length=3∧(∀k,k<3→gs.at k=Gs[k]?)∧Us.length=3∧(∀k u:Nat,Us[k]? =some u→u=0∨u=1)∧TOk Xs tg i∧(∀m∈ms,MsgOk Xs m)∧ms.length≤71*i∧St β [twR T ss gs p ms.length c tg nx,tnR Gs Ss Xs Us N,msgsR p c ms] w
theorem us_up(k u:Nat)(h:[1,1,1][k]? =some u):u=0∨u=1:=by
 have hm:=List.mem_of_getElem? h
 right;simpa using hm
theorem us_dn(a k u:Nat)(h:([1,1,1].set a 0)[k]? =some u):u=0∨u=1:=by
 rcases List.mem_or_eq_of_mem_set (List.mem_of_getElem? h)with hm|hm
 ·right;simpa using hm
 ·exact .inl hm
theorem upd_gs{gs:P3}{Gs:List Nat}{z G:Nat}(h1:Gs.length=3)(h2:∀k,k<3→gs.at k=Gs[k]?)(hz:z<3):∀k,k<3→(gs.upd z (some G)).at k=(Gs.set z G)[k]? :=fun k hk=>by
 rw[P3.at_upd hz hk]
 by_cases e:k=z
 ·subst e;rw[if_pos rfl,List.getElem?_set_self (by omega)]
 ·rw[if_neg e,List.getElem?_set_ne (Ne.symm e)];exact h2 k hk
theorem ms_mv{Xs Ys:List KG}{ms:List KMs}(h:∀m∈ms,MsgOk Xs m)(g:Mv Xs Ys):∀m∈ms,MsgOk Ys m:=fun m hm=>(h m hm).mv g
def tnA(q:Option Int)(X1:KG)(k:Nat)(e:Int)(Gs Ss:List Nat)(Xs:List KG)(N:Nat):Res:=fun h=>∃u Y,Acted q X1 (gt Xs k) e u Y∧tnR Gs Ss (Xs.set k Y) ([1,1,1].set k u) N h
theorem net_actA{β:Base}{Gs Ss:List Nat}{Xs:List KG}{N k G:Nat}{w:World}{fid:FuncId}{args:Array Value}{q:Option Int}{X1:KG}(hw:St β [netR Gs Ss Xs N false] w)(hl:NetLen Gs Ss Xs 3)(hk:Gs[k]? =some G)
 (h:∀(β1:Base) w S,Sub β.heap β1.heap→St β1 [gateR G S (gt Xs k) N false] w→Calls Tryz.prog fid args w fun r w'=>∃e u Y,r= .returned (Ix e)∧Acted q X1 (gt Xs k) e u Y∧St β1 [stR G S Y (N+262500) u] w'):
  Calls Tryz.prog fid args w fun r w'=>∃e,r= .returned (Ix e)∧St β [tnA q X1 k e Gs Ss Xs (N+262500)] w':=by
 refine(net_actF (A:=fun e u Y=>Acted q X1 (gt Xs k) e u Y) hw hl hk h).mono ?_
 rintro r w' ⟨e,u,Y,h1,h2,h3⟩
 exact⟨e,h1,h3.conseq fun a ha=>⟨u,Y,h2,ha⟩⟩
section
variable {P:Program}{ro:Option Nat}{n:Nat}{ds:List Deferred}{β:Base}{Q:Exit→Act→World→Prop}{f:Fm}{L M:List Res}{c:Code}{q:Option Int}{X1:KG}{k N:Nat}{e cc:Int}{Gs Ss:List Nat}{Xs:List KG}
theorem ups_set{k:Nat}(h:k<3):[1,1,1].set k 1=[1,1,1]:=by rcases three h with rfl|rfl|rfl<;>rfl
theorem c_tnSome(hL:L=tnA (some cc) X1 k e Gs Ss Xs N::M)(hk:k<3)(hx:Xs.length=3)(K:e=cc→RunC P ro n ds β c Q f (tnR Gs Ss Xs [1,1,1] N::M)):RunC P ro n ds β c Q f L:=fun a w ha hw=>by
 subst hL
 have key:∀a,tnA (some cc) X1 k e Gs Ss Xs N a→e=cc∧tnR Gs Ss Xs [1,1,1] N a:=fun a ⟨u,Y,h1,h2⟩=>by
  rcases h1 with⟨h3,rfl,rfl⟩|⟨h3,_⟩|⟨h3,_⟩
  ·rw[gt_setSame (by rw[hx];exact hk),ups_set hk]at h2
   injection h3 with h3
   exact⟨h3.symm,h2⟩
  ·cases h3
  ·cases h3
 have he:e=cc:=by
  obtain⟨_,_,_,_,_,_,_,_,_,_,_,_,hx2,_⟩:=hw
  exact(key _ hx2).1
 exact K he a w ha (hw.conseq fun a h=>(key a h).2)
theorem c_tnNone(hL:L=tnA none X1 k e Gs Ss Xs N::M)(hk:k<3)(hx:Xs.length=3)(K1:e=0→RunC P ro n ds β c Q f (tnR Gs Ss (Xs.set k X1) [1,1,1] N::M))(K2:e=310→RunC P ro n ds β c Q f (tnR Gs Ss Xs ([1,1,1].set k 0) N::M)):RunC P ro n ds β c Q f L:=fun a w ha hw=>by
 subst hL
 have key:∀a,tnA none X1 k e Gs Ss Xs N a→(e=0∧tnR Gs Ss (Xs.set k X1) [1,1,1] N a)∨(e=310∧tnR Gs Ss Xs ([1,1,1].set k 0) N a):=fun a ⟨u,Y,h1,h2⟩=>by
  rcases h1 with⟨h3,_⟩|⟨_,h4,rfl,rfl⟩|⟨_,h4,rfl,rfl⟩
  ·cases h3
  ·rw[ups_set hk]at h2;exact .inl ⟨h4,h2⟩
  ·rw[gt_setSame (by rw[hx];exact hk)]at h2;exact .inr ⟨h4,h2⟩
 by_cases he:e=0
 ·exact K1 he a w ha (hw.conseq fun a h=>(key a h).elim (·.2) fun z=>by rw[he]at z;exact absurd z.1 (by decide))
 ·have h3:e=310:=by
   obtain⟨_,_,_,_,_,_,_,_,_,_,_,_,hx2,_⟩:=hw
   exact(key _ hx2).elim (fun z=>absurd z.1 he) (·.1)
  exact K2 h3 a w ha (hw.conseq fun a h=>(key a h).elim (fun z=>absurd z.1 he) (·.2))
end
theorem msgs_sub{p:Option Addr}{c:Nat}{zs ys:MPool}(h1:∀z∈ys,MHd z)(h2:∀z∈ys,z∈zs)(a:PHeap)(h:Sat [rowF MgF 38 p c (ys.map Prod.fst),poolR zs.e] a):msgsR p c (ys.map Prod.snd) a:=by
 obtain⟨a1,b1,d1,s1,s2,r1,a2,b2,d2,s3,s4,r2,h3⟩:=h
 refine⟨ys,rfl,h1,a1,b1,d1,s1,s2,r1,a2,b2,d2,s3,s4,fun z hz=> ?_,h3⟩
 obtain⟨y,hy,rfl⟩:=List.mem_map.1 hz
 exact r2 _ (MPool.e_mem (h2 y hy))
theorem poolR_app2{z1 z2:EPool}(a:PHeap)(h:Sat [poolR z1,poolR z2] a):poolR (z1++z2) a:=by
 obtain⟨a1,b1,d1,s1,s2,r1,a2,b2,d2,s3,s4,r2,_⟩:=h
 intro z hz
 rcases List.mem_append.1 hz with q|q
 ·exact Has.mono _ _ _ s1 (r1 z q)
 ·exact Has.mono _ _ _ (s3.trans s2) (r2 z q)
theorem msgs_join{p:Option Addr}{c:Nat}{zs us:MPool}(h1:∀z∈zs,MHd z)(h2:∀z∈us,MHd z)(a:PHeap)(h:Sat [rowF MgF 38 p c (zs.map Prod.fst++us.map Prod.fst),poolR zs.e,poolR us.e] a):msgsR p c (zs.map Prod.snd++us.map Prod.snd) a:=by
 obtain⟨a1,b1,d1,s1,s2,r1,hp⟩:=h
 refine⟨zs++us,List.map_append,fun z hz=>(List.mem_append.1 hz).elim (h1 z) (h2 z),a1,b1,d1,s1,s2,by rw[List.map_append];exact r1,b1,fun _=>none,fun _=> .inr rfl,Sub.refl _,fun _ _ h=>(by cases h),?_,trivial⟩
 have:=poolR_app2 b1 hp
 have e:(zs++us).e=zs.e++us.e:=List.map_append
 rw[e];exact this
section
variable {P:Program}{β:Base}{f:Fm}{L:List Res}{d:Option Tmp}{ty:TypeId}{ps:String}{af:Array Edge}{g:Option (Nat×Bool)}
theorem m_appendMsgs{x y:Operand}{t bytes c c2:Nat}{p q:Option Addr}{xs ys:List KMs}{M:List Res}(hL:L=msgsR p c xs::msgsR q c2 ys::M)(hsl:slB P t 38 6=true)(hel:elB P 38 6 bytes=true)(hx:ev f x= .slice p xs.length c)(hy:ev f y= .slice q ys.length c2)
 (hby:(xs.length+ys.length)*bytes≤140737488355328)(h63:xs.length+ys.length≤140737488355328):
  MV P β L f ⟨d,.call ⟨.builtin .append,#[x,y],#[t,t]⟩,ty,ps,af,g⟩ (fun v' L'=>∃p' c',v'= .slice p' (xs++ys).length c'∧L'=msgsR p' c' (xs++ys)::M):=fun w hw=>by
 subst hL
 obtain⟨zs,h1,h2,hw1⟩:=St.openMsgs hw
 have hw2:St β (msgsR q c2 ys::rowF MgF 38 p c (zs.map Prod.fst)::poolR zs.e::M) w:=hw1.perm (List.Perm.append_right M (perm_ix (L:=[rowF MgF 38 p c (zs.map Prod.fst),poolR zs.e,msgsR q c2 ys]) (L':=[msgsR q c2 ys,rowF MgF 38 p c (zs.map Prod.fst),poolR zs.e]) [2,0,1] 3 rfl (by kernel_rfl) (by kernel_rfl)))
 obtain⟨us,h3,h4,hw3⟩:=St.openMsgs hw2
 subst h1;subst h3
 rw[List.length_map]at hx hy
 rw[List.length_map,List.length_map]at hby h63
 obtain⟨v',w',L',g1,g2,p',c',rfl,rfl⟩:=m_appendFl (P:=P) (F:=MgF) (ty:=ty) (ps:=ps) (af:=af) (g:=g) (d:=d) (xs:=zs.map Prod.fst) (ys:=us.map Prod.fst) (k:=us.length) 2 hsl hel (by rw[List.length_map];exact hx) rfl hy (List.length_map _) (Knows.imp (k_fl 0 rfl) fun _ h=>(Sl.parts h).2.2.2) (by rw[List.length_map];exact hby) (by rw[List.length_map];exact h63) w hw3
 refine⟨_,w',_,g1,?_,p',c',by simp only[List.length_append,List.length_map],rfl⟩
 have g3:St β ([rowF MgF 38 p' c' (zs.map Prod.fst++us.map Prod.fst),poolR zs.e,poolR us.e,rowF MgF 38 q c2 (us.map Prod.fst)]++M) w':=St.perm g2 (List.Perm.append_right M (perm_ix (L:=[rowF MgF 38 q c2 (us.map Prod.fst),poolR us.e,rowF MgF 38 p' c' (zs.map Prod.fst++us.map Prod.fst),poolR zs.e]) (L':=[rowF MgF 38 p' c' (zs.map Prod.fst++us.map Prod.fst),poolR zs.e,poolR us.e,rowF MgF 38 q c2 (us.map Prod.fst)]) [2,3,1,0] 4 rfl (by kernel_rfl) (by kernel_rfl)))
 have g4:St β ([rowF MgF 38 p' c' (zs.map Prod.fst++us.map Prod.fst),poolR zs.e,poolR us.e]++M) w':=g3.drop (.cons_cons _ (.cons_cons _ (.cons_cons _ (.cons _ (List.Sublist.refl _)))))
 exact St.merge g4 (msgs_join h2 h4)
end
end Go.Hv
