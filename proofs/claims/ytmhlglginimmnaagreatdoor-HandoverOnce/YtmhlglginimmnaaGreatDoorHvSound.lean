/-
  Own work; plain Lean (HvUp, HvSound).
-/
import Derived.Test.YtmhlglginimmnaaGreatDoorHv34
set_option linter.all false
namespace Go.Hv
open Go Go.Sl Go.Proofs Go.Jn
structure UpOk(gs2:P3)(Gs2 Us2 Gs:List Nat)(z:Nat):Prop where
 gl:Gs2.length=3
 gs:∀k,k<3→gs2.at k=Gs2[k]?
 ul:Us2.length=3
 done:∀k,k<z→Us2[k]? =some 1
 u01:∀(k u:Nat),Us2[k]? =some u→u=0∨u=1
 rest:∀k,z≤k→Gs2[k]? =Gs[k]?
section
variable {gs2:P3}{Gs2 Us2 Gs:List Nat}{z G:Nat}
theorem UpOk.start(h1:Gs2.length=3)(h2:∀k,k<3→gs2.at k=Gs2[k]?)(h3:Us2.length=3)(h4:∀(k u:Nat),Us2[k]? =some u→u=0∨u=1):UpOk gs2 Gs2 Us2 Gs2 0:=⟨h1,h2,h3,fun k h=>(by omega),h4,fun _ _=>rfl⟩
theorem UpOk.was(h:UpOk gs2 Gs2 Us2 Gs z)(hu:Us2[z]? =some 1):UpOk gs2 Gs2 Us2 Gs (z+1):=
 ⟨h.gl,h.gs,h.ul,fun k hk=>(by
  by_cases e:k=z
  ·rw[e];exact hu
  ·exact h.done k (by omega)),h.u01,fun k hk=>h.rest k (by omega)⟩
theorem UpOk.opened(h:UpOk gs2 Gs2 Us2 Gs z)(hz:z<3):UpOk (gs2.upd z (some G)) (Gs2.set z G) (Us2.set z 1) Gs (z+1):=by
 have h1:=h.gl;have h2:=h.ul
 refine⟨by rw[List.length_set];exact h1,fun k hk=> ?_,by rw[List.length_set];exact h2,fun k hk=> ?_,fun k u hu=> ?_,fun k hk=>by rw[List.getElem?_set_ne (by omega)];exact h.rest k (by omega)⟩
 ·rw[P3.at_upd hz hk]
  by_cases e:k=z
  ·subst e;rw[if_pos rfl,List.getElem?_set_self (by omega)]
  ·rw[if_neg e,List.getElem?_set_ne (Ne.symm e)];exact h.gs k hk
 ·by_cases e:k=z
  ·subst e;rw[List.getElem?_set_self (by omega)]
  ·rw[List.getElem?_set_ne (Ne.symm e)];exact h.done k (by omega)
 ·by_cases e:k=z
  ·subst e;rw[List.getElem?_set_self (by omega)]at hu;injection hu with hu;exact .inr hu.symm
  ·rw[List.getElem?_set_ne (Ne.symm e)]at hu;exact h.u01 k u hu
theorem UpOk.fin(h:UpOk gs2 Gs2 Us2 Gs 3):Us2=[1,1,1]:=by
 obtain⟨a,b,c,e⟩:=list3 h.ul
 subst e
 have h0:=h.done 0 (by decide);have h1:=h.done 1 (by decide);have h2:=h.done 2 (by decide)
 injection h0 with h0;injection h1 with h1;injection h2 with h2
 rw[h0,h1,h2]
end
section
variable {β:Base}{G S N:Nat}{X:KG}{w:World}
theorem tdrop0(hw:St β [stR G S X N 0] w):Calls Tryz.prog 27 #[.pointer (some ⟨G,0,none⟩),Ix (-1)] w fun r w'=>r= .returned (Ix 310)∧St β [stR G S X N 0] w':=by
 have h1:St β ([downR G X]++[shelfR S X N false]) w:=St.unbun (L:=[downR G X,shelfR S X N false]) (M:=[]) hw
 obtain⟨β1,sb,kn,hw1,back⟩:=St.frame h1
 refine(down_do hw1 fun β2 w hw2 hb=>bdrop_ok β2 w hw2 _ 310 (by decide) hb (-1)).mono ?_
 rintro r w' ⟨h2,h3⟩
 exact⟨h2,St.merge (L:=[downR G X,shelfR S X N false]) (M:=[]) (back _ _ h3) fun _ h=>h⟩
theorem tdrop1(hG:GRng β)(hN:N≤53000000)(hw:St β [stR G S X N 1] w):Calls Tryz.prog 27 #[.pointer (some ⟨G,0,none⟩),Ix (-1)] w fun r w'=>r= .returned (Ix 6)∧St β [stR G S X N 1] w':=by
 obtain⟨J,i,k,hso,hpw,hx⟩:=St.openGate hw
 have hq:dropF X (-1)=some 6:=by
  unfold dropF
  rw[if_pos]
  have:hereB X (-1)=false:=List.any_eq_false.2 fun e he q=>by
   have h1:=(hso.ok.right e he).id.1
   have h2:e.id= -1:=of_decide_eq_true q
   omega
  rw[this];rfl
 exact(gdrop_ok β w hG G S N X false hw hN (-1) (by decide)).mono fun _ _ z=>act_no hq z
end
end Go.Hv
namespace Go.Hv
open Go Go.Sl Go.Proofs Go.Jn
theorem St.ofHas{β:Base}{r r':Res}{L:List Res}{w:World}(h:St β (r::L) w)(hr:∀a,r a→Has r' a):St β (r'::L) w:=by
 obtain⟨a,b,c,hh,hd,hs,hs',p,q,hpq,hp,hq,hrp,hL⟩:=h
 obtain⟨p',hp',hr'⟩:=hr _ hrp
 exact⟨a,b,c,hh,hd,hs,hs',p',q,hpq.mono hp' (Sub.refl _),hp'.trans hp,hq,hr',hL⟩
section
variable (β:Base)(w:World)(T:Nat)(ss gs:P3)(p:Option Addr)(n c:Nat)(tg nx:KN7)(Gs Ss:List Nat)(Xs:List KG)(N:Nat)(hgl:Gs.length=3)(hsl:Ss.length=3)(hnet:Net 3 Xs)(hgs:∀k,k<3→gs.at k=Gs[k]?)(id:Int)(hw:St β [twR T ss gs p n c tg nx,netR Gs Ss Xs N false] w)
include hgl hsl hnet hgs hw
theorem tfind_none(hna:NoneAt Xs id):Calls Tryz.prog 54 #[.pointer (some ⟨T,0,none⟩),Ix id] w fun r w'=>∃i p1 n1 c1,r= .returned (.tuple #[Ix 0,.agg #[Ix i,.slice p1 n1 c1]])∧St β [twR T ss gs p n c tg nx,netR Gs Ss Xs N false] w':=by
 refine(tfind_ok β w T ss gs p n c tg nx Gs Ss Xs N hgl hsl hnet hgs id none (plA_none hna).symm hw).mono ?_
 rintro r w' ⟨hd,h1,_,h2⟩
 exact⟨_,_,_,_,h1,h2.drop (.cons _ (List.Sublist.refl _))⟩
theorem tfind_one{e:KEnt}(hid:e.id=id)(hone:OneAt Xs e):Calls Tryz.prog 54 #[.pointer (some ⟨T,0,none⟩),Ix id] w fun r w'=>∃p1 c1,r= .returned (.tuple #[Ix 1,.agg #[Ix id,.slice p1 e.comps.length c1]])∧St β [rowF CpF 100 p1 c1 e.comps,twR T ss gs p n c tg nx,netR Gs Ss Xs N false] w':=by
 refine(tfind_ok β w T ss gs p n c tg nx Gs Ss Xs N hgl hsl hnet hgs id (some e) (plA_one hnet hone hid).symm hw).mono ?_
 rintro r w' ⟨hd,h1,h2,h3⟩
 have h4:=h2 e rfl
 have e1:hd.id=id:=h4.id.trans hid
 have e2:hd.n=e.comps.length:=h4.n
 refine⟨hd.p,hd.c,?_,St.ofHas h3 fun a ha=>ha (hd,e) (List.mem_singleton.2 rfl)⟩
 rw[h1,e1,e2];rfl
end
end Go.Hv
