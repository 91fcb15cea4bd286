/-
 Spaces in plain terms, and how they lie in memory. Own work; plain Lean.
-/
import Derived.Test.YtmgpmgckbcjalaaGreatBrMap
import Derived.Test.YtmgpmgckbcjalaaGreatBrPairs
import Derived.Test.YtmgpmgckbcjalaaGreatSlFam
namespace Go.Sl
section
variable {P:Program}{κ ν:Type}{K:MapK P κ ν}
theorem look_isSome(ks:List (κ×ν))(k:κ):(K.look ks k).isSome=true↔k∈ks.map (·.1):=by
 have h:=look_none (K:=K) (ks:=ks) (k:=k)
 cases hl:K.look ks k with
 |none=>simp only[Option.isSome_none,Bool.false_eq_true,false_iff];exact h.1 hl
 |some v=>simp only[Option.isSome_some,true_iff];exact Decidable.byContradiction (dec:=Classical.propDecidable _) fun q=>by rw[h.2 q]at hl;cases hl
theorem put_perm{ks:List (κ×ν)}(hn:(ks.map (·.1)).Nodup)(k:κ)(v:ν):(K.put ks k v).Perm (K.del ks k++[(k,v)]):=by
 unfold MapK.put
 by_cases h:(K.look ks k).isSome=true
 ·rw[if_pos h]
  have hm:=(look_isSome ks k).1 h
  clear h
  induction ks with
  |nil=>simp at hm
  |cons p ks ih=>
   rw[List.map_cons,List.nodup_cons]at hn
   unfold MapK.del at ih⊢
   rw[List.map_cons,List.filter_cons]
   by_cases e:p.1=k
   ·have hno:∀q∈ks,q.1≠k:=fun q hq e2=>hn.1 (by rw[e,←e2];exact List.mem_map.2 ⟨q,hq,rfl⟩)
    rw[if_pos e,List.filter_eq_self.2 (fun q hq=>by simp[hno q hq])]
    rw[show ks.map (fun p=> @ite _ (p.1=k) (K.dec _ _) (k,v) p)=ks from(List.map_congr_left fun q hq=>if_neg (hno q hq)).trans (List.map_id _)]
    simp only[e,decide_true,Bool.not_true,Bool.false_eq_true,if_false]
    exact(List.perm_append_comm (l₁:=[(k,v)]) (l₂:=ks))
   ·rw[if_neg e]
    have hm':k∈ks.map (·.1):=by
     rcases List.mem_cons.1 (by simpa using hm:k∈p.1::ks.map (·.1))with h|h
     ·exact absurd h.symm e
     ·exact h
    simp only[e,decide_false,Bool.not_false,if_true,List.cons_append]
    exact(ih hn.2 hm').cons p
 ·rw[if_neg h,del_none]
  cases hl:K.look ks k with
  |none=>rfl
  |some v=>rw[hl]at h;exact absurd rfl h
end
end Go.Sl
namespace Go.Brd
open Go.Sl Go.Proofs
structure KSp where
 ar:List (Int×KA)
 told:List KP
def thg(p:Int×KA):KT:=⟨p.1,p.2⟩
abbrev tg(p:KP):KP×Unit:=(p,())
structure KSp.ok(s:KSp):Prop where
 few:s.ar.length≤128
 areas:∀p∈s.ar,okA p.2
 many:s.told.length≤16384
 keys:(s.ar.map (·.1)).Nodup
 once:s.told.Nodup
def hasS(s:KSp)(id:Int):Prop:=id∈s.ar.map (·.1)
instance (s:KSp)(id:Int):Decidable (hasS s id):=by unfold hasS;infer_instance
def argS(id:Int)(a:KA):Prop:=0≤id∧id≤65536∧okA a
instance (id:Int)(a:KA):Decidable (argS id a):=by unfold argS;infer_instance
def errPut(s:KSp)(id:Int)(a:KA):Int:=if argS id a then(if ¬hasS s id∧s.ar.length=128 then 4 else 0)else 2
def delS(s:KSp)(id:Int):KSp:={s with ar:=s.ar.filter fun p=> !decide (p.1=id)}
def putS(s:KSp)(id:Int)(a:KA):KSp:={s with ar:=(delS s id).ar++[(id,a)]}
def putX(s:KSp)(id:Int)(a:KA):KSp:=if errPut s id a=0 then putS s id a else s
def errDrop(s:KSp)(id:Int):Int:=if hasS s id then 0 else 6
def pairsS(s:KSp):List KP:=sortP (pairsT (s.ar.map thg))
def beganS(s:KSp):List KP:=(pairsS s).filter fun p=> !decide (p∈s.told)
def endedS(s:KSp):List KP:=sortP (s.told.filter fun p=> !decide (p∈pairsS s))
def toldS(s:KSp):KSp:={s with told:=pairsS s}
def sortI(l:List Int):List Int:=l.mergeSort fun x y=>decide (x≤y)
def hitS(s:KSp)(a:KA):List Int:=(s.ar.filter fun p=>decide (okA (comA a p.2))).map (·.1)
def queryS(s:KSp)(a:KA):List Int:=sortI (hitS s a)
abbrev spL(b ma mt:Nat)(az:List (Int×KA))(tz:List KP):List Res:=[pt b (.cells #[.map (some ma),.map (some mt)] 73),mpR ArM ma az,mpR ToM mt (tz.map tg)]
def spcR(b:Nat)(s:KSp):Res:=fun h=>∃ma mt az tz,az.Perm s.ar∧tz.Perm s.told∧Sat (spL b ma mt az tz) h
theorem St.openSpc{β:Base}{b:Nat}{s:KSp}{M:List Res}{w:World}(h:St β (spcR b s::M) w):∃ma mt az tz,az.Perm s.ar∧tz.Perm s.told∧St β (spL b ma mt az tz++M) w:=by
 obtain⟨ho,ht,hp,a,hd,hs,hs',p,q,h1,h2,h3,⟨ma,mt,az,tz,h6,h7,hx⟩,h5⟩:=h
 exact⟨ma,mt,az,tz,h6,h7,St.unbun ⟨ho,ht,hp,a,hd,hs,hs',p,q,h1,h2,h3,hx,h5⟩⟩
theorem St.closeSpc{β:Base}{b ma mt:Nat}{az:List (Int×KA)}{tz:List KP}{s:KSp}{M:List Res}{w:World}(h:St β (spL b ma mt az tz++M) w)(ha:az.Perm s.ar)(ht:tz.Perm s.told):St β (spcR b s::M) w:=
 h.merge fun _ h=>⟨ma,mt,az,tz,ha,ht,h⟩
section
variable {P:Program}{ro:Option Nat}{n:Nat}{ds:List Deferred}{β:Base}{Q:Exit→Act→World→Prop}{f:Fm}{L:List Res}
theorem c_openSpc{c:Code}{b:Nat}{s:KSp}{M:List Res}(hL:L=spcR b s::M)(K:∀ma mt az tz,az.Perm s.ar→tz.Perm s.told→RunC P ro n ds β c Q f (spL b ma mt az tz++M)):RunC P ro n ds β c Q f L:=fun a w ha hw=>by
 subst hL
 obtain⟨ma,mt,az,tz,h1,h2,h⟩:=St.openSpc hw
 exact K ma mt az tz h1 h2 a w ha h
theorem c_closeSpc{c:Code}{b ma mt:Nat}{az:List (Int×KA)}{tz:List KP}{s:KSp}{M:List Res}(hL:L=spL b ma mt az tz++M)(ha:az.Perm s.ar)(ht:tz.Perm s.told)(K:RunC P ro n ds β c Q f (spcR b s::M)):RunC P ro n ds β c Q f L:=fun a w h hw=>by
 subst hL
 exact K a w h (St.closeSpc hw ha ht)
end
theorem look_has{s:KSp}{az:List (Int×KA)}(h:az.Perm s.ar)(id:Int):(ArM.look az id).isSome=decide (hasS s id):=by
 rw[Bool.eq_iff_iff,look_isSome,decide_eq_true_eq]
 exact(h.map _).mem_iff
theorem put_has{s:KSp}{az:List (Int×KA)}(hk:(s.ar.map (·.1)).Nodup)(h:az.Perm s.ar)(id:Int)(a:KA):(ArM.put az id a).Perm (putS s id a).ar:=
 (put_perm ((h.map _).nodup_iff.2 hk) id a).trans ((h.filter _).append_right _)
theorem del_has{s:KSp}{az:List (Int×KA)}(h:az.Perm s.ar)(id:Int):(ArM.del az id).Perm (delS s id).ar:=h.filter _
theorem told_look(tz:List KP)(p:KP):(ToM.look (tz.map tg) p).isSome=decide (p∈tz):=by
 rw[Bool.eq_iff_iff,look_isSome,decide_eq_true_eq,List.map_map]
 simp[Function.comp_def]
theorem told_del(tz:List KP)(p:KP):ToM.del (tz.map tg) p=(tz.filter fun q=> !decide (q=p)).map tg:=by
 show(tz.map tg).filter _=_
 rw[List.filter_map];rfl
theorem told_put{tz:List KP}{p:KP}(h:p∉tz):ToM.put (tz.map tg) p ()=(tz++[p]).map tg:=by
 unfold MapK.put
 rw[if_neg (by rw[told_look];simpa using h),List.map_append];rfl
theorem del_ok{s:KSp}(h:s.ok)(id:Int):(delS s id).ok where
 few:=Nat.le_trans (List.length_filter_le _ _) h.few
 areas:=fun p hp=>h.areas p (List.mem_filter.1 hp).1
 many:=h.many
 keys:=h.keys.sublist (List.filter_sublist.map _)
 once:=h.once
theorem del_less{s:KSp}{id:Int}(h:hasS s id):(delS s id).ar.length<s.ar.length:=by
 obtain⟨p,hp,he⟩:=List.mem_map.1 h
 have hle:=List.length_filter_le (fun p:Int×KA=> !decide (p.1=id)) s.ar
 refine Nat.lt_of_le_of_ne hle fun e=> ?_
 have:=List.length_filter_eq_length_iff.1 e p hp
 simp[he]at this
theorem put_ok{s:KSp}(h:s.ok)(id:Int)(a:KA):(putX s id a).ok:=by
 unfold putX errPut
 by_cases h1:argS id a
 ·rw[if_pos h1]
  by_cases h2:¬hasS s id∧s.ar.length=128
  ·rw[if_pos h2,if_neg (by decide)];exact h
  ·rw[if_neg h2,if_pos rfl]
   refine⟨?_,?_,h.many,?_,h.once⟩
   ·show((delS s id).ar++[(id,a)]).length≤128
    rw[List.length_append,List.length_singleton]
    by_cases h3:hasS s id
    ·have:=del_less h3;have:=h.few;omega
    ·have h4:s.ar.length≠128:=fun e=>h2 ⟨h3,e⟩
     have:=(del_ok h id).few;have h5:=h.few
     have:=List.length_filter_le (fun p:Int×KA=> !decide (p.1=id)) s.ar
     show(s.ar.filter _).length+1≤128
     omega
   ·intro p hp
    rcases List.mem_append.1 hp with hp|hp
    ·exact(del_ok h id).areas p hp
    ·rw[List.mem_singleton.1 hp];exact h1.2.2
   ·show(((delS s id).ar++[(id,a)]).map (·.1)).Nodup
    rw[List.map_append,List.nodup_append]
    refine⟨(del_ok h id).keys,by simp,?_⟩
    intro x hx y hy
    obtain⟨p,hp,rfl⟩:=List.mem_map.1 hx
    have h6:=(List.mem_filter.1 hp).2
    simp at hy
    subst hy
    simpa using h6
 ·rw[if_neg h1,if_neg (by decide)];exact h
theorem mem_hits{x:KT}{l:List KT}{p:KP}(h:p∈hitsT x l):∃y∈l,p=mkP x y:=by
 obtain⟨y,hy,rfl⟩:=List.mem_map.1 h
 exact⟨y,(List.mem_filter.1 hy).1,rfl⟩
theorem mem_pairsT:∀{l:List KT} {p:KP},p∈pairsT l→∃x∈l,∃y∈l,p=mkP x y
 |[],p,h=>by simp[pairsT]at h
 |x::l,p,h=>by
  rcases List.mem_append.1 (show p∈hitsT x l++pairsT l from h)with h|h
  ·obtain⟨y,hy,e⟩:=mem_hits h
   exact⟨x,List.mem_cons_self,y,List.mem_cons_of_mem _ hy,e⟩
  ·obtain⟨u,hu,v,hv,e⟩:=mem_pairsT h
   exact⟨u,List.mem_cons_of_mem _ hu,v,List.mem_cons_of_mem _ hv,e⟩
theorem mkP_inj{x y z:KT}(h:mkP x y=mkP x z):y.id=z.id:=by
 unfold mkP at h
 injection h with h1 h2
 omega
theorem pairsT_nodup:∀{l:List KT},(l.map (·.id)).Nodup→(pairsT l).Nodup
 |[],_=>List.nodup_nil
 |x::l,h=>by
  rw[List.map_cons,List.nodup_cons]at h
  show(hitsT x l++pairsT l).Nodup
  rw[List.nodup_append]
  refine⟨?_,pairsT_nodup h.2,?_⟩
  ·have h1:(l.map (·.id)).Pairwise (· ≠ ·):=h.2
   rw[List.pairwise_map]at h1
   refine(List.pairwise_map.2 ?_:((l.filter fun y=>decide (touchA x.ar y.ar)).map (mkP x)).Pairwise (· ≠ ·))
   exact(h1.filter _).imp fun hne he=>hne (mkP_inj he)
  ·rintro p hp q hq rfl
   obtain⟨y,hy,e⟩:=mem_hits hp
   obtain⟨u,hu,v,hv,e2⟩:=mem_pairsT hq
   have hux:u.id≠x.id:=fun e3=>h.1 (e3▸List.mem_map.2 ⟨u,hu,rfl⟩)
   have hvx:v.id≠x.id:=fun e3=>h.1 (e3▸List.mem_map.2 ⟨v,hv,rfl⟩)
   rw[e]at e2
   unfold mkP at e2
   injection e2 with e3 e4
   have hyx:y.id≠x.id:=fun e5=>h.1 (e5▸List.mem_map.2 ⟨y,hy,rfl⟩)
   omega
theorem thg_ids(l:List (Int×KA)):(l.map thg).map (·.id)=l.map (·.1):=by rw[List.map_map];rfl
theorem pairsS_nodup{s:KSp}(h:s.ok):(pairsS s).Nodup:=(sortP_perm _).nodup_iff.2 (pairsT_nodup (by rw[thg_ids];exact h.keys))
theorem pairsS_few{s:KSp}(h:s.ok):(pairsS s).length≤16384:=by
 have h1:∀(l:List KT),(pairsT l).length≤l.length*l.length:=by
  intro l
  induction l with
  |nil=>simp[pairsT]
  |cons x l ih=>
   have h2:(hitsT x l).length≤l.length:=by unfold hitsT;rw[List.length_map];exact List.length_filter_le _ _
   show(hitsT x l++pairsT l).length≤(l.length+1)*(l.length+1)
   rw[List.length_append,Nat.add_mul,Nat.mul_add];omega
 have h2:=h1 (s.ar.map thg)
 have h3:(s.ar.map thg).length*(s.ar.map thg).length≤128*128:=Nat.mul_le_mul (by rw[List.length_map];exact h.few) (by rw[List.length_map];exact h.few)
 have h4:(pairsS s).length=(pairsT (s.ar.map thg)).length:=(sortP_perm _).length_eq
 omega
theorem told_ok{s:KSp}(h:s.ok):(toldS s).ok:=⟨h.few,h.areas,pairsS_few h,h.keys,pairsS_nodup h⟩
theorem chg_gone(tz pre:List KP)(p:KP):(tz.filter (fun q=> !decide (q∈pre))).filter (fun q=> !decide (q=p))=tz.filter fun q=> !decide (q∈pre++[p]):=by
 rw[List.filter_filter]
 congr 1;funext q
 simp[Bool.and_comm]
theorem chg_stay{tz pre:List KP}{p:KP}(h:p∉tz):tz.filter (fun q=> !decide (q∈pre))=tz.filter fun q=> !decide (q∈pre++[p]):=by
 apply List.filter_congr
 intro q hq
 have:q≠p:=fun e=>h (e▸hq)
 simp[this]
theorem began_yes{tz pre:List KP}{p:KP}(h:p∉tz):pre.filter (fun q=> !decide (q∈tz))++[p]=(pre++[p]).filter fun q=> !decide (q∈tz):=by
 rw[List.filter_append];simp[h]
theorem began_no{tz pre:List KP}{p:KP}(h:p∈tz):pre.filter (fun q=> !decide (q∈tz))=(pre++[p]).filter fun q=> !decide (q∈tz):=by
 rw[List.filter_append];simp[h]
theorem del_no{s:KSp}{id:Int}(h:¬hasS s id):delS s id=s:=by
 unfold delS
 rw[List.filter_eq_self.2 (fun p hp=>by
  have:p.1≠id:=fun e=>h (List.mem_map.2 ⟨p,hp,e⟩)
  simp[this])]
theorem pre_le{α:Type}{pre az:List α}{x:α}(h:∃rs,(pre++[x]++rs).Perm az):(pre++[x]).length≤az.length:=by
 obtain⟨rs,h⟩:=h
 have:=h.length_eq
 rw[List.length_append]at this;omega
theorem pre_lt{α:Type}{pre az:List α}{x:α}(h:∃rs,(pre++[x]++rs).Perm az):az.length-(pre++[x]).length<az.length-pre.length:=by
 have:=pre_le h
 rw[List.length_append,List.length_singleton]at*;omega
theorem thg_lx{s:KSp}{xs:List KT}(hx:xs.Perm (s.ar.map thg))(hk:s.ok):∀x∈xs,x.ar.lx≤x.ar.hx:=fun x hm=>by
 obtain⟨p,hp,rfl⟩:=List.mem_map.1 (hx.mem_iff.1 hm)
 exact(hk.areas p hp).1.2.1
theorem pairsS_srt{s:KSp}{ts:List KT}(l:List KP)(hx:ts.Perm (s.ar.map thg))(h:l.Perm (pairsT ts)):sortP l=pairsS s:=
 sorted_one ((sortP_perm l).trans ((h.trans (pairsT_perm hx)).trans (sortP_perm _).symm)) (sortP_sorted _) (sortP_sorted _)
def queryX(s:KSp)(a:KA):List Int:=if okA a then queryS s a else []
theorem hit_yes{pre:List (Int×KA)}{x:Int×KA}{a:KA}(h:okA (comA a x.2)):(pre.filter fun p=>decide (okA (comA a p.2))).map (·.1)++[x.1]=((pre++[x]).filter fun p=>decide (okA (comA a p.2))).map (·.1):=by
 rw[List.filter_append,List.map_append];simp[h]
theorem hit_no{pre:List (Int×KA)}{x:Int×KA}{a:KA}(h:¬okA (comA a x.2)):(pre.filter fun p=>decide (okA (comA a p.2))).map (·.1)=((pre++[x]).filter fun p=>decide (okA (comA a p.2))).map (·.1):=by
 rw[List.filter_append,List.map_append];simp[h]
theorem sortI_perm(l:List Int):(sortI l).Perm l:=List.mergeSort_perm l _
theorem sortI_sorted(l:List Int):(sortI l).Pairwise fun x y=>x≤y:=by
 have:=List.pairwise_mergeSort (le:=fun x y:Int=>decide (x≤y)) (fun a b c h1 h2=>by simp at*;omega) (fun a b=>by simp;omega) l
 exact this.imp fun h=>by simpa using h
theorem sortI_one{l m:List Int}(h:l.Perm m)(hl:l.Pairwise fun x y=>x≤y)(hm:m.Pairwise fun x y=>x≤y):l=m:=
 h.eq_of_pairwise (le:=(· ≤ ·)) (fun _ _ _ _ h1 h2=>Int.le_antisymm h1 h2) hl hm
theorem sortI_eq{l m:List Int}(h:l.Perm m):sortI l=sortI m:=sortI_one ((sortI_perm l).trans (h.trans (sortI_perm m).symm)) (sortI_sorted _) (sortI_sorted _)
theorem hitS_of{s:KSp}{az pre:List (Int×KA)}{a:KA}(h1:pre.Perm az)(h2:az.Perm s.ar):((pre.filter fun p=>decide (okA (comA a p.2))).map (·.1)).Perm (hitS s a):=((h1.trans h2).filter _).map _
theorem hits_le(pre:List (Int×KA))(a:KA):((pre.filter fun p=>decide (okA (comA a p.2))).map (·.1)).length≤pre.length:=by
 rw[List.length_map];exact List.length_filter_le _ _
def beganL(ts ys:List KP):List KP:=ys.filter fun q=> !decide (q∈ts)
def endedL(ts ys:List KP):List KP:=ts.filter fun q=> !decide (q∈ys)
theorem beganL_yes{ts pre:List KP}{p:KP}(h:p∉ts):beganL ts pre++[p]=beganL ts (pre++[p]):=began_yes h
theorem beganL_no{ts pre:List KP}{p:KP}(h:p∈ts):beganL ts pre=beganL ts (pre++[p]):=began_no h
theorem endedL_gone(ts pre:List KP)(p:KP):ToM.del ((endedL ts pre).map tg) p=(endedL ts (pre++[p])).map tg:=by rw[told_del,endedL,chg_gone];rfl
theorem endedL_stay{ts pre:List KP}{p:KP}(h:p∉ts):endedL ts pre=endedL ts (pre++[p]):=chg_stay h
theorem beganL_le(ts pre:List KP):(beganL ts pre).length≤pre.length:=List.length_filter_le _ _
theorem sub_nodup{l pre:List KP}{x:KP}(hn:l.Nodup)(h:pre++[x]<+:l):x∉pre:=fun hx=>by
 have:=hn.sublist h.sublist
 rw[List.nodup_append]at this
 exact this.2.2 x hx x (by simp) rfl
theorem endedL_mem{ts pre:List KP}{p:KP}(h:p∉pre):p∈endedL ts pre↔p∈ts:=by
 unfold endedL;simp[h]
theorem sortP_perm_eq{l m:List KP}(h:l.Perm m):sortP l=sortP m:=sorted_one ((sortP_perm l).trans (h.trans (sortP_perm m).symm)) (sortP_sorted _) (sortP_sorted _)
theorem began_eq{s:KSp}{ts ys:List KP}(h1:ys.Perm (pairsS s))(h2:ts.Perm s.told):sortP (beganL ts ys)=beganS s:=by
 refine sorted_one ((sortP_perm _).trans ?_) (sortP_sorted _) ((sortP_sorted _).filter _)
 unfold beganL beganS
 rw[show(fun q=> !decide (q∈ts))=(fun q=> !decide (q∈s.told))from funext fun q=>by simp only[h2.mem_iff]]
 exact h1.filter _
theorem ended_eq{s:KSp}{ts ys:List KP}(h1:ys.Perm (pairsS s))(h2:ts.Perm s.told):sortP (endedL ts ys)=endedS s:=by
 refine sortP_perm_eq ?_
 unfold endedL
 rw[show(fun q=> !decide (q∈ys))=(fun q=> !decide (q∈pairsS s))from funext fun q=>by simp only[h1.mem_iff]]
 exact h2.filter _
theorem told_end{s:KSp}(hk:s.ok){ts tz ys ds:List KP}(h1:ys.Perm (pairsS s))(h2:ts.Perm s.told)(h3:tz.Perm s.told)(h4:ds.Perm (endedL ts ys)):(endedL tz ds++beganL ts ys).Perm (pairsS s):=by
 have n1:=pairsS_nodup hk
 have n2:=h1.nodup_iff.2 n1
 have n3:=h3.nodup_iff.2 hk.once
 refine(List.perm_ext_iff_of_nodup ?_ n1).2 fun q=> ?_
 ·rw[List.nodup_append]
  refine⟨n3.sublist List.filter_sublist,n2.sublist List.filter_sublist,?_⟩
  rintro q hq _ hq2 rfl
  have a1:=(List.mem_filter.1 hq).1
  have a2:=(List.mem_filter.1 hq2).2
  simp[h2.mem_iff]at a2
  exact a2 (h3.mem_iff.1 a1)
 ·rw[List.mem_append]
  unfold endedL beganL at*
  simp only[List.mem_filter,Bool.not_eq_true',decide_eq_false_iff_not,h4.mem_iff,h1.mem_iff,h2.mem_iff,h3.mem_iff]
  by_cases a:q∈s.told<;>by_cases b:q∈pairsS s<;>simp[a,b]
theorem began_new{ts tz ys ds:List KP}{s:KSp}{k:Nat}{p:KP}(hk:s.ok)(h1:ys.Perm (pairsS s))(h2:ts.Perm s.told)(h3:tz.Perm s.told)(hp:(beganL ts ys)[k]? =some p):p∉endedL tz ds++(beganL ts ys).take k:=by
 have n2:(beganL ts ys).Nodup:=(h1.nodup_iff.2 (pairsS_nodup hk)).sublist List.filter_sublist
 have hm:=List.mem_of_getElem? hp
 rw[List.mem_append]
 rintro(h|h)
 ·have a1:=(List.mem_filter.1 h).1
  have a2:=(List.mem_filter.1 hm).2
  simp[h2.mem_iff]at a2
  exact a2 (h3.mem_iff.1 a1)
 ·obtain⟨i,hi⟩:=List.getElem?_of_mem h
  have hik:i<k:=by
   have:=(List.getElem?_eq_some_iff.1 hi).1
   rw[List.length_take]at this;omega
  rw[List.getElem?_take_of_lt hik]at hi
  have hl:=(List.getElem?_eq_some_iff.1 hp).1
  obtain⟨h5,h6⟩:=List.getElem?_eq_some_iff.1 hi
  obtain⟨h7,h8⟩:=List.getElem?_eq_some_iff.1 hp
  have n3:=List.pairwise_iff_getElem.1 (List.nodup_iff_pairwise_ne.1 n2) i k h5 h7 hik
  exact n3 (h6.trans h8.symm)
theorem tk_next{l:List KP}{k:Nat}{p:KP}(hp:l[k]? =some p)(T:List KP):T++l.take k++[p]=T++l.take (k+1):=by
 rw[List.take_add_one,hp,List.append_assoc];rfl
theorem errPut_le(s:KSp)(id:Int)(a:KA):0≤errPut s id a∧errPut s id a≤4:=by unfold errPut;split<;>(try split)<;>omega
end Go.Brd
