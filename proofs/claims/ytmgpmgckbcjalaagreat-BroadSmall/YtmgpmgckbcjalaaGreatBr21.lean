/-
 The reference's Put, All, Changes: walked. Printed by a program of my own.
-/
import Derived.Test.YtmgpmgckbcjalaaGreatBr20
namespace Go.Brd
open Go.Sl Go.Proofs
theorem tw_len{α:Type}{f:α→Bool}:∀{l:List α} {k:Nat},k≤l.length→(∀x∈l.take k,f x=true)→(∀x,l[k]? =some x→f x=false)→(l.takeWhile f).length=k
 |[],k,h,_,_=>by simp at h;subst h;rfl
 |x::l,0,_,_,h=>by rw[List.takeWhile_cons,h x rfl];rfl
 |x::l,k+1,hk,hall,h=>by
  rw[List.takeWhile_cons,hall x (by simp)]
  show(l.takeWhile f).length+1=k+1
  rw[tw_len (l:=l) (k:=k) (by simpa using hk) (fun y hy=>hall y (by rw[List.take_succ_cons];exact List.mem_cons_of_mem _ hy)) (fun y hy=>h y (by simpa using hy))]
theorem cnt_le(D:ES)(id:Int):cntE D id≤D.length:=(List.takeWhile_sublist _).length_le
theorem cnt_of{D:ES}{id:Int}{k:Nat}(hall:∀z∈(idsE D).take k,z<id)(hk:k≤D.length)(hs:∀z,(idsE D)[k]? =some z→¬z<id):k=cntE D id:=by
 refine(tw_len hk (fun x hx=> ?_) fun x hx=> ?_).symm
 ·have:x.1∈(idsE D).take k:=by rw[←List.map_take];exact List.mem_map.2 ⟨x,hx,rfl⟩
  simpa using hall _ this
 ·have:(idsE D)[k]? =some x.1:=by rw[List.getElem?_map,hx];rfl
  simpa using hs _ this
theorem cnt_all{D:ES}{id:Int}{k:Nat}(hall:∀z∈(idsE D).take k,z<id)(h:D.length≤k)(hk:k≤D.length):k=cntE D id:=cnt_of hall hk fun z hz=>by
 have:=(List.getElem?_eq_some_iff.1 hz).1
 rw[List.length_map]at this;omega
theorem cnt_stop{D:ES}{id z:Int}{k:Nat}(hall:∀z∈(idsE D).take k,z<id)(hz:(idsE D)[k]? =some z)(h:¬z<id)(hk:k≤D.length):k=cntE D id:=cnt_of hall hk fun y hy=>by
 rw[hz]at hy;rw[←Option.some.inj hy];exact h
theorem all_next{l:List Int}{id z:Int}{k:Nat}(hz:l[k]? =some z)(hall:∀z∈l.take k,z<id)(h:z<id):∀z∈l.take (k+1),z<id:=fun y hy=>by
 rw[List.take_add_one,hz]at hy
 rcases List.mem_append.1 hy with hy|hy
 ·exact hall y hy
 ·rw[List.mem_singleton.1 hy];exact h
theorem ins_ids{es D:ES}{id:Int}{a:KA}{k:Nat}(hD:D=delE es id)(hk:k=cntE D id):((idsE D).take k++[id])++(idsE D).drop k=idsE (insE es id a):=by
 subst hD;subst hk
 unfold insE
 rw[idsE,idsE,List.map_append,List.map_cons,List.map_take,List.map_drop,List.append_assoc];rfl
theorem ins_ars{es D:ES}{id:Int}{a:KA}{k:Nat}(hD:D=delE es id)(hk:k=cntE D id):((arsE D).take k++[a])++(arsE D).drop k=arsE (insE es id a):=by
 subst hD;subst hk
 unfold insE
 rw[arsE,arsE,List.map_append,List.map_cons,List.map_take,List.map_drop,List.append_assoc];rfl
section
variable {T:List KP}{f:KP→KP}{i:Nat}
theorem ta_zero:(T.take 0).map f++T.drop 0=T:=by simp
theorem ta_len(h:i≤T.length):((T.take i).map f++T.drop i).length=T.length:=by rw[List.length_append,List.length_map,List.length_take,List.length_drop];omega
theorem ta_at(h:i≤T.length):((T.take i).map f++T.drop i)[i]? =T[i]? :=by
 rw[List.getElem?_append_right (by rw[List.length_map,List.length_take];omega),List.length_map,List.length_take,Nat.min_eq_left h,Nat.sub_self,List.getElem?_drop];rfl
theorem ta_step{t z:KP}(ht:T[i]? =some t)(hm:f t=z):((T.take i).map f++T.drop i).set i z=(T.take (i+1)).map f++T.drop (i+1):=by
 obtain⟨h1,h2⟩:=List.getElem?_eq_some_iff.1 ht
 have hl:((T.take i).map f).length=i:=by rw[List.length_map,List.length_take];omega
 rw[List.set_append,if_neg (by omega),hl,Nat.sub_self,List.drop_eq_getElem_cons h1,List.set_cons_zero,List.take_add_one,ht,List.map_append,List.append_assoc,←hm];rfl
theorem ta_end(h:T.length≤i):(T.take i).map f++T.drop i=T.map f:=by rw[List.take_of_length_le h,List.drop_eq_nil_of_le h,List.append_nil]
end
theorem mapE_at{es:ES}{u v:Nat}{e f:Int×KA}(he:es[u]? =some e)(hf:es[v]? =some f):mapE es ⟨((u:Nat):Int),((v:Nat):Int)⟩=⟨e.1,f.1⟩:=by
 unfold mapE
 show(⟨(idsE es).getD ((u:Nat):Int).toNat 0,(idsE es).getD ((v:Nat):Int).toNat 0⟩:KP)=_
 rw[Int.toNat_natCast,Int.toNat_natCast,List.getD_eq_getElem?_getD,List.getD_eq_getElem?_getD,List.getElem?_map,List.getElem?_map,he,hf];rfl
theorem pairs_mem{l:List KA}{p:KP}(h:p∈pairsA l):∃i k:Nat,i<k∧k<l.length∧p=⟨(i:Int),(k:Int)⟩:=by
 rw[pairsA_eq]at h
 have key:∀(L:List KT) (n:Nat),(∀j t,L[j]? =some t→t.id=((n+j:Nat):Int))→∀p∈pairsT L,∃i k:Nat,n≤i∧i<k∧k<n+L.length∧p=⟨(i:Int),(k:Int)⟩:=by
  intro L
  induction L with
  |nil=>intro n _ p hp;simp[pairsT]at hp
  |cons x L ih=>
   intro n hx p hp
   rcases List.mem_append.1 (show p∈hitsT x L++pairsT L from hp)with hp|hp
   ·obtain⟨y,hy,rfl⟩:=List.mem_map.1 hp
    obtain⟨j,hj⟩:=List.getElem?_of_mem (List.mem_filter.1 hy).1
    have e1:=hx 0 x rfl
    have e2:=hx (j+1) y (by simpa using hj)
    have:=(List.getElem?_eq_some_iff.1 hj).1
    refine⟨n,n+(j+1),Nat.le_refl _,by omega,by simp;omega,?_⟩
    unfold mkP
    rw[e1,e2]
    congr 1<;>omega
   ·obtain⟨i,k,h1,h2,h3,h4⟩:=ih (n+1) (fun j t ht=>by have:=hx (j+1) t (by simpa using ht);rw[this];congr 1;omega) p hp
    exact⟨i,k,by omega,h2,by simp;omega,h4⟩
 obtain⟨i,k,_,h2,h3,h4⟩:=key (things l 0) 0 (fun j t ht=>by
  rw[things_get]at ht
  cases hl:l[j]? with
  |none=>rw[hl]at ht;cases ht
  |some a=>rw[hl]at ht;injection ht with ht;rw[←ht]) p h
 rw[things_len]at h3
 exact⟨i,k,h2,by omega,h4⟩
end Go.Brd
namespace Go.Proofs
open Go Go.Sl Go.Brd
theorem tf260:cfB Tryz.prog 28=true:=by kernel_rfl
theorem tf261:cfB Tryz.prog 31=true:=by kernel_rfl
theorem tf262:cfB Tryz.prog 51=true:=by kernel_rfl
set_option maxHeartbeats 4000000 in
theorem rput_ok(β:Base)(w:World)(hw:St β [] w)(vi va:Value)(es:ES)(hi:Sl IntF.R β.heap vi (idsE es))(ha:Sl AreaF.R β.heap va (arsE es))(hn:es.length≤1000)(tp:Option Addr)(tn tc:Nat)(id:Int)(a:KA)(hp:argS id a)(hl:(delE es id).length<128):Calls Tryz.prog 27 #[.agg #[vi,va,.slice tp tn tc],Ix id,.agg (aC a)] w fun r w'=>∃p c q d,r= .returned (.tuple #[.agg #[.slice p (idsE (insE es id a)).length c,.slice q (arsE (insE es id a)).length d,.slice tp tn tc],Ix 0])∧St β [rowF IntF 3 p c (idsE (insE es id a)),rowF AreaF 32 q d (arsE (insE es id a))] w':=by
 obtain⟨via,vic,rfl,vil,vim,vie⟩:=hi.get
 obtain⟨vaa,vac,rfl,val,vam,vae⟩:=ha.get
 have hil:(idsE es).length=es.length:=List.length_map _
 have hal:(arsE es).length=es.length:=List.length_map _
 refine enter (n:=87) Tryz.func27 rfl Tryz.ntmps27 rfl ?_ hw
 refine c_seq ?_
 refine c_region ?_
 refine l_mv rfl rfl rfl (m_box (v:= .agg #[.slice via ((idsE es).length) (vic),.slice vaa ((arsE es).length) (vac),.slice tp (tn) tc]) rfl) ?_
 rintro _ _ ⟨b1,rfl,rfl⟩
 refine l_mv rfl rfl rfl (m_box (v:= .agg (aC a)) rfl) ?_
 rintro _ _ ⟨b2,rfl,rfl⟩
 refine l_mv rfl rfl rfl (m_alloc tf252) ?_
 rintro _ _ ⟨b3,rfl,rfl⟩
 refine l_val (v:= .int .i64 (0)) rfl rfl rfl (e_assign) ?_
 refine l_nil ?_
 refine f_then ?_
 refine c_seq ?_
 refine c_seq ?_
 refine c_region ?_
 refine l_val (v:=Ix (id)) rfl rfl rfl (e_move) ?_
 refine l_val (v:= .bool (decide ((id)<(0:Int)))) rfl rfl rfl (e_lss (a:=(id)) (b:=(0:Int)) rfl rfl) ?_
 refine l_val (v:= .bool (decide ((id)<(0:Int)))) rfl rfl rfl (e_move) ?_
 refine l_split (s:=14) (p:=(id)<(0:Int)) rfl (fun h=> ?_) (fun h=> ?_)
 exact absurd h (by have:=hp.1;omega)
 refine g_val (v:=Ix (id)) rfl rfl rfl rfl rfl (e_move) ?_
 refine g_val (v:= .bool (decide ((65536:Int)<(id)))) rfl rfl rfl rfl rfl (e_gtr (a:=(id)) (b:=(65536:Int)) rfl rfl) ?_
 refine l_val (v:= .bool (decide ((65536:Int)<(id)))) rfl rfl rfl (e_pick_f rfl) ?_
 refine l_val (v:= .bool (decide ((65536:Int)<(id)))) rfl rfl rfl (e_move) ?_
 refine l_split (s:=18) (p:=(65536:Int)<(id)) rfl (fun h=> ?_) (fun h=> ?_)
 exact absurd h (by have:=hp.2.1;omega)
 refine g_val (v:= .agg (aC a)) rfl rfl rfl rfl rfl (e_load tf10 (cs:=(areaE a)) rfl (k_pt 1 (cs:=(aC a)) (vs:=(areaE a)) rfl rfl) rfl) ?_
 refine g_call rfl rfl rfl rfl rfl (cl_value (fst:=[]) (cap:=[]) (vs:=[.agg (aC a)]) (all:=[.agg (aC a)]) tf105 rfl rfl rfl) ?_
 intro w hw
 obtain⟨β1,sb,kn,hw1,back⟩:=St.frame_all hw
 refine(rvalid_ok β1 w hw1 a).mono ?_
 rintro e w' ⟨rfl,hw'⟩
 refine⟨_,rfl,_,back _ _ hw',?_⟩
 clear hw hw1 hw' back kn sb
 refine g_val (v:= .bool (decide (¬(okA a)))) rfl rfl rfl rfl rfl (e_not_p (p:=okA a) rfl) ?_
 refine l_val (v:= .bool (decide (¬(okA a)))) rfl rfl rfl (e_pick_f rfl) ?_
 refine l_nil ?_
 refine f_then ?_
 refine c_if (¬(okA a)) rfl (fun hc4=> ?_) (fun hc4=> ?_)
 ·
  exact absurd hc4 (fun q=>q hp.2.2)
 ·
  refine c_skip ?_
  refine f_then ?_
  refine c_seq ?_
  by_cases hh:hasE es id
  ·
   refine c_region ?_
   refine l_val (v:= .agg #[.slice via ((idsE es).length) (vic),.slice vaa ((arsE es).length) (vac),.slice tp (tn) tc]) rfl rfl rfl (e_load tf255 (cs:=[.slice via ((idsE es).length) (vic),.slice vaa ((arsE es).length) (vac),.slice tp (tn) tc]) rfl (k_pt 2 (cs:= #[.slice via ((idsE es).length) (vic),.slice vaa ((arsE es).length) (vac),.slice tp (tn) tc]) (vs:=[.slice via ((idsE es).length) (vic),.slice vaa ((arsE es).length) (vac),.slice tp (tn) tc]) rfl rfl) rfl) ?_
   refine l_val (v:=Ix (id)) rfl rfl rfl (e_move) ?_
   refine l_call rfl rfl rfl (cl_value (fst:=[]) (cap:=[]) (vs:=[.agg #[.slice via ((idsE es).length) (vic),.slice vaa ((arsE es).length) (vac),.slice tp (tn) tc],Ix (id)]) (all:=[.agg #[.slice via ((idsE es).length) (vic),.slice vaa ((arsE es).length) (vac),.slice tp (tn) tc],Ix (id)]) tf260 rfl rfl rfl) ?_
   intro w hw
   obtain⟨β1,sb,kn,hw1,back⟩:=St.frame_all hw
   refine(rdel_ok β1 w hw1 _ _ es (Sl.mono _ _ _ _ _ sb hi) (Sl.mono _ _ _ _ _ sb ha) (by omega) tp tn tc id hh).mono ?_
   rintro e w' ⟨p5,c6,q7,d8,rfl,hw'⟩
   refine⟨_,rfl,_,back _ _ hw',?_⟩
   clear hw hw1 hw' back kn sb
   refine l_val (v:= .tuple #[.agg #[.slice p5 ((idsE (delE es id)).length) c6,.slice q7 ((arsE (delE es id)).length) d8,.slice tp (tn) tc],.int .i64 (0)]) rfl rfl rfl (e_move) ?_
   refine l_val (v:= .agg #[.slice p5 ((idsE (delE es id)).length) c6,.slice q7 ((arsE (delE es id)).length) d8,.slice tp (tn) tc]) rfl rfl rfl (e_extract (vs:= #[.agg #[.slice p5 ((idsE (delE es id)).length) c6,.slice q7 ((arsE (delE es id)).length) d8,.slice tp (tn) tc],.int .i64 (0)]) rfl rfl) ?_
   refine l_val (v:= .int .i64 (0)) rfl rfl rfl (e_extract (vs:= #[.agg #[.slice p5 ((idsE (delE es id)).length) c6,.slice q7 ((arsE (delE es id)).length) d8,.slice tp (tn) tc],.int .i64 (0)]) rfl rfl) ?_
   refine l_mv rfl rfl rfl (m_alloc tf252) ?_
   rintro _ _ ⟨b9,rfl,rfl⟩
   refine l_mu rfl rfl (m_store 0 tf255 (b:=b9) (o:=0) (T:=59) (cs:= #[.slice none 0 0,.slice none 0 0,.slice none 0 0]) (cs':= #[.slice p5 ((idsE (delE es id)).length) c6,.slice q7 ((arsE (delE es id)).length) d8,.slice tp (tn) tc]) (v:= .agg #[.slice p5 ((idsE (delE es id)).length) c6,.slice q7 ((arsE (delE es id)).length) d8,.slice tp (tn) tc]) rfl rfl rfl rfl rfl rfl rfl) ?_
   refine l_val (v:= .int .i64 (0)) rfl rfl rfl (e_assign) ?_
   refine l_nil ?_
   refine f_then ?_
   refine c_seq ?_
   refine c_seq ?_
   refine c_perm (L':=[pt b9 (.cells #[.slice p5 ((idsE (delE es id)).length) c6,.slice q7 ((arsE (delE es id)).length) d8,.slice tp (tn) tc] 59),pt b3 (.cells #[.slice none 0 0,.slice none 0 0,.slice none 0 0] 59),pt b2 (.cells (aC a) 32),pt b1 (.cells #[.slice via ((idsE es).length) (vic),.slice vaa ((arsE es).length) (vac),.slice tp (tn) tc] 59),rowF IntF 3 p5 c6 (idsE (delE es id)),rowF AreaF 32 q7 d8 (arsE (delE es id))]) (perm_ix [0,3,4,5,1,2] 6 rfl (by kernel_rfl) (by kernel_rfl)) ?_
   refine c_freeze2 (M:=[pt b9 (.cells #[.slice p5 ((idsE (delE es id)).length) c6,.slice q7 ((arsE (delE es id)).length) d8,.slice tp (tn) tc] 59),pt b3 (.cells #[.slice none 0 0,.slice none 0 0,.slice none 0 0] 59),pt b2 (.cells (aC a) 32),pt b1 (.cells #[.slice via ((idsE es).length) (vic),.slice vaa ((arsE es).length) (vac),.slice tp (tn) tc] 59)]) (K:=[rowF IntF 3 p5 c6 (idsE (delE es id)),rowF AreaF 32 q7 d8 (arsE (delE es id))]) rfl (fun βf ext1 kn1 bk1=> ?_)
   have dsi:=kn1 _ (k_fl 0 (F:=IntF) rfl)
   have dsa:=kn1 _ (k_fl 1 (F:=AreaF) rfl)
   obtain⟨D,hD⟩:∃z,z=delE es id:=⟨_,rfl⟩
   rw[←hD]at dsi dsa hl⊢
   obtain⟨-,dc1,dm1,die⟩:=dsi.parts
   obtain⟨-,dc2,dm2,dae⟩:=dsa.parts
   have hdi:(idsE D).length=D.length:=List.length_map _
   have hda:(arsE D).length=D.length:=List.length_map _
   refine c_region ?_
   refine l_val (v:= .pointer (some ⟨b9,0,none⟩)) rfl rfl rfl (e_fieldPt (b:=b9) (o:=0) rfl tf256) ?_
   refine l_val (v:= .slice p5 ((idsE D).length) (c6)) rfl rfl rfl (e_load1 tf257 (v:= .slice p5 ((idsE D).length) (c6)) rfl (k_pt 0 (cs:= #[.slice p5 ((idsE D).length) (c6),.slice q7 ((arsE D).length) (d8),.slice tp (tn) tc]) (vs:=[.slice p5 ((idsE D).length) (c6)]) rfl rfl)) ?_
   refine l_val (v:=Nx ((idsE D).length)) rfl rfl rfl (e_len (a:=p5) (n:=(idsE D).length) (c:=c6) rfl tf15) ?_
   refine l_val (v:= .bool (decide ((((idsE D).length:Nat):Int)=(128:Int)))) rfl rfl rfl (e_eql (a:=(((idsE D).length:Nat):Int)) (b:=(128:Int)) rfl rfl) ?_
   refine l_nil ?_
   refine f_then ?_
   refine c_if ((((idsE D).length:Nat):Int)=(128:Int)) rfl (fun hc10=> ?_) (fun hc10=> ?_)
   ·
    exact absurd hc10 (by omega)
   ·
    refine c_skip ?_
    refine f_then ?_
    refine c_seq ?_
    refine c_region ?_
    refine l_val (v:= .pointer (some ⟨b1,2,none⟩)) rfl rfl rfl (e_fieldPt (b:=b1) (o:=0) rfl tf253) ?_
    refine l_val (v:= .slice tp (tn) tc) rfl rfl rfl (e_load1 tf36 (v:= .slice tp (tn) tc) rfl (k_pt 3 (cs:= #[.slice via ((idsE es).length) (vic),.slice vaa ((arsE es).length) (vac),.slice tp (tn) tc]) (vs:=[.slice tp (tn) tc]) rfl rfl)) ?_
    refine l_val (v:= .agg #[.slice none 0 0,.slice none 0 0,.slice tp (tn) tc]) rfl rfl rfl (e_build tf252 tf254 (vs:=[(2,.slice tp (tn) tc)]) (cells:= #[.slice none 0 0,.slice none 0 0,.slice tp (tn) tc]) rfl rfl) ?_
    refine l_mv rfl rfl rfl (m_alloc tf252) ?_
    rintro _ _ ⟨b11,rfl,rfl⟩
    refine l_mu rfl rfl (m_store 0 tf255 (b:=b11) (o:=0) (T:=59) (cs:= #[.slice none 0 0,.slice none 0 0,.slice none 0 0]) (cs':= #[.slice none 0 0,.slice none 0 0,.slice tp (tn) tc]) (v:= .agg #[.slice none 0 0,.slice none 0 0,.slice tp (tn) tc]) rfl rfl rfl rfl rfl rfl rfl) ?_
    refine l_nil ?_
    refine f_then ?_
    refine c_seq ?_
    refine c_region ?_
    refine l_val (v:= .int .i64 (0)) rfl rfl rfl (e_assign) ?_
    refine l_nil ?_
    refine f_then ?_
    refine c_seq_cut (fun(f:Fm) (L:List Res)=>∃(k:Nat),(f 1=Ix (id)∧f 5= .pointer (some ⟨b2,0,none⟩)∧f 6= .pointer (some ⟨b3,0,none⟩)∧f 8= .pointer (some ⟨b9,0,none⟩)∧f 10= .pointer (some ⟨b11,0,none⟩)∧f 11=Nx (k))∧L=[pt b11 (.cells #[.slice none 0 0,.slice none 0 0,.slice tp (tn) tc] 59),pt b9 (.cells #[.slice p5 ((idsE D).length) (c6),.slice q7 ((arsE D).length) (d8),.slice tp (tn) tc] 59),pt b3 (.cells #[.slice none 0 0,.slice none 0 0,.slice none 0 0] 59),pt b2 (.cells (aC a) 32),pt b1 (.cells #[.slice via ((idsE es).length) (vic),.slice vaa ((arsE es).length) (vac),.slice tp (tn) tc] 59)]∧(k=cntE D id)) ?_ ?_
    ·
     refine c_block ?_
     refine c_loop (fun(k:Nat) (f:Fm) (L:List Res)=>(f 1=Ix (id)∧f 5= .pointer (some ⟨b2,0,none⟩)∧f 6= .pointer (some ⟨b3,0,none⟩)∧f 8= .pointer (some ⟨b9,0,none⟩)∧f 10= .pointer (some ⟨b11,0,none⟩)∧f 11=Nx (k))∧L=[pt b11 (.cells #[.slice none 0 0,.slice none 0 0,.slice tp (tn) tc] 59),pt b9 (.cells #[.slice p5 ((idsE D).length) (c6),.slice q7 ((arsE D).length) (d8),.slice tp (tn) tc] 59),pt b3 (.cells #[.slice none 0 0,.slice none 0 0,.slice none 0 0] 59),pt b2 (.cells (aC a) 32),pt b1 (.cells #[.slice via ((idsE es).length) (vic),.slice vaa ((arsE es).length) (vac),.slice tp (tn) tc] 59)]∧(k≤D.length∧∀z∈(idsE D).take k,z<id)) (fun(k:Nat)=>D.length-k) 0 ?_ ?_
     ·exact⟨⟨rfl,rfl,rfl,rfl,rfl,rfl⟩,rfl,⟨by omega,by simp⟩⟩
     rintro k f0 L0 ⟨⟨hs1,hs5,hs6,hs8,hs10,hs11⟩,hL,⟨hk,hall⟩⟩
     subst L0
     refine rebase (d:=1) hs1 ?_
     refine rebase (d:=5) hs5 ?_
     refine rebase (d:=6) hs6 ?_
     refine rebase (d:=8) hs8 ?_
     refine rebase (d:=10) hs10 ?_
     refine rebase (d:=11) hs11 ?_
     clear hs1 hs5 hs6 hs8 hs10 hs11
     refine c_seq ?_
     refine c_seq ?_
     refine c_region ?_
     refine l_val (v:=Nx (k)) rfl rfl rfl (e_move) ?_
     refine l_val (v:= .pointer (some ⟨b9,0,none⟩)) rfl rfl rfl (e_fieldPt (b:=b9) (o:=0) rfl tf256) ?_
     refine l_val (v:= .slice p5 ((idsE D).length) (c6)) rfl rfl rfl (e_load1 tf257 (v:= .slice p5 ((idsE D).length) (c6)) rfl (k_pt 1 (cs:= #[.slice p5 ((idsE D).length) (c6),.slice q7 ((arsE D).length) (d8),.slice tp (tn) tc]) (vs:=[.slice p5 ((idsE D).length) (c6)]) rfl rfl)) ?_
     refine l_val (v:=Nx ((idsE D).length)) rfl rfl rfl (e_len (a:=p5) (n:=(idsE D).length) (c:=c6) rfl tf15) ?_
     refine l_val (v:= .bool (decide (((k:Nat):Int)<(((idsE D).length:Nat):Int)))) rfl rfl rfl (e_lss (a:=((k:Nat):Int)) (b:=(((idsE D).length:Nat):Int)) rfl rfl) ?_
     refine l_val (v:= .bool (decide (((k:Nat):Int)<(((idsE D).length:Nat):Int)))) rfl rfl rfl (e_move) ?_
     refine l_split (s:=43) (p:=((k:Nat):Int)<(((idsE D).length:Nat):Int)) rfl (fun hg12=> ?_) (fun hg12=> ?_)
     ·
      refine g_val (v:= .pointer (some ⟨b9,0,none⟩)) rfl rfl rfl rfl rfl (e_fieldPt (b:=b9) (o:=0) rfl tf256) ?_
      refine g_val (v:= .slice p5 ((idsE D).length) (c6)) rfl rfl rfl rfl rfl (e_load1 tf257 (v:= .slice p5 ((idsE D).length) (c6)) rfl (k_pt 1 (cs:= #[.slice p5 ((idsE D).length) (c6),.slice q7 ((arsE D).length) (d8),.slice tp (tn) tc]) (vs:=[.slice p5 ((idsE D).length) (c6)]) rfl rfl)) ?_
      refine g_val (v:=Nx (k)) rfl rfl rfl rfl rfl (e_move) ?_
      obtain⟨x13,hx14⟩:∃x_,((idsE D))[k]? =some x_:=⟨_,List.getElem?_eq_getElem (by omega)⟩
      obtain⟨ha15,cs16,hc17,rfl⟩:=die _ _ hx14
      refine g_val (v:= .pointer (some ((ba p5).add (k*1)))) rfl rfl rfl rfl rfl (e_indexAddr (k:=k) (len:=(idsE D).length) (cap:=c6) (a:=p5) rfl rfl tf16 (by omega) ha15) ?_
      refine g_val (v:=Ix (x13)) rfl rfl rfl rfl rfl (e_load1 tf2 (v:=Ix (x13)) rfl (Knows.of_base (Cs.mono _ _) hc17)) ?_
      refine g_val (v:=Ix (id)) rfl rfl rfl rfl rfl (e_move) ?_
      refine g_val (v:= .bool (decide ((x13)<(id)))) rfl rfl rfl rfl rfl (e_lss (a:=(x13)) (b:=(id)) rfl rfl) ?_
      refine l_val (v:= .bool (decide ((x13)<(id)))) rfl rfl rfl (e_pick_t rfl) ?_
      refine l_nil ?_
      refine f_then ?_
      refine c_if ((x13)<(id)) rfl (fun hc19=> ?_) (fun hc19=> ?_)
      ·
       refine c_skip ?_
       refine f_then ?_
       refine c_block ?_
       refine c_region ?_
       refine l_val (v:=Nx (k)) rfl rfl rfl (e_move) ?_
       refine l_val (v:=Nx (k+1)) rfl rfl rfl (e_add (a:=((k:Nat):Int)) (b:=(1:Int)) rfl rfl (i64n (by omega) (by omega))) ?_
       refine l_val (v:=Nx (k+1)) rfl rfl rfl (e_assign) ?_
       refine l_nil ?_
       refine f_block ?_
       exact f_cut ⟨k+1,⟨⟨rfl,rfl,rfl,rfl,rfl,rfl⟩,rfl,⟨by omega,all_next hx14 hall hc19⟩⟩,(show D.length-(k+1)<D.length-k from by omega)⟩
      ·
       refine c_exit ?_
       refine f_then_exit ?_
       refine f_then_exit ?_
       refine f_exit ?_
       exact f_cut ⟨k,⟨rfl,rfl,rfl,rfl,rfl,rfl⟩,rfl,cnt_stop hall hx14 hc19 hk⟩
     ·
      refine l_skip rfl rfl rfl rfl rfl rfl ?_
      refine l_skip rfl rfl rfl rfl rfl rfl ?_
      refine l_skip rfl rfl rfl rfl rfl rfl ?_
      refine l_skip rfl rfl rfl rfl rfl rfl ?_
      refine l_skip rfl rfl rfl rfl rfl rfl ?_
      refine l_skip rfl rfl rfl rfl rfl rfl ?_
      refine l_skip rfl rfl rfl rfl rfl rfl ?_
      refine l_val (v:= .bool false) rfl rfl rfl (e_pick_f rfl) ?_
      refine l_nil ?_
      refine f_then ?_
      refine c_no rfl ?_
      refine c_exit ?_
      refine f_then_exit ?_
      refine f_then_exit ?_
      refine f_exit ?_
      exact f_cut ⟨k,⟨rfl,rfl,rfl,rfl,rfl,rfl⟩,rfl,cnt_all hall (by omega) hk⟩
    rintro f0 L0 ⟨k,⟨hs1,hs5,hs6,hs8,hs10,hs11⟩,hL,hkc⟩
    subst L0
    refine rebase (d:=1) hs1 ?_
    refine rebase (d:=5) hs5 ?_
    refine rebase (d:=6) hs6 ?_
    refine rebase (d:=8) hs8 ?_
    refine rebase (d:=10) hs10 ?_
    refine rebase (d:=11) hs11 ?_
    clear hs1 hs5 hs6 hs8 hs10 hs11
    have hkl:k≤D.length:=by rw[hkc];exact cnt_le _ _
    refine c_seq ?_
    refine c_emp (r:=rowF AreaF 32 none 0 []) (row_nil _ _ _) ?_
    refine c_emp (r:=rowF IntF 3 none 0 []) (row_nil _ _ _) ?_
    obtain⟨zs20,hz21⟩:∃zs,zs=((idsE D).take k):=⟨_,rfl⟩
    have zl22:zs20.length=min k ((idsE D)).length-0:=by rw[hz21];simp;try omega
    have ze23:=(Elems.take k die)
    rw[←hz21]at ze23
    obtain⟨zs34,hz35⟩:∃zs,zs=((idsE D).drop k):=⟨_,rfl⟩
    have zl36:zs34.length=((idsE D)).length-k:=by rw[hz35];simp;try omega
    have ze37:=(Elems.drop (cap:=c6) k (by first|omega|(simp;omega)) die)
    rw[←hz35]at ze37
    refine c_any [⟨[],[],[0],[54],fun f=>f 54= .pointer (some ⟨b11,0,none⟩)⟩,⟨[0],[0],[],[55],fun f=>f 55= .slice none (0) 0⟩,⟨[],[],[1],[56],fun f=>f 56= .pointer (some ⟨b9,0,none⟩)⟩,⟨[2],[2],[],[57],fun f=>f 57= .slice p5 ((idsE D).length) (c6)⟩,⟨[],[],[2],[58],fun f=>f 58=Nx (k)⟩,⟨[2,3,4],[3,4],[],[59],fun f=>f 59= .slice p5 (zs20.length) (c6)⟩,⟨[0,1,2,3,4,5],[1,5],[],[60],fun f=>f 60= .slice (sla (f 60)) (zs20.length) (slc (f 60))⟩,⟨[],[],[3],[61],fun f=>f 61=Ix (id)⟩,⟨[7],[7],[],[62],fun f=>f 62= .slice (some ⟨(blk (f 62)),0,none⟩) 1 1⟩,⟨[0,1,2,3,4,5,6,7,8],[6,8],[],[63],fun f=>f 63= .slice (sla (f 63)) ((zs20++[id]).length) (slc (f 63))⟩,⟨[],[],[1],[64],fun f=>f 64= .pointer (some ⟨b9,0,none⟩)⟩,⟨[10],[10],[],[65],fun f=>f 65= .slice p5 ((idsE D).length) (c6)⟩,⟨[],[],[2],[66],fun f=>f 66=Nx (k)⟩,⟨[10,11,12],[11,12],[],[67],fun f=>f 67= .slice (adv p5 c6 k 1) (zs34.length) ((c6-k))⟩,⟨[0,1,2,3,4,5,6,7,8,9,10,11,12,13],[9,13],[],[68],fun f=>f 68= .slice (sla (f 68)) (((zs20++[id])++zs34).length) (slc (f 68))⟩,⟨[0,1,2,3,4,5,6,7,8,9,10,11,12,13,14],[],[0],[69],fun f=>f 69= .pointer (some ⟨b11,0,none⟩)⟩,⟨[0,1,2,3,4,5,6,7,8,9,10,11,12,13,14,15],[15,14],[],[],fun _=>True⟩] [⟨none,(some 6),[6],[],fun _=>rowF IntF 3 none 0 []⟩,⟨none,none,[],[],fun _=>rowF AreaF 32 none 0 []⟩,⟨none,(some 16),[1,16],[],fun _=>pt b11 (.cells #[.slice none (0) 0,.slice none (0) 0,.slice tp (tn) tc] 59)⟩,⟨none,none,[3,11],[],fun _=>pt b9 (.cells #[.slice p5 ((idsE D).length) (c6),.slice q7 ((arsE D).length) (d8),.slice tp (tn) tc] 59)⟩,⟨none,none,[],[],fun _=>pt b3 (.cells #[.slice none 0 0,.slice none 0 0,.slice none 0 0] 59)⟩,⟨none,none,[],[],fun _=>pt b2 (.cells (aC a) 32)⟩,⟨none,none,[],[],fun _=>pt b1 (.cells #[.slice via ((idsE es).length) (vic),.slice vaa ((arsE es).length) (vac),.slice tp (tn) tc] 59)⟩,⟨(some 6),(some 9),[9],[60],fun f=>rowF IntF 3 (sla (f 60)) (slc (f 60)) zs20⟩,⟨(some 8),none,[9],[62],fun f=>pt (blk (f 62)) (.cells #[Ix (id)] 3)⟩,⟨(some 9),(some 14),[14],[63],fun f=>rowF IntF 3 (sla (f 63)) (slc (f 63)) (zs20++[id])⟩,⟨(some 14),none,[],[68],fun f=>rowF IntF 3 (sla (f 68)) (slc (f 68)) ((zs20++[id])++zs34)⟩,⟨(some 16),none,[],[68],fun f=>pt b11 (.cells #[.slice (sla (f 68)) (((zs20++[id])++zs34).length) (slc (f 68)),.slice none (0) 0,.slice tp (tn) tc] 59)⟩] [(10,.pointer (some ⟨b11,0,none⟩)),(8,.pointer (some ⟨b9,0,none⟩)),(11,Nx (k)),(1,Ix (id)),(5,.pointer (some ⟨b2,0,none⟩)),(6,.pointer (some ⟨b3,0,none⟩))] [4,5,1,0,2] [] (by kernel_rfl) (by kernel_rfl) (by kernel_rfl) (by kernel_rfl) rfl ⟨rfl,rfl,rfl,rfl,rfl,rfl,trivial⟩ ⟨?_,?_,?_,?_,?_,?_,?_,?_,?_,?_,?_,?_,?_,?_,?_,?_,?_,trivial⟩ ?_
    ·rintro f M-⟨i0,-⟩
     have hs10:f 10= .pointer (some ⟨b11,0,none⟩):=i0
     refine ob_start (L':=M) (by rfl) (up_cons rfl hs10) ?_
     refine l_val (v:= .pointer (some ⟨b11,0,none⟩)) rfl rfl rfl (e_fieldPt (b:=b11) (o:=0) rfl tf256) ?_
     refine l_nil ?_
     exact f_owes_d (up_cons rfl hs10) rfl (List.Perm.refl _)
    ·rintro f M ⟨k0,-⟩-
     have hs54:f 54= .pointer (some ⟨b11,0,none⟩):=k0
     refine ob_start (L':=pt b11 (.cells #[.slice none (0) 0,.slice none (0) 0,.slice tp (tn) tc] 59)::M) (by rfl) (up_cons rfl hs54) ?_
     refine l_val (v:= .slice none (0) 0) rfl rfl rfl (e_load1 tf257 (v:= .slice none (0) 0) rfl (k_pt 0 (cs:= #[.slice none (0) 0,.slice none (0) 0,.slice tp (tn) tc]) (vs:=[.slice none (0) 0]) rfl rfl)) ?_
     refine l_nil ?_
     exact f_owes_d (up_cons rfl hs54) rfl (perm_front 0 rfl)
    ·rintro f M-⟨i0,-⟩
     have hs8:f 8= .pointer (some ⟨b9,0,none⟩):=i0
     refine ob_start (L':=M) (by rfl) (up_cons rfl hs8) ?_
     refine l_val (v:= .pointer (some ⟨b9,0,none⟩)) rfl rfl rfl (e_fieldPt (b:=b9) (o:=0) rfl tf256) ?_
     refine l_nil ?_
     exact f_owes_d (up_cons rfl hs8) rfl (List.Perm.refl _)
    ·rintro f M ⟨k0,-⟩-
     have hs56:f 56= .pointer (some ⟨b9,0,none⟩):=k0
     refine ob_start (L':=pt b9 (.cells #[.slice p5 ((idsE D).length) (c6),.slice q7 ((arsE D).length) (d8),.slice tp (tn) tc] 59)::M) (by rfl) (up_cons rfl hs56) ?_
     refine l_val (v:= .slice p5 ((idsE D).length) (c6)) rfl rfl rfl (e_load1 tf257 (v:= .slice p5 ((idsE D).length) (c6)) rfl (k_pt 0 (cs:= #[.slice p5 ((idsE D).length) (c6),.slice q7 ((arsE D).length) (d8),.slice tp (tn) tc]) (vs:=[.slice p5 ((idsE D).length) (c6)]) rfl rfl)) ?_
     refine l_nil ?_
     exact f_owes_d (up_cons rfl hs56) rfl (perm_front 0 rfl)
    ·rintro f M-⟨i0,-⟩
     have hs11:f 11=Nx (k):=i0
     refine ob_start (L':=M) (by rfl) (up_cons rfl hs11) ?_
     refine l_val (v:=Nx (k)) rfl rfl rfl (e_move) ?_
     refine l_nil ?_
     exact f_owes_d (up_cons rfl hs11) rfl (List.Perm.refl _)
    ·rintro f M ⟨k0,k1,-⟩-
     have hs57:f 57= .slice p5 ((idsE D).length) (c6):=k0
     have hs58:f 58=Nx (k):=k1
     refine ob_start (L':=M) (by rfl) (up_cons (up_cons rfl hs57) hs58) ?_
     refine l_val (v:= .slice p5 (zs20.length) (c6)) rfl rfl rfl (ev_eq (by rw[show zs20.length=k by omega]) (e_slice_hi (a:=p5) (len:=(idsE D).length) (cap:=c6) (h:=k) tf16 rfl rfl (by omega))) ?_
     refine l_nil ?_
     exact f_owes_d (up_cons (up_cons rfl hs57) hs58) rfl (List.Perm.refl _)
    ·rintro f M ⟨k0,k1,-⟩-
     have hs55:f 55= .slice none (0) 0:=k0
     have hs59:f 59= .slice p5 (zs20.length) (c6):=k1
     refine ob_start (L':=rowF IntF 3 none 0 []::M) (by rfl) (up_cons (up_cons rfl hs55) hs59) ?_
     refine l_mv rfl rfl rfl (m_appendFlN (F:=IntF) 0 tf16 tf56 (p:=none) (m:=0) (xs:=[]) (ys:=zs20) (ao:=p5) (k:=zs20.length) (c:=c6) rfl rfl rfl rfl rfl (Knows.of_base (Elems.mono _ _ _) ze23) (by first|omega|simp only[List.length_nil,List.length_cons,List.length_append,List.length_set];omega) (by first|omega|simp only[List.length_nil,List.length_cons,List.length_append,List.length_set];omega)) ?_
     rintro _ _ ⟨rp26,rc27,rfl,rfl⟩
     refine l_nil ?_
     exact f_owes_d (up_cons (up_cons rfl hs55) hs59) rfl (perm_front 0 rfl)
    ·rintro f M-⟨i0,-⟩
     have hs1:f 1=Ix (id):=i0
     refine ob_start (L':=M) (by rfl) (up_cons rfl hs1) ?_
     refine l_val (v:=Ix (id)) rfl rfl rfl (e_move) ?_
     refine l_nil ?_
     exact f_owes_d (up_cons rfl hs1) rfl (List.Perm.refl _)
    ·rintro f M ⟨k0,-⟩-
     have hs61:f 61=Ix (id):=k0
     refine ob_start (L':=M) (by rfl) (up_cons rfl hs61) ?_
     refine l_mv rfl rfl rfl (m_slices tf16 tf21 (vs:=[(0,Ix (id))]) (cells:= #[Ix (id)]) rfl rfl rfl rfl) ?_
     rintro _ _ ⟨b29,rfl,rfl⟩
     refine l_nil ?_
     exact f_owes_d (up_cons rfl hs61) rfl (perm_front 0 rfl)
    ·rintro f M ⟨k0,k1,-⟩-
     have hs60:f 60= .slice (sla (f 60)) (zs20.length) (slc (f 60)):=k0
     have hs62:f 62= .slice (some ⟨(blk (f 62)),0,none⟩) 1 1:=k1
     refine ob_start (L':=rowF IntF 3 (sla (f 60)) (slc (f 60)) zs20::pt (blk (f 62)) (.cells #[Ix (id)] 3)::M) (by rfl) (up_cons (up_cons rfl hs60) hs62) ?_
     refine l_mv rfl rfl rfl (m_appendFlN (F:=IntF) 0 tf16 tf56 (p:=(sla (f 60))) (m:=zs20.length) (xs:=zs20) (ys:=[id]) (ao:=(some ⟨(blk (f 62)),0,none⟩)) (k:=1) (c:=1) rfl rfl rfl rfl rfl (k_ptFl (z:=id) 1 rfl rfl) (by first|omega|simp only[List.length_nil,List.length_cons,List.length_append,List.length_set];omega) (by first|omega|simp only[List.length_nil,List.length_cons,List.length_append,List.length_set];omega)) ?_
     rintro _ _ ⟨rp32,rc33,rfl,rfl⟩
     refine l_nil ?_
     exact f_owes_d (up_cons (up_cons rfl hs60) hs62) rfl ((perm_front 0 rfl).trans (perm_front 1 rfl))
    ·rintro f M-⟨i0,-⟩
     have hs8:f 8= .pointer (some ⟨b9,0,none⟩):=i0
     refine ob_start (L':=M) (by rfl) (up_cons rfl hs8) ?_
     refine l_val (v:= .pointer (some ⟨b9,0,none⟩)) rfl rfl rfl (e_fieldPt (b:=b9) (o:=0) rfl tf256) ?_
     refine l_nil ?_
     exact f_owes_d (up_cons rfl hs8) rfl (List.Perm.refl _)
    ·rintro f M ⟨k0,-⟩-
     have hs64:f 64= .pointer (some ⟨b9,0,none⟩):=k0
     refine ob_start (L':=pt b9 (.cells #[.slice p5 ((idsE D).length) (c6),.slice q7 ((arsE D).length) (d8),.slice tp (tn) tc] 59)::M) (by rfl) (up_cons rfl hs64) ?_
     refine l_val (v:= .slice p5 ((idsE D).length) (c6)) rfl rfl rfl (e_load1 tf257 (v:= .slice p5 ((idsE D).length) (c6)) rfl (k_pt 0 (cs:= #[.slice p5 ((idsE D).length) (c6),.slice q7 ((arsE D).length) (d8),.slice tp (tn) tc]) (vs:=[.slice p5 ((idsE D).length) (c6)]) rfl rfl)) ?_
     refine l_nil ?_
     exact f_owes_d (up_cons rfl hs64) rfl (perm_front 0 rfl)
    ·rintro f M-⟨i0,-⟩
     have hs11:f 11=Nx (k):=i0
     refine ob_start (L':=M) (by rfl) (up_cons rfl hs11) ?_
     refine l_val (v:=Nx (k)) rfl rfl rfl (e_move) ?_
     refine l_nil ?_
     exact f_owes_d (up_cons rfl hs11) rfl (List.Perm.refl _)
    ·rintro f M ⟨k0,k1,-⟩-
     have hs65:f 65= .slice p5 ((idsE D).length) (c6):=k0
     have hs66:f 66=Nx (k):=k1
     refine ob_start (L':=M) (by rfl) (up_cons (up_cons rfl hs65) hs66) ?_
     refine l_val (v:= .slice (adv p5 c6 k 1) (zs34.length) ((c6-k))) rfl rfl rfl (ev_eq (by rw[show zs34.length=((idsE D).length)-k by omega]) (e_slice_lo (a:=p5) (len:=(idsE D).length) (cap:=c6) (l:=k) tf16 rfl rfl (by omega))) ?_
     refine l_nil ?_
     exact f_owes_d (up_cons (up_cons rfl hs65) hs66) rfl (List.Perm.refl _)
    ·rintro f M ⟨k0,k1,-⟩-
     have hs63:f 63= .slice (sla (f 63)) ((zs20++[id]).length) (slc (f 63)):=k0
     have hs67:f 67= .slice (adv p5 c6 k 1) (zs34.length) ((c6-k)):=k1
     refine ob_start (L':=rowF IntF 3 (sla (f 63)) (slc (f 63)) (zs20++[id])::M) (by rfl) (up_cons (up_cons rfl hs63) hs67) ?_
     refine l_mv rfl rfl rfl (m_appendFlN (F:=IntF) 0 tf16 tf56 (p:=(sla (f 63))) (m:=(zs20++[id]).length) (xs:=(zs20++[id])) (ys:=zs34) (ao:=(adv p5 c6 k 1)) (k:=zs34.length) (c:=(c6-k)) rfl rfl rfl rfl rfl (Knows.of_base (Elems.mono _ _ _) ze37) (by first|omega|simp only[List.length_nil,List.length_cons,List.length_append,List.length_set];omega) (by first|omega|simp only[List.length_nil,List.length_cons,List.length_append,List.length_set];omega)) ?_
     rintro _ _ ⟨rp40,rc41,rfl,rfl⟩
     refine l_nil ?_
     exact f_owes_d (up_cons (up_cons rfl hs63) hs67) rfl (perm_front 0 rfl)
    ·rintro f M-⟨i0,-⟩
     have hs10:f 10= .pointer (some ⟨b11,0,none⟩):=i0
     refine ob_start (L':=M) (by rfl) (up_cons rfl hs10) ?_
     refine l_val (v:= .pointer (some ⟨b11,0,none⟩)) rfl rfl rfl (e_fieldPt (b:=b11) (o:=0) rfl tf256) ?_
     refine l_nil ?_
     exact f_owes_d (up_cons rfl hs10) rfl (List.Perm.refl _)
    ·rintro f M ⟨k0,k1,-⟩-
     have hs69:f 69= .pointer (some ⟨b11,0,none⟩):=k0
     have hs68:f 68= .slice (sla (f 68)) (((zs20++[id])++zs34).length) (slc (f 68)):=k1
     refine ob_start (L':=pt b11 (.cells #[.slice none (0) 0,.slice none (0) 0,.slice tp (tn) tc] 59)::M) (by rfl) (up_cons (up_cons rfl hs69) hs68) ?_
     refine l_mu rfl rfl (m_store 0 tf257 (b:=b11) (o:=0) (T:=59) (cs:= #[.slice none (0) 0,.slice none (0) 0,.slice tp (tn) tc]) (cs':= #[.slice (sla (f 68)) (((zs20++[id])++zs34).length) (slc (f 68)),.slice none (0) 0,.slice tp (tn) tc]) (v:= .slice (sla (f 68)) (((zs20++[id])++zs34).length) (slc (f 68))) rfl rfl rfl rfl rfl rfl rfl) ?_
     refine l_nil ?_
     exact f_owes_n (up_cons (up_cons rfl hs69) hs68) trivial (perm_front 0 rfl)
    rintro fa42 ⟨-,-,-,-,-,-,-,-,-,-,-,-,-,-,-,-,-,-⟩ ⟨j0,j1,j2,j3,j4,-⟩
    refine f_re (L':=[rowF AreaF 32 none 0 [],pt b9 (.cells #[.slice p5 ((idsE D).length) (c6),.slice q7 ((arsE D).length) (d8),.slice tp (tn) tc] 59),pt b3 (.cells #[.slice none 0 0,.slice none 0 0,.slice none 0 0] 59),pt b2 (.cells (aC a) 32),pt b1 (.cells #[.slice via ((idsE es).length) (vic),.slice vaa ((arsE es).length) (vac),.slice tp (tn) tc] 59),pt (blk (fa42 62)) (.cells #[Ix (id)] 3),rowF IntF 3 (sla (fa42 68)) (slc (fa42 68)) ((zs20++[id])++zs34),pt b11 (.cells #[.slice (sla (fa42 68)) (((zs20++[id])++zs34).length) (slc (fa42 68)),.slice none (0) 0,.slice tp (tn) tc] 59)]) (by rfl) ?_
    refine f_rebase (d:=5) (v:= .pointer (some ⟨b2,0,none⟩)) j0 ?_
    refine f_rebase (d:=6) (v:= .pointer (some ⟨b3,0,none⟩)) j1 ?_
    refine f_rebase (d:=8) (v:= .pointer (some ⟨b9,0,none⟩)) j2 ?_
    refine f_rebase (d:=10) (v:= .pointer (some ⟨b11,0,none⟩)) j3 ?_
    refine f_rebase (d:=11) (v:=Nx (k)) j4 ?_
    refine f_then ?_
    refine c_seq ?_
    obtain⟨zs43,hz44⟩:∃zs,zs=((arsE D).take k):=⟨_,rfl⟩
    have zl45:zs43.length=min k ((arsE D)).length-0:=by rw[hz44];simp;try omega
    have ze46:=(Elems.take k dae)
    rw[←hz44]at ze46
    obtain⟨zs57,hz58⟩:∃zs,zs=((arsE D).drop k):=⟨_,rfl⟩
    have zl59:zs57.length=((arsE D)).length-k:=by rw[hz58];simp;try omega
    have ze60:=(Elems.drop (cap:=d8) k (by first|omega|(simp;omega)) dae)
    rw[←hz58]at ze60
    refine c_any [⟨[],[],[0],[70],fun f=>f 70= .pointer (some ⟨b11,1,none⟩)⟩,⟨[0],[0],[],[71],fun f=>f 71= .slice none (0) 0⟩,⟨[],[],[1],[72],fun f=>f 72= .pointer (some ⟨b9,1,none⟩)⟩,⟨[2],[2],[],[73],fun f=>f 73= .slice q7 ((arsE D).length) (d8)⟩,⟨[],[],[2],[74],fun f=>f 74=Nx (k)⟩,⟨[2,3,4],[3,4],[],[75],fun f=>f 75= .slice q7 (zs43.length) (d8)⟩,⟨[0,1,2,3,4,5],[1,5],[],[76],fun f=>f 76= .slice (sla (f 76)) (zs43.length) (slc (f 76))⟩,⟨[],[],[3],[77],fun f=>f 77= .agg (aC a)⟩,⟨[7],[7],[],[78],fun f=>f 78= .slice (some ⟨(blk (f 78)),0,none⟩) 1 1⟩,⟨[0,1,2,3,4,5,6,7,8],[6,8],[],[79],fun f=>f 79= .slice (sla (f 79)) ((zs43++[a]).length) (slc (f 79))⟩,⟨[],[],[1],[80],fun f=>f 80= .pointer (some ⟨b9,1,none⟩)⟩,⟨[10],[10],[],[81],fun f=>f 81= .slice q7 ((arsE D).length) (d8)⟩,⟨[],[],[2],[82],fun f=>f 82=Nx (k)⟩,⟨[10,11,12],[11,12],[],[83],fun f=>f 83= .slice (adv q7 d8 k 4) (zs57.length) ((d8-k))⟩,⟨[0,1,2,3,4,5,6,7,8,9,10,11,12,13],[9,13],[],[84],fun f=>f 84= .slice (sla (f 84)) (((zs43++[a])++zs57).length) (slc (f 84))⟩,⟨[0,1,2,3,4,5,6,7,8,9,10,11,12,13,14],[],[0],[85],fun f=>f 85= .pointer (some ⟨b11,1,none⟩)⟩,⟨[0,1,2,3,4,5,6,7,8,9,10,11,12,13,14,15],[15,14],[],[],fun _=>True⟩] [⟨none,(some 6),[6],[],fun _=>rowF AreaF 32 none 0 []⟩,⟨none,none,[3,11],[],fun _=>pt b9 (.cells #[.slice p5 ((idsE D).length) (c6),.slice q7 ((arsE D).length) (d8),.slice tp (tn) tc] 59)⟩,⟨none,none,[],[],fun _=>pt b3 (.cells #[.slice none 0 0,.slice none 0 0,.slice none 0 0] 59)⟩,⟨none,none,[7],[],fun _=>pt b2 (.cells (aC a) 32)⟩,⟨none,none,[],[],fun _=>pt b1 (.cells #[.slice via ((idsE es).length) (vic),.slice vaa ((arsE es).length) (vac),.slice tp (tn) tc] 59)⟩,⟨none,none,[],[],fun _=>pt (blk (fa42 62)) (.cells #[Ix (id)] 3)⟩,⟨none,none,[],[],fun _=>rowF IntF 3 (sla (fa42 68)) (slc (fa42 68)) ((zs20++[id])++zs34)⟩,⟨none,(some 16),[1,16],[],fun _=>pt b11 (.cells #[.slice (sla (fa42 68)) (((zs20++[id])++zs34).length) (slc (fa42 68)),.slice none (0) 0,.slice tp (tn) tc] 59)⟩,⟨(some 6),(some 9),[9],[76],fun f=>rowF AreaF 32 (sla (f 76)) (slc (f 76)) zs43⟩,⟨(some 8),none,[9],[78],fun f=>pt (blk (f 78)) (.cells (aC a) 32)⟩,⟨(some 9),(some 14),[14],[79],fun f=>rowF AreaF 32 (sla (f 79)) (slc (f 79)) (zs43++[a])⟩,⟨(some 14),none,[],[84],fun f=>rowF AreaF 32 (sla (f 84)) (slc (f 84)) ((zs43++[a])++zs57)⟩,⟨(some 16),none,[],[84],fun f=>pt b11 (.cells #[.slice (sla (fa42 68)) (((zs20++[id])++zs34).length) (slc (fa42 68)),.slice (sla (f 84)) (((zs43++[a])++zs57).length) (slc (f 84)),.slice tp (tn) tc] 59)⟩] [(10,.pointer (some ⟨b11,0,none⟩)),(8,.pointer (some ⟨b9,0,none⟩)),(11,Nx (k)),(5,.pointer (some ⟨b2,0,none⟩)),(6,.pointer (some ⟨b3,0,none⟩))] [4,0] [] (by kernel_rfl) (by kernel_rfl) (by kernel_rfl) (by kernel_rfl) rfl ⟨rfl,rfl,rfl,rfl,rfl,trivial⟩ ⟨?_,?_,?_,?_,?_,?_,?_,?_,?_,?_,?_,?_,?_,?_,?_,?_,?_,trivial⟩ ?_
    ·rintro f M-⟨i0,-⟩
     have hs10:f 10= .pointer (some ⟨b11,0,none⟩):=i0
     refine ob_start (L':=M) (by rfl) (up_cons rfl hs10) ?_
     refine l_val (v:= .pointer (some ⟨b11,1,none⟩)) rfl rfl rfl (e_fieldPt (b:=b11) (o:=0) rfl tf258) ?_
     refine l_nil ?_
     exact f_owes_d (up_cons rfl hs10) rfl (List.Perm.refl _)
    ·rintro f M ⟨k0,-⟩-
     have hs70:f 70= .pointer (some ⟨b11,1,none⟩):=k0
     refine ob_start (L':=pt b11 (.cells #[.slice (sla (fa42 68)) (((zs20++[id])++zs34).length) (slc (fa42 68)),.slice none (0) 0,.slice tp (tn) tc] 59)::M) (by rfl) (up_cons rfl hs70) ?_
     refine l_val (v:= .slice none (0) 0) rfl rfl rfl (e_load1 tf259 (v:= .slice none (0) 0) rfl (k_pt 0 (cs:= #[.slice (sla (fa42 68)) (((zs20++[id])++zs34).length) (slc (fa42 68)),.slice none (0) 0,.slice tp (tn) tc]) (vs:=[.slice none (0) 0]) rfl rfl)) ?_
     refine l_nil ?_
     exact f_owes_d (up_cons rfl hs70) rfl (perm_front 0 rfl)
    ·rintro f M-⟨i0,-⟩
     have hs8:f 8= .pointer (some ⟨b9,0,none⟩):=i0
     refine ob_start (L':=M) (by rfl) (up_cons rfl hs8) ?_
     refine l_val (v:= .pointer (some ⟨b9,1,none⟩)) rfl rfl rfl (e_fieldPt (b:=b9) (o:=0) rfl tf258) ?_
     refine l_nil ?_
     exact f_owes_d (up_cons rfl hs8) rfl (List.Perm.refl _)
    ·rintro f M ⟨k0,-⟩-
     have hs72:f 72= .pointer (some ⟨b9,1,none⟩):=k0
     refine ob_start (L':=pt b9 (.cells #[.slice p5 ((idsE D).length) (c6),.slice q7 ((arsE D).length) (d8),.slice tp (tn) tc] 59)::M) (by rfl) (up_cons rfl hs72) ?_
     refine l_val (v:= .slice q7 ((arsE D).length) (d8)) rfl rfl rfl (e_load1 tf259 (v:= .slice q7 ((arsE D).length) (d8)) rfl (k_pt 0 (cs:= #[.slice p5 ((idsE D).length) (c6),.slice q7 ((arsE D).length) (d8),.slice tp (tn) tc]) (vs:=[.slice q7 ((arsE D).length) (d8)]) rfl rfl)) ?_
     refine l_nil ?_
     exact f_owes_d (up_cons rfl hs72) rfl (perm_front 0 rfl)
    ·rintro f M-⟨i0,-⟩
     have hs11:f 11=Nx (k):=i0
     refine ob_start (L':=M) (by rfl) (up_cons rfl hs11) ?_
     refine l_val (v:=Nx (k)) rfl rfl rfl (e_move) ?_
     refine l_nil ?_
     exact f_owes_d (up_cons rfl hs11) rfl (List.Perm.refl _)
    ·rintro f M ⟨k0,k1,-⟩-
     have hs73:f 73= .slice q7 ((arsE D).length) (d8):=k0
     have hs74:f 74=Nx (k):=k1
     refine ob_start (L':=M) (by rfl) (up_cons (up_cons rfl hs73) hs74) ?_
     refine l_val (v:= .slice q7 (zs43.length) (d8)) rfl rfl rfl (ev_eq (by rw[show zs43.length=k by omega]) (e_slice_hi (a:=q7) (len:=(arsE D).length) (cap:=d8) (h:=k) tf43 rfl rfl (by omega))) ?_
     refine l_nil ?_
     exact f_owes_d (up_cons (up_cons rfl hs73) hs74) rfl (List.Perm.refl _)
    ·rintro f M ⟨k0,k1,-⟩-
     have hs71:f 71= .slice none (0) 0:=k0
     have hs75:f 75= .slice q7 (zs43.length) (d8):=k1
     refine ob_start (L':=rowF AreaF 32 none 0 []::M) (by rfl) (up_cons (up_cons rfl hs71) hs75) ?_
     refine l_mv rfl rfl rfl (m_appendFlN (F:=AreaF) 0 tf43 tf97 (p:=none) (m:=0) (xs:=[]) (ys:=zs43) (ao:=q7) (k:=zs43.length) (c:=d8) rfl rfl rfl rfl rfl (Knows.of_base (Elems.mono _ _ _) ze46) (by first|omega|simp only[List.length_nil,List.length_cons,List.length_append,List.length_set];omega) (by first|omega|simp only[List.length_nil,List.length_cons,List.length_append,List.length_set];omega)) ?_
     rintro _ _ ⟨rp49,rc50,rfl,rfl⟩
     refine l_nil ?_
     exact f_owes_d (up_cons (up_cons rfl hs71) hs75) rfl (perm_front 0 rfl)
    ·rintro f M-⟨i0,-⟩
     have hs5:f 5= .pointer (some ⟨b2,0,none⟩):=i0
     refine ob_start (L':=pt b2 (.cells (aC a) 32)::M) (by rfl) (up_cons rfl hs5) ?_
     refine l_val (v:= .agg (aC a)) rfl rfl rfl (e_load tf10 (cs:=(areaE a)) rfl (k_pt 0 (cs:=(aC a)) (vs:=(areaE a)) rfl rfl) rfl) ?_
     refine l_nil ?_
     exact f_owes_d (up_cons rfl hs5) rfl (perm_front 0 rfl)
    ·rintro f M ⟨k0,-⟩-
     have hs77:f 77= .agg (aC a):=k0
     refine ob_start (L':=M) (by rfl) (up_cons rfl hs77) ?_
     refine l_mv rfl rfl rfl (m_slices tf43 tf6 (vs:=[(0,.agg (aC a))]) (cells:=(aC a)) rfl rfl rfl rfl) ?_
     rintro _ _ ⟨b52,rfl,rfl⟩
     refine l_nil ?_
     exact f_owes_d (up_cons rfl hs77) rfl (perm_front 0 rfl)
    ·rintro f M ⟨k0,k1,-⟩-
     have hs76:f 76= .slice (sla (f 76)) (zs43.length) (slc (f 76)):=k0
     have hs78:f 78= .slice (some ⟨(blk (f 78)),0,none⟩) 1 1:=k1
     refine ob_start (L':=rowF AreaF 32 (sla (f 76)) (slc (f 76)) zs43::pt (blk (f 78)) (.cells (aC a) 32)::M) (by rfl) (up_cons (up_cons rfl hs76) hs78) ?_
     refine l_mv rfl rfl rfl (m_appendFlN (F:=AreaF) 0 tf43 tf97 (p:=(sla (f 76))) (m:=zs43.length) (xs:=zs43) (ys:=[a]) (ao:=(some ⟨(blk (f 78)),0,none⟩)) (k:=1) (c:=1) rfl rfl rfl rfl rfl (k_ptFl (z:=a) 1 rfl rfl) (by first|omega|simp only[List.length_nil,List.length_cons,List.length_append,List.length_set];omega) (by first|omega|simp only[List.length_nil,List.length_cons,List.length_append,List.length_set];omega)) ?_
     rintro _ _ ⟨rp55,rc56,rfl,rfl⟩
     refine l_nil ?_
     exact f_owes_d (up_cons (up_cons rfl hs76) hs78) rfl ((perm_front 0 rfl).trans (perm_front 1 rfl))
    ·rintro f M-⟨i0,-⟩
     have hs8:f 8= .pointer (some ⟨b9,0,none⟩):=i0
     refine ob_start (L':=M) (by rfl) (up_cons rfl hs8) ?_
     refine l_val (v:= .pointer (some ⟨b9,1,none⟩)) rfl rfl rfl (e_fieldPt (b:=b9) (o:=0) rfl tf258) ?_
     refine l_nil ?_
     exact f_owes_d (up_cons rfl hs8) rfl (List.Perm.refl _)
    ·rintro f M ⟨k0,-⟩-
     have hs80:f 80= .pointer (some ⟨b9,1,none⟩):=k0
     refine ob_start (L':=pt b9 (.cells #[.slice p5 ((idsE D).length) (c6),.slice q7 ((arsE D).length) (d8),.slice tp (tn) tc] 59)::M) (by rfl) (up_cons rfl hs80) ?_
     refine l_val (v:= .slice q7 ((arsE D).length) (d8)) rfl rfl rfl (e_load1 tf259 (v:= .slice q7 ((arsE D).length) (d8)) rfl (k_pt 0 (cs:= #[.slice p5 ((idsE D).length) (c6),.slice q7 ((arsE D).length) (d8),.slice tp (tn) tc]) (vs:=[.slice q7 ((arsE D).length) (d8)]) rfl rfl)) ?_
     refine l_nil ?_
     exact f_owes_d (up_cons rfl hs80) rfl (perm_front 0 rfl)
    ·rintro f M-⟨i0,-⟩
     have hs11:f 11=Nx (k):=i0
     refine ob_start (L':=M) (by rfl) (up_cons rfl hs11) ?_
     refine l_val (v:=Nx (k)) rfl rfl rfl (e_move) ?_
     refine l_nil ?_
     exact f_owes_d (up_cons rfl hs11) rfl (List.Perm.refl _)
    ·rintro f M ⟨k0,k1,-⟩-
     have hs81:f 81= .slice q7 ((arsE D).length) (d8):=k0
     have hs82:f 82=Nx (k):=k1
     refine ob_start (L':=M) (by rfl) (up_cons (up_cons rfl hs81) hs82) ?_
     refine l_val (v:= .slice (adv q7 d8 k 4) (zs57.length) ((d8-k))) rfl rfl rfl (ev_eq (by rw[show zs57.length=((arsE D).length)-k by omega]) (e_slice_lo (a:=q7) (len:=(arsE D).length) (cap:=d8) (l:=k) tf43 rfl rfl (by omega))) ?_
     refine l_nil ?_
     exact f_owes_d (up_cons (up_cons rfl hs81) hs82) rfl (List.Perm.refl _)
    ·rintro f M ⟨k0,k1,-⟩-
     have hs79:f 79= .slice (sla (f 79)) ((zs43++[a]).length) (slc (f 79)):=k0
     have hs83:f 83= .slice (adv q7 d8 k 4) (zs57.length) ((d8-k)):=k1
     refine ob_start (L':=rowF AreaF 32 (sla (f 79)) (slc (f 79)) (zs43++[a])::M) (by rfl) (up_cons (up_cons rfl hs79) hs83) ?_
     refine l_mv rfl rfl rfl (m_appendFlN (F:=AreaF) 0 tf43 tf97 (p:=(sla (f 79))) (m:=(zs43++[a]).length) (xs:=(zs43++[a])) (ys:=zs57) (ao:=(adv q7 d8 k 4)) (k:=zs57.length) (c:=(d8-k)) rfl rfl rfl rfl rfl (Knows.of_base (Elems.mono _ _ _) ze60) (by first|omega|simp only[List.length_nil,List.length_cons,List.length_append,List.length_set];omega) (by first|omega|simp only[List.length_nil,List.length_cons,List.length_append,List.length_set];omega)) ?_
     rintro _ _ ⟨rp63,rc64,rfl,rfl⟩
     refine l_nil ?_
     exact f_owes_d (up_cons (up_cons rfl hs79) hs83) rfl (perm_front 0 rfl)
    ·rintro f M-⟨i0,-⟩
     have hs10:f 10= .pointer (some ⟨b11,0,none⟩):=i0
     refine ob_start (L':=M) (by rfl) (up_cons rfl hs10) ?_
     refine l_val (v:= .pointer (some ⟨b11,1,none⟩)) rfl rfl rfl (e_fieldPt (b:=b11) (o:=0) rfl tf258) ?_
     refine l_nil ?_
     exact f_owes_d (up_cons rfl hs10) rfl (List.Perm.refl _)
    ·rintro f M ⟨k0,k1,-⟩-
     have hs85:f 85= .pointer (some ⟨b11,1,none⟩):=k0
     have hs84:f 84= .slice (sla (f 84)) (((zs43++[a])++zs57).length) (slc (f 84)):=k1
     refine ob_start (L':=pt b11 (.cells #[.slice (sla (fa42 68)) (((zs20++[id])++zs34).length) (slc (fa42 68)),.slice none (0) 0,.slice tp (tn) tc] 59)::M) (by rfl) (up_cons (up_cons rfl hs85) hs84) ?_
     refine l_mu rfl rfl (m_store 0 tf259 (b:=b11) (o:=1) (T:=59) (cs:= #[.slice (sla (fa42 68)) (((zs20++[id])++zs34).length) (slc (fa42 68)),.slice none (0) 0,.slice tp (tn) tc]) (cs':= #[.slice (sla (fa42 68)) (((zs20++[id])++zs34).length) (slc (fa42 68)),.slice (sla (f 84)) (((zs43++[a])++zs57).length) (slc (f 84)),.slice tp (tn) tc]) (v:= .slice (sla (f 84)) (((zs43++[a])++zs57).length) (slc (f 84))) rfl rfl rfl rfl rfl rfl rfl) ?_
     refine l_nil ?_
     exact f_owes_n (up_cons (up_cons rfl hs85) hs84) trivial (perm_front 0 rfl)
    rintro fa65 ⟨-,-,-,-,-,-,-,-,-,-,-,-,-,-,-,-,-,-⟩ ⟨j0,j1,-⟩
    refine f_re (L':=[pt b9 (.cells #[.slice p5 ((idsE D).length) (c6),.slice q7 ((arsE D).length) (d8),.slice tp (tn) tc] 59),pt b3 (.cells #[.slice none 0 0,.slice none 0 0,.slice none 0 0] 59),pt b2 (.cells (aC a) 32),pt b1 (.cells #[.slice via ((idsE es).length) (vic),.slice vaa ((arsE es).length) (vac),.slice tp (tn) tc] 59),pt (blk (fa42 62)) (.cells #[Ix (id)] 3),rowF IntF 3 (sla (fa42 68)) (slc (fa42 68)) ((zs20++[id])++zs34),pt (blk (fa65 78)) (.cells (aC a) 32),rowF AreaF 32 (sla (fa65 84)) (slc (fa65 84)) ((zs43++[a])++zs57),pt b11 (.cells #[.slice (sla (fa42 68)) (((zs20++[id])++zs34).length) (slc (fa42 68)),.slice (sla (fa65 84)) (((zs43++[a])++zs57).length) (slc (fa65 84)),.slice tp (tn) tc] 59)]) (by rfl) ?_
    refine f_rebase (d:=6) (v:= .pointer (some ⟨b3,0,none⟩)) j0 ?_
    refine f_rebase (d:=10) (v:= .pointer (some ⟨b11,0,none⟩)) j1 ?_
    refine f_then ?_
    refine c_seq ?_
    refine c_region ?_
    refine l_val (v:= .agg #[.slice (sla (fa42 68)) (((zs20++[id])++zs34).length) (slc (fa42 68)),.slice (sla (fa65 84)) (((zs43++[a])++zs57).length) (slc (fa65 84)),.slice tp (tn) tc]) rfl rfl rfl (e_load tf255 (cs:=[.slice (sla (fa42 68)) (((zs20++[id])++zs34).length) (slc (fa42 68)),.slice (sla (fa65 84)) (((zs43++[a])++zs57).length) (slc (fa65 84)),.slice tp (tn) tc]) rfl (k_pt 8 (cs:= #[.slice (sla (fa42 68)) (((zs20++[id])++zs34).length) (slc (fa42 68)),.slice (sla (fa65 84)) (((zs43++[a])++zs57).length) (slc (fa65 84)),.slice tp (tn) tc]) (vs:=[.slice (sla (fa42 68)) (((zs20++[id])++zs34).length) (slc (fa42 68)),.slice (sla (fa65 84)) (((zs43++[a])++zs57).length) (slc (fa65 84)),.slice tp (tn) tc]) rfl rfl) rfl) ?_
    refine l_mu rfl rfl (m_store 1 tf255 (b:=b3) (o:=0) (T:=59) (cs:= #[.slice none 0 0,.slice none 0 0,.slice none 0 0]) (cs':= #[.slice (sla (fa42 68)) (((zs20++[id])++zs34).length) (slc (fa42 68)),.slice (sla (fa65 84)) (((zs43++[a])++zs57).length) (slc (fa65 84)),.slice tp (tn) tc]) (v:= .agg #[.slice (sla (fa42 68)) (((zs20++[id])++zs34).length) (slc (fa42 68)),.slice (sla (fa65 84)) (((zs43++[a])++zs57).length) (slc (fa65 84)),.slice tp (tn) tc]) rfl rfl rfl rfl rfl rfl rfl) ?_
    refine l_val (v:= .int .i64 (0)) rfl rfl rfl (e_assign) ?_
    refine l_nil ?_
    refine f_then ?_
    refine c_ret ?_
    refine retG (l:=[.cell 6 59,.tmp 7]) (m:=[.agg #[.slice (sla (fa42 68)) (((zs20++[id])++zs34).length) (slc (fa42 68)),.slice (sla (fa65 84)) (((zs43++[a])++zs57).length) (slc (fa65 84)),.slice tp (tn) tc],.int .i64 (0)]) (v:= .tuple #[.agg #[.slice (sla (fa42 68)) (((zs20++[id])++zs34).length) (slc (fa42 68)),.slice (sla (fa65 84)) (((zs43++[a])++zs57).length) (slc (fa65 84)),.slice tp (tn) tc],.int .i64 (0)]) Tryz.results27 ⟨rd_cell tf255 (cs:=[.slice (sla (fa42 68)) (((zs20++[id])++zs34).length) (slc (fa42 68)),.slice (sla (fa65 84)) (((zs43++[a])++zs57).length) (slc (fa65 84)),.slice tp (tn) tc]) rfl (k_pt 1 (cs:= #[.slice (sla (fa42 68)) (((zs20++[id])++zs34).length) (slc (fa42 68)),.slice (sla (fa65 84)) (((zs43++[a])++zs57).length) (slc (fa65 84)),.slice tp (tn) tc]) (vs:=[.slice (sla (fa42 68)) (((zs20++[id])++zs34).length) (slc (fa42 68)),.slice (sla (fa65 84)) (((zs43++[a])++zs57).length) (slc (fa65 84)),.slice tp (tn) tc]) rfl rfl) rfl,rd_tmp (v:= .int .i64 (0)) rfl,trivial⟩ rfl ?_
    intro w hw
    have hI:((zs20++[id])++zs34)=idsE (insE es id a):=by rw[hz21,hz35];exact ins_ids hD hkc
    have hA:((zs43++[a])++zs57)=arsE (insE es id a):=by rw[hz44,hz58];exact ins_ars hD hkc
    rw[hI,hA]at hw⊢
    replace hw:=hw.perm (L':=[rowF IntF 3 (sla (fa42 68)) (slc (fa42 68)) (idsE (insE es id a)),rowF AreaF 32 (sla (fa65 84)) (slc (fa65 84)) (arsE (insE es id a)),pt b9 (.cells #[.slice p5 ((idsE D).length) (c6),.slice q7 ((arsE D).length) (d8),.slice tp (tn) tc] 59),pt b3 (.cells #[.slice (sla (fa42 68)) ((idsE (insE es id a)).length) (slc (fa42 68)),.slice (sla (fa65 84)) ((arsE (insE es id a)).length) (slc (fa65 84)),.slice tp (tn) tc] 59),pt b2 (.cells (aC a) 32),pt b1 (.cells #[.slice via ((idsE es).length) (vic),.slice vaa ((arsE es).length) (vac),.slice tp (tn) tc] 59),pt (blk (fa42 62)) (.cells #[Ix (id)] 3),pt (blk (fa65 78)) (.cells (aC a) 32),pt b11 (.cells #[.slice (sla (fa42 68)) ((idsE (insE es id a)).length) (slc (fa42 68)),.slice (sla (fa65 84)) ((arsE (insE es id a)).length) (slc (fa65 84)),.slice tp (tn) tc] 59)]) (by exact(perm_ix [5,7,0,1,2,3,4,6,8] 9 rfl (by kernel_rfl) (by kernel_rfl)))
    exact⟨(sla (fa42 68)),(slc (fa42 68)),(sla (fa65 84)),(slc (fa65 84)),rfl,st_mask [true,true,false,false] rfl (bk1 _ _ (st_mask [true,true,false,false,false,false,false,false,false] rfl hw))⟩
  ·
   refine c_region ?_
   refine l_val (v:= .agg #[.slice via ((idsE es).length) (vic),.slice vaa ((arsE es).length) (vac),.slice tp (tn) tc]) rfl rfl rfl (e_load tf255 (cs:=[.slice via ((idsE es).length) (vic),.slice vaa ((arsE es).length) (vac),.slice tp (tn) tc]) rfl (k_pt 2 (cs:= #[.slice via ((idsE es).length) (vic),.slice vaa ((arsE es).length) (vac),.slice tp (tn) tc]) (vs:=[.slice via ((idsE es).length) (vic),.slice vaa ((arsE es).length) (vac),.slice tp (tn) tc]) rfl rfl) rfl) ?_
   refine l_val (v:=Ix (id)) rfl rfl rfl (e_move) ?_
   refine l_call rfl rfl rfl (cl_value (fst:=[]) (cap:=[]) (vs:=[.agg #[.slice via ((idsE es).length) (vic),.slice vaa ((arsE es).length) (vac),.slice tp (tn) tc],Ix (id)]) (all:=[.agg #[.slice via ((idsE es).length) (vic),.slice vaa ((arsE es).length) (vac),.slice tp (tn) tc],Ix (id)]) tf260 rfl rfl rfl) ?_
   intro w hw
   obtain⟨β1,sb,kn,hw1,back⟩:=St.frame_all hw
   refine(rdel_no β1 w hw1 _ _ es (Sl.mono _ _ _ _ _ sb hi) (Sl.mono _ _ _ _ _ sb ha) (by omega) tp tn tc id hh).mono ?_
   rintro e w' ⟨rfl,hw'⟩
   refine⟨_,rfl,_,back _ _ hw',?_⟩
   clear hw hw1 hw' back kn sb
   refine l_val (v:= .tuple #[.agg #[.slice via ((idsE es).length) (vic),.slice vaa ((arsE es).length) (vac),.slice tp (tn) tc],.int .i64 (6)]) rfl rfl rfl (e_move) ?_
   refine l_val (v:= .agg #[.slice via ((idsE es).length) (vic),.slice vaa ((arsE es).length) (vac),.slice tp (tn) tc]) rfl rfl rfl (e_extract (vs:= #[.agg #[.slice via ((idsE es).length) (vic),.slice vaa ((arsE es).length) (vac),.slice tp (tn) tc],.int .i64 (6)]) rfl rfl) ?_
   refine l_val (v:= .int .i64 (6)) rfl rfl rfl (e_extract (vs:= #[.agg #[.slice via ((idsE es).length) (vic),.slice vaa ((arsE es).length) (vac),.slice tp (tn) tc],.int .i64 (6)]) rfl rfl) ?_
   refine l_mv rfl rfl rfl (m_alloc tf252) ?_
   rintro _ _ ⟨b66,rfl,rfl⟩
   refine l_mu rfl rfl (m_store 0 tf255 (b:=b66) (o:=0) (T:=59) (cs:= #[.slice none 0 0,.slice none 0 0,.slice none 0 0]) (cs':= #[.slice via ((idsE es).length) (vic),.slice vaa ((arsE es).length) (vac),.slice tp (tn) tc]) (v:= .agg #[.slice via ((idsE es).length) (vic),.slice vaa ((arsE es).length) (vac),.slice tp (tn) tc]) rfl rfl rfl rfl rfl rfl rfl) ?_
   refine l_val (v:= .int .i64 (6)) rfl rfl rfl (e_assign) ?_
   refine l_nil ?_
   refine f_then ?_
   refine c_seq ?_
   refine c_seq ?_
   have hD:es=delE es id:=(delE_no hh).symm
   rw[←hD]at hl
   have hdi:(idsE es).length=es.length:=List.length_map _
   have hda:(arsE es).length=es.length:=List.length_map _
   refine c_region ?_
   refine l_val (v:= .pointer (some ⟨b66,0,none⟩)) rfl rfl rfl (e_fieldPt (b:=b66) (o:=0) rfl tf256) ?_
   refine l_val (v:= .slice via ((idsE es).length) (vic)) rfl rfl rfl (e_load1 tf257 (v:= .slice via ((idsE es).length) (vic)) rfl (k_pt 0 (cs:= #[.slice via ((idsE es).length) (vic),.slice vaa ((arsE es).length) (vac),.slice tp (tn) tc]) (vs:=[.slice via ((idsE es).length) (vic)]) rfl rfl)) ?_
   refine l_val (v:=Nx ((idsE es).length)) rfl rfl rfl (e_len (a:=via) (n:=(idsE es).length) (c:=vic) rfl tf15) ?_
   refine l_val (v:= .bool (decide ((((idsE es).length:Nat):Int)=(128:Int)))) rfl rfl rfl (e_eql (a:=(((idsE es).length:Nat):Int)) (b:=(128:Int)) rfl rfl) ?_
   refine l_nil ?_
   refine f_then ?_
   refine c_if ((((idsE es).length:Nat):Int)=(128:Int)) rfl (fun hc67=> ?_) (fun hc67=> ?_)
   ·
    exact absurd hc67 (by omega)
   ·
    refine c_skip ?_
    refine f_then ?_
    refine c_seq ?_
    refine c_region ?_
    refine l_val (v:= .pointer (some ⟨b1,2,none⟩)) rfl rfl rfl (e_fieldPt (b:=b1) (o:=0) rfl tf253) ?_
    refine l_val (v:= .slice tp (tn) tc) rfl rfl rfl (e_load1 tf36 (v:= .slice tp (tn) tc) rfl (k_pt 3 (cs:= #[.slice via ((idsE es).length) (vic),.slice vaa ((arsE es).length) (vac),.slice tp (tn) tc]) (vs:=[.slice tp (tn) tc]) rfl rfl)) ?_
    refine l_val (v:= .agg #[.slice none 0 0,.slice none 0 0,.slice tp (tn) tc]) rfl rfl rfl (e_build tf252 tf254 (vs:=[(2,.slice tp (tn) tc)]) (cells:= #[.slice none 0 0,.slice none 0 0,.slice tp (tn) tc]) rfl rfl) ?_
    refine l_mv rfl rfl rfl (m_alloc tf252) ?_
    rintro _ _ ⟨b68,rfl,rfl⟩
    refine l_mu rfl rfl (m_store 0 tf255 (b:=b68) (o:=0) (T:=59) (cs:= #[.slice none 0 0,.slice none 0 0,.slice none 0 0]) (cs':= #[.slice none 0 0,.slice none 0 0,.slice tp (tn) tc]) (v:= .agg #[.slice none 0 0,.slice none 0 0,.slice tp (tn) tc]) rfl rfl rfl rfl rfl rfl rfl) ?_
    refine l_nil ?_
    refine f_then ?_
    refine c_seq ?_
    refine c_region ?_
    refine l_val (v:= .int .i64 (0)) rfl rfl rfl (e_assign) ?_
    refine l_nil ?_
    refine f_then ?_
    refine c_seq_cut (fun(f:Fm) (L:List Res)=>∃(k:Nat),(f 1=Ix (id)∧f 5= .pointer (some ⟨b2,0,none⟩)∧f 6= .pointer (some ⟨b3,0,none⟩)∧f 8= .pointer (some ⟨b66,0,none⟩)∧f 10= .pointer (some ⟨b68,0,none⟩)∧f 11=Nx (k))∧L=[pt b68 (.cells #[.slice none 0 0,.slice none 0 0,.slice tp (tn) tc] 59),pt b66 (.cells #[.slice via ((idsE es).length) (vic),.slice vaa ((arsE es).length) (vac),.slice tp (tn) tc] 59),pt b3 (.cells #[.slice none 0 0,.slice none 0 0,.slice none 0 0] 59),pt b2 (.cells (aC a) 32),pt b1 (.cells #[.slice via ((idsE es).length) (vic),.slice vaa ((arsE es).length) (vac),.slice tp (tn) tc] 59)]∧(k=cntE es id)) ?_ ?_
    ·
     refine c_block ?_
     refine c_loop (fun(k:Nat) (f:Fm) (L:List Res)=>(f 1=Ix (id)∧f 5= .pointer (some ⟨b2,0,none⟩)∧f 6= .pointer (some ⟨b3,0,none⟩)∧f 8= .pointer (some ⟨b66,0,none⟩)∧f 10= .pointer (some ⟨b68,0,none⟩)∧f 11=Nx (k))∧L=[pt b68 (.cells #[.slice none 0 0,.slice none 0 0,.slice tp (tn) tc] 59),pt b66 (.cells #[.slice via ((idsE es).length) (vic),.slice vaa ((arsE es).length) (vac),.slice tp (tn) tc] 59),pt b3 (.cells #[.slice none 0 0,.slice none 0 0,.slice none 0 0] 59),pt b2 (.cells (aC a) 32),pt b1 (.cells #[.slice via ((idsE es).length) (vic),.slice vaa ((arsE es).length) (vac),.slice tp (tn) tc] 59)]∧(k≤es.length∧∀z∈(idsE es).take k,z<id)) (fun(k:Nat)=>es.length-k) 0 ?_ ?_
     ·exact⟨⟨rfl,rfl,rfl,rfl,rfl,rfl⟩,rfl,⟨by omega,by simp⟩⟩
     rintro k f0 L0 ⟨⟨hs1,hs5,hs6,hs8,hs10,hs11⟩,hL,⟨hk,hall⟩⟩
     subst L0
     refine rebase (d:=1) hs1 ?_
     refine rebase (d:=5) hs5 ?_
     refine rebase (d:=6) hs6 ?_
     refine rebase (d:=8) hs8 ?_
     refine rebase (d:=10) hs10 ?_
     refine rebase (d:=11) hs11 ?_
     clear hs1 hs5 hs6 hs8 hs10 hs11
     refine c_seq ?_
     refine c_seq ?_
     refine c_region ?_
     refine l_val (v:=Nx (k)) rfl rfl rfl (e_move) ?_
     refine l_val (v:= .pointer (some ⟨b66,0,none⟩)) rfl rfl rfl (e_fieldPt (b:=b66) (o:=0) rfl tf256) ?_
     refine l_val (v:= .slice via ((idsE es).length) (vic)) rfl rfl rfl (e_load1 tf257 (v:= .slice via ((idsE es).length) (vic)) rfl (k_pt 1 (cs:= #[.slice via ((idsE es).length) (vic),.slice vaa ((arsE es).length) (vac),.slice tp (tn) tc]) (vs:=[.slice via ((idsE es).length) (vic)]) rfl rfl)) ?_
     refine l_val (v:=Nx ((idsE es).length)) rfl rfl rfl (e_len (a:=via) (n:=(idsE es).length) (c:=vic) rfl tf15) ?_
     refine l_val (v:= .bool (decide (((k:Nat):Int)<(((idsE es).length:Nat):Int)))) rfl rfl rfl (e_lss (a:=((k:Nat):Int)) (b:=(((idsE es).length:Nat):Int)) rfl rfl) ?_
     refine l_val (v:= .bool (decide (((k:Nat):Int)<(((idsE es).length:Nat):Int)))) rfl rfl rfl (e_move) ?_
     refine l_split (s:=43) (p:=((k:Nat):Int)<(((idsE es).length:Nat):Int)) rfl (fun hg69=> ?_) (fun hg69=> ?_)
     ·
      refine g_val (v:= .pointer (some ⟨b66,0,none⟩)) rfl rfl rfl rfl rfl (e_fieldPt (b:=b66) (o:=0) rfl tf256) ?_
      refine g_val (v:= .slice via ((idsE es).length) (vic)) rfl rfl rfl rfl rfl (e_load1 tf257 (v:= .slice via ((idsE es).length) (vic)) rfl (k_pt 1 (cs:= #[.slice via ((idsE es).length) (vic),.slice vaa ((arsE es).length) (vac),.slice tp (tn) tc]) (vs:=[.slice via ((idsE es).length) (vic)]) rfl rfl)) ?_
      refine g_val (v:=Nx (k)) rfl rfl rfl rfl rfl (e_move) ?_
      obtain⟨x70,hx71⟩:∃x_,((idsE es))[k]? =some x_:=⟨_,List.getElem?_eq_getElem (by omega)⟩
      obtain⟨ha72,cs73,hc74,rfl⟩:=vie _ _ hx71
      refine g_val (v:= .pointer (some ((ba via).add (k*1)))) rfl rfl rfl rfl rfl (e_indexAddr (k:=k) (len:=(idsE es).length) (cap:=vic) (a:=via) rfl rfl tf16 (by omega) ha72) ?_
      refine g_val (v:=Ix (x70)) rfl rfl rfl rfl rfl (e_load1 tf2 (v:=Ix (x70)) rfl (Knows.of_base (Cs.mono _ _) hc74)) ?_
      refine g_val (v:=Ix (id)) rfl rfl rfl rfl rfl (e_move) ?_
      refine g_val (v:= .bool (decide ((x70)<(id)))) rfl rfl rfl rfl rfl (e_lss (a:=(x70)) (b:=(id)) rfl rfl) ?_
      refine l_val (v:= .bool (decide ((x70)<(id)))) rfl rfl rfl (e_pick_t rfl) ?_
      refine l_nil ?_
      refine f_then ?_
      refine c_if ((x70)<(id)) rfl (fun hc76=> ?_) (fun hc76=> ?_)
      ·
       refine c_skip ?_
       refine f_then ?_
       refine c_block ?_
       refine c_region ?_
       refine l_val (v:=Nx (k)) rfl rfl rfl (e_move) ?_
       refine l_val (v:=Nx (k+1)) rfl rfl rfl (e_add (a:=((k:Nat):Int)) (b:=(1:Int)) rfl rfl (i64n (by omega) (by omega))) ?_
       refine l_val (v:=Nx (k+1)) rfl rfl rfl (e_assign) ?_
       refine l_nil ?_
       refine f_block ?_
       exact f_cut ⟨k+1,⟨⟨rfl,rfl,rfl,rfl,rfl,rfl⟩,rfl,⟨by omega,all_next hx71 hall hc76⟩⟩,(show es.length-(k+1)<es.length-k from by omega)⟩
      ·
       refine c_exit ?_
       refine f_then_exit ?_
       refine f_then_exit ?_
       refine f_exit ?_
       exact f_cut ⟨k,⟨rfl,rfl,rfl,rfl,rfl,rfl⟩,rfl,cnt_stop hall hx71 hc76 hk⟩
     ·
      refine l_skip rfl rfl rfl rfl rfl rfl ?_
      refine l_skip rfl rfl rfl rfl rfl rfl ?_
      refine l_skip rfl rfl rfl rfl rfl rfl ?_
      refine l_skip rfl rfl rfl rfl rfl rfl ?_
      refine l_skip rfl rfl rfl rfl rfl rfl ?_
      refine l_skip rfl rfl rfl rfl rfl rfl ?_
      refine l_skip rfl rfl rfl rfl rfl rfl ?_
      refine l_val (v:= .bool false) rfl rfl rfl (e_pick_f rfl) ?_
      refine l_nil ?_
      refine f_then ?_
      refine c_no rfl ?_
      refine c_exit ?_
      refine f_then_exit ?_
      refine f_then_exit ?_
      refine f_exit ?_
      exact f_cut ⟨k,⟨rfl,rfl,rfl,rfl,rfl,rfl⟩,rfl,cnt_all hall (by omega) hk⟩
    rintro f0 L0 ⟨k,⟨hs1,hs5,hs6,hs8,hs10,hs11⟩,hL,hkc⟩
    subst L0
    refine rebase (d:=1) hs1 ?_
    refine rebase (d:=5) hs5 ?_
    refine rebase (d:=6) hs6 ?_
    refine rebase (d:=8) hs8 ?_
    refine rebase (d:=10) hs10 ?_
    refine rebase (d:=11) hs11 ?_
    clear hs1 hs5 hs6 hs8 hs10 hs11
    have hkl:k≤es.length:=by rw[hkc];exact cnt_le _ _
    refine c_seq ?_
    refine c_emp (r:=rowF AreaF 32 none 0 []) (row_nil _ _ _) ?_
    refine c_emp (r:=rowF IntF 3 none 0 []) (row_nil _ _ _) ?_
    obtain⟨zs77,hz78⟩:∃zs,zs=((idsE es).take k):=⟨_,rfl⟩
    have zl79:zs77.length=min k ((idsE es)).length-0:=by rw[hz78];simp;try omega
    have ze80:=(Elems.take k vie)
    rw[←hz78]at ze80
    obtain⟨zs91,hz92⟩:∃zs,zs=((idsE es).drop k):=⟨_,rfl⟩
    have zl93:zs91.length=((idsE es)).length-k:=by rw[hz92];simp;try omega
    have ze94:=(Elems.drop (cap:=vic) k (by first|omega|(simp;omega)) vie)
    rw[←hz92]at ze94
    refine c_any [⟨[],[],[0],[54],fun f=>f 54= .pointer (some ⟨b68,0,none⟩)⟩,⟨[0],[0],[],[55],fun f=>f 55= .slice none (0) 0⟩,⟨[],[],[1],[56],fun f=>f 56= .pointer (some ⟨b66,0,none⟩)⟩,⟨[2],[2],[],[57],fun f=>f 57= .slice via ((idsE es).length) (vic)⟩,⟨[],[],[2],[58],fun f=>f 58=Nx (k)⟩,⟨[2,3,4],[3,4],[],[59],fun f=>f 59= .slice via (zs77.length) (vic)⟩,⟨[0,1,2,3,4,5],[1,5],[],[60],fun f=>f 60= .slice (sla (f 60)) (zs77.length) (slc (f 60))⟩,⟨[],[],[3],[61],fun f=>f 61=Ix (id)⟩,⟨[7],[7],[],[62],fun f=>f 62= .slice (some ⟨(blk (f 62)),0,none⟩) 1 1⟩,⟨[0,1,2,3,4,5,6,7,8],[6,8],[],[63],fun f=>f 63= .slice (sla (f 63)) ((zs77++[id]).length) (slc (f 63))⟩,⟨[],[],[1],[64],fun f=>f 64= .pointer (some ⟨b66,0,none⟩)⟩,⟨[10],[10],[],[65],fun f=>f 65= .slice via ((idsE es).length) (vic)⟩,⟨[],[],[2],[66],fun f=>f 66=Nx (k)⟩,⟨[10,11,12],[11,12],[],[67],fun f=>f 67= .slice (adv via vic k 1) (zs91.length) ((vic-k))⟩,⟨[0,1,2,3,4,5,6,7,8,9,10,11,12,13],[9,13],[],[68],fun f=>f 68= .slice (sla (f 68)) (((zs77++[id])++zs91).length) (slc (f 68))⟩,⟨[0,1,2,3,4,5,6,7,8,9,10,11,12,13,14],[],[0],[69],fun f=>f 69= .pointer (some ⟨b68,0,none⟩)⟩,⟨[0,1,2,3,4,5,6,7,8,9,10,11,12,13,14,15],[15,14],[],[],fun _=>True⟩] [⟨none,(some 6),[6],[],fun _=>rowF IntF 3 none 0 []⟩,⟨none,none,[],[],fun _=>rowF AreaF 32 none 0 []⟩,⟨none,(some 16),[1,16],[],fun _=>pt b68 (.cells #[.slice none (0) 0,.slice none (0) 0,.slice tp (tn) tc] 59)⟩,⟨none,none,[3,11],[],fun _=>pt b66 (.cells #[.slice via ((idsE es).length) (vic),.slice vaa ((arsE es).length) (vac),.slice tp (tn) tc] 59)⟩,⟨none,none,[],[],fun _=>pt b3 (.cells #[.slice none 0 0,.slice none 0 0,.slice none 0 0] 59)⟩,⟨none,none,[],[],fun _=>pt b2 (.cells (aC a) 32)⟩,⟨none,none,[],[],fun _=>pt b1 (.cells #[.slice via ((idsE es).length) (vic),.slice vaa ((arsE es).length) (vac),.slice tp (tn) tc] 59)⟩,⟨(some 6),(some 9),[9],[60],fun f=>rowF IntF 3 (sla (f 60)) (slc (f 60)) zs77⟩,⟨(some 8),none,[9],[62],fun f=>pt (blk (f 62)) (.cells #[Ix (id)] 3)⟩,⟨(some 9),(some 14),[14],[63],fun f=>rowF IntF 3 (sla (f 63)) (slc (f 63)) (zs77++[id])⟩,⟨(some 14),none,[],[68],fun f=>rowF IntF 3 (sla (f 68)) (slc (f 68)) ((zs77++[id])++zs91)⟩,⟨(some 16),none,[],[68],fun f=>pt b68 (.cells #[.slice (sla (f 68)) (((zs77++[id])++zs91).length) (slc (f 68)),.slice none (0) 0,.slice tp (tn) tc] 59)⟩] [(10,.pointer (some ⟨b68,0,none⟩)),(8,.pointer (some ⟨b66,0,none⟩)),(11,Nx (k)),(1,Ix (id)),(5,.pointer (some ⟨b2,0,none⟩)),(6,.pointer (some ⟨b3,0,none⟩))] [4,5,1,0,2] [] (by kernel_rfl) (by kernel_rfl) (by kernel_rfl) (by kernel_rfl) rfl ⟨rfl,rfl,rfl,rfl,rfl,rfl,trivial⟩ ⟨?_,?_,?_,?_,?_,?_,?_,?_,?_,?_,?_,?_,?_,?_,?_,?_,?_,trivial⟩ ?_
    ·rintro f M-⟨i0,-⟩
     have hs10:f 10= .pointer (some ⟨b68,0,none⟩):=i0
     refine ob_start (L':=M) (by rfl) (up_cons rfl hs10) ?_
     refine l_val (v:= .pointer (some ⟨b68,0,none⟩)) rfl rfl rfl (e_fieldPt (b:=b68) (o:=0) rfl tf256) ?_
     refine l_nil ?_
     exact f_owes_d (up_cons rfl hs10) rfl (List.Perm.refl _)
    ·rintro f M ⟨k0,-⟩-
     have hs54:f 54= .pointer (some ⟨b68,0,none⟩):=k0
     refine ob_start (L':=pt b68 (.cells #[.slice none (0) 0,.slice none (0) 0,.slice tp (tn) tc] 59)::M) (by rfl) (up_cons rfl hs54) ?_
     refine l_val (v:= .slice none (0) 0) rfl rfl rfl (e_load1 tf257 (v:= .slice none (0) 0) rfl (k_pt 0 (cs:= #[.slice none (0) 0,.slice none (0) 0,.slice tp (tn) tc]) (vs:=[.slice none (0) 0]) rfl rfl)) ?_
     refine l_nil ?_
     exact f_owes_d (up_cons rfl hs54) rfl (perm_front 0 rfl)
    ·rintro f M-⟨i0,-⟩
     have hs8:f 8= .pointer (some ⟨b66,0,none⟩):=i0
     refine ob_start (L':=M) (by rfl) (up_cons rfl hs8) ?_
     refine l_val (v:= .pointer (some ⟨b66,0,none⟩)) rfl rfl rfl (e_fieldPt (b:=b66) (o:=0) rfl tf256) ?_
     refine l_nil ?_
     exact f_owes_d (up_cons rfl hs8) rfl (List.Perm.refl _)
    ·rintro f M ⟨k0,-⟩-
     have hs56:f 56= .pointer (some ⟨b66,0,none⟩):=k0
     refine ob_start (L':=pt b66 (.cells #[.slice via ((idsE es).length) (vic),.slice vaa ((arsE es).length) (vac),.slice tp (tn) tc] 59)::M) (by rfl) (up_cons rfl hs56) ?_
     refine l_val (v:= .slice via ((idsE es).length) (vic)) rfl rfl rfl (e_load1 tf257 (v:= .slice via ((idsE es).length) (vic)) rfl (k_pt 0 (cs:= #[.slice via ((idsE es).length) (vic),.slice vaa ((arsE es).length) (vac),.slice tp (tn) tc]) (vs:=[.slice via ((idsE es).length) (vic)]) rfl rfl)) ?_
     refine l_nil ?_
     exact f_owes_d (up_cons rfl hs56) rfl (perm_front 0 rfl)
    ·rintro f M-⟨i0,-⟩
     have hs11:f 11=Nx (k):=i0
     refine ob_start (L':=M) (by rfl) (up_cons rfl hs11) ?_
     refine l_val (v:=Nx (k)) rfl rfl rfl (e_move) ?_
     refine l_nil ?_
     exact f_owes_d (up_cons rfl hs11) rfl (List.Perm.refl _)
    ·rintro f M ⟨k0,k1,-⟩-
     have hs57:f 57= .slice via ((idsE es).length) (vic):=k0
     have hs58:f 58=Nx (k):=k1
     refine ob_start (L':=M) (by rfl) (up_cons (up_cons rfl hs57) hs58) ?_
     refine l_val (v:= .slice via (zs77.length) (vic)) rfl rfl rfl (ev_eq (by rw[show zs77.length=k by omega]) (e_slice_hi (a:=via) (len:=(idsE es).length) (cap:=vic) (h:=k) tf16 rfl rfl (by omega))) ?_
     refine l_nil ?_
     exact f_owes_d (up_cons (up_cons rfl hs57) hs58) rfl (List.Perm.refl _)
    ·rintro f M ⟨k0,k1,-⟩-
     have hs55:f 55= .slice none (0) 0:=k0
     have hs59:f 59= .slice via (zs77.length) (vic):=k1
     refine ob_start (L':=rowF IntF 3 none 0 []::M) (by rfl) (up_cons (up_cons rfl hs55) hs59) ?_
     refine l_mv rfl rfl rfl (m_appendFlN (F:=IntF) 0 tf16 tf56 (p:=none) (m:=0) (xs:=[]) (ys:=zs77) (ao:=via) (k:=zs77.length) (c:=vic) rfl rfl rfl rfl rfl (Knows.of_base (Elems.mono _ _ _) ze80) (by first|omega|simp only[List.length_nil,List.length_cons,List.length_append,List.length_set];omega) (by first|omega|simp only[List.length_nil,List.length_cons,List.length_append,List.length_set];omega)) ?_
     rintro _ _ ⟨rp83,rc84,rfl,rfl⟩
     refine l_nil ?_
     exact f_owes_d (up_cons (up_cons rfl hs55) hs59) rfl (perm_front 0 rfl)
    ·rintro f M-⟨i0,-⟩
     have hs1:f 1=Ix (id):=i0
     refine ob_start (L':=M) (by rfl) (up_cons rfl hs1) ?_
     refine l_val (v:=Ix (id)) rfl rfl rfl (e_move) ?_
     refine l_nil ?_
     exact f_owes_d (up_cons rfl hs1) rfl (List.Perm.refl _)
    ·rintro f M ⟨k0,-⟩-
     have hs61:f 61=Ix (id):=k0
     refine ob_start (L':=M) (by rfl) (up_cons rfl hs61) ?_
     refine l_mv rfl rfl rfl (m_slices tf16 tf21 (vs:=[(0,Ix (id))]) (cells:= #[Ix (id)]) rfl rfl rfl rfl) ?_
     rintro _ _ ⟨b86,rfl,rfl⟩
     refine l_nil ?_
     exact f_owes_d (up_cons rfl hs61) rfl (perm_front 0 rfl)
    ·rintro f M ⟨k0,k1,-⟩-
     have hs60:f 60= .slice (sla (f 60)) (zs77.length) (slc (f 60)):=k0
     have hs62:f 62= .slice (some ⟨(blk (f 62)),0,none⟩) 1 1:=k1
     refine ob_start (L':=rowF IntF 3 (sla (f 60)) (slc (f 60)) zs77::pt (blk (f 62)) (.cells #[Ix (id)] 3)::M) (by rfl) (up_cons (up_cons rfl hs60) hs62) ?_
     refine l_mv rfl rfl rfl (m_appendFlN (F:=IntF) 0 tf16 tf56 (p:=(sla (f 60))) (m:=zs77.length) (xs:=zs77) (ys:=[id]) (ao:=(some ⟨(blk (f 62)),0,none⟩)) (k:=1) (c:=1) rfl rfl rfl rfl rfl (k_ptFl (z:=id) 1 rfl rfl) (by first|omega|simp only[List.length_nil,List.length_cons,List.length_append,List.length_set];omega) (by first|omega|simp only[List.length_nil,List.length_cons,List.length_append,List.length_set];omega)) ?_
     rintro _ _ ⟨rp89,rc90,rfl,rfl⟩
     refine l_nil ?_
     exact f_owes_d (up_cons (up_cons rfl hs60) hs62) rfl ((perm_front 0 rfl).trans (perm_front 1 rfl))
    ·rintro f M-⟨i0,-⟩
     have hs8:f 8= .pointer (some ⟨b66,0,none⟩):=i0
     refine ob_start (L':=M) (by rfl) (up_cons rfl hs8) ?_
     refine l_val (v:= .pointer (some ⟨b66,0,none⟩)) rfl rfl rfl (e_fieldPt (b:=b66) (o:=0) rfl tf256) ?_
     refine l_nil ?_
     exact f_owes_d (up_cons rfl hs8) rfl (List.Perm.refl _)
    ·rintro f M ⟨k0,-⟩-
     have hs64:f 64= .pointer (some ⟨b66,0,none⟩):=k0
     refine ob_start (L':=pt b66 (.cells #[.slice via ((idsE es).length) (vic),.slice vaa ((arsE es).length) (vac),.slice tp (tn) tc] 59)::M) (by rfl) (up_cons rfl hs64) ?_
     refine l_val (v:= .slice via ((idsE es).length) (vic)) rfl rfl rfl (e_load1 tf257 (v:= .slice via ((idsE es).length) (vic)) rfl (k_pt 0 (cs:= #[.slice via ((idsE es).length) (vic),.slice vaa ((arsE es).length) (vac),.slice tp (tn) tc]) (vs:=[.slice via ((idsE es).length) (vic)]) rfl rfl)) ?_
     refine l_nil ?_
     exact f_owes_d (up_cons rfl hs64) rfl (perm_front 0 rfl)
    ·rintro f M-⟨i0,-⟩
     have hs11:f 11=Nx (k):=i0
     refine ob_start (L':=M) (by rfl) (up_cons rfl hs11) ?_
     refine l_val (v:=Nx (k)) rfl rfl rfl (e_move) ?_
     refine l_nil ?_
     exact f_owes_d (up_cons rfl hs11) rfl (List.Perm.refl _)
    ·rintro f M ⟨k0,k1,-⟩-
     have hs65:f 65= .slice via ((idsE es).length) (vic):=k0
     have hs66:f 66=Nx (k):=k1
     refine ob_start (L':=M) (by rfl) (up_cons (up_cons rfl hs65) hs66) ?_
     refine l_val (v:= .slice (adv via vic k 1) (zs91.length) ((vic-k))) rfl rfl rfl (ev_eq (by rw[show zs91.length=((idsE es).length)-k by omega]) (e_slice_lo (a:=via) (len:=(idsE es).length) (cap:=vic) (l:=k) tf16 rfl rfl (by omega))) ?_
     refine l_nil ?_
     exact f_owes_d (up_cons (up_cons rfl hs65) hs66) rfl (List.Perm.refl _)
    ·rintro f M ⟨k0,k1,-⟩-
     have hs63:f 63= .slice (sla (f 63)) ((zs77++[id]).length) (slc (f 63)):=k0
     have hs67:f 67= .slice (adv via vic k 1) (zs91.length) ((vic-k)):=k1
     refine ob_start (L':=rowF IntF 3 (sla (f 63)) (slc (f 63)) (zs77++[id])::M) (by rfl) (up_cons (up_cons rfl hs63) hs67) ?_
     refine l_mv rfl rfl rfl (m_appendFlN (F:=IntF) 0 tf16 tf56 (p:=(sla (f 63))) (m:=(zs77++[id]).length) (xs:=(zs77++[id])) (ys:=zs91) (ao:=(adv via vic k 1)) (k:=zs91.length) (c:=(vic-k)) rfl rfl rfl rfl rfl (Knows.of_base (Elems.mono _ _ _) ze94) (by first|omega|simp only[List.length_nil,List.length_cons,List.length_append,List.length_set];omega) (by first|omega|simp only[List.length_nil,List.length_cons,List.length_append,List.length_set];omega)) ?_
     rintro _ _ ⟨rp97,rc98,rfl,rfl⟩
     refine l_nil ?_
     exact f_owes_d (up_cons (up_cons rfl hs63) hs67) rfl (perm_front 0 rfl)
    ·rintro f M-⟨i0,-⟩
     have hs10:f 10= .pointer (some ⟨b68,0,none⟩):=i0
     refine ob_start (L':=M) (by rfl) (up_cons rfl hs10) ?_
     refine l_val (v:= .pointer (some ⟨b68,0,none⟩)) rfl rfl rfl (e_fieldPt (b:=b68) (o:=0) rfl tf256) ?_
     refine l_nil ?_
     exact f_owes_d (up_cons rfl hs10) rfl (List.Perm.refl _)
    ·rintro f M ⟨k0,k1,-⟩-
     have hs69:f 69= .pointer (some ⟨b68,0,none⟩):=k0
     have hs68:f 68= .slice (sla (f 68)) (((zs77++[id])++zs91).length) (slc (f 68)):=k1
     refine ob_start (L':=pt b68 (.cells #[.slice none (0) 0,.slice none (0) 0,.slice tp (tn) tc] 59)::M) (by rfl) (up_cons (up_cons rfl hs69) hs68) ?_
     refine l_mu rfl rfl (m_store 0 tf257 (b:=b68) (o:=0) (T:=59) (cs:= #[.slice none (0) 0,.slice none (0) 0,.slice tp (tn) tc]) (cs':= #[.slice (sla (f 68)) (((zs77++[id])++zs91).length) (slc (f 68)),.slice none (0) 0,.slice tp (tn) tc]) (v:= .slice (sla (f 68)) (((zs77++[id])++zs91).length) (slc (f 68))) rfl rfl rfl rfl rfl rfl rfl) ?_
     refine l_nil ?_
     exact f_owes_n (up_cons (up_cons rfl hs69) hs68) trivial (perm_front 0 rfl)
    rintro fa99 ⟨-,-,-,-,-,-,-,-,-,-,-,-,-,-,-,-,-,-⟩ ⟨j0,j1,j2,j3,j4,-⟩
    refine f_re (L':=[rowF AreaF 32 none 0 [],pt b66 (.cells #[.slice via ((idsE es).length) (vic),.slice vaa ((arsE es).length) (vac),.slice tp (tn) tc] 59),pt b3 (.cells #[.slice none 0 0,.slice none 0 0,.slice none 0 0] 59),pt b2 (.cells (aC a) 32),pt b1 (.cells #[.slice via ((idsE es).length) (vic),.slice vaa ((arsE es).length) (vac),.slice tp (tn) tc] 59),pt (blk (fa99 62)) (.cells #[Ix (id)] 3),rowF IntF 3 (sla (fa99 68)) (slc (fa99 68)) ((zs77++[id])++zs91),pt b68 (.cells #[.slice (sla (fa99 68)) (((zs77++[id])++zs91).length) (slc (fa99 68)),.slice none (0) 0,.slice tp (tn) tc] 59)]) (by rfl) ?_
    refine f_rebase (d:=5) (v:= .pointer (some ⟨b2,0,none⟩)) j0 ?_
    refine f_rebase (d:=6) (v:= .pointer (some ⟨b3,0,none⟩)) j1 ?_
    refine f_rebase (d:=8) (v:= .pointer (some ⟨b66,0,none⟩)) j2 ?_
    refine f_rebase (d:=10) (v:= .pointer (some ⟨b68,0,none⟩)) j3 ?_
    refine f_rebase (d:=11) (v:=Nx (k)) j4 ?_
    refine f_then ?_
    refine c_seq ?_
    obtain⟨zs100,hz101⟩:∃zs,zs=((arsE es).take k):=⟨_,rfl⟩
    have zl102:zs100.length=min k ((arsE es)).length-0:=by rw[hz101];simp;try omega
    have ze103:=(Elems.take k vae)
    rw[←hz101]at ze103
    obtain⟨zs114,hz115⟩:∃zs,zs=((arsE es).drop k):=⟨_,rfl⟩
    have zl116:zs114.length=((arsE es)).length-k:=by rw[hz115];simp;try omega
    have ze117:=(Elems.drop (cap:=vac) k (by first|omega|(simp;omega)) vae)
    rw[←hz115]at ze117
    refine c_any [⟨[],[],[0],[70],fun f=>f 70= .pointer (some ⟨b68,1,none⟩)⟩,⟨[0],[0],[],[71],fun f=>f 71= .slice none (0) 0⟩,⟨[],[],[1],[72],fun f=>f 72= .pointer (some ⟨b66,1,none⟩)⟩,⟨[2],[2],[],[73],fun f=>f 73= .slice vaa ((arsE es).length) (vac)⟩,⟨[],[],[2],[74],fun f=>f 74=Nx (k)⟩,⟨[2,3,4],[3,4],[],[75],fun f=>f 75= .slice vaa (zs100.length) (vac)⟩,⟨[0,1,2,3,4,5],[1,5],[],[76],fun f=>f 76= .slice (sla (f 76)) (zs100.length) (slc (f 76))⟩,⟨[],[],[3],[77],fun f=>f 77= .agg (aC a)⟩,⟨[7],[7],[],[78],fun f=>f 78= .slice (some ⟨(blk (f 78)),0,none⟩) 1 1⟩,⟨[0,1,2,3,4,5,6,7,8],[6,8],[],[79],fun f=>f 79= .slice (sla (f 79)) ((zs100++[a]).length) (slc (f 79))⟩,⟨[],[],[1],[80],fun f=>f 80= .pointer (some ⟨b66,1,none⟩)⟩,⟨[10],[10],[],[81],fun f=>f 81= .slice vaa ((arsE es).length) (vac)⟩,⟨[],[],[2],[82],fun f=>f 82=Nx (k)⟩,⟨[10,11,12],[11,12],[],[83],fun f=>f 83= .slice (adv vaa vac k 4) (zs114.length) ((vac-k))⟩,⟨[0,1,2,3,4,5,6,7,8,9,10,11,12,13],[9,13],[],[84],fun f=>f 84= .slice (sla (f 84)) (((zs100++[a])++zs114).length) (slc (f 84))⟩,⟨[0,1,2,3,4,5,6,7,8,9,10,11,12,13,14],[],[0],[85],fun f=>f 85= .pointer (some ⟨b68,1,none⟩)⟩,⟨[0,1,2,3,4,5,6,7,8,9,10,11,12,13,14,15],[15,14],[],[],fun _=>True⟩] [⟨none,(some 6),[6],[],fun _=>rowF AreaF 32 none 0 []⟩,⟨none,none,[3,11],[],fun _=>pt b66 (.cells #[.slice via ((idsE es).length) (vic),.slice vaa ((arsE es).length) (vac),.slice tp (tn) tc] 59)⟩,⟨none,none,[],[],fun _=>pt b3 (.cells #[.slice none 0 0,.slice none 0 0,.slice none 0 0] 59)⟩,⟨none,none,[7],[],fun _=>pt b2 (.cells (aC a) 32)⟩,⟨none,none,[],[],fun _=>pt b1 (.cells #[.slice via ((idsE es).length) (vic),.slice vaa ((arsE es).length) (vac),.slice tp (tn) tc] 59)⟩,⟨none,none,[],[],fun _=>pt (blk (fa99 62)) (.cells #[Ix (id)] 3)⟩,⟨none,none,[],[],fun _=>rowF IntF 3 (sla (fa99 68)) (slc (fa99 68)) ((zs77++[id])++zs91)⟩,⟨none,(some 16),[1,16],[],fun _=>pt b68 (.cells #[.slice (sla (fa99 68)) (((zs77++[id])++zs91).length) (slc (fa99 68)),.slice none (0) 0,.slice tp (tn) tc] 59)⟩,⟨(some 6),(some 9),[9],[76],fun f=>rowF AreaF 32 (sla (f 76)) (slc (f 76)) zs100⟩,⟨(some 8),none,[9],[78],fun f=>pt (blk (f 78)) (.cells (aC a) 32)⟩,⟨(some 9),(some 14),[14],[79],fun f=>rowF AreaF 32 (sla (f 79)) (slc (f 79)) (zs100++[a])⟩,⟨(some 14),none,[],[84],fun f=>rowF AreaF 32 (sla (f 84)) (slc (f 84)) ((zs100++[a])++zs114)⟩,⟨(some 16),none,[],[84],fun f=>pt b68 (.cells #[.slice (sla (fa99 68)) (((zs77++[id])++zs91).length) (slc (fa99 68)),.slice (sla (f 84)) (((zs100++[a])++zs114).length) (slc (f 84)),.slice tp (tn) tc] 59)⟩] [(10,.pointer (some ⟨b68,0,none⟩)),(8,.pointer (some ⟨b66,0,none⟩)),(11,Nx (k)),(5,.pointer (some ⟨b2,0,none⟩)),(6,.pointer (some ⟨b3,0,none⟩))] [4,0] [] (by kernel_rfl) (by kernel_rfl) (by kernel_rfl) (by kernel_rfl) rfl ⟨rfl,rfl,rfl,rfl,rfl,trivial⟩ ⟨?_,?_,?_,?_,?_,?_,?_,?_,?_,?_,?_,?_,?_,?_,?_,?_,?_,trivial⟩ ?_
    ·rintro f M-⟨i0,-⟩
     have hs10:f 10= .pointer (some ⟨b68,0,none⟩):=i0
     refine ob_start (L':=M) (by rfl) (up_cons rfl hs10) ?_
     refine l_val (v:= .pointer (some ⟨b68,1,none⟩)) rfl rfl rfl (e_fieldPt (b:=b68) (o:=0) rfl tf258) ?_
     refine l_nil ?_
     exact f_owes_d (up_cons rfl hs10) rfl (List.Perm.refl _)
    ·rintro f M ⟨k0,-⟩-
     have hs70:f 70= .pointer (some ⟨b68,1,none⟩):=k0
     refine ob_start (L':=pt b68 (.cells #[.slice (sla (fa99 68)) (((zs77++[id])++zs91).length) (slc (fa99 68)),.slice none (0) 0,.slice tp (tn) tc] 59)::M) (by rfl) (up_cons rfl hs70) ?_
     refine l_val (v:= .slice none (0) 0) rfl rfl rfl (e_load1 tf259 (v:= .slice none (0) 0) rfl (k_pt 0 (cs:= #[.slice (sla (fa99 68)) (((zs77++[id])++zs91).length) (slc (fa99 68)),.slice none (0) 0,.slice tp (tn) tc]) (vs:=[.slice none (0) 0]) rfl rfl)) ?_
     refine l_nil ?_
     exact f_owes_d (up_cons rfl hs70) rfl (perm_front 0 rfl)
    ·rintro f M-⟨i0,-⟩
     have hs8:f 8= .pointer (some ⟨b66,0,none⟩):=i0
     refine ob_start (L':=M) (by rfl) (up_cons rfl hs8) ?_
     refine l_val (v:= .pointer (some ⟨b66,1,none⟩)) rfl rfl rfl (e_fieldPt (b:=b66) (o:=0) rfl tf258) ?_
     refine l_nil ?_
     exact f_owes_d (up_cons rfl hs8) rfl (List.Perm.refl _)
    ·rintro f M ⟨k0,-⟩-
     have hs72:f 72= .pointer (some ⟨b66,1,none⟩):=k0
     refine ob_start (L':=pt b66 (.cells #[.slice via ((idsE es).length) (vic),.slice vaa ((arsE es).length) (vac),.slice tp (tn) tc] 59)::M) (by rfl) (up_cons rfl hs72) ?_
     refine l_val (v:= .slice vaa ((arsE es).length) (vac)) rfl rfl rfl (e_load1 tf259 (v:= .slice vaa ((arsE es).length) (vac)) rfl (k_pt 0 (cs:= #[.slice via ((idsE es).length) (vic),.slice vaa ((arsE es).length) (vac),.slice tp (tn) tc]) (vs:=[.slice vaa ((arsE es).length) (vac)]) rfl rfl)) ?_
     refine l_nil ?_
     exact f_owes_d (up_cons rfl hs72) rfl (perm_front 0 rfl)
    ·rintro f M-⟨i0,-⟩
     have hs11:f 11=Nx (k):=i0
     refine ob_start (L':=M) (by rfl) (up_cons rfl hs11) ?_
     refine l_val (v:=Nx (k)) rfl rfl rfl (e_move) ?_
     refine l_nil ?_
     exact f_owes_d (up_cons rfl hs11) rfl (List.Perm.refl _)
    ·rintro f M ⟨k0,k1,-⟩-
     have hs73:f 73= .slice vaa ((arsE es).length) (vac):=k0
     have hs74:f 74=Nx (k):=k1
     refine ob_start (L':=M) (by rfl) (up_cons (up_cons rfl hs73) hs74) ?_
     refine l_val (v:= .slice vaa (zs100.length) (vac)) rfl rfl rfl (ev_eq (by rw[show zs100.length=k by omega]) (e_slice_hi (a:=vaa) (len:=(arsE es).length) (cap:=vac) (h:=k) tf43 rfl rfl (by omega))) ?_
     refine l_nil ?_
     exact f_owes_d (up_cons (up_cons rfl hs73) hs74) rfl (List.Perm.refl _)
    ·rintro f M ⟨k0,k1,-⟩-
     have hs71:f 71= .slice none (0) 0:=k0
     have hs75:f 75= .slice vaa (zs100.length) (vac):=k1
     refine ob_start (L':=rowF AreaF 32 none 0 []::M) (by rfl) (up_cons (up_cons rfl hs71) hs75) ?_
     refine l_mv rfl rfl rfl (m_appendFlN (F:=AreaF) 0 tf43 tf97 (p:=none) (m:=0) (xs:=[]) (ys:=zs100) (ao:=vaa) (k:=zs100.length) (c:=vac) rfl rfl rfl rfl rfl (Knows.of_base (Elems.mono _ _ _) ze103) (by first|omega|simp only[List.length_nil,List.length_cons,List.length_append,List.length_set];omega) (by first|omega|simp only[List.length_nil,List.length_cons,List.length_append,List.length_set];omega)) ?_
     rintro _ _ ⟨rp106,rc107,rfl,rfl⟩
     refine l_nil ?_
     exact f_owes_d (up_cons (up_cons rfl hs71) hs75) rfl (perm_front 0 rfl)
    ·rintro f M-⟨i0,-⟩
     have hs5:f 5= .pointer (some ⟨b2,0,none⟩):=i0
     refine ob_start (L':=pt b2 (.cells (aC a) 32)::M) (by rfl) (up_cons rfl hs5) ?_
     refine l_val (v:= .agg (aC a)) rfl rfl rfl (e_load tf10 (cs:=(areaE a)) rfl (k_pt 0 (cs:=(aC a)) (vs:=(areaE a)) rfl rfl) rfl) ?_
     refine l_nil ?_
     exact f_owes_d (up_cons rfl hs5) rfl (perm_front 0 rfl)
    ·rintro f M ⟨k0,-⟩-
     have hs77:f 77= .agg (aC a):=k0
     refine ob_start (L':=M) (by rfl) (up_cons rfl hs77) ?_
     refine l_mv rfl rfl rfl (m_slices tf43 tf6 (vs:=[(0,.agg (aC a))]) (cells:=(aC a)) rfl rfl rfl rfl) ?_
     rintro _ _ ⟨b109,rfl,rfl⟩
     refine l_nil ?_
     exact f_owes_d (up_cons rfl hs77) rfl (perm_front 0 rfl)
    ·rintro f M ⟨k0,k1,-⟩-
     have hs76:f 76= .slice (sla (f 76)) (zs100.length) (slc (f 76)):=k0
     have hs78:f 78= .slice (some ⟨(blk (f 78)),0,none⟩) 1 1:=k1
     refine ob_start (L':=rowF AreaF 32 (sla (f 76)) (slc (f 76)) zs100::pt (blk (f 78)) (.cells (aC a) 32)::M) (by rfl) (up_cons (up_cons rfl hs76) hs78) ?_
     refine l_mv rfl rfl rfl (m_appendFlN (F:=AreaF) 0 tf43 tf97 (p:=(sla (f 76))) (m:=zs100.length) (xs:=zs100) (ys:=[a]) (ao:=(some ⟨(blk (f 78)),0,none⟩)) (k:=1) (c:=1) rfl rfl rfl rfl rfl (k_ptFl (z:=a) 1 rfl rfl) (by first|omega|simp only[List.length_nil,List.length_cons,List.length_append,List.length_set];omega) (by first|omega|simp only[List.length_nil,List.length_cons,List.length_append,List.length_set];omega)) ?_
     rintro _ _ ⟨rp112,rc113,rfl,rfl⟩
     refine l_nil ?_
     exact f_owes_d (up_cons (up_cons rfl hs76) hs78) rfl ((perm_front 0 rfl).trans (perm_front 1 rfl))
    ·rintro f M-⟨i0,-⟩
     have hs8:f 8= .pointer (some ⟨b66,0,none⟩):=i0
     refine ob_start (L':=M) (by rfl) (up_cons rfl hs8) ?_
     refine l_val (v:= .pointer (some ⟨b66,1,none⟩)) rfl rfl rfl (e_fieldPt (b:=b66) (o:=0) rfl tf258) ?_
     refine l_nil ?_
     exact f_owes_d (up_cons rfl hs8) rfl (List.Perm.refl _)
    ·rintro f M ⟨k0,-⟩-
     have hs80:f 80= .pointer (some ⟨b66,1,none⟩):=k0
     refine ob_start (L':=pt b66 (.cells #[.slice via ((idsE es).length) (vic),.slice vaa ((arsE es).length) (vac),.slice tp (tn) tc] 59)::M) (by rfl) (up_cons rfl hs80) ?_
     refine l_val (v:= .slice vaa ((arsE es).length) (vac)) rfl rfl rfl (e_load1 tf259 (v:= .slice vaa ((arsE es).length) (vac)) rfl (k_pt 0 (cs:= #[.slice via ((idsE es).length) (vic),.slice vaa ((arsE es).length) (vac),.slice tp (tn) tc]) (vs:=[.slice vaa ((arsE es).length) (vac)]) rfl rfl)) ?_
     refine l_nil ?_
     exact f_owes_d (up_cons rfl hs80) rfl (perm_front 0 rfl)
    ·rintro f M-⟨i0,-⟩
     have hs11:f 11=Nx (k):=i0
     refine ob_start (L':=M) (by rfl) (up_cons rfl hs11) ?_
     refine l_val (v:=Nx (k)) rfl rfl rfl (e_move) ?_
     refine l_nil ?_
     exact f_owes_d (up_cons rfl hs11) rfl (List.Perm.refl _)
    ·rintro f M ⟨k0,k1,-⟩-
     have hs81:f 81= .slice vaa ((arsE es).length) (vac):=k0
     have hs82:f 82=Nx (k):=k1
     refine ob_start (L':=M) (by rfl) (up_cons (up_cons rfl hs81) hs82) ?_
     refine l_val (v:= .slice (adv vaa vac k 4) (zs114.length) ((vac-k))) rfl rfl rfl (ev_eq (by rw[show zs114.length=((arsE es).length)-k by omega]) (e_slice_lo (a:=vaa) (len:=(arsE es).length) (cap:=vac) (l:=k) tf43 rfl rfl (by omega))) ?_
     refine l_nil ?_
     exact f_owes_d (up_cons (up_cons rfl hs81) hs82) rfl (List.Perm.refl _)
    ·rintro f M ⟨k0,k1,-⟩-
     have hs79:f 79= .slice (sla (f 79)) ((zs100++[a]).length) (slc (f 79)):=k0
     have hs83:f 83= .slice (adv vaa vac k 4) (zs114.length) ((vac-k)):=k1
     refine ob_start (L':=rowF AreaF 32 (sla (f 79)) (slc (f 79)) (zs100++[a])::M) (by rfl) (up_cons (up_cons rfl hs79) hs83) ?_
     refine l_mv rfl rfl rfl (m_appendFlN (F:=AreaF) 0 tf43 tf97 (p:=(sla (f 79))) (m:=(zs100++[a]).length) (xs:=(zs100++[a])) (ys:=zs114) (ao:=(adv vaa vac k 4)) (k:=zs114.length) (c:=(vac-k)) rfl rfl rfl rfl rfl (Knows.of_base (Elems.mono _ _ _) ze117) (by first|omega|simp only[List.length_nil,List.length_cons,List.length_append,List.length_set];omega) (by first|omega|simp only[List.length_nil,List.length_cons,List.length_append,List.length_set];omega)) ?_
     rintro _ _ ⟨rp120,rc121,rfl,rfl⟩
     refine l_nil ?_
     exact f_owes_d (up_cons (up_cons rfl hs79) hs83) rfl (perm_front 0 rfl)
    ·rintro f M-⟨i0,-⟩
     have hs10:f 10= .pointer (some ⟨b68,0,none⟩):=i0
     refine ob_start (L':=M) (by rfl) (up_cons rfl hs10) ?_
     refine l_val (v:= .pointer (some ⟨b68,1,none⟩)) rfl rfl rfl (e_fieldPt (b:=b68) (o:=0) rfl tf258) ?_
     refine l_nil ?_
     exact f_owes_d (up_cons rfl hs10) rfl (List.Perm.refl _)
    ·rintro f M ⟨k0,k1,-⟩-
     have hs85:f 85= .pointer (some ⟨b68,1,none⟩):=k0
     have hs84:f 84= .slice (sla (f 84)) (((zs100++[a])++zs114).length) (slc (f 84)):=k1
     refine ob_start (L':=pt b68 (.cells #[.slice (sla (fa99 68)) (((zs77++[id])++zs91).length) (slc (fa99 68)),.slice none (0) 0,.slice tp (tn) tc] 59)::M) (by rfl) (up_cons (up_cons rfl hs85) hs84) ?_
     refine l_mu rfl rfl (m_store 0 tf259 (b:=b68) (o:=1) (T:=59) (cs:= #[.slice (sla (fa99 68)) (((zs77++[id])++zs91).length) (slc (fa99 68)),.slice none (0) 0,.slice tp (tn) tc]) (cs':= #[.slice (sla (fa99 68)) (((zs77++[id])++zs91).length) (slc (fa99 68)),.slice (sla (f 84)) (((zs100++[a])++zs114).length) (slc (f 84)),.slice tp (tn) tc]) (v:= .slice (sla (f 84)) (((zs100++[a])++zs114).length) (slc (f 84))) rfl rfl rfl rfl rfl rfl rfl) ?_
     refine l_nil ?_
     exact f_owes_n (up_cons (up_cons rfl hs85) hs84) trivial (perm_front 0 rfl)
    rintro fa122 ⟨-,-,-,-,-,-,-,-,-,-,-,-,-,-,-,-,-,-⟩ ⟨j0,j1,-⟩
    refine f_re (L':=[pt b66 (.cells #[.slice via ((idsE es).length) (vic),.slice vaa ((arsE es).length) (vac),.slice tp (tn) tc] 59),pt b3 (.cells #[.slice none 0 0,.slice none 0 0,.slice none 0 0] 59),pt b2 (.cells (aC a) 32),pt b1 (.cells #[.slice via ((idsE es).length) (vic),.slice vaa ((arsE es).length) (vac),.slice tp (tn) tc] 59),pt (blk (fa99 62)) (.cells #[Ix (id)] 3),rowF IntF 3 (sla (fa99 68)) (slc (fa99 68)) ((zs77++[id])++zs91),pt (blk (fa122 78)) (.cells (aC a) 32),rowF AreaF 32 (sla (fa122 84)) (slc (fa122 84)) ((zs100++[a])++zs114),pt b68 (.cells #[.slice (sla (fa99 68)) (((zs77++[id])++zs91).length) (slc (fa99 68)),.slice (sla (fa122 84)) (((zs100++[a])++zs114).length) (slc (fa122 84)),.slice tp (tn) tc] 59)]) (by rfl) ?_
    refine f_rebase (d:=6) (v:= .pointer (some ⟨b3,0,none⟩)) j0 ?_
    refine f_rebase (d:=10) (v:= .pointer (some ⟨b68,0,none⟩)) j1 ?_
    refine f_then ?_
    refine c_seq ?_
    refine c_region ?_
    refine l_val (v:= .agg #[.slice (sla (fa99 68)) (((zs77++[id])++zs91).length) (slc (fa99 68)),.slice (sla (fa122 84)) (((zs100++[a])++zs114).length) (slc (fa122 84)),.slice tp (tn) tc]) rfl rfl rfl (e_load tf255 (cs:=[.slice (sla (fa99 68)) (((zs77++[id])++zs91).length) (slc (fa99 68)),.slice (sla (fa122 84)) (((zs100++[a])++zs114).length) (slc (fa122 84)),.slice tp (tn) tc]) rfl (k_pt 8 (cs:= #[.slice (sla (fa99 68)) (((zs77++[id])++zs91).length) (slc (fa99 68)),.slice (sla (fa122 84)) (((zs100++[a])++zs114).length) (slc (fa122 84)),.slice tp (tn) tc]) (vs:=[.slice (sla (fa99 68)) (((zs77++[id])++zs91).length) (slc (fa99 68)),.slice (sla (fa122 84)) (((zs100++[a])++zs114).length) (slc (fa122 84)),.slice tp (tn) tc]) rfl rfl) rfl) ?_
    refine l_mu rfl rfl (m_store 1 tf255 (b:=b3) (o:=0) (T:=59) (cs:= #[.slice none 0 0,.slice none 0 0,.slice none 0 0]) (cs':= #[.slice (sla (fa99 68)) (((zs77++[id])++zs91).length) (slc (fa99 68)),.slice (sla (fa122 84)) (((zs100++[a])++zs114).length) (slc (fa122 84)),.slice tp (tn) tc]) (v:= .agg #[.slice (sla (fa99 68)) (((zs77++[id])++zs91).length) (slc (fa99 68)),.slice (sla (fa122 84)) (((zs100++[a])++zs114).length) (slc (fa122 84)),.slice tp (tn) tc]) rfl rfl rfl rfl rfl rfl rfl) ?_
    refine l_val (v:= .int .i64 (0)) rfl rfl rfl (e_assign) ?_
    refine l_nil ?_
    refine f_then ?_
    refine c_ret ?_
    refine retG (l:=[.cell 6 59,.tmp 7]) (m:=[.agg #[.slice (sla (fa99 68)) (((zs77++[id])++zs91).length) (slc (fa99 68)),.slice (sla (fa122 84)) (((zs100++[a])++zs114).length) (slc (fa122 84)),.slice tp (tn) tc],.int .i64 (0)]) (v:= .tuple #[.agg #[.slice (sla (fa99 68)) (((zs77++[id])++zs91).length) (slc (fa99 68)),.slice (sla (fa122 84)) (((zs100++[a])++zs114).length) (slc (fa122 84)),.slice tp (tn) tc],.int .i64 (0)]) Tryz.results27 ⟨rd_cell tf255 (cs:=[.slice (sla (fa99 68)) (((zs77++[id])++zs91).length) (slc (fa99 68)),.slice (sla (fa122 84)) (((zs100++[a])++zs114).length) (slc (fa122 84)),.slice tp (tn) tc]) rfl (k_pt 1 (cs:= #[.slice (sla (fa99 68)) (((zs77++[id])++zs91).length) (slc (fa99 68)),.slice (sla (fa122 84)) (((zs100++[a])++zs114).length) (slc (fa122 84)),.slice tp (tn) tc]) (vs:=[.slice (sla (fa99 68)) (((zs77++[id])++zs91).length) (slc (fa99 68)),.slice (sla (fa122 84)) (((zs100++[a])++zs114).length) (slc (fa122 84)),.slice tp (tn) tc]) rfl rfl) rfl,rd_tmp (v:= .int .i64 (0)) rfl,trivial⟩ rfl ?_
    intro w hw
    have hI:((zs77++[id])++zs91)=idsE (insE es id a):=by rw[hz78,hz92];exact ins_ids hD hkc
    have hA:((zs100++[a])++zs114)=arsE (insE es id a):=by rw[hz101,hz115];exact ins_ars hD hkc
    rw[hI,hA]at hw⊢
    replace hw:=hw.perm (L':=[rowF IntF 3 (sla (fa99 68)) (slc (fa99 68)) (idsE (insE es id a)),rowF AreaF 32 (sla (fa122 84)) (slc (fa122 84)) (arsE (insE es id a)),pt b66 (.cells #[.slice via ((idsE es).length) (vic),.slice vaa ((arsE es).length) (vac),.slice tp (tn) tc] 59),pt b3 (.cells #[.slice (sla (fa99 68)) ((idsE (insE es id a)).length) (slc (fa99 68)),.slice (sla (fa122 84)) ((arsE (insE es id a)).length) (slc (fa122 84)),.slice tp (tn) tc] 59),pt b2 (.cells (aC a) 32),pt b1 (.cells #[.slice via ((idsE es).length) (vic),.slice vaa ((arsE es).length) (vac),.slice tp (tn) tc] 59),pt (blk (fa99 62)) (.cells #[Ix (id)] 3),pt (blk (fa122 78)) (.cells (aC a) 32),pt b68 (.cells #[.slice (sla (fa99 68)) ((idsE (insE es id a)).length) (slc (fa99 68)),.slice (sla (fa122 84)) ((arsE (insE es id a)).length) (slc (fa122 84)),.slice tp (tn) tc] 59)]) (by exact(perm_ix [5,7,0,1,2,3,4,6,8] 9 rfl (by kernel_rfl) (by kernel_rfl)))
    exact⟨(sla (fa99 68)),(slc (fa99 68)),(sla (fa122 84)),(slc (fa122 84)),rfl,st_mask [true,true,false,false,false,false,false,false,false] rfl hw⟩
set_option maxHeartbeats 4000000 in
theorem rput_full(β:Base)(w:World)(hw:St β [] w)(vi va:Value)(es:ES)(hi:Sl IntF.R β.heap vi (idsE es))(ha:Sl AreaF.R β.heap va (arsE es))(hn:es.length≤1000)(tp:Option Addr)(tn tc:Nat)(id:Int)(a:KA)(hp:argS id a)(hno:¬hasE es id)(hl:es.length=128):Calls Tryz.prog 27 #[.agg #[vi,va,.slice tp tn tc],Ix id,.agg (aC a)] w fun r w'=>r= .returned (.tuple #[.agg #[vi,va,.slice tp tn tc],Ix 4])∧St β [] w':=by
 obtain⟨via,vic,rfl,vil,vim,vie⟩:=hi.get
 obtain⟨vaa,vac,rfl,val,vam,vae⟩:=ha.get
 have hil:(idsE es).length=es.length:=List.length_map _
 have hal:(arsE es).length=es.length:=List.length_map _
 refine enter (n:=87) Tryz.func27 rfl Tryz.ntmps27 rfl ?_ hw
 refine c_seq ?_
 refine c_region ?_
 refine l_mv rfl rfl rfl (m_box (v:= .agg #[.slice via ((idsE es).length) (vic),.slice vaa ((arsE es).length) (vac),.slice tp (tn) tc]) rfl) ?_
 rintro _ _ ⟨b1,rfl,rfl⟩
 refine l_mv rfl rfl rfl (m_box (v:= .agg (aC a)) rfl) ?_
 rintro _ _ ⟨b2,rfl,rfl⟩
 refine l_mv rfl rfl rfl (m_alloc tf252) ?_
 rintro _ _ ⟨b3,rfl,rfl⟩
 refine l_val (v:= .int .i64 (0)) rfl rfl rfl (e_assign) ?_
 refine l_nil ?_
 refine f_then ?_
 refine c_seq ?_
 refine c_seq ?_
 refine c_region ?_
 refine l_val (v:=Ix (id)) rfl rfl rfl (e_move) ?_
 refine l_val (v:= .bool (decide ((id)<(0:Int)))) rfl rfl rfl (e_lss (a:=(id)) (b:=(0:Int)) rfl rfl) ?_
 refine l_val (v:= .bool (decide ((id)<(0:Int)))) rfl rfl rfl (e_move) ?_
 refine l_split (s:=14) (p:=(id)<(0:Int)) rfl (fun h=> ?_) (fun h=> ?_)
 exact absurd h (by have:=hp.1;omega)
 refine g_val (v:=Ix (id)) rfl rfl rfl rfl rfl (e_move) ?_
 refine g_val (v:= .bool (decide ((65536:Int)<(id)))) rfl rfl rfl rfl rfl (e_gtr (a:=(id)) (b:=(65536:Int)) rfl rfl) ?_
 refine l_val (v:= .bool (decide ((65536:Int)<(id)))) rfl rfl rfl (e_pick_f rfl) ?_
 refine l_val (v:= .bool (decide ((65536:Int)<(id)))) rfl rfl rfl (e_move) ?_
 refine l_split (s:=18) (p:=(65536:Int)<(id)) rfl (fun h=> ?_) (fun h=> ?_)
 exact absurd h (by have:=hp.2.1;omega)
 refine g_val (v:= .agg (aC a)) rfl rfl rfl rfl rfl (e_load tf10 (cs:=(areaE a)) rfl (k_pt 1 (cs:=(aC a)) (vs:=(areaE a)) rfl rfl) rfl) ?_
 refine g_call rfl rfl rfl rfl rfl (cl_value (fst:=[]) (cap:=[]) (vs:=[.agg (aC a)]) (all:=[.agg (aC a)]) tf105 rfl rfl rfl) ?_
 intro w hw
 obtain⟨β1,sb,kn,hw1,back⟩:=St.frame_all hw
 refine(rvalid_ok β1 w hw1 a).mono ?_
 rintro e w' ⟨rfl,hw'⟩
 refine⟨_,rfl,_,back _ _ hw',?_⟩
 clear hw hw1 hw' back kn sb
 refine g_val (v:= .bool (decide (¬(okA a)))) rfl rfl rfl rfl rfl (e_not_p (p:=okA a) rfl) ?_
 refine l_val (v:= .bool (decide (¬(okA a)))) rfl rfl rfl (e_pick_f rfl) ?_
 refine l_nil ?_
 refine f_then ?_
 refine c_if (¬(okA a)) rfl (fun hc4=> ?_) (fun hc4=> ?_)
 ·
  exact absurd hc4 (fun q=>q hp.2.2)
 ·
  refine c_skip ?_
  refine f_then ?_
  refine c_seq ?_
  refine c_region ?_
  refine l_val (v:= .agg #[.slice via ((idsE es).length) (vic),.slice vaa ((arsE es).length) (vac),.slice tp (tn) tc]) rfl rfl rfl (e_load tf255 (cs:=[.slice via ((idsE es).length) (vic),.slice vaa ((arsE es).length) (vac),.slice tp (tn) tc]) rfl (k_pt 2 (cs:= #[.slice via ((idsE es).length) (vic),.slice vaa ((arsE es).length) (vac),.slice tp (tn) tc]) (vs:=[.slice via ((idsE es).length) (vic),.slice vaa ((arsE es).length) (vac),.slice tp (tn) tc]) rfl rfl) rfl) ?_
  refine l_val (v:=Ix (id)) rfl rfl rfl (e_move) ?_
  refine l_call rfl rfl rfl (cl_value (fst:=[]) (cap:=[]) (vs:=[.agg #[.slice via ((idsE es).length) (vic),.slice vaa ((arsE es).length) (vac),.slice tp (tn) tc],Ix (id)]) (all:=[.agg #[.slice via ((idsE es).length) (vic),.slice vaa ((arsE es).length) (vac),.slice tp (tn) tc],Ix (id)]) tf260 rfl rfl rfl) ?_
  intro w hw
  obtain⟨β1,sb,kn,hw1,back⟩:=St.frame_all hw
  refine(rdel_no β1 w hw1 _ _ es (Sl.mono _ _ _ _ _ sb hi) (Sl.mono _ _ _ _ _ sb ha) (by omega) tp tn tc id hno).mono ?_
  rintro e w' ⟨rfl,hw'⟩
  refine⟨_,rfl,_,back _ _ hw',?_⟩
  clear hw hw1 hw' back kn sb
  refine l_val (v:= .tuple #[.agg #[.slice via ((idsE es).length) (vic),.slice vaa ((arsE es).length) (vac),.slice tp (tn) tc],.int .i64 (6)]) rfl rfl rfl (e_move) ?_
  refine l_val (v:= .agg #[.slice via ((idsE es).length) (vic),.slice vaa ((arsE es).length) (vac),.slice tp (tn) tc]) rfl rfl rfl (e_extract (vs:= #[.agg #[.slice via ((idsE es).length) (vic),.slice vaa ((arsE es).length) (vac),.slice tp (tn) tc],.int .i64 (6)]) rfl rfl) ?_
  refine l_val (v:= .int .i64 (6)) rfl rfl rfl (e_extract (vs:= #[.agg #[.slice via ((idsE es).length) (vic),.slice vaa ((arsE es).length) (vac),.slice tp (tn) tc],.int .i64 (6)]) rfl rfl) ?_
  refine l_mv rfl rfl rfl (m_alloc tf252) ?_
  rintro _ _ ⟨b5,rfl,rfl⟩
  refine l_mu rfl rfl (m_store 0 tf255 (b:=b5) (o:=0) (T:=59) (cs:= #[.slice none 0 0,.slice none 0 0,.slice none 0 0]) (cs':= #[.slice via ((idsE es).length) (vic),.slice vaa ((arsE es).length) (vac),.slice tp (tn) tc]) (v:= .agg #[.slice via ((idsE es).length) (vic),.slice vaa ((arsE es).length) (vac),.slice tp (tn) tc]) rfl rfl rfl rfl rfl rfl rfl) ?_
  refine l_val (v:= .int .i64 (6)) rfl rfl rfl (e_assign) ?_
  refine l_nil ?_
  refine f_then ?_
  refine c_seq ?_
  refine c_seq ?_
  have hdi:(idsE es).length=es.length:=List.length_map _
  have hda:(arsE es).length=es.length:=List.length_map _
  refine c_region ?_
  refine l_val (v:= .pointer (some ⟨b5,0,none⟩)) rfl rfl rfl (e_fieldPt (b:=b5) (o:=0) rfl tf256) ?_
  refine l_val (v:= .slice via ((idsE es).length) (vic)) rfl rfl rfl (e_load1 tf257 (v:= .slice via ((idsE es).length) (vic)) rfl (k_pt 0 (cs:= #[.slice via ((idsE es).length) (vic),.slice vaa ((arsE es).length) (vac),.slice tp (tn) tc]) (vs:=[.slice via ((idsE es).length) (vic)]) rfl rfl)) ?_
  refine l_val (v:=Nx ((idsE es).length)) rfl rfl rfl (e_len (a:=via) (n:=(idsE es).length) (c:=vic) rfl tf15) ?_
  refine l_val (v:= .bool (decide ((((idsE es).length:Nat):Int)=(128:Int)))) rfl rfl rfl (e_eql (a:=(((idsE es).length:Nat):Int)) (b:=(128:Int)) rfl rfl) ?_
  refine l_nil ?_
  refine f_then ?_
  refine c_if ((((idsE es).length:Nat):Int)=(128:Int)) rfl (fun hc6=> ?_) (fun hc6=> ?_)
  ·
   refine c_seq ?_
   refine c_region ?_
   refine l_val (v:= .agg #[.slice via ((idsE es).length) (vic),.slice vaa ((arsE es).length) (vac),.slice tp (tn) tc]) rfl rfl rfl (e_load tf255 (cs:=[.slice via ((idsE es).length) (vic),.slice vaa ((arsE es).length) (vac),.slice tp (tn) tc]) rfl (k_pt 3 (cs:= #[.slice via ((idsE es).length) (vic),.slice vaa ((arsE es).length) (vac),.slice tp (tn) tc]) (vs:=[.slice via ((idsE es).length) (vic),.slice vaa ((arsE es).length) (vac),.slice tp (tn) tc]) rfl rfl) rfl) ?_
   refine l_mu rfl rfl (m_store 1 tf255 (b:=b3) (o:=0) (T:=59) (cs:= #[.slice none 0 0,.slice none 0 0,.slice none 0 0]) (cs':= #[.slice via ((idsE es).length) (vic),.slice vaa ((arsE es).length) (vac),.slice tp (tn) tc]) (v:= .agg #[.slice via ((idsE es).length) (vic),.slice vaa ((arsE es).length) (vac),.slice tp (tn) tc]) rfl rfl rfl rfl rfl rfl rfl) ?_
   refine l_val (v:= .int .i64 (4)) rfl rfl rfl (e_assign) ?_
   refine l_nil ?_
   refine f_then ?_
   refine c_ret ?_
   refine f_then_ret ?_
   refine retG (l:=[.cell 6 59,.tmp 7]) (m:=[.agg #[.slice via ((idsE es).length) (vic),.slice vaa ((arsE es).length) (vac),.slice tp (tn) tc],.int .i64 (4)]) (v:= .tuple #[.agg #[.slice via ((idsE es).length) (vic),.slice vaa ((arsE es).length) (vac),.slice tp (tn) tc],.int .i64 (4)]) Tryz.results27 ⟨rd_cell tf255 (cs:=[.slice via ((idsE es).length) (vic),.slice vaa ((arsE es).length) (vac),.slice tp (tn) tc]) rfl (k_pt 1 (cs:= #[.slice via ((idsE es).length) (vic),.slice vaa ((arsE es).length) (vac),.slice tp (tn) tc]) (vs:=[.slice via ((idsE es).length) (vic),.slice vaa ((arsE es).length) (vac),.slice tp (tn) tc]) rfl rfl) rfl,rd_tmp (v:= .int .i64 (4)) rfl,trivial⟩ rfl ?_
   intro w hw
   exact⟨rfl,st_mask [false,false,false,false] rfl hw⟩
  ·
   exact absurd (by omega) hc6
set_option maxHeartbeats 4000000 in
theorem rput_bad(β:Base)(w:World)(hw:St β [] w)(vi va:Value)(es:ES)(hi:Sl IntF.R β.heap vi (idsE es))(ha:Sl AreaF.R β.heap va (arsE es))(hn:es.length≤1000)(tp:Option Addr)(tn tc:Nat)(id:Int)(a:KA)(hp:¬argS id a):Calls Tryz.prog 27 #[.agg #[vi,va,.slice tp tn tc],Ix id,.agg (aC a)] w fun r w'=>r= .returned (.tuple #[.agg #[vi,va,.slice tp tn tc],Ix 2])∧St β [] w':=by
 obtain⟨via,vic,rfl,vil,vim,vie⟩:=hi.get
 obtain⟨vaa,vac,rfl,val,vam,vae⟩:=ha.get
 have hil:(idsE es).length=es.length:=List.length_map _
 have hal:(arsE es).length=es.length:=List.length_map _
 refine enter (n:=87) Tryz.func27 rfl Tryz.ntmps27 rfl ?_ hw
 refine c_seq ?_
 refine c_region ?_
 refine l_mv rfl rfl rfl (m_box (v:= .agg #[.slice via ((idsE es).length) (vic),.slice vaa ((arsE es).length) (vac),.slice tp (tn) tc]) rfl) ?_
 rintro _ _ ⟨b1,rfl,rfl⟩
 refine l_mv rfl rfl rfl (m_box (v:= .agg (aC a)) rfl) ?_
 rintro _ _ ⟨b2,rfl,rfl⟩
 refine l_mv rfl rfl rfl (m_alloc tf252) ?_
 rintro _ _ ⟨b3,rfl,rfl⟩
 refine l_val (v:= .int .i64 (0)) rfl rfl rfl (e_assign) ?_
 refine l_nil ?_
 refine f_then ?_
 refine c_seq ?_
 refine c_seq ?_
 refine c_region ?_
 refine l_val (v:=Ix (id)) rfl rfl rfl (e_move) ?_
 refine l_val (v:= .bool (decide ((id)<(0:Int)))) rfl rfl rfl (e_lss (a:=(id)) (b:=(0:Int)) rfl rfl) ?_
 refine l_val (v:= .bool (decide ((id)<(0:Int)))) rfl rfl rfl (e_move) ?_
 refine l_split (s:=14) (p:=(id)<(0:Int)) rfl (fun hg4=> ?_) (fun hg4=> ?_)
 ·
  refine l_skip rfl rfl rfl rfl rfl rfl ?_
  refine l_skip rfl rfl rfl rfl rfl rfl ?_
  refine l_val (v:= .bool true) rfl rfl rfl (e_pick_t rfl) ?_
  refine l_val (v:= .bool true) rfl rfl rfl (e_move) ?_
  refine l_skip rfl rfl rfl rfl rfl rfl ?_
  refine l_skip rfl rfl rfl rfl rfl rfl ?_
  refine l_skip rfl rfl rfl rfl rfl rfl ?_
  refine l_val (v:= .bool true) rfl rfl rfl (e_pick_t rfl) ?_
  refine l_nil ?_
  refine f_then ?_
  refine c_yes rfl ?_
  refine c_seq ?_
  refine c_region ?_
  refine l_val (v:= .agg #[.slice via ((idsE es).length) (vic),.slice vaa ((arsE es).length) (vac),.slice tp (tn) tc]) rfl rfl rfl (e_load tf255 (cs:=[.slice via ((idsE es).length) (vic),.slice vaa ((arsE es).length) (vac),.slice tp (tn) tc]) rfl (k_pt 2 (cs:= #[.slice via ((idsE es).length) (vic),.slice vaa ((arsE es).length) (vac),.slice tp (tn) tc]) (vs:=[.slice via ((idsE es).length) (vic),.slice vaa ((arsE es).length) (vac),.slice tp (tn) tc]) rfl rfl) rfl) ?_
  refine l_mu rfl rfl (m_store 0 tf255 (b:=b3) (o:=0) (T:=59) (cs:= #[.slice none 0 0,.slice none 0 0,.slice none 0 0]) (cs':= #[.slice via ((idsE es).length) (vic),.slice vaa ((arsE es).length) (vac),.slice tp (tn) tc]) (v:= .agg #[.slice via ((idsE es).length) (vic),.slice vaa ((arsE es).length) (vac),.slice tp (tn) tc]) rfl rfl rfl rfl rfl rfl rfl) ?_
  refine l_val (v:= .int .i64 (2)) rfl rfl rfl (e_assign) ?_
  refine l_nil ?_
  refine f_then ?_
  refine c_ret ?_
  refine f_then_ret ?_
  refine retG (l:=[.cell 6 59,.tmp 7]) (m:=[.agg #[.slice via ((idsE es).length) (vic),.slice vaa ((arsE es).length) (vac),.slice tp (tn) tc],.int .i64 (2)]) (v:= .tuple #[.agg #[.slice via ((idsE es).length) (vic),.slice vaa ((arsE es).length) (vac),.slice tp (tn) tc],.int .i64 (2)]) Tryz.results27 ⟨rd_cell tf255 (cs:=[.slice via ((idsE es).length) (vic),.slice vaa ((arsE es).length) (vac),.slice tp (tn) tc]) rfl (k_pt 0 (cs:= #[.slice via ((idsE es).length) (vic),.slice vaa ((arsE es).length) (vac),.slice tp (tn) tc]) (vs:=[.slice via ((idsE es).length) (vic),.slice vaa ((arsE es).length) (vac),.slice tp (tn) tc]) rfl rfl) rfl,rd_tmp (v:= .int .i64 (2)) rfl,trivial⟩ rfl ?_
  intro w hw
  exact⟨rfl,st_mask [false,false,false] rfl hw⟩
 ·
  refine g_val (v:=Ix (id)) rfl rfl rfl rfl rfl (e_move) ?_
  refine g_val (v:= .bool (decide ((65536:Int)<(id)))) rfl rfl rfl rfl rfl (e_gtr (a:=(id)) (b:=(65536:Int)) rfl rfl) ?_
  refine l_val (v:= .bool (decide ((65536:Int)<(id)))) rfl rfl rfl (e_pick_f rfl) ?_
  refine l_val (v:= .bool (decide ((65536:Int)<(id)))) rfl rfl rfl (e_move) ?_
  refine l_split (s:=18) (p:=(65536:Int)<(id)) rfl (fun hg5=> ?_) (fun hg5=> ?_)
  ·
   refine l_skip rfl rfl rfl rfl rfl rfl ?_
   refine l_skip rfl rfl rfl rfl rfl rfl ?_
   refine l_skip rfl rfl rfl rfl rfl rfl ?_
   refine l_val (v:= .bool true) rfl rfl rfl (e_pick_t rfl) ?_
   refine l_nil ?_
   refine f_then ?_
   refine c_yes rfl ?_
   refine c_seq ?_
   refine c_region ?_
   refine l_val (v:= .agg #[.slice via ((idsE es).length) (vic),.slice vaa ((arsE es).length) (vac),.slice tp (tn) tc]) rfl rfl rfl (e_load tf255 (cs:=[.slice via ((idsE es).length) (vic),.slice vaa ((arsE es).length) (vac),.slice tp (tn) tc]) rfl (k_pt 2 (cs:= #[.slice via ((idsE es).length) (vic),.slice vaa ((arsE es).length) (vac),.slice tp (tn) tc]) (vs:=[.slice via ((idsE es).length) (vic),.slice vaa ((arsE es).length) (vac),.slice tp (tn) tc]) rfl rfl) rfl) ?_
   refine l_mu rfl rfl (m_store 0 tf255 (b:=b3) (o:=0) (T:=59) (cs:= #[.slice none 0 0,.slice none 0 0,.slice none 0 0]) (cs':= #[.slice via ((idsE es).length) (vic),.slice vaa ((arsE es).length) (vac),.slice tp (tn) tc]) (v:= .agg #[.slice via ((idsE es).length) (vic),.slice vaa ((arsE es).length) (vac),.slice tp (tn) tc]) rfl rfl rfl rfl rfl rfl rfl) ?_
   refine l_val (v:= .int .i64 (2)) rfl rfl rfl (e_assign) ?_
   refine l_nil ?_
   refine f_then ?_
   refine c_ret ?_
   refine f_then_ret ?_
   refine retG (l:=[.cell 6 59,.tmp 7]) (m:=[.agg #[.slice via ((idsE es).length) (vic),.slice vaa ((arsE es).length) (vac),.slice tp (tn) tc],.int .i64 (2)]) (v:= .tuple #[.agg #[.slice via ((idsE es).length) (vic),.slice vaa ((arsE es).length) (vac),.slice tp (tn) tc],.int .i64 (2)]) Tryz.results27 ⟨rd_cell tf255 (cs:=[.slice via ((idsE es).length) (vic),.slice vaa ((arsE es).length) (vac),.slice tp (tn) tc]) rfl (k_pt 0 (cs:= #[.slice via ((idsE es).length) (vic),.slice vaa ((arsE es).length) (vac),.slice tp (tn) tc]) (vs:=[.slice via ((idsE es).length) (vic),.slice vaa ((arsE es).length) (vac),.slice tp (tn) tc]) rfl rfl) rfl,rd_tmp (v:= .int .i64 (2)) rfl,trivial⟩ rfl ?_
   intro w hw
   exact⟨rfl,st_mask [false,false,false] rfl hw⟩
  ·
   refine g_val (v:= .agg (aC a)) rfl rfl rfl rfl rfl (e_load tf10 (cs:=(areaE a)) rfl (k_pt 1 (cs:=(aC a)) (vs:=(areaE a)) rfl rfl) rfl) ?_
   refine g_call rfl rfl rfl rfl rfl (cl_value (fst:=[]) (cap:=[]) (vs:=[.agg (aC a)]) (all:=[.agg (aC a)]) tf105 rfl rfl rfl) ?_
   intro w hw
   obtain⟨β1,sb,kn,hw1,back⟩:=St.frame_all hw
   refine(rvalid_ok β1 w hw1 a).mono ?_
   rintro e w' ⟨rfl,hw'⟩
   refine⟨_,rfl,_,back _ _ hw',?_⟩
   clear hw hw1 hw' back kn sb
   refine g_val (v:= .bool (decide (¬(okA a)))) rfl rfl rfl rfl rfl (e_not_p (p:=okA a) rfl) ?_
   refine l_val (v:= .bool (decide (¬(okA a)))) rfl rfl rfl (e_pick_f rfl) ?_
   refine l_nil ?_
   refine f_then ?_
   refine c_if (¬(okA a)) rfl (fun hc6=> ?_) (fun hc6=> ?_)
   ·
    refine c_seq ?_
    refine c_region ?_
    refine l_val (v:= .agg #[.slice via ((idsE es).length) (vic),.slice vaa ((arsE es).length) (vac),.slice tp (tn) tc]) rfl rfl rfl (e_load tf255 (cs:=[.slice via ((idsE es).length) (vic),.slice vaa ((arsE es).length) (vac),.slice tp (tn) tc]) rfl (k_pt 2 (cs:= #[.slice via ((idsE es).length) (vic),.slice vaa ((arsE es).length) (vac),.slice tp (tn) tc]) (vs:=[.slice via ((idsE es).length) (vic),.slice vaa ((arsE es).length) (vac),.slice tp (tn) tc]) rfl rfl) rfl) ?_
    refine l_mu rfl rfl (m_store 0 tf255 (b:=b3) (o:=0) (T:=59) (cs:= #[.slice none 0 0,.slice none 0 0,.slice none 0 0]) (cs':= #[.slice via ((idsE es).length) (vic),.slice vaa ((arsE es).length) (vac),.slice tp (tn) tc]) (v:= .agg #[.slice via ((idsE es).length) (vic),.slice vaa ((arsE es).length) (vac),.slice tp (tn) tc]) rfl rfl rfl rfl rfl rfl rfl) ?_
    refine l_val (v:= .int .i64 (2)) rfl rfl rfl (e_assign) ?_
    refine l_nil ?_
    refine f_then ?_
    refine c_ret ?_
    refine f_then_ret ?_
    refine retG (l:=[.cell 6 59,.tmp 7]) (m:=[.agg #[.slice via ((idsE es).length) (vic),.slice vaa ((arsE es).length) (vac),.slice tp (tn) tc],.int .i64 (2)]) (v:= .tuple #[.agg #[.slice via ((idsE es).length) (vic),.slice vaa ((arsE es).length) (vac),.slice tp (tn) tc],.int .i64 (2)]) Tryz.results27 ⟨rd_cell tf255 (cs:=[.slice via ((idsE es).length) (vic),.slice vaa ((arsE es).length) (vac),.slice tp (tn) tc]) rfl (k_pt 0 (cs:= #[.slice via ((idsE es).length) (vic),.slice vaa ((arsE es).length) (vac),.slice tp (tn) tc]) (vs:=[.slice via ((idsE es).length) (vic),.slice vaa ((arsE es).length) (vac),.slice tp (tn) tc]) rfl rfl) rfl,rd_tmp (v:= .int .i64 (2)) rfl,trivial⟩ rfl ?_
    intro w hw
    exact⟨rfl,st_mask [false,false,false] rfl hw⟩
   ·
    refine c_skip ?_
    refine f_then ?_
    refine c_seq ?_
    exact absurd ⟨by omega,by omega,by simpa using hc6⟩ hp
set_option maxHeartbeats 4000000 in
theorem rall_ok(β:Base)(w:World)(hw:St β [] w)(vi va:Value)(es:ES)(hi:Sl IntF.R β.heap vi (idsE es))(ha:Sl AreaF.R β.heap va (arsE es))(hn:es.length≤1000)(tp:Option Addr)(tn tc:Nat)(hok:∀a∈arsE es,okA a)(hn8:es.length≤128):Calls Tryz.prog 31 #[.agg #[vi,va,.slice tp tn tc]] w fun r w'=>∃p c,r= .returned (.slice p ((pairsA (arsE es)).map (mapE es)).length c)∧St β [rowF PairF 55 p c ((pairsA (arsE es)).map (mapE es))] w':=by
 obtain⟨via,vic,rfl,vil,vim,vie⟩:=hi.get
 obtain⟨vaa,vac,rfl,val,vam,vae⟩:=ha.get
 have hil:(idsE es).length=es.length:=List.length_map _
 have hal:(arsE es).length=es.length:=List.length_map _
 refine enter (n:=41) Tryz.func31 rfl Tryz.ntmps31 rfl ?_ hw
 refine c_seq ?_
 refine c_region ?_
 refine l_mv rfl rfl rfl (m_box (v:= .agg #[.slice via ((idsE es).length) (vic),.slice vaa ((arsE es).length) (vac),.slice tp (tn) tc]) rfl) ?_
 rintro _ _ ⟨b1,rfl,rfl⟩
 refine l_val (v:= .slice none 0 0) rfl rfl rfl (e_assign) ?_
 refine l_nil ?_
 refine f_then ?_
 refine c_seq ?_
 refine c_region ?_
 refine l_val (v:= .pointer (some ⟨b1,1,none⟩)) rfl rfl rfl (e_fieldPt (b:=b1) (o:=0) rfl tf258) ?_
 refine l_val (v:= .slice vaa ((arsE es).length) (vac)) rfl rfl rfl (e_load1 tf259 (v:= .slice vaa ((arsE es).length) (vac)) rfl (k_pt 0 (cs:= #[.slice via ((idsE es).length) (vic),.slice vaa ((arsE es).length) (vac),.slice tp (tn) tc]) (vs:=[.slice vaa ((arsE es).length) (vac)]) rfl rfl)) ?_
 refine l_call rfl rfl rfl (cl_value (fst:=[]) (cap:=[]) (vs:=[.slice vaa ((arsE es).length) (vac)]) (all:=[.slice vaa ((arsE es).length) (vac)]) tf248 rfl rfl rfl) ?_
 intro w hw
 obtain⟨β1,sb,kn,hw1,back⟩:=St.frame_all hw
 refine(rpairs_ok β1 w hw1 _ (arsE es) (Sl.mono _ _ _ _ _ sb ha) (by omega)).mono ?_
 rintro e w' ⟨p2,c3,rfl,hw'⟩
 refine⟨_,rfl,_,back _ _ hw',?_⟩
 clear hw hw1 hw' back kn sb
 refine l_val (v:= .tuple #[.slice p2 ((pairsX (arsE es)).length) c3,Ix (errP (arsE es))]) rfl rfl rfl (e_move) ?_
 refine l_val (v:= .slice p2 ((pairsX (arsE es)).length) c3) rfl rfl rfl (e_extract (vs:= #[.slice p2 ((pairsX (arsE es)).length) c3,Ix (errP (arsE es))]) rfl rfl) ?_
 refine l_val (v:=Ix (errP (arsE es))) rfl rfl rfl (e_extract (vs:= #[.slice p2 ((pairsX (arsE es)).length) c3,Ix (errP (arsE es))]) rfl rfl) ?_
 refine l_val (v:= .slice p2 ((pairsX (arsE es)).length) c3) rfl rfl rfl (e_assign) ?_
 refine l_val (v:=Ix (errP (arsE es))) rfl rfl rfl (e_assign) ?_
 refine l_nil ?_
 refine f_then ?_
 refine c_seq ?_
 refine c_seq ?_
 obtain⟨T,hT⟩:∃z,z=pairsA (arsE es):=⟨_,rfl⟩
 rw[show pairsX (arsE es)=T from(pairsX_ok ⟨hok,by omega⟩).trans hT.symm]
 have hTl:T.length≤16384:=by rw[hT];exact pairsA_le (by omega)
 refine c_region ?_
 refine l_val (v:= .int .i64 (0)) rfl rfl rfl (e_assign) ?_
 refine l_nil ?_
 refine f_then ?_
 refine c_block ?_
 refine c_loop (fun(i:Nat) (f:Fm) (L:List Res)=>(f 1= .pointer (some ⟨b1,0,none⟩)∧f 3= .slice p2 (T.length) c3∧f 5=Nx (i))∧L=[rowF PairF 55 p2 c3 ((T.take i).map (mapE es)++T.drop i),pt b1 (.cells #[.slice via ((idsE es).length) (vic),.slice vaa ((arsE es).length) (vac),.slice tp (tn) tc] 59)]∧(i≤T.length)) (fun(i:Nat)=>T.length-i) 0 ?_ ?_
 ·exact⟨⟨rfl,rfl,rfl⟩,by rw[ta_zero]<;>rfl,by omega⟩
 rintro i f0 L0 ⟨⟨hs1,hs3,hs5⟩,hL,hk⟩
 subst L0
 refine rebase (d:=1) hs1 ?_
 refine rebase (d:=3) hs3 ?_
 refine rebase (d:=5) hs5 ?_
 clear hs1 hs3 hs5
 refine c_seq ?_
 refine c_seq ?_
 refine c_region ?_
 refine l_val (v:=Nx (i)) rfl rfl rfl (e_move) ?_
 refine l_val (v:= .slice p2 (T.length) c3) rfl rfl rfl (e_move) ?_
 refine l_val (v:=Nx (T.length)) rfl rfl rfl (e_len (a:=p2) (n:=T.length) (c:=c3) rfl tf65) ?_
 refine l_val (v:= .bool (decide (((i:Nat):Int)<((T.length:Nat):Int)))) rfl rfl rfl (e_lss (a:=((i:Nat):Int)) (b:=((T.length:Nat):Int)) rfl rfl) ?_
 refine l_nil ?_
 refine f_then ?_
 refine c_if (((i:Nat):Int)<((T.length:Nat):Int)) rfl (fun hc4=> ?_) (fun hc4=> ?_)
 ·
  refine c_skip ?_
  refine f_then ?_
  refine c_seq ?_
  refine c_block ?_
  obtain⟨t,ht⟩:∃z,T[i]? =some z:=⟨_,List.getElem?_eq_getElem (by omega)⟩
  obtain⟨u,v,huv,hvl,rfl⟩:=pairs_mem (hT▸List.mem_of_getElem? ht)
  have hx:((T.take i).map (mapE es)++T.drop i)[i]? =some (⟨((u:Nat):Int),((v:Nat):Int)⟩:KP):=(ta_at (by omega)).trans ht
  rw[hal]at hvl
  obtain⟨e,he⟩:∃e_,es[u]? =some e_:=⟨_,List.getElem?_eq_getElem (by omega)⟩
  have hei:(idsE es)[u]? =some e.1:=by rw[List.getElem?_map,he];rfl
  obtain⟨he1,ce1,he2,rfl⟩:=vie _ _ hei
  obtain⟨y,hy⟩:∃e_,es[v]? =some e_:=⟨_,List.getElem?_eq_getElem (by omega)⟩
  have hyi:(idsE es)[v]? =some y.1:=by rw[List.getElem?_map,hy];rfl
  obtain⟨hy1,cy1,hy2,rfl⟩:=vie _ _ hyi
  have hm:=mapE_at he hy
  refine c_any [⟨[],[],[0],[18],fun f=>f 18= .slice p2 (T.length) c3⟩,⟨[],[],[1],[19],fun f=>f 19=Nx (i)⟩,⟨[],[],[2],[20],fun f=>f 20= .pointer (some ⟨b1,0,none⟩)⟩,⟨[2],[2],[],[21],fun f=>f 21= .slice via ((idsE es).length) (vic)⟩,⟨[],[],[0],[22],fun f=>f 22= .slice p2 (T.length) c3⟩,⟨[],[],[1],[23],fun f=>f 23=Nx (i)⟩,⟨[4,5],[4,5],[],[24],fun f=>f 24= .pointer (some ((ba p2).add (i*2)))⟩,⟨[4,5,6],[6],[],[25],fun f=>f 25= .pointer (some ((ba p2).add (i*2)))⟩,⟨[4,5,6,7],[7],[],[26],fun f=>f 26=Nx (u)⟩,⟨[2,3,4,5,6,7,8],[3,8],[],[27],fun f=>f 27= .pointer (some ((ba via).add (u*1)))⟩,⟨[2,3,4,5,6,7,8,9],[9],[],[28],fun f=>f 28=Ix (e.1)⟩,⟨[],[],[2],[29],fun f=>f 29= .pointer (some ⟨b1,0,none⟩)⟩,⟨[11],[11],[],[30],fun f=>f 30= .slice via ((idsE es).length) (vic)⟩,⟨[],[],[0],[31],fun f=>f 31= .slice p2 (T.length) c3⟩,⟨[],[],[1],[32],fun f=>f 32=Nx (i)⟩,⟨[13,14],[13,14],[],[33],fun f=>f 33= .pointer (some ((ba p2).add (i*2)))⟩,⟨[13,14,15],[15],[],[34],fun f=>f 34= .pointer (some ((ba p2).add (i*2+1)))⟩,⟨[13,14,15,16],[16],[],[35],fun f=>f 35=Nx (v)⟩,⟨[11,12,13,14,15,16,17],[12,17],[],[36],fun f=>f 36= .pointer (some ((ba via).add (v*1)))⟩,⟨[11,12,13,14,15,16,17,18],[18],[],[37],fun f=>f 37=Ix (y.1)⟩,⟨[2,3,4,5,6,7,8,9,10,11,12,13,14,15,16,17,18,19],[10,19],[],[38],fun f=>f 38= .agg #[Ix (e.1),Ix (y.1)]⟩,⟨[0,1,2,3,4,5,6,7,8,9,10,11,12,13,14,15,16,17,18,19,20],[0,1],[],[39],fun f=>f 39= .pointer (some ((ba p2).add (i*2)))⟩,⟨[0,1,2,3,4,5,6,7,8,9,10,11,12,13,14,15,16,17,18,19,20,21],[21,20],[],[],fun _=>True⟩] [⟨none,(some 22),[6,8,15,17,21,22],[],fun _=>rowF PairF 55 p2 c3 ((T.take i).map (mapE es)++T.drop i)⟩,⟨none,none,[3,12],[],fun _=>pt b1 (.cells #[.slice via ((idsE es).length) (vic),.slice vaa ((arsE es).length) (vac),.slice tp (tn) tc] 59)⟩,⟨(some 22),none,[],[],fun _=>rowF PairF 55 p2 c3 (((T.take i).map (mapE es)++T.drop i).set i (⟨e.1,y.1⟩:KP))⟩] [(3,.slice p2 (T.length) c3),(5,Nx (i)),(1,.pointer (some ⟨b1,0,none⟩))] [2,0,1] [] (by kernel_rfl) (by kernel_rfl) (by kernel_rfl) (by kernel_rfl) rfl ⟨rfl,rfl,rfl,trivial⟩ ⟨?_,?_,?_,?_,?_,?_,?_,?_,?_,?_,?_,?_,?_,?_,?_,?_,?_,?_,?_,?_,?_,?_,?_,trivial⟩ ?_
  ·rintro f M-⟨i0,-⟩
   have hs3:f 3= .slice p2 (T.length) c3:=i0
   refine ob_start (L':=M) (by rfl) (up_cons rfl hs3) ?_
   refine l_val (v:= .slice p2 (T.length) c3) rfl rfl rfl (e_move) ?_
   refine l_nil ?_
   exact f_owes_d (up_cons rfl hs3) rfl (List.Perm.refl _)
  ·rintro f M-⟨i0,-⟩
   have hs5:f 5=Nx (i):=i0
   refine ob_start (L':=M) (by rfl) (up_cons rfl hs5) ?_
   refine l_val (v:=Nx (i)) rfl rfl rfl (e_move) ?_
   refine l_nil ?_
   exact f_owes_d (up_cons rfl hs5) rfl (List.Perm.refl _)
  ·rintro f M-⟨i0,-⟩
   have hs1:f 1= .pointer (some ⟨b1,0,none⟩):=i0
   refine ob_start (L':=M) (by rfl) (up_cons rfl hs1) ?_
   refine l_val (v:= .pointer (some ⟨b1,0,none⟩)) rfl rfl rfl (e_fieldPt (b:=b1) (o:=0) rfl tf256) ?_
   refine l_nil ?_
   exact f_owes_d (up_cons rfl hs1) rfl (List.Perm.refl _)
  ·rintro f M ⟨k0,-⟩-
   have hs20:f 20= .pointer (some ⟨b1,0,none⟩):=k0
   refine ob_start (L':=pt b1 (.cells #[.slice via ((idsE es).length) (vic),.slice vaa ((arsE es).length) (vac),.slice tp (tn) tc] 59)::M) (by rfl) (up_cons rfl hs20) ?_
   refine l_val (v:= .slice via ((idsE es).length) (vic)) rfl rfl rfl (e_load1 tf257 (v:= .slice via ((idsE es).length) (vic)) rfl (k_pt 0 (cs:= #[.slice via ((idsE es).length) (vic),.slice vaa ((arsE es).length) (vac),.slice tp (tn) tc]) (vs:=[.slice via ((idsE es).length) (vic)]) rfl rfl)) ?_
   refine l_nil ?_
   exact f_owes_d (up_cons rfl hs20) rfl (perm_front 0 rfl)
  ·rintro f M-⟨i0,-⟩
   have hs3:f 3= .slice p2 (T.length) c3:=i0
   refine ob_start (L':=M) (by rfl) (up_cons rfl hs3) ?_
   refine l_val (v:= .slice p2 (T.length) c3) rfl rfl rfl (e_move) ?_
   refine l_nil ?_
   exact f_owes_d (up_cons rfl hs3) rfl (List.Perm.refl _)
  ·rintro f M-⟨i0,-⟩
   have hs5:f 5=Nx (i):=i0
   refine ob_start (L':=M) (by rfl) (up_cons rfl hs5) ?_
   refine l_val (v:=Nx (i)) rfl rfl rfl (e_move) ?_
   refine l_nil ?_
   exact f_owes_d (up_cons rfl hs5) rfl (List.Perm.refl _)
  ·rintro f M ⟨k0,k1,-⟩-
   have hs22:f 22= .slice p2 (T.length) c3:=k0
   have hs23:f 23=Nx (i):=k1
   refine ob_start (L':=rowF PairF 55 p2 c3 ((T.take i).map (mapE es)++T.drop i)::M) (by rfl) (up_cons (up_cons rfl hs22) hs23) ?_
   refine l_val (v:= .pointer (some ((ba p2).add (i*2)))) rfl rfl rfl (e_indexFlN 0 (F:=PairF) (j:=i) (m:=T.length) (xs:=((T.take i).map (mapE es)++T.drop i)) rfl (ta_len (by omega)).symm rfl tf37 (by omega) rfl) ?_
   refine l_nil ?_
   exact f_owes_d (up_cons (up_cons rfl hs22) hs23) rfl (perm_front 0 rfl)
  ·rintro f M ⟨k0,-⟩-
   have hs24:f 24= .pointer (some ((ba p2).add (i*2))):=k0
   refine ob_start (L':=M) (by rfl) (up_cons rfl hs24) ?_
   refine l_val (v:= .pointer (some ((ba p2).add (i*2)))) rfl rfl rfl (ev_eq (congrArg (fun z=>Value.pointer (some z)) (show((ba p2).add (i*2):Addr).add 0=(ba p2).add (i*2) by rw[Addr.add_add'];rfl)) (e_fieldAddr (a:=(ba p2).add (i*2)) rfl tf19)) ?_
   refine l_nil ?_
   exact f_owes_d (up_cons rfl hs24) rfl (List.Perm.refl _)
  ·rintro f M ⟨k0,-⟩-
   have hs25:f 25= .pointer (some ((ba p2).add (i*2))):=k0
   refine ob_start (L':=rowF PairF 55 p2 c3 ((T.take i).map (mapE es)++T.drop i)::M) (by rfl) (up_cons rfl hs25) ?_
   refine l_val (v:=Nx (u)) rfl rfl rfl (e_load1 tf2 (v:=Nx (u)) rfl (k_flPart 0 (F:=PairF) (o:=0) (us:=[Nx (u)]) rfl hx rfl)) ?_
   refine l_nil ?_
   exact f_owes_d (up_cons rfl hs25) rfl (perm_front 0 rfl)
  ·rintro f M ⟨k0,k1,-⟩-
   have hs21:f 21= .slice via ((idsE es).length) (vic):=k0
   have hs26:f 26=Nx (u):=k1
   refine ob_start (L':=M) (by rfl) (up_cons (up_cons rfl hs21) hs26) ?_
   refine l_val (v:= .pointer (some ((ba via).add (u*1)))) rfl rfl rfl (e_indexAddr (k:=u) (len:=(idsE es).length) (cap:=vic) (a:=via) rfl rfl tf16 (by omega) he1) ?_
   refine l_nil ?_
   exact f_owes_d (up_cons (up_cons rfl hs21) hs26) rfl (List.Perm.refl _)
  ·rintro f M ⟨k0,-⟩-
   have hs27:f 27= .pointer (some ((ba via).add (u*1))):=k0
   refine ob_start (L':=M) (by rfl) (up_cons rfl hs27) ?_
   refine l_val (v:=Ix (e.1)) rfl rfl rfl (e_load1 tf2 (v:=Ix (e.1)) rfl (Knows.of_base (Cs.mono _ _) he2)) ?_
   refine l_nil ?_
   exact f_owes_d (up_cons rfl hs27) rfl (List.Perm.refl _)
  ·rintro f M-⟨i0,-⟩
   have hs1:f 1= .pointer (some ⟨b1,0,none⟩):=i0
   refine ob_start (L':=M) (by rfl) (up_cons rfl hs1) ?_
   refine l_val (v:= .pointer (some ⟨b1,0,none⟩)) rfl rfl rfl (e_fieldPt (b:=b1) (o:=0) rfl tf256) ?_
   refine l_nil ?_
   exact f_owes_d (up_cons rfl hs1) rfl (List.Perm.refl _)
  ·rintro f M ⟨k0,-⟩-
   have hs29:f 29= .pointer (some ⟨b1,0,none⟩):=k0
   refine ob_start (L':=pt b1 (.cells #[.slice via ((idsE es).length) (vic),.slice vaa ((arsE es).length) (vac),.slice tp (tn) tc] 59)::M) (by rfl) (up_cons rfl hs29) ?_
   refine l_val (v:= .slice via ((idsE es).length) (vic)) rfl rfl rfl (e_load1 tf257 (v:= .slice via ((idsE es).length) (vic)) rfl (k_pt 0 (cs:= #[.slice via ((idsE es).length) (vic),.slice vaa ((arsE es).length) (vac),.slice tp (tn) tc]) (vs:=[.slice via ((idsE es).length) (vic)]) rfl rfl)) ?_
   refine l_nil ?_
   exact f_owes_d (up_cons rfl hs29) rfl (perm_front 0 rfl)
  ·rintro f M-⟨i0,-⟩
   have hs3:f 3= .slice p2 (T.length) c3:=i0
   refine ob_start (L':=M) (by rfl) (up_cons rfl hs3) ?_
   refine l_val (v:= .slice p2 (T.length) c3) rfl rfl rfl (e_move) ?_
   refine l_nil ?_
   exact f_owes_d (up_cons rfl hs3) rfl (List.Perm.refl _)
  ·rintro f M-⟨i0,-⟩
   have hs5:f 5=Nx (i):=i0
   refine ob_start (L':=M) (by rfl) (up_cons rfl hs5) ?_
   refine l_val (v:=Nx (i)) rfl rfl rfl (e_move) ?_
   refine l_nil ?_
   exact f_owes_d (up_cons rfl hs5) rfl (List.Perm.refl _)
  ·rintro f M ⟨k0,k1,-⟩-
   have hs31:f 31= .slice p2 (T.length) c3:=k0
   have hs32:f 32=Nx (i):=k1
   refine ob_start (L':=rowF PairF 55 p2 c3 ((T.take i).map (mapE es)++T.drop i)::M) (by rfl) (up_cons (up_cons rfl hs31) hs32) ?_
   refine l_val (v:= .pointer (some ((ba p2).add (i*2)))) rfl rfl rfl (e_indexFlN 0 (F:=PairF) (j:=i) (m:=T.length) (xs:=((T.take i).map (mapE es)++T.drop i)) rfl (ta_len (by omega)).symm rfl tf37 (by omega) rfl) ?_
   refine l_nil ?_
   exact f_owes_d (up_cons (up_cons rfl hs31) hs32) rfl (perm_front 0 rfl)
  ·rintro f M ⟨k0,-⟩-
   have hs33:f 33= .pointer (some ((ba p2).add (i*2))):=k0
   refine ob_start (L':=M) (by rfl) (up_cons rfl hs33) ?_
   refine l_val (v:= .pointer (some ((ba p2).add (i*2+1)))) rfl rfl rfl (ev_eq (congrArg (fun z=>Value.pointer (some z)) (show((ba p2).add (i*2):Addr).add 1=(ba p2).add (i*2+1) by rw[Addr.add_add'])) (e_fieldAddr (a:=(ba p2).add (i*2)) rfl tf20)) ?_
   refine l_nil ?_
   exact f_owes_d (up_cons rfl hs33) rfl (List.Perm.refl _)
  ·rintro f M ⟨k0,-⟩-
   have hs34:f 34= .pointer (some ((ba p2).add (i*2+1))):=k0
   refine ob_start (L':=rowF PairF 55 p2 c3 ((T.take i).map (mapE es)++T.drop i)::M) (by rfl) (up_cons rfl hs34) ?_
   refine l_val (v:=Nx (v)) rfl rfl rfl (e_load1 tf2 (v:=Nx (v)) rfl (k_flPart 0 (F:=PairF) (o:=1) (us:=[Nx (v)]) rfl hx rfl)) ?_
   refine l_nil ?_
   exact f_owes_d (up_cons rfl hs34) rfl (perm_front 0 rfl)
  ·rintro f M ⟨k0,k1,-⟩-
   have hs30:f 30= .slice via ((idsE es).length) (vic):=k0
   have hs35:f 35=Nx (v):=k1
   refine ob_start (L':=M) (by rfl) (up_cons (up_cons rfl hs30) hs35) ?_
   refine l_val (v:= .pointer (some ((ba via).add (v*1)))) rfl rfl rfl (e_indexAddr (k:=v) (len:=(idsE es).length) (cap:=vic) (a:=via) rfl rfl tf16 (by omega) hy1) ?_
   refine l_nil ?_
   exact f_owes_d (up_cons (up_cons rfl hs30) hs35) rfl (List.Perm.refl _)
  ·rintro f M ⟨k0,-⟩-
   have hs36:f 36= .pointer (some ((ba via).add (v*1))):=k0
   refine ob_start (L':=M) (by rfl) (up_cons rfl hs36) ?_
   refine l_val (v:=Ix (y.1)) rfl rfl rfl (e_load1 tf2 (v:=Ix (y.1)) rfl (Knows.of_base (Cs.mono _ _) hy2)) ?_
   refine l_nil ?_
   exact f_owes_d (up_cons rfl hs36) rfl (List.Perm.refl _)
  ·rintro f M ⟨k0,k1,-⟩-
   have hs28:f 28=Ix (e.1):=k0
   have hs37:f 37=Ix (y.1):=k1
   refine ob_start (L':=M) (by rfl) (up_cons (up_cons rfl hs28) hs37) ?_
   refine l_val (v:= .agg #[Ix (e.1),Ix (y.1)]) rfl rfl rfl (e_build tf33 tf32 (vs:=[(0,Ix (e.1)),(1,Ix (y.1))]) (cells:= #[Ix (e.1),Ix (y.1)]) rfl rfl) ?_
   refine l_nil ?_
   exact f_owes_d (up_cons (up_cons rfl hs28) hs37) rfl (List.Perm.refl _)
  ·rintro f M ⟨k0,k1,-⟩-
   have hs18:f 18= .slice p2 (T.length) c3:=k0
   have hs19:f 19=Nx (i):=k1
   refine ob_start (L':=rowF PairF 55 p2 c3 ((T.take i).map (mapE es)++T.drop i)::M) (by rfl) (up_cons (up_cons rfl hs18) hs19) ?_
   refine l_val (v:= .pointer (some ((ba p2).add (i*2)))) rfl rfl rfl (e_indexFlN 0 (F:=PairF) (j:=i) (m:=T.length) (xs:=((T.take i).map (mapE es)++T.drop i)) rfl (ta_len (by omega)).symm rfl tf37 (by omega) rfl) ?_
   refine l_nil ?_
   exact f_owes_d (up_cons (up_cons rfl hs18) hs19) rfl (perm_front 0 rfl)
  ·rintro f M ⟨k0,k1,-⟩-
   have hs39:f 39= .pointer (some ((ba p2).add (i*2))):=k0
   have hs38:f 38= .agg #[Ix (e.1),Ix (y.1)]:=k1
   refine ob_start (L':=rowF PairF 55 p2 c3 ((T.take i).map (mapE es)++T.drop i)::M) (by rfl) (up_cons (up_cons rfl hs39) hs38) ?_
   refine l_mu rfl rfl (m_storeFl 0 (F:=PairF) (p:=p2) (k:=i) (xs:=((T.take i).map (mapE es)++T.drop i)) (z:=(⟨e.1,y.1⟩:KP)) tf35 rfl rfl rfl rfl (by rw[ta_len (by omega)];omega)) ?_
   refine l_nil ?_
   exact f_owes_n (up_cons (up_cons rfl hs39) hs38) trivial (perm_front 0 rfl)
  rintro fa5 ⟨-,-,-,-,-,-,-,-,-,-,-,-,-,-,-,-,-,-,-,-,-,-,-,-⟩ ⟨j0,j1,j2,-⟩
  refine f_re (L':=[pt b1 (.cells #[.slice via ((idsE es).length) (vic),.slice vaa ((arsE es).length) (vac),.slice tp (tn) tc] 59),rowF PairF 55 p2 c3 (((T.take i).map (mapE es)++T.drop i).set i (⟨e.1,y.1⟩:KP))]) (by rfl) ?_
  refine f_rebase (d:=1) (v:= .pointer (some ⟨b1,0,none⟩)) j0 ?_
  refine f_rebase (d:=3) (v:= .slice p2 (T.length) c3) j1 ?_
  refine f_rebase (d:=5) (v:=Nx (i)) j2 ?_
  refine f_block ?_
  refine f_then ?_
  refine c_region ?_
  refine l_val (v:=Nx (i)) rfl rfl rfl (e_move) ?_
  refine l_val (v:=Nx (i+1)) rfl rfl rfl (e_add (a:=((i:Nat):Int)) (b:=(1:Int)) rfl rfl (i64n (by omega) (by omega))) ?_
  refine l_val (v:=Nx (i+1)) rfl rfl rfl (e_assign) ?_
  refine l_nil ?_
  refine f_perm (L':=[rowF PairF 55 p2 c3 (((T.take i).map (mapE es)++T.drop i).set i (⟨e.1,y.1⟩:KP)),pt b1 (.cells #[.slice via ((idsE es).length) (vic),.slice vaa ((arsE es).length) (vac),.slice tp (tn) tc] 59)]) (perm_ix [1,0] 2 rfl (by kernel_rfl) (by kernel_rfl)) ?_
  exact f_cut ⟨i+1,⟨⟨rfl,rfl,rfl⟩,by rw[ta_step ht hm],by omega⟩,(show T.length-(i+1)<T.length-i from by omega)⟩
 ·
  refine c_exit ?_
  refine f_then_exit ?_
  refine f_then_exit ?_
  refine f_exit ?_
  refine f_then ?_
  refine c_seq ?_
  refine c_region ?_
  refine l_val (v:= .slice p2 (T.length) c3) rfl rfl rfl (e_move) ?_
  refine l_val (v:= .slice p2 (T.length) c3) rfl rfl rfl (e_assign) ?_
  refine l_nil ?_
  refine f_then ?_
  refine c_ret ?_
  refine ret1 Tryz.results31 (v:= .slice p2 (T.length) c3) rfl ?_
  intro w hw
  rw[ta_end (by omega),hT]at hw
  have hl1:T.length=((pairsA (arsE es)).map (mapE es)).length:=by rw[List.length_map,hT]
  rw[hl1]
  exact⟨p2,c3,rfl,st_mask [true,false] rfl hw⟩
set_option maxHeartbeats 4000000 in
theorem rchg_ok(β:Base)(w:World)(hw:St β [] w)(vi va:Value)(es:ES)(hi:Sl IntF.R β.heap vi (idsE es))(ha:Sl AreaF.R β.heap va (arsE es))(hn:es.length≤1000)(vt:Value)(t:List KP)(ht:Sl PairF.R β.heap vt t)(htn:t.length≤1000000)(hok:∀a∈arsE es,okA a)(hn8:es.length≤128):Calls Tryz.prog 29 #[.agg #[vi,va,vt]] w fun r w'=>∃p c q d u e,r= .returned (.tuple #[.agg #[vi,va,.slice p ((pairsA (arsE es)).map (mapE es)).length c],.slice q (lessE ((pairsA (arsE es)).map (mapE es)) t).length d,.slice u (lessE t ((pairsA (arsE es)).map (mapE es))).length e])∧St β [rowF PairF 55 p c ((pairsA (arsE es)).map (mapE es)),rowF PairF 55 q d (lessE ((pairsA (arsE es)).map (mapE es)) t),rowF PairF 55 u e (lessE t ((pairsA (arsE es)).map (mapE es)))] w':=by
 obtain⟨via,vic,rfl,vil,vim,vie⟩:=hi.get
 obtain⟨vaa,vac,rfl,val,vam,vae⟩:=ha.get
 obtain⟨vta,vtc,rfl,vtl,vtm,vte⟩:=ht.get
 have hil:(idsE es).length=es.length:=List.length_map _
 have hal:(arsE es).length=es.length:=List.length_map _
 refine enter (n:=23) Tryz.func29 rfl Tryz.ntmps29 rfl ?_ hw
 refine c_seq ?_
 refine c_region ?_
 refine l_mv rfl rfl rfl (m_box (v:= .agg #[.slice via ((idsE es).length) (vic),.slice vaa ((arsE es).length) (vac),.slice vta (t.length) (vtc)]) rfl) ?_
 rintro _ _ ⟨b1,rfl,rfl⟩
 refine l_mv rfl rfl rfl (m_alloc tf252) ?_
 rintro _ _ ⟨b2,rfl,rfl⟩
 refine l_val (v:= .slice none 0 0) rfl rfl rfl (e_assign) ?_
 refine l_val (v:= .slice none 0 0) rfl rfl rfl (e_assign) ?_
 refine l_nil ?_
 refine f_then ?_
 refine c_seq ?_
 refine c_region ?_
 refine l_val (v:= .agg #[.slice via ((idsE es).length) (vic),.slice vaa ((arsE es).length) (vac),.slice vta (t.length) (vtc)]) rfl rfl rfl (e_load tf255 (cs:=[.slice via ((idsE es).length) (vic),.slice vaa ((arsE es).length) (vac),.slice vta (t.length) (vtc)]) rfl (k_pt 1 (cs:= #[.slice via ((idsE es).length) (vic),.slice vaa ((arsE es).length) (vac),.slice vta (t.length) (vtc)]) (vs:=[.slice via ((idsE es).length) (vic),.slice vaa ((arsE es).length) (vac),.slice vta (t.length) (vtc)]) rfl rfl) rfl) ?_
 refine l_call rfl rfl rfl (cl_value (fst:=[]) (cap:=[]) (vs:=[.agg #[.slice via ((idsE es).length) (vic),.slice vaa ((arsE es).length) (vac),.slice vta (t.length) (vtc)]]) (all:=[.agg #[.slice via ((idsE es).length) (vic),.slice vaa ((arsE es).length) (vac),.slice vta (t.length) (vtc)]]) tf261 rfl rfl rfl) ?_
 intro w hw
 obtain⟨β1,sb,kn,hw1,back⟩:=St.frame_all hw
 refine(rall_ok β1 w hw1 _ _ es (Sl.mono _ _ _ _ _ sb hi) (Sl.mono _ _ _ _ _ sb ha) (by omega) vta t.length vtc hok hn8).mono ?_
 rintro e w' ⟨p3,c4,rfl,hw'⟩
 refine⟨_,rfl,_,back _ _ hw',?_⟩
 clear hw hw1 hw' back kn sb
 refine l_val (v:= .slice p3 (((pairsA (arsE es)).map (mapE es)).length) c4) rfl rfl rfl (e_assign) ?_
 refine l_nil ?_
 refine f_then ?_
 refine c_seq ?_
 have hN:((pairsA (arsE es)).map (mapE es)).length≤16384:=by rw[List.length_map];exact pairsA_le (by omega)
 refine c_any [⟨[],[],[0],[10],fun f=>f 10= .slice p3 (((pairsA (arsE es)).map (mapE es)).length) c4⟩,⟨[],[],[1],[11],fun f=>f 11= .pointer (some ⟨b1,2,none⟩)⟩,⟨[1],[1],[],[12],fun f=>f 12= .slice vta (t.length) (vtc)⟩,⟨[0,1,2],[0,2],[],[13],fun f=>f 13= .slice (sla (f 13)) ((lessE ((pairsA (arsE es)).map (mapE es)) t).length) (slc (f 13))⟩,⟨[],[],[1],[14],fun f=>f 14= .pointer (some ⟨b1,2,none⟩)⟩,⟨[4],[4],[],[15],fun f=>f 15= .slice vta (t.length) (vtc)⟩,⟨[],[],[0],[16],fun f=>f 16= .slice p3 (((pairsA (arsE es)).map (mapE es)).length) c4⟩,⟨[0,1,2,3,4,5,6],[5,6],[],[17],fun f=>f 17= .slice (sla (f 17)) ((lessE t ((pairsA (arsE es)).map (mapE es))).length) (slc (f 17))⟩,⟨[0,1,2,3,4,5,6,7],[3],[],[6,13],fun f=>f 6= .slice (sla (f 13)) ((lessE ((pairsA (arsE es)).map (mapE es)) t).length) (slc (f 13))⟩,⟨[0,1,2,3,4,5,6,7,8],[7],[],[7,17],fun f=>f 7= .slice (sla (f 17)) ((lessE t ((pairsA (arsE es)).map (mapE es))).length) (slc (f 17))⟩] [⟨none,none,[3,7],[],fun _=>rowF PairF 55 p3 c4 ((pairsA (arsE es)).map (mapE es))⟩,⟨none,none,[],[],fun _=>pt b2 (.cells #[.slice none 0 0,.slice none 0 0,.slice none 0 0] 59)⟩,⟨none,none,[2,5],[],fun _=>pt b1 (.cells #[.slice via ((idsE es).length) (vic),.slice vaa ((arsE es).length) (vac),.slice vta (t.length) (vtc)] 59)⟩,⟨(some 3),none,[],[13],fun f=>rowF PairF 55 (sla (f 13)) (slc (f 13)) (lessE ((pairsA (arsE es)).map (mapE es)) t)⟩,⟨(some 7),none,[],[17],fun f=>rowF PairF 55 (sla (f 17)) (slc (f 17)) (lessE t ((pairsA (arsE es)).map (mapE es)))⟩] [(5,.slice p3 (((pairsA (arsE es)).map (mapE es)).length) c4),(1,.pointer (some ⟨b1,0,none⟩)),(2,.pointer (some ⟨b2,0,none⟩))] [1,2,0] [] (by kernel_rfl) (by kernel_rfl) (by kernel_rfl) (by kernel_rfl) rfl ⟨rfl,rfl,rfl,trivial⟩ ⟨?_,?_,?_,?_,?_,?_,?_,?_,?_,?_,trivial⟩ ?_
 ·rintro f M-⟨i0,-⟩
  have hs5:f 5= .slice p3 (((pairsA (arsE es)).map (mapE es)).length) c4:=i0
  refine ob_start (L':=M) (by rfl) (up_cons rfl hs5) ?_
  refine l_val (v:= .slice p3 (((pairsA (arsE es)).map (mapE es)).length) c4) rfl rfl rfl (e_move) ?_
  refine l_nil ?_
  exact f_owes_d (up_cons rfl hs5) rfl (List.Perm.refl _)
 ·rintro f M-⟨i0,-⟩
  have hs1:f 1= .pointer (some ⟨b1,0,none⟩):=i0
  refine ob_start (L':=M) (by rfl) (up_cons rfl hs1) ?_
  refine l_val (v:= .pointer (some ⟨b1,2,none⟩)) rfl rfl rfl (e_fieldPt (b:=b1) (o:=0) rfl tf253) ?_
  refine l_nil ?_
  exact f_owes_d (up_cons rfl hs1) rfl (List.Perm.refl _)
 ·rintro f M ⟨k0,-⟩-
  have hs11:f 11= .pointer (some ⟨b1,2,none⟩):=k0
  refine ob_start (L':=pt b1 (.cells #[.slice via ((idsE es).length) (vic),.slice vaa ((arsE es).length) (vac),.slice vta (t.length) (vtc)] 59)::M) (by rfl) (up_cons rfl hs11) ?_
  refine l_val (v:= .slice vta (t.length) (vtc)) rfl rfl rfl (e_load1 tf36 (v:= .slice vta (t.length) (vtc)) rfl (k_pt 0 (cs:= #[.slice via ((idsE es).length) (vic),.slice vaa ((arsE es).length) (vac),.slice vta (t.length) (vtc)]) (vs:=[.slice vta (t.length) (vtc)]) rfl rfl)) ?_
  refine l_nil ?_
  exact f_owes_d (up_cons rfl hs11) rfl (perm_front 0 rfl)
 ·rintro f M ⟨k0,k1,-⟩-
  have hs10:f 10= .slice p3 (((pairsA (arsE es)).map (mapE es)).length) c4:=k0
  have hs12:f 12= .slice vta (t.length) (vtc):=k1
  refine ob_start (L':=rowF PairF 55 p3 c4 ((pairsA (arsE es)).map (mapE es))::M) (by rfl) (up_cons (up_cons rfl hs10) hs12) ?_
  refine l_call rfl rfl rfl (cl_value (fst:=[]) (cap:=[]) (vs:=[.slice p3 (((pairsA (arsE es)).map (mapE es)).length) c4,.slice vta (t.length) (vtc)]) (all:=[.slice p3 (((pairsA (arsE es)).map (mapE es)).length) c4,.slice vta (t.length) (vtc)]) tf262 rfl rfl rfl) ?_
  intro w hw
  obtain⟨β1,sb,kn,hw1,back⟩:=St.frame_all hw
  refine(less_ok β1 w hw1 _ _ ((pairsA (arsE es)).map (mapE es)) t (kn _ (k_flN 0 (F:=PairF) (m:=((pairsA (arsE es)).map (mapE es)).length) rfl rfl)) (Sl.mono _ _ _ _ _ sb ht) (by omega)).mono ?_
  rintro e w' ⟨p7,c8,rfl,hw'⟩
  refine⟨_,rfl,_,back _ _ hw',?_⟩
  clear hw hw1 hw' back kn sb
  refine l_nil ?_
  exact f_owes_d (up_cons (up_cons rfl hs10) hs12) rfl ((perm_front 0 rfl).trans (perm_front 1 rfl))
 ·rintro f M-⟨i0,-⟩
  have hs1:f 1= .pointer (some ⟨b1,0,none⟩):=i0
  refine ob_start (L':=M) (by rfl) (up_cons rfl hs1) ?_
  refine l_val (v:= .pointer (some ⟨b1,2,none⟩)) rfl rfl rfl (e_fieldPt (b:=b1) (o:=0) rfl tf253) ?_
  refine l_nil ?_
  exact f_owes_d (up_cons rfl hs1) rfl (List.Perm.refl _)
 ·rintro f M ⟨k0,-⟩-
  have hs14:f 14= .pointer (some ⟨b1,2,none⟩):=k0
  refine ob_start (L':=pt b1 (.cells #[.slice via ((idsE es).length) (vic),.slice vaa ((arsE es).length) (vac),.slice vta (t.length) (vtc)] 59)::M) (by rfl) (up_cons rfl hs14) ?_
  refine l_val (v:= .slice vta (t.length) (vtc)) rfl rfl rfl (e_load1 tf36 (v:= .slice vta (t.length) (vtc)) rfl (k_pt 0 (cs:= #[.slice via ((idsE es).length) (vic),.slice vaa ((arsE es).length) (vac),.slice vta (t.length) (vtc)]) (vs:=[.slice vta (t.length) (vtc)]) rfl rfl)) ?_
  refine l_nil ?_
  exact f_owes_d (up_cons rfl hs14) rfl (perm_front 0 rfl)
 ·rintro f M-⟨i0,-⟩
  have hs5:f 5= .slice p3 (((pairsA (arsE es)).map (mapE es)).length) c4:=i0
  refine ob_start (L':=M) (by rfl) (up_cons rfl hs5) ?_
  refine l_val (v:= .slice p3 (((pairsA (arsE es)).map (mapE es)).length) c4) rfl rfl rfl (e_move) ?_
  refine l_nil ?_
  exact f_owes_d (up_cons rfl hs5) rfl (List.Perm.refl _)
 ·rintro f M ⟨k0,k1,-⟩-
  have hs15:f 15= .slice vta (t.length) (vtc):=k0
  have hs16:f 16= .slice p3 (((pairsA (arsE es)).map (mapE es)).length) c4:=k1
  refine ob_start (L':=rowF PairF 55 p3 c4 ((pairsA (arsE es)).map (mapE es))::M) (by rfl) (up_cons (up_cons rfl hs15) hs16) ?_
  refine l_call rfl rfl rfl (cl_value (fst:=[]) (cap:=[]) (vs:=[.slice vta (t.length) (vtc),.slice p3 (((pairsA (arsE es)).map (mapE es)).length) c4]) (all:=[.slice vta (t.length) (vtc),.slice p3 (((pairsA (arsE es)).map (mapE es)).length) c4]) tf262 rfl rfl rfl) ?_
  intro w hw
  obtain⟨β1,sb,kn,hw1,back⟩:=St.frame_all hw
  refine(less_ok β1 w hw1 _ _ t ((pairsA (arsE es)).map (mapE es)) (Sl.mono _ _ _ _ _ sb ht) (kn _ (k_flN 0 (F:=PairF) (m:=((pairsA (arsE es)).map (mapE es)).length) rfl rfl)) (by omega)).mono ?_
  rintro e w' ⟨p11,c12,rfl,hw'⟩
  refine⟨_,rfl,_,back _ _ hw',?_⟩
  clear hw hw1 hw' back kn sb
  refine l_nil ?_
  exact f_owes_d (up_cons (up_cons rfl hs15) hs16) rfl ((perm_front 0 rfl).trans (perm_front 1 rfl))
 ·rintro f M ⟨k0,-⟩-
  have hs13:f 13= .slice (sla (f 13)) ((lessE ((pairsA (arsE es)).map (mapE es)) t).length) (slc (f 13)):=k0
  refine ob_start (L':=M) (by rfl) (up_cons rfl hs13) ?_
  refine l_val (v:= .slice (sla (f 13)) ((lessE ((pairsA (arsE es)).map (mapE es)) t).length) (slc (f 13))) rfl rfl rfl (e_assign) ?_
  refine l_nil ?_
  exact f_owes_d (up_cons rfl hs13) rfl (List.Perm.refl _)
 ·rintro f M ⟨k0,-⟩-
  have hs17:f 17= .slice (sla (f 17)) ((lessE t ((pairsA (arsE es)).map (mapE es))).length) (slc (f 17)):=k0
  refine ob_start (L':=M) (by rfl) (up_cons rfl hs17) ?_
  refine l_val (v:= .slice (sla (f 17)) ((lessE t ((pairsA (arsE es)).map (mapE es))).length) (slc (f 17))) rfl rfl rfl (e_assign) ?_
  refine l_nil ?_
  exact f_owes_d (up_cons rfl hs17) rfl (List.Perm.refl _)
 rintro fa13 ⟨-,-,-,-,-,-,-,-,k8,k9,-⟩ ⟨j0,j1,j2,-⟩
 refine f_re (L':=[rowF PairF 55 p3 c4 ((pairsA (arsE es)).map (mapE es)),pt b2 (.cells #[.slice none 0 0,.slice none 0 0,.slice none 0 0] 59),pt b1 (.cells #[.slice via ((idsE es).length) (vic),.slice vaa ((arsE es).length) (vac),.slice vta (t.length) (vtc)] 59),rowF PairF 55 (sla (fa13 13)) (slc (fa13 13)) (lessE ((pairsA (arsE es)).map (mapE es)) t),rowF PairF 55 (sla (fa13 17)) (slc (fa13 17)) (lessE t ((pairsA (arsE es)).map (mapE es)))]) (by rfl) ?_
 refine f_rebase (d:=1) (v:= .pointer (some ⟨b1,0,none⟩)) j0 ?_
 refine f_rebase (d:=2) (v:= .pointer (some ⟨b2,0,none⟩)) j1 ?_
 refine f_rebase (d:=5) (v:= .slice p3 (((pairsA (arsE es)).map (mapE es)).length) c4) j2 ?_
 refine f_rebase (d:=6) (v:= .slice (sla (fa13 13)) ((lessE ((pairsA (arsE es)).map (mapE es)) t).length) (slc (fa13 13))) k8 ?_
 refine f_rebase (d:=7) (v:= .slice (sla (fa13 17)) ((lessE t ((pairsA (arsE es)).map (mapE es))).length) (slc (fa13 17))) k9 ?_
 refine f_then ?_
 refine c_seq ?_
 refine c_region ?_
 refine l_val (v:= .slice p3 (((pairsA (arsE es)).map (mapE es)).length) c4) rfl rfl rfl (e_move) ?_
 refine l_val (v:= .pointer (some ⟨b1,2,none⟩)) rfl rfl rfl (e_fieldPt (b:=b1) (o:=0) rfl tf253) ?_
 refine l_mu rfl rfl (m_store 2 tf36 (b:=b1) (o:=2) (T:=59) (cs:= #[.slice via ((idsE es).length) (vic),.slice vaa ((arsE es).length) (vac),.slice vta (t.length) (vtc)]) (cs':= #[.slice via ((idsE es).length) (vic),.slice vaa ((arsE es).length) (vac),.slice p3 (((pairsA (arsE es)).map (mapE es)).length) c4]) (v:= .slice p3 (((pairsA (arsE es)).map (mapE es)).length) c4) rfl rfl rfl rfl rfl rfl rfl) ?_
 refine l_nil ?_
 refine f_then ?_
 refine c_seq ?_
 refine c_region ?_
 refine l_val (v:= .agg #[.slice via ((idsE es).length) (vic),.slice vaa ((arsE es).length) (vac),.slice p3 (((pairsA (arsE es)).map (mapE es)).length) c4]) rfl rfl rfl (e_load tf255 (cs:=[.slice via ((idsE es).length) (vic),.slice vaa ((arsE es).length) (vac),.slice p3 (((pairsA (arsE es)).map (mapE es)).length) c4]) rfl (k_pt 2 (cs:= #[.slice via ((idsE es).length) (vic),.slice vaa ((arsE es).length) (vac),.slice p3 (((pairsA (arsE es)).map (mapE es)).length) c4]) (vs:=[.slice via ((idsE es).length) (vic),.slice vaa ((arsE es).length) (vac),.slice p3 (((pairsA (arsE es)).map (mapE es)).length) c4]) rfl rfl) rfl) ?_
 refine l_val (v:= .slice (sla (fa13 13)) ((lessE ((pairsA (arsE es)).map (mapE es)) t).length) (slc (fa13 13))) rfl rfl rfl (e_move) ?_
 refine l_val (v:= .slice (sla (fa13 17)) ((lessE t ((pairsA (arsE es)).map (mapE es))).length) (slc (fa13 17))) rfl rfl rfl (e_move) ?_
 refine l_mu rfl rfl (m_store 1 tf255 (b:=b2) (o:=0) (T:=59) (cs:= #[.slice none 0 0,.slice none 0 0,.slice none 0 0]) (cs':= #[.slice via ((idsE es).length) (vic),.slice vaa ((arsE es).length) (vac),.slice p3 (((pairsA (arsE es)).map (mapE es)).length) c4]) (v:= .agg #[.slice via ((idsE es).length) (vic),.slice vaa ((arsE es).length) (vac),.slice p3 (((pairsA (arsE es)).map (mapE es)).length) c4]) rfl rfl rfl rfl rfl rfl rfl) ?_
 refine l_val (v:= .slice (sla (fa13 13)) ((lessE ((pairsA (arsE es)).map (mapE es)) t).length) (slc (fa13 13))) rfl rfl rfl (e_assign) ?_
 refine l_val (v:= .slice (sla (fa13 17)) ((lessE t ((pairsA (arsE es)).map (mapE es))).length) (slc (fa13 17))) rfl rfl rfl (e_assign) ?_
 refine l_nil ?_
 refine f_then ?_
 refine c_ret ?_
 refine retG (l:=[.cell 2 59,.tmp 3,.tmp 4]) (m:=[.agg #[.slice via ((idsE es).length) (vic),.slice vaa ((arsE es).length) (vac),.slice p3 (((pairsA (arsE es)).map (mapE es)).length) c4],.slice (sla (fa13 13)) ((lessE ((pairsA (arsE es)).map (mapE es)) t).length) (slc (fa13 13)),.slice (sla (fa13 17)) ((lessE t ((pairsA (arsE es)).map (mapE es))).length) (slc (fa13 17))]) (v:= .tuple #[.agg #[.slice via ((idsE es).length) (vic),.slice vaa ((arsE es).length) (vac),.slice p3 (((pairsA (arsE es)).map (mapE es)).length) c4],.slice (sla (fa13 13)) ((lessE ((pairsA (arsE es)).map (mapE es)) t).length) (slc (fa13 13)),.slice (sla (fa13 17)) ((lessE t ((pairsA (arsE es)).map (mapE es))).length) (slc (fa13 17))]) Tryz.results29 ⟨rd_cell tf255 (cs:=[.slice via ((idsE es).length) (vic),.slice vaa ((arsE es).length) (vac),.slice p3 (((pairsA (arsE es)).map (mapE es)).length) c4]) rfl (k_pt 1 (cs:= #[.slice via ((idsE es).length) (vic),.slice vaa ((arsE es).length) (vac),.slice p3 (((pairsA (arsE es)).map (mapE es)).length) c4]) (vs:=[.slice via ((idsE es).length) (vic),.slice vaa ((arsE es).length) (vac),.slice p3 (((pairsA (arsE es)).map (mapE es)).length) c4]) rfl rfl) rfl,rd_tmp (v:= .slice (sla (fa13 13)) ((lessE ((pairsA (arsE es)).map (mapE es)) t).length) (slc (fa13 13))) rfl,rd_tmp (v:= .slice (sla (fa13 17)) ((lessE t ((pairsA (arsE es)).map (mapE es))).length) (slc (fa13 17))) rfl,trivial⟩ rfl ?_
 intro w hw
 replace hw:=hw.perm (L':=[rowF PairF 55 p3 c4 ((pairsA (arsE es)).map (mapE es)),rowF PairF 55 (sla (fa13 13)) (slc (fa13 13)) (lessE ((pairsA (arsE es)).map (mapE es)) t),rowF PairF 55 (sla (fa13 17)) (slc (fa13 17)) (lessE t ((pairsA (arsE es)).map (mapE es))),pt b2 (.cells #[.slice via ((idsE es).length) (vic),.slice vaa ((arsE es).length) (vac),.slice p3 (((pairsA (arsE es)).map (mapE es)).length) c4] 59),pt b1 (.cells #[.slice via ((idsE es).length) (vic),.slice vaa ((arsE es).length) (vac),.slice p3 (((pairsA (arsE es)).map (mapE es)).length) c4] 59)]) (by exact(perm_ix [0,3,4,1,2] 5 rfl (by kernel_rfl) (by kernel_rfl)))
 exact⟨p3,c4,(sla (fa13 13)),(slc (fa13 13)),(sla (fa13 17)),(slc (fa13 17)),rfl,st_mask [true,true,true,false,false] rfl hw⟩
end Go.Proofs
