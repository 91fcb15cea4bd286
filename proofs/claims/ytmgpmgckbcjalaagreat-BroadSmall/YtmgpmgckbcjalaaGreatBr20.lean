/-
 The reference's spaces: walked. Printed by a program of my own.
-/
import Derived.Test.YtmgpmgckbcjalaaGreatBr19
import Derived.Test.YtmgpmgckbcjalaaGreatBrRef
namespace Go.Brd
open Go.Sl Go.Proofs
theorem del_yes{es:ES}{i:Nat}{e:Int×KA}{id:Int}(he:es[i]? =some e)(h:e.1≠id):delE (es.take i) id++[e]=delE (es.take (i+1)) id:=by
 unfold delE
 rw[List.take_add_one,he,List.filter_append]
 simp only[Option.toList_some,List.filter_cons,List.filter_nil]
 rw[if_pos (by simpa using h)]
theorem del_skip{es:ES}{i:Nat}{e:Int×KA}{id:Int}(he:es[i]? =some e)(h:¬e.1≠id):delE (es.take i) id=delE (es.take (i+1)) id:=by
 unfold delE
 rw[List.take_add_one,he,List.filter_append]
 simp only[Option.toList_some,List.filter_cons,List.filter_nil]
 rw[if_neg (by simpa using h),List.append_nil]
theorem ids_yes{es:ES}{i:Nat}{e:Int×KA}{id:Int}(he:es[i]? =some e)(h:e.1≠id):idsE (delE (es.take i) id)++[e.1]=idsE (delE (es.take (i+1)) id):=by rw[←del_yes he h,idsE,idsE,List.map_append];rfl
theorem ars_yes{es:ES}{i:Nat}{e:Int×KA}{id:Int}(he:es[i]? =some e)(h:e.1≠id):arsE (delE (es.take i) id)++[e.2]=arsE (delE (es.take (i+1)) id):=by rw[←del_yes he h,arsE,arsE,List.map_append];rfl
theorem lessE_len(l m:List KP):(lessE l m).length≤l.length:=List.length_filter_le _ _
theorem less_yes{l m:List KP}{k:Nat}{x:KP}(hx:l[k]? =some x)(h:¬x∈m):lessE (l.take k) m++[x]=lessE (l.take (k+1)) m:=by
 unfold lessE
 rw[List.take_add_one,hx,List.filter_append]
 simp only[Option.toList_some,List.filter_cons,List.filter_nil]
 rw[if_pos (by simpa using h)]
theorem less_no{l m:List KP}{k:Nat}{x:KP}(hx:l[k]? =some x)(h:x∈m):lessE (l.take k) m=lessE (l.take (k+1)) m:=by
 unfold lessE
 rw[List.take_add_one,hx,List.filter_append]
 simp only[Option.toList_some,List.filter_cons,List.filter_nil]
 rw[if_neg (by simpa using h),List.append_nil]
theorem take_more{α:Type}{x:α}{m:List α}{j:Nat}(h:x∈m.take j):x∈m.take (j+1):=by rw[List.take_add_one];exact List.mem_append_left _ h
theorem pair_iff(x y:KP):(x.a=y.a∧x.b=y.b)↔x=y:=by cases x;cases y;simp
theorem mem_snoc{x y:KP}{m:List KP}{j:Nat}{sm:Bool}{p:Prop}[Decidable p](hy:m[j]? =some y)(h0:sm=false)(h:sm=true↔x∈m.take j)(hp:p↔x=y):decide p=true↔x∈m.take (j+1):=by
 rw[decide_eq_true_eq,hp,List.take_add_one,hy,List.mem_append,←h,h0]
 simp
theorem queryE_len(es:ES)(a:KA):(queryE es a).length≤es.length:=by unfold queryE;rw[List.length_map];exact List.length_filter_le _ _
theorem query_yes{es:ES}{i:Nat}{e:Int×KA}{a:KA}(he:es[i]? =some e)(h:meetA e.2 a):queryE (es.take i) a++[e.1]=queryE (es.take (i+1)) a:=by
 unfold queryE
 rw[List.take_add_one,he,List.filter_append,List.map_append]
 simp only[Option.toList_some,List.filter_cons,List.filter_nil]
 rw[if_pos (by simpa using h)];rfl
theorem query_no{es:ES}{i:Nat}{e:Int×KA}{a:KA}(he:es[i]? =some e)(h:¬meetA e.2 a):queryE (es.take i) a=queryE (es.take (i+1)) a:=by
 unfold queryE
 rw[List.take_add_one,he,List.filter_append,List.map_append]
 simp only[Option.toList_some,List.filter_cons,List.filter_nil]
 rw[if_neg (by simpa using h),List.map_nil,List.append_nil]
end Go.Brd
namespace Go.Proofs
open Go Go.Sl Go.Brd
theorem tf252:(Tryz.prog.info? 59).bind (·.zero)=some (.agg #[.slice none 0 0,.slice none 0 0,.slice none 0 0]):=by kernel_rfl
theorem tf253:fldB Tryz.prog 59 2 2 1 false=true:=by kernel_rfl
theorem tf254:stB Tryz.prog 59 [(0,1),(1,1),(2,1)]=true:=by kernel_rfl
theorem tf255:tyB Tryz.prog 59 true 3=true:=by kernel_rfl
theorem tf256:fldB Tryz.prog 59 0 0 1 false=true:=by kernel_rfl
theorem tf257:tyB Tryz.prog 27 false 1=true:=by kernel_rfl
theorem tf258:fldB Tryz.prog 59 1 1 1 false=true:=by kernel_rfl
theorem tf259:tyB Tryz.prog 22 false 1=true:=by kernel_rfl
set_option maxHeartbeats 4000000 in
theorem rdel_ok(β:Base)(w:World)(hw:St β [] w)(vi va:Value)(es:ES)(hi:Sl IntF.R β.heap vi (idsE es))(ha:Sl AreaF.R β.heap va (arsE es))(hn:es.length≤1000)(tp:Option Addr)(tn tc:Nat)(id:Int)(hh:hasE es id):Calls Tryz.prog 28 #[.agg #[vi,va,.slice tp tn tc],Ix id] w fun r w'=>∃p c q d,r= .returned (.tuple #[.agg #[.slice p (idsE (delE es id)).length c,.slice q (arsE (delE es id)).length d,.slice tp tn tc],Ix 0])∧St β [rowF IntF 3 p c (idsE (delE es id)),rowF AreaF 32 q d (arsE (delE es id))] w':=by
 obtain⟨via,vic,rfl,vil,vim,vie⟩:=hi.get
 obtain⟨vaa,vac,rfl,val,vam,vae⟩:=ha.get
 have hil:(idsE es).length=es.length:=List.length_map _
 have hal:(arsE es).length=es.length:=List.length_map _
 refine enter (n:=54) Tryz.func28 rfl Tryz.ntmps28 rfl ?_ hw
 refine c_seq ?_
 refine c_region ?_
 refine l_mv rfl rfl rfl (m_box (v:= .agg #[.slice via ((idsE es).length) (vic),.slice vaa ((arsE es).length) (vac),.slice tp (tn) tc]) rfl) ?_
 rintro _ _ ⟨b1,rfl,rfl⟩
 refine l_mv rfl rfl rfl (m_alloc tf252) ?_
 rintro _ _ ⟨b2,rfl,rfl⟩
 refine l_val (v:= .int .i64 (0)) rfl rfl rfl (e_assign) ?_
 refine l_nil ?_
 refine f_then ?_
 refine c_seq ?_
 refine c_region ?_
 refine l_val (v:= .pointer (some ⟨b1,2,none⟩)) rfl rfl rfl (e_fieldPt (b:=b1) (o:=0) rfl tf253) ?_
 refine l_val (v:= .slice tp (tn) tc) rfl rfl rfl (e_load1 tf36 (v:= .slice tp (tn) tc) rfl (k_pt 1 (cs:= #[.slice via ((idsE es).length) (vic),.slice vaa ((arsE es).length) (vac),.slice tp (tn) tc]) (vs:=[.slice tp (tn) tc]) rfl rfl)) ?_
 refine l_val (v:= .agg #[.slice none 0 0,.slice none 0 0,.slice tp (tn) tc]) rfl rfl rfl (e_build tf252 tf254 (vs:=[(2,.slice tp (tn) tc)]) (cells:= #[.slice none 0 0,.slice none 0 0,.slice tp (tn) tc]) rfl rfl) ?_
 refine l_mv rfl rfl rfl (m_alloc tf252) ?_
 rintro _ _ ⟨b3,rfl,rfl⟩
 refine l_mu rfl rfl (m_store 0 tf255 (b:=b3) (o:=0) (T:=59) (cs:= #[.slice none 0 0,.slice none 0 0,.slice none 0 0]) (cs':= #[.slice none 0 0,.slice none 0 0,.slice tp (tn) tc]) (v:= .agg #[.slice none 0 0,.slice none 0 0,.slice tp (tn) tc]) rfl rfl rfl rfl rfl rfl rfl) ?_
 refine l_nil ?_
 refine f_then ?_
 refine c_seq ?_
 refine c_seq ?_
 refine c_emp (r:=rowF AreaF 32 none 0 []) (row_nil _ _ _) ?_
 refine c_emp (r:=rowF IntF 3 none 0 []) (row_nil _ _ _) ?_
 refine c_region ?_
 refine l_val (v:= .int .i64 (0)) rfl rfl rfl (e_assign) ?_
 refine l_nil ?_
 refine f_then ?_
 refine c_block ?_
 refine c_loop (fun(x_:Nat×Option Addr×Nat×Option Addr×Nat) (f:Fm) (L:List Res)=>match x_ with|(i,p,c,q,d)=>(f 1=Ix (id)∧f 2= .pointer (some ⟨b1,0,none⟩)∧f 4= .pointer (some ⟨b2,0,none⟩)∧f 6= .pointer (some ⟨b3,0,none⟩)∧f 7=Nx (i))∧L=[rowF IntF 3 p c (idsE (delE (es.take i) id)),rowF AreaF 32 q d (arsE (delE (es.take i) id)),pt b3 (.cells #[.slice p ((idsE (delE (es.take i) id)).length) c,.slice q ((arsE (delE (es.take i) id)).length) d,.slice tp (tn) tc] 59),pt b2 (.cells #[.slice none 0 0,.slice none 0 0,.slice none 0 0] 59),pt b1 (.cells #[.slice via ((idsE es).length) (vic),.slice vaa ((arsE es).length) (vac),.slice tp (tn) tc] 59)]∧(i≤es.length)) (fun(x_:Nat×Option Addr×Nat×Option Addr×Nat)=>match x_ with|(i,p,c,q,d)=>es.length-i) (0,none,0,none,0) ?_ ?_
 ·exact⟨⟨rfl,rfl,rfl,rfl,rfl⟩,rfl,by omega⟩
 rintro⟨i,p,c,q,d⟩ f0 L0 ⟨⟨hs1,hs2,hs4,hs6,hs7⟩,hL,hk⟩
 subst L0
 refine rebase (d:=1) hs1 ?_
 refine rebase (d:=2) hs2 ?_
 refine rebase (d:=4) hs4 ?_
 refine rebase (d:=6) hs6 ?_
 refine rebase (d:=7) hs7 ?_
 clear hs1 hs2 hs4 hs6 hs7
 have hdl:=delE_len (es.take i) id
 rw[List.length_take]at hdl
 have hdi:(idsE (delE (es.take i) id)).length=(delE (es.take i) id).length:=List.length_map _
 have hda:(arsE (delE (es.take i) id)).length=(delE (es.take i) id).length:=List.length_map _
 refine c_seq ?_
 refine c_seq ?_
 refine c_region ?_
 refine l_val (v:=Nx (i)) rfl rfl rfl (e_move) ?_
 refine l_val (v:= .pointer (some ⟨b1,0,none⟩)) rfl rfl rfl (e_fieldPt (b:=b1) (o:=0) rfl tf256) ?_
 refine l_val (v:= .slice via ((idsE es).length) (vic)) rfl rfl rfl (e_load1 tf257 (v:= .slice via ((idsE es).length) (vic)) rfl (k_pt 4 (cs:= #[.slice via ((idsE es).length) (vic),.slice vaa ((arsE es).length) (vac),.slice tp (tn) tc]) (vs:=[.slice via ((idsE es).length) (vic)]) rfl rfl)) ?_
 refine l_val (v:=Nx ((idsE es).length)) rfl rfl rfl (e_len (a:=via) (n:=(idsE es).length) (c:=vic) rfl tf15) ?_
 refine l_val (v:= .bool (decide (((i:Nat):Int)<(((idsE es).length:Nat):Int)))) rfl rfl rfl (e_lss (a:=((i:Nat):Int)) (b:=(((idsE es).length:Nat):Int)) rfl rfl) ?_
 refine l_nil ?_
 refine f_then ?_
 refine c_if (((i:Nat):Int)<(((idsE es).length:Nat):Int)) rfl (fun hc4=> ?_) (fun hc4=> ?_)
 ·
  refine c_skip ?_
  refine f_then ?_
  refine c_seq ?_
  refine c_block ?_
  refine c_seq ?_
  obtain⟨e,he⟩:∃e_,es[i]? =some e_:=⟨_,List.getElem?_eq_getElem (by omega)⟩
  have hei:(idsE es)[i]? =some e.1:=by rw[List.getElem?_map,he];rfl
  have hea:(arsE es)[i]? =some e.2:=by rw[List.getElem?_map,he];rfl
  obtain⟨hi1,ci1,hi2,rfl⟩:=vie _ _ hei
  obtain⟨ha1,ca1,ha2,rfl⟩:=vae _ _ hea
  refine c_region ?_
  refine l_val (v:= .pointer (some ⟨b1,0,none⟩)) rfl rfl rfl (e_fieldPt (b:=b1) (o:=0) rfl tf256) ?_
  refine l_val (v:= .slice via ((idsE es).length) (vic)) rfl rfl rfl (e_load1 tf257 (v:= .slice via ((idsE es).length) (vic)) rfl (k_pt 4 (cs:= #[.slice via ((idsE es).length) (vic),.slice vaa ((arsE es).length) (vac),.slice tp (tn) tc]) (vs:=[.slice via ((idsE es).length) (vic)]) rfl rfl)) ?_
  refine l_val (v:=Nx (i)) rfl rfl rfl (e_move) ?_
  refine l_val (v:= .pointer (some ((ba via).add (i*1)))) rfl rfl rfl (e_indexAddr (k:=i) (len:=(idsE es).length) (cap:=vic) (a:=via) rfl rfl tf16 (by omega) hi1) ?_
  refine l_val (v:=Ix (e.1)) rfl rfl rfl (e_load1 tf2 (v:=Ix (e.1)) rfl (Knows.of_base (Cs.mono _ _) hi2)) ?_
  refine l_val (v:=Ix (id)) rfl rfl rfl (e_move) ?_
  refine l_val (v:= .bool (decide ((e.1)≠(id)))) rfl rfl rfl (e_neq (a:=(e.1)) (b:=(id)) rfl rfl) ?_
  refine l_nil ?_
  refine f_then ?_
  refine c_if ((e.1)≠(id)) rfl (fun hc5=> ?_) (fun hc5=> ?_)
  ·
   refine c_seq ?_
   refine c_any [⟨[],[],[0],[25],fun f=>f 25= .pointer (some ⟨b3,0,none⟩)⟩,⟨[0],[0],[],[26],fun f=>f 26= .slice p ((idsE (delE (es.take i) id)).length) c⟩,⟨[],[],[1],[27],fun f=>f 27= .pointer (some ⟨b1,0,none⟩)⟩,⟨[2],[2],[],[28],fun f=>f 28= .slice via ((idsE es).length) (vic)⟩,⟨[],[],[2],[29],fun f=>f 29=Nx (i)⟩,⟨[2,3,4],[3,4],[],[30],fun f=>f 30= .pointer (some ((ba via).add (i*1)))⟩,⟨[2,3,4,5],[5],[],[31],fun f=>f 31=Ix (e.1)⟩,⟨[2,3,4,5,6],[6],[],[32],fun f=>f 32= .slice (some ⟨(blk (f 32)),0,none⟩) 1 1⟩,⟨[0,1,2,3,4,5,6,7],[1,7],[],[33],fun f=>f 33= .slice (sla (f 33)) (((idsE (delE (es.take i) id))++[e.1]).length) (slc (f 33))⟩,⟨[0,1,2,3,4,5,6,7,8],[],[0],[34],fun f=>f 34= .pointer (some ⟨b3,0,none⟩)⟩,⟨[0,1,2,3,4,5,6,7,8,9],[9,8],[],[],fun _=>True⟩] [⟨none,(some 8),[8],[],fun _=>rowF IntF 3 p c (idsE (delE (es.take i) id))⟩,⟨none,none,[],[],fun _=>rowF AreaF 32 q d (arsE (delE (es.take i) id))⟩,⟨none,(some 10),[1,10],[],fun _=>pt b3 (.cells #[.slice p ((idsE (delE (es.take i) id)).length) c,.slice q ((arsE (delE (es.take i) id)).length) d,.slice tp (tn) tc] 59)⟩,⟨none,none,[],[],fun _=>pt b2 (.cells #[.slice none 0 0,.slice none 0 0,.slice none 0 0] 59)⟩,⟨none,none,[3],[],fun _=>pt b1 (.cells #[.slice via ((idsE es).length) (vic),.slice vaa ((arsE es).length) (vac),.slice tp (tn) tc] 59)⟩,⟨(some 7),none,[8],[32],fun f=>pt (blk (f 32)) (.cells #[Ix (e.1)] 3)⟩,⟨(some 8),none,[],[33],fun f=>rowF IntF 3 (sla (f 33)) (slc (f 33)) ((idsE (delE (es.take i) id))++[e.1])⟩,⟨(some 10),none,[],[33],fun f=>pt b3 (.cells #[.slice (sla (f 33)) (((idsE (delE (es.take i) id))++[e.1]).length) (slc (f 33)),.slice q ((arsE (delE (es.take i) id)).length) d,.slice tp (tn) tc] 59)⟩] [(6,.pointer (some ⟨b3,0,none⟩)),(2,.pointer (some ⟨b1,0,none⟩)),(7,Nx (i)),(1,Ix (id)),(4,.pointer (some ⟨b2,0,none⟩))] [3,1,4,0,2] [] (by kernel_rfl) (by kernel_rfl) (by kernel_rfl) (by kernel_rfl) rfl ⟨rfl,rfl,rfl,rfl,rfl,trivial⟩ ⟨?_,?_,?_,?_,?_,?_,?_,?_,?_,?_,?_,trivial⟩ ?_
   ·rintro f M-⟨i0,-⟩
    have hs6:f 6= .pointer (some ⟨b3,0,none⟩):=i0
    refine ob_start (L':=M) (by rfl) (up_cons rfl hs6) ?_
    refine l_val (v:= .pointer (some ⟨b3,0,none⟩)) rfl rfl rfl (e_fieldPt (b:=b3) (o:=0) rfl tf256) ?_
    refine l_nil ?_
    exact f_owes_d (up_cons rfl hs6) rfl (List.Perm.refl _)
   ·rintro f M ⟨k0,-⟩-
    have hs25:f 25= .pointer (some ⟨b3,0,none⟩):=k0
    refine ob_start (L':=pt b3 (.cells #[.slice p ((idsE (delE (es.take i) id)).length) c,.slice q ((arsE (delE (es.take i) id)).length) d,.slice tp (tn) tc] 59)::M) (by rfl) (up_cons rfl hs25) ?_
    refine l_val (v:= .slice p ((idsE (delE (es.take i) id)).length) c) rfl rfl rfl (e_load1 tf257 (v:= .slice p ((idsE (delE (es.take i) id)).length) c) rfl (k_pt 0 (cs:= #[.slice p ((idsE (delE (es.take i) id)).length) c,.slice q ((arsE (delE (es.take i) id)).length) d,.slice tp (tn) tc]) (vs:=[.slice p ((idsE (delE (es.take i) id)).length) c]) rfl rfl)) ?_
    refine l_nil ?_
    exact f_owes_d (up_cons rfl hs25) rfl (perm_front 0 rfl)
   ·rintro f M-⟨i0,-⟩
    have hs2:f 2= .pointer (some ⟨b1,0,none⟩):=i0
    refine ob_start (L':=M) (by rfl) (up_cons rfl hs2) ?_
    refine l_val (v:= .pointer (some ⟨b1,0,none⟩)) rfl rfl rfl (e_fieldPt (b:=b1) (o:=0) rfl tf256) ?_
    refine l_nil ?_
    exact f_owes_d (up_cons rfl hs2) rfl (List.Perm.refl _)
   ·rintro f M ⟨k0,-⟩-
    have hs27:f 27= .pointer (some ⟨b1,0,none⟩):=k0
    refine ob_start (L':=pt b1 (.cells #[.slice via ((idsE es).length) (vic),.slice vaa ((arsE es).length) (vac),.slice tp (tn) tc] 59)::M) (by rfl) (up_cons rfl hs27) ?_
    refine l_val (v:= .slice via ((idsE es).length) (vic)) rfl rfl rfl (e_load1 tf257 (v:= .slice via ((idsE es).length) (vic)) rfl (k_pt 0 (cs:= #[.slice via ((idsE es).length) (vic),.slice vaa ((arsE es).length) (vac),.slice tp (tn) tc]) (vs:=[.slice via ((idsE es).length) (vic)]) rfl rfl)) ?_
    refine l_nil ?_
    exact f_owes_d (up_cons rfl hs27) rfl (perm_front 0 rfl)
   ·rintro f M-⟨i0,-⟩
    have hs7:f 7=Nx (i):=i0
    refine ob_start (L':=M) (by rfl) (up_cons rfl hs7) ?_
    refine l_val (v:=Nx (i)) rfl rfl rfl (e_move) ?_
    refine l_nil ?_
    exact f_owes_d (up_cons rfl hs7) rfl (List.Perm.refl _)
   ·rintro f M ⟨k0,k1,-⟩-
    have hs28:f 28= .slice via ((idsE es).length) (vic):=k0
    have hs29:f 29=Nx (i):=k1
    refine ob_start (L':=M) (by rfl) (up_cons (up_cons rfl hs28) hs29) ?_
    refine l_val (v:= .pointer (some ((ba via).add (i*1)))) rfl rfl rfl (e_indexAddr (k:=i) (len:=(idsE es).length) (cap:=vic) (a:=via) rfl rfl tf16 (by omega) hi1) ?_
    refine l_nil ?_
    exact f_owes_d (up_cons (up_cons rfl hs28) hs29) rfl (List.Perm.refl _)
   ·rintro f M ⟨k0,-⟩-
    have hs30:f 30= .pointer (some ((ba via).add (i*1))):=k0
    refine ob_start (L':=M) (by rfl) (up_cons rfl hs30) ?_
    refine l_val (v:=Ix (e.1)) rfl rfl rfl (e_load1 tf2 (v:=Ix (e.1)) rfl (Knows.of_base (Cs.mono _ _) hi2)) ?_
    refine l_nil ?_
    exact f_owes_d (up_cons rfl hs30) rfl (List.Perm.refl _)
   ·rintro f M ⟨k0,-⟩-
    have hs31:f 31=Ix (e.1):=k0
    refine ob_start (L':=M) (by rfl) (up_cons rfl hs31) ?_
    refine l_mv rfl rfl rfl (m_slices tf16 tf21 (vs:=[(0,Ix (e.1))]) (cells:= #[Ix (e.1)]) rfl rfl rfl rfl) ?_
    rintro _ _ ⟨b7,rfl,rfl⟩
    refine l_nil ?_
    exact f_owes_d (up_cons rfl hs31) rfl (perm_front 0 rfl)
   ·rintro f M ⟨k0,k1,-⟩-
    have hs26:f 26= .slice p ((idsE (delE (es.take i) id)).length) c:=k0
    have hs32:f 32= .slice (some ⟨(blk (f 32)),0,none⟩) 1 1:=k1
    refine ob_start (L':=rowF IntF 3 p c (idsE (delE (es.take i) id))::pt (blk (f 32)) (.cells #[Ix (e.1)] 3)::M) (by rfl) (up_cons (up_cons rfl hs26) hs32) ?_
    refine l_mv rfl rfl rfl (m_appendFlN (F:=IntF) 0 tf16 tf56 (p:=p) (m:=(idsE (delE (es.take i) id)).length) (xs:=(idsE (delE (es.take i) id))) (ys:=[e.1]) (ao:=(some ⟨(blk (f 32)),0,none⟩)) (k:=1) (c:=1) rfl rfl rfl rfl rfl (k_ptFl (z:=e.1) 1 rfl rfl) (by first|omega|simp only[List.length_nil,List.length_cons,List.length_append,List.length_set];omega) (by first|omega|simp only[List.length_nil,List.length_cons,List.length_append,List.length_set];omega)) ?_
    rintro _ _ ⟨rp10,rc11,rfl,rfl⟩
    refine l_nil ?_
    exact f_owes_d (up_cons (up_cons rfl hs26) hs32) rfl ((perm_front 0 rfl).trans (perm_front 1 rfl))
   ·rintro f M-⟨i0,-⟩
    have hs6:f 6= .pointer (some ⟨b3,0,none⟩):=i0
    refine ob_start (L':=M) (by rfl) (up_cons rfl hs6) ?_
    refine l_val (v:= .pointer (some ⟨b3,0,none⟩)) rfl rfl rfl (e_fieldPt (b:=b3) (o:=0) rfl tf256) ?_
    refine l_nil ?_
    exact f_owes_d (up_cons rfl hs6) rfl (List.Perm.refl _)
   ·rintro f M ⟨k0,k1,-⟩-
    have hs34:f 34= .pointer (some ⟨b3,0,none⟩):=k0
    have hs33:f 33= .slice (sla (f 33)) (((idsE (delE (es.take i) id))++[e.1]).length) (slc (f 33)):=k1
    refine ob_start (L':=pt b3 (.cells #[.slice p ((idsE (delE (es.take i) id)).length) c,.slice q ((arsE (delE (es.take i) id)).length) d,.slice tp (tn) tc] 59)::M) (by rfl) (up_cons (up_cons rfl hs34) hs33) ?_
    refine l_mu rfl rfl (m_store 0 tf257 (b:=b3) (o:=0) (T:=59) (cs:= #[.slice p ((idsE (delE (es.take i) id)).length) c,.slice q ((arsE (delE (es.take i) id)).length) d,.slice tp (tn) tc]) (cs':= #[.slice (sla (f 33)) (((idsE (delE (es.take i) id))++[e.1]).length) (slc (f 33)),.slice q ((arsE (delE (es.take i) id)).length) d,.slice tp (tn) tc]) (v:= .slice (sla (f 33)) (((idsE (delE (es.take i) id))++[e.1]).length) (slc (f 33))) rfl rfl rfl rfl rfl rfl rfl) ?_
    refine l_nil ?_
    exact f_owes_n (up_cons (up_cons rfl hs34) hs33) trivial (perm_front 0 rfl)
   rintro fa12 ⟨-,-,-,-,-,-,-,-,-,-,-,-⟩ ⟨j0,j1,j2,j3,j4,-⟩
   refine f_re (L':=[rowF AreaF 32 q d (arsE (delE (es.take i) id)),pt b2 (.cells #[.slice none 0 0,.slice none 0 0,.slice none 0 0] 59),pt b1 (.cells #[.slice via ((idsE es).length) (vic),.slice vaa ((arsE es).length) (vac),.slice tp (tn) tc] 59),pt (blk (fa12 32)) (.cells #[Ix (e.1)] 3),rowF IntF 3 (sla (fa12 33)) (slc (fa12 33)) ((idsE (delE (es.take i) id))++[e.1]),pt b3 (.cells #[.slice (sla (fa12 33)) (((idsE (delE (es.take i) id))++[e.1]).length) (slc (fa12 33)),.slice q ((arsE (delE (es.take i) id)).length) d,.slice tp (tn) tc] 59)]) (by rfl) ?_
   refine f_rebase (d:=1) (v:=Ix (id)) j0 ?_
   refine f_rebase (d:=2) (v:= .pointer (some ⟨b1,0,none⟩)) j1 ?_
   refine f_rebase (d:=4) (v:= .pointer (some ⟨b2,0,none⟩)) j2 ?_
   refine f_rebase (d:=6) (v:= .pointer (some ⟨b3,0,none⟩)) j3 ?_
   refine f_rebase (d:=7) (v:=Nx (i)) j4 ?_
   refine f_then ?_
   refine c_any [⟨[],[],[0],[35],fun f=>f 35= .pointer (some ⟨b3,1,none⟩)⟩,⟨[0],[0],[],[36],fun f=>f 36= .slice q ((arsE (delE (es.take i) id)).length) d⟩,⟨[],[],[1],[37],fun f=>f 37= .pointer (some ⟨b1,1,none⟩)⟩,⟨[2],[2],[],[38],fun f=>f 38= .slice vaa ((arsE es).length) (vac)⟩,⟨[],[],[2],[39],fun f=>f 39=Nx (i)⟩,⟨[2,3,4],[3,4],[],[40],fun f=>f 40= .pointer (some ((ba vaa).add (i*4)))⟩,⟨[2,3,4,5],[5],[],[41],fun f=>f 41= .agg (aC e.2)⟩,⟨[2,3,4,5,6],[6],[],[42],fun f=>f 42= .slice (some ⟨(blk (f 42)),0,none⟩) 1 1⟩,⟨[0,1,2,3,4,5,6,7],[1,7],[],[43],fun f=>f 43= .slice (sla (f 43)) (((arsE (delE (es.take i) id))++[e.2]).length) (slc (f 43))⟩,⟨[0,1,2,3,4,5,6,7,8],[],[0],[44],fun f=>f 44= .pointer (some ⟨b3,1,none⟩)⟩,⟨[0,1,2,3,4,5,6,7,8,9],[9,8],[],[],fun _=>True⟩] [⟨none,(some 8),[8],[],fun _=>rowF AreaF 32 q d (arsE (delE (es.take i) id))⟩,⟨none,none,[],[],fun _=>pt b2 (.cells #[.slice none 0 0,.slice none 0 0,.slice none 0 0] 59)⟩,⟨none,none,[3],[],fun _=>pt b1 (.cells #[.slice via ((idsE es).length) (vic),.slice vaa ((arsE es).length) (vac),.slice tp (tn) tc] 59)⟩,⟨none,none,[],[],fun _=>pt (blk (fa12 32)) (.cells #[Ix (e.1)] 3)⟩,⟨none,none,[],[],fun _=>rowF IntF 3 (sla (fa12 33)) (slc (fa12 33)) ((idsE (delE (es.take i) id))++[e.1])⟩,⟨none,(some 10),[1,10],[],fun _=>pt b3 (.cells #[.slice (sla (fa12 33)) (((idsE (delE (es.take i) id))++[e.1]).length) (slc (fa12 33)),.slice q ((arsE (delE (es.take i) id)).length) d,.slice tp (tn) tc] 59)⟩,⟨(some 7),none,[8],[42],fun f=>pt (blk (f 42)) (.cells (aC e.2) 32)⟩,⟨(some 8),none,[],[43],fun f=>rowF AreaF 32 (sla (f 43)) (slc (f 43)) ((arsE (delE (es.take i) id))++[e.2])⟩,⟨(some 10),none,[],[43],fun f=>pt b3 (.cells #[.slice (sla (fa12 33)) (((idsE (delE (es.take i) id))++[e.1]).length) (slc (fa12 33)),.slice (sla (f 43)) (((arsE (delE (es.take i) id))++[e.2]).length) (slc (f 43)),.slice tp (tn) tc] 59)⟩] [(6,.pointer (some ⟨b3,0,none⟩)),(2,.pointer (some ⟨b1,0,none⟩)),(7,Nx (i)),(1,Ix (id)),(4,.pointer (some ⟨b2,0,none⟩))] [3,1,4,0,2] [] (by kernel_rfl) (by kernel_rfl) (by kernel_rfl) (by kernel_rfl) rfl ⟨rfl,rfl,rfl,rfl,rfl,trivial⟩ ⟨?_,?_,?_,?_,?_,?_,?_,?_,?_,?_,?_,trivial⟩ ?_
   ·rintro f M-⟨i0,-⟩
    have hs6:f 6= .pointer (some ⟨b3,0,none⟩):=i0
    refine ob_start (L':=M) (by rfl) (up_cons rfl hs6) ?_
    refine l_val (v:= .pointer (some ⟨b3,1,none⟩)) rfl rfl rfl (e_fieldPt (b:=b3) (o:=0) rfl tf258) ?_
    refine l_nil ?_
    exact f_owes_d (up_cons rfl hs6) rfl (List.Perm.refl _)
   ·rintro f M ⟨k0,-⟩-
    have hs35:f 35= .pointer (some ⟨b3,1,none⟩):=k0
    refine ob_start (L':=pt b3 (.cells #[.slice (sla (fa12 33)) (((idsE (delE (es.take i) id))++[e.1]).length) (slc (fa12 33)),.slice q ((arsE (delE (es.take i) id)).length) d,.slice tp (tn) tc] 59)::M) (by rfl) (up_cons rfl hs35) ?_
    refine l_val (v:= .slice q ((arsE (delE (es.take i) id)).length) d) rfl rfl rfl (e_load1 tf259 (v:= .slice q ((arsE (delE (es.take i) id)).length) d) rfl (k_pt 0 (cs:= #[.slice (sla (fa12 33)) (((idsE (delE (es.take i) id))++[e.1]).length) (slc (fa12 33)),.slice q ((arsE (delE (es.take i) id)).length) d,.slice tp (tn) tc]) (vs:=[.slice q ((arsE (delE (es.take i) id)).length) d]) rfl rfl)) ?_
    refine l_nil ?_
    exact f_owes_d (up_cons rfl hs35) rfl (perm_front 0 rfl)
   ·rintro f M-⟨i0,-⟩
    have hs2:f 2= .pointer (some ⟨b1,0,none⟩):=i0
    refine ob_start (L':=M) (by rfl) (up_cons rfl hs2) ?_
    refine l_val (v:= .pointer (some ⟨b1,1,none⟩)) rfl rfl rfl (e_fieldPt (b:=b1) (o:=0) rfl tf258) ?_
    refine l_nil ?_
    exact f_owes_d (up_cons rfl hs2) rfl (List.Perm.refl _)
   ·rintro f M ⟨k0,-⟩-
    have hs37:f 37= .pointer (some ⟨b1,1,none⟩):=k0
    refine ob_start (L':=pt b1 (.cells #[.slice via ((idsE es).length) (vic),.slice vaa ((arsE es).length) (vac),.slice tp (tn) tc] 59)::M) (by rfl) (up_cons rfl hs37) ?_
    refine l_val (v:= .slice vaa ((arsE es).length) (vac)) rfl rfl rfl (e_load1 tf259 (v:= .slice vaa ((arsE es).length) (vac)) rfl (k_pt 0 (cs:= #[.slice via ((idsE es).length) (vic),.slice vaa ((arsE es).length) (vac),.slice tp (tn) tc]) (vs:=[.slice vaa ((arsE es).length) (vac)]) rfl rfl)) ?_
    refine l_nil ?_
    exact f_owes_d (up_cons rfl hs37) rfl (perm_front 0 rfl)
   ·rintro f M-⟨i0,-⟩
    have hs7:f 7=Nx (i):=i0
    refine ob_start (L':=M) (by rfl) (up_cons rfl hs7) ?_
    refine l_val (v:=Nx (i)) rfl rfl rfl (e_move) ?_
    refine l_nil ?_
    exact f_owes_d (up_cons rfl hs7) rfl (List.Perm.refl _)
   ·rintro f M ⟨k0,k1,-⟩-
    have hs38:f 38= .slice vaa ((arsE es).length) (vac):=k0
    have hs39:f 39=Nx (i):=k1
    refine ob_start (L':=M) (by rfl) (up_cons (up_cons rfl hs38) hs39) ?_
    refine l_val (v:= .pointer (some ((ba vaa).add (i*4)))) rfl rfl rfl (e_indexAddr (k:=i) (len:=(arsE es).length) (cap:=vac) (a:=vaa) rfl rfl tf43 (by omega) ha1) ?_
    refine l_nil ?_
    exact f_owes_d (up_cons (up_cons rfl hs38) hs39) rfl (List.Perm.refl _)
   ·rintro f M ⟨k0,-⟩-
    have hs40:f 40= .pointer (some ((ba vaa).add (i*4))):=k0
    refine ob_start (L':=M) (by rfl) (up_cons rfl hs40) ?_
    refine l_val (v:= .agg (aC e.2)) rfl rfl rfl (e_load tf10 (cs:=(areaE e.2)) rfl (Knows.of_base (Cs.mono _ _) ha2) rfl) ?_
    refine l_nil ?_
    exact f_owes_d (up_cons rfl hs40) rfl (List.Perm.refl _)
   ·rintro f M ⟨k0,-⟩-
    have hs41:f 41= .agg (aC e.2):=k0
    refine ob_start (L':=M) (by rfl) (up_cons rfl hs41) ?_
    refine l_mv rfl rfl rfl (m_slices tf43 tf6 (vs:=[(0,.agg (aC e.2))]) (cells:=(aC e.2)) rfl rfl rfl rfl) ?_
    rintro _ _ ⟨b14,rfl,rfl⟩
    refine l_nil ?_
    exact f_owes_d (up_cons rfl hs41) rfl (perm_front 0 rfl)
   ·rintro f M ⟨k0,k1,-⟩-
    have hs36:f 36= .slice q ((arsE (delE (es.take i) id)).length) d:=k0
    have hs42:f 42= .slice (some ⟨(blk (f 42)),0,none⟩) 1 1:=k1
    refine ob_start (L':=rowF AreaF 32 q d (arsE (delE (es.take i) id))::pt (blk (f 42)) (.cells (aC e.2) 32)::M) (by rfl) (up_cons (up_cons rfl hs36) hs42) ?_
    refine l_mv rfl rfl rfl (m_appendFlN (F:=AreaF) 0 tf43 tf97 (p:=q) (m:=(arsE (delE (es.take i) id)).length) (xs:=(arsE (delE (es.take i) id))) (ys:=[e.2]) (ao:=(some ⟨(blk (f 42)),0,none⟩)) (k:=1) (c:=1) rfl rfl rfl rfl rfl (k_ptFl (z:=e.2) 1 rfl rfl) (by first|omega|simp only[List.length_nil,List.length_cons,List.length_append,List.length_set];omega) (by first|omega|simp only[List.length_nil,List.length_cons,List.length_append,List.length_set];omega)) ?_
    rintro _ _ ⟨rp17,rc18,rfl,rfl⟩
    refine l_nil ?_
    exact f_owes_d (up_cons (up_cons rfl hs36) hs42) rfl ((perm_front 0 rfl).trans (perm_front 1 rfl))
   ·rintro f M-⟨i0,-⟩
    have hs6:f 6= .pointer (some ⟨b3,0,none⟩):=i0
    refine ob_start (L':=M) (by rfl) (up_cons rfl hs6) ?_
    refine l_val (v:= .pointer (some ⟨b3,1,none⟩)) rfl rfl rfl (e_fieldPt (b:=b3) (o:=0) rfl tf258) ?_
    refine l_nil ?_
    exact f_owes_d (up_cons rfl hs6) rfl (List.Perm.refl _)
   ·rintro f M ⟨k0,k1,-⟩-
    have hs44:f 44= .pointer (some ⟨b3,1,none⟩):=k0
    have hs43:f 43= .slice (sla (f 43)) (((arsE (delE (es.take i) id))++[e.2]).length) (slc (f 43)):=k1
    refine ob_start (L':=pt b3 (.cells #[.slice (sla (fa12 33)) (((idsE (delE (es.take i) id))++[e.1]).length) (slc (fa12 33)),.slice q ((arsE (delE (es.take i) id)).length) d,.slice tp (tn) tc] 59)::M) (by rfl) (up_cons (up_cons rfl hs44) hs43) ?_
    refine l_mu rfl rfl (m_store 0 tf259 (b:=b3) (o:=1) (T:=59) (cs:= #[.slice (sla (fa12 33)) (((idsE (delE (es.take i) id))++[e.1]).length) (slc (fa12 33)),.slice q ((arsE (delE (es.take i) id)).length) d,.slice tp (tn) tc]) (cs':= #[.slice (sla (fa12 33)) (((idsE (delE (es.take i) id))++[e.1]).length) (slc (fa12 33)),.slice (sla (f 43)) (((arsE (delE (es.take i) id))++[e.2]).length) (slc (f 43)),.slice tp (tn) tc]) (v:= .slice (sla (f 43)) (((arsE (delE (es.take i) id))++[e.2]).length) (slc (f 43))) rfl rfl rfl rfl rfl rfl rfl) ?_
    refine l_nil ?_
    exact f_owes_n (up_cons (up_cons rfl hs44) hs43) trivial (perm_front 0 rfl)
   rintro fa19 ⟨-,-,-,-,-,-,-,-,-,-,-,-⟩ ⟨j0,j1,j2,j3,j4,-⟩
   refine f_re (L':=[pt b2 (.cells #[.slice none 0 0,.slice none 0 0,.slice none 0 0] 59),pt b1 (.cells #[.slice via ((idsE es).length) (vic),.slice vaa ((arsE es).length) (vac),.slice tp (tn) tc] 59),pt (blk (fa12 32)) (.cells #[Ix (e.1)] 3),rowF IntF 3 (sla (fa12 33)) (slc (fa12 33)) ((idsE (delE (es.take i) id))++[e.1]),pt (blk (fa19 42)) (.cells (aC e.2) 32),rowF AreaF 32 (sla (fa19 43)) (slc (fa19 43)) ((arsE (delE (es.take i) id))++[e.2]),pt b3 (.cells #[.slice (sla (fa12 33)) (((idsE (delE (es.take i) id))++[e.1]).length) (slc (fa12 33)),.slice (sla (fa19 43)) (((arsE (delE (es.take i) id))++[e.2]).length) (slc (fa19 43)),.slice tp (tn) tc] 59)]) (by rfl) ?_
   refine f_rebase (d:=1) (v:=Ix (id)) j0 ?_
   refine f_rebase (d:=2) (v:= .pointer (some ⟨b1,0,none⟩)) j1 ?_
   refine f_rebase (d:=4) (v:= .pointer (some ⟨b2,0,none⟩)) j2 ?_
   refine f_rebase (d:=6) (v:= .pointer (some ⟨b3,0,none⟩)) j3 ?_
   refine f_rebase (d:=7) (v:=Nx (i)) j4 ?_
   refine f_block ?_
   refine f_then ?_
   refine c_region ?_
   refine l_val (v:=Nx (i)) rfl rfl rfl (e_move) ?_
   refine l_val (v:=Nx (i+1)) rfl rfl rfl (e_add (a:=((i:Nat):Int)) (b:=(1:Int)) rfl rfl (i64n (by omega) (by omega))) ?_
   refine l_val (v:=Nx (i+1)) rfl rfl rfl (e_assign) ?_
   refine l_nil ?_
   refine f_perm (L':=[rowF IntF 3 (sla (fa12 33)) (slc (fa12 33)) ((idsE (delE (es.take i) id))++[e.1]),rowF AreaF 32 (sla (fa19 43)) (slc (fa19 43)) ((arsE (delE (es.take i) id))++[e.2]),pt b3 (.cells #[.slice (sla (fa12 33)) (((idsE (delE (es.take i) id))++[e.1]).length) (slc (fa12 33)),.slice (sla (fa19 43)) (((arsE (delE (es.take i) id))++[e.2]).length) (slc (fa19 43)),.slice tp (tn) tc] 59),pt b2 (.cells #[.slice none 0 0,.slice none 0 0,.slice none 0 0] 59),pt b1 (.cells #[.slice via ((idsE es).length) (vic),.slice vaa ((arsE es).length) (vac),.slice tp (tn) tc] 59),pt (blk (fa12 32)) (.cells #[Ix (e.1)] 3),pt (blk (fa19 42)) (.cells (aC e.2) 32)]) (perm_ix [3,5,6,0,1,2,4] 7 rfl (by kernel_rfl) (by kernel_rfl)) ?_
   refine f_mask (L':=[rowF IntF 3 (sla (fa12 33)) (slc (fa12 33)) ((idsE (delE (es.take i) id))++[e.1]),rowF AreaF 32 (sla (fa19 43)) (slc (fa19 43)) ((arsE (delE (es.take i) id))++[e.2]),pt b3 (.cells #[.slice (sla (fa12 33)) (((idsE (delE (es.take i) id))++[e.1]).length) (slc (fa12 33)),.slice (sla (fa19 43)) (((arsE (delE (es.take i) id))++[e.2]).length) (slc (fa19 43)),.slice tp (tn) tc] 59),pt b2 (.cells #[.slice none 0 0,.slice none 0 0,.slice none 0 0] 59),pt b1 (.cells #[.slice via ((idsE es).length) (vic),.slice vaa ((arsE es).length) (vac),.slice tp (tn) tc] 59)]) [true,true,true,true,true,false,false] rfl ?_
   exact f_cut ⟨(i+1,(sla (fa12 33)),(slc (fa12 33)),(sla (fa19 43)),(slc (fa19 43))),⟨⟨rfl,rfl,rfl,rfl,rfl⟩,by rw[ids_yes he hc5,ars_yes he hc5],by omega⟩,(show es.length-(i+1)<es.length-i from by omega)⟩
  ·
   refine c_skip ?_
   refine f_block ?_
   refine f_then ?_
   refine c_region ?_
   refine l_val (v:=Nx (i)) rfl rfl rfl (e_move) ?_
   refine l_val (v:=Nx (i+1)) rfl rfl rfl (e_add (a:=((i:Nat):Int)) (b:=(1:Int)) rfl rfl (i64n (by omega) (by omega))) ?_
   refine l_val (v:=Nx (i+1)) rfl rfl rfl (e_assign) ?_
   refine l_nil ?_
   exact f_cut ⟨(i+1,p,c,q,d),⟨⟨rfl,rfl,rfl,rfl,rfl⟩,by rw[del_skip he hc5],by omega⟩,(show es.length-(i+1)<es.length-i from by omega)⟩
 ·
  refine c_exit ?_
  refine f_then_exit ?_
  refine f_then_exit ?_
  refine f_exit ?_
  refine f_then ?_
  refine c_seq ?_
  refine c_seq ?_
  have htk:es.take i=es:=List.take_of_length_le (by omega)
  rw[htk]
  have hdi:(idsE (delE es id)).length=(delE es id).length:=List.length_map _
  have hlt:=delE_lt hh
  refine c_region ?_
  refine l_val (v:= .pointer (some ⟨b3,0,none⟩)) rfl rfl rfl (e_fieldPt (b:=b3) (o:=0) rfl tf256) ?_
  refine l_val (v:= .slice p ((idsE (delE es id)).length) c) rfl rfl rfl (e_load1 tf257 (v:= .slice p ((idsE (delE es id)).length) c) rfl (k_pt 2 (cs:= #[.slice p ((idsE (delE es id)).length) c,.slice q ((arsE (delE es id)).length) d,.slice tp (tn) tc]) (vs:=[.slice p ((idsE (delE es id)).length) c]) rfl rfl)) ?_
  refine l_val (v:=Nx ((idsE (delE es id)).length)) rfl rfl rfl (e_len (a:=p) (n:=(idsE (delE es id)).length) (c:=c) rfl tf15) ?_
  refine l_val (v:= .pointer (some ⟨b1,0,none⟩)) rfl rfl rfl (e_fieldPt (b:=b1) (o:=0) rfl tf256) ?_
  refine l_val (v:= .slice via ((idsE es).length) (vic)) rfl rfl rfl (e_load1 tf257 (v:= .slice via ((idsE es).length) (vic)) rfl (k_pt 4 (cs:= #[.slice via ((idsE es).length) (vic),.slice vaa ((arsE es).length) (vac),.slice tp (tn) tc]) (vs:=[.slice via ((idsE es).length) (vic)]) rfl rfl)) ?_
  refine l_val (v:=Nx ((idsE es).length)) rfl rfl rfl (e_len (a:=via) (n:=(idsE es).length) (c:=vic) rfl tf15) ?_
  refine l_val (v:= .bool (decide ((((idsE (delE es id)).length:Nat):Int)=(((idsE es).length:Nat):Int)))) rfl rfl rfl (e_eql (a:=(((idsE (delE es id)).length:Nat):Int)) (b:=(((idsE es).length:Nat):Int)) rfl rfl) ?_
  refine l_nil ?_
  refine f_then ?_
  refine c_if ((((idsE (delE es id)).length:Nat):Int)=(((idsE es).length:Nat):Int)) rfl (fun hc20=> ?_) (fun hc20=> ?_)
  ·
   exact absurd hc20 (by omega)
  ·
   refine c_skip ?_
   refine f_then ?_
   refine c_seq ?_
   refine c_region ?_
   refine l_val (v:= .agg #[.slice p ((idsE (delE es id)).length) c,.slice q ((arsE (delE es id)).length) d,.slice tp (tn) tc]) rfl rfl rfl (e_load tf255 (cs:=[.slice p ((idsE (delE es id)).length) c,.slice q ((arsE (delE es id)).length) d,.slice tp (tn) tc]) rfl (k_pt 2 (cs:= #[.slice p ((idsE (delE es id)).length) c,.slice q ((arsE (delE es id)).length) d,.slice tp (tn) tc]) (vs:=[.slice p ((idsE (delE es id)).length) c,.slice q ((arsE (delE es id)).length) d,.slice tp (tn) tc]) rfl rfl) rfl) ?_
   refine l_mu rfl rfl (m_store 3 tf255 (b:=b2) (o:=0) (T:=59) (cs:= #[.slice none 0 0,.slice none 0 0,.slice none 0 0]) (cs':= #[.slice p ((idsE (delE es id)).length) c,.slice q ((arsE (delE es id)).length) d,.slice tp (tn) tc]) (v:= .agg #[.slice p ((idsE (delE es id)).length) c,.slice q ((arsE (delE es id)).length) d,.slice tp (tn) tc]) rfl rfl rfl rfl rfl rfl rfl) ?_
   refine l_val (v:= .int .i64 (0)) rfl rfl rfl (e_assign) ?_
   refine l_nil ?_
   refine f_then ?_
   refine c_ret ?_
   refine retG (l:=[.cell 4 59,.tmp 5]) (m:=[.agg #[.slice p ((idsE (delE es id)).length) c,.slice q ((arsE (delE es id)).length) d,.slice tp (tn) tc],.int .i64 (0)]) (v:= .tuple #[.agg #[.slice p ((idsE (delE es id)).length) c,.slice q ((arsE (delE es id)).length) d,.slice tp (tn) tc],.int .i64 (0)]) Tryz.results28 ⟨rd_cell tf255 (cs:=[.slice p ((idsE (delE es id)).length) c,.slice q ((arsE (delE es id)).length) d,.slice tp (tn) tc]) rfl (k_pt 3 (cs:= #[.slice p ((idsE (delE es id)).length) c,.slice q ((arsE (delE es id)).length) d,.slice tp (tn) tc]) (vs:=[.slice p ((idsE (delE es id)).length) c,.slice q ((arsE (delE es id)).length) d,.slice tp (tn) tc]) rfl rfl) rfl,rd_tmp (v:= .int .i64 (0)) rfl,trivial⟩ rfl ?_
   intro w hw
   exact⟨p,c,q,d,rfl,st_mask [true,true,false,false,false] rfl hw⟩
set_option maxHeartbeats 4000000 in
theorem rdel_no(β:Base)(w:World)(hw:St β [] w)(vi va:Value)(es:ES)(hi:Sl IntF.R β.heap vi (idsE es))(ha:Sl AreaF.R β.heap va (arsE es))(hn:es.length≤1000)(tp:Option Addr)(tn tc:Nat)(id:Int)(hh:¬hasE es id):Calls Tryz.prog 28 #[.agg #[vi,va,.slice tp tn tc],Ix id] w fun r w'=>r= .returned (.tuple #[.agg #[vi,va,.slice tp tn tc],Ix 6])∧St β [] w':=by
 obtain⟨via,vic,rfl,vil,vim,vie⟩:=hi.get
 obtain⟨vaa,vac,rfl,val,vam,vae⟩:=ha.get
 have hil:(idsE es).length=es.length:=List.length_map _
 have hal:(arsE es).length=es.length:=List.length_map _
 refine enter (n:=54) Tryz.func28 rfl Tryz.ntmps28 rfl ?_ hw
 refine c_seq ?_
 refine c_region ?_
 refine l_mv rfl rfl rfl (m_box (v:= .agg #[.slice via ((idsE es).length) (vic),.slice vaa ((arsE es).length) (vac),.slice tp (tn) tc]) rfl) ?_
 rintro _ _ ⟨b1,rfl,rfl⟩
 refine l_mv rfl rfl rfl (m_alloc tf252) ?_
 rintro _ _ ⟨b2,rfl,rfl⟩
 refine l_val (v:= .int .i64 (0)) rfl rfl rfl (e_assign) ?_
 refine l_nil ?_
 refine f_then ?_
 refine c_seq ?_
 refine c_region ?_
 refine l_val (v:= .pointer (some ⟨b1,2,none⟩)) rfl rfl rfl (e_fieldPt (b:=b1) (o:=0) rfl tf253) ?_
 refine l_val (v:= .slice tp (tn) tc) rfl rfl rfl (e_load1 tf36 (v:= .slice tp (tn) tc) rfl (k_pt 1 (cs:= #[.slice via ((idsE es).length) (vic),.slice vaa ((arsE es).length) (vac),.slice tp (tn) tc]) (vs:=[.slice tp (tn) tc]) rfl rfl)) ?_
 refine l_val (v:= .agg #[.slice none 0 0,.slice none 0 0,.slice tp (tn) tc]) rfl rfl rfl (e_build tf252 tf254 (vs:=[(2,.slice tp (tn) tc)]) (cells:= #[.slice none 0 0,.slice none 0 0,.slice tp (tn) tc]) rfl rfl) ?_
 refine l_mv rfl rfl rfl (m_alloc tf252) ?_
 rintro _ _ ⟨b3,rfl,rfl⟩
 refine l_mu rfl rfl (m_store 0 tf255 (b:=b3) (o:=0) (T:=59) (cs:= #[.slice none 0 0,.slice none 0 0,.slice none 0 0]) (cs':= #[.slice none 0 0,.slice none 0 0,.slice tp (tn) tc]) (v:= .agg #[.slice none 0 0,.slice none 0 0,.slice tp (tn) tc]) rfl rfl rfl rfl rfl rfl rfl) ?_
 refine l_nil ?_
 refine f_then ?_
 refine c_seq ?_
 refine c_seq ?_
 refine c_emp (r:=rowF AreaF 32 none 0 []) (row_nil _ _ _) ?_
 refine c_emp (r:=rowF IntF 3 none 0 []) (row_nil _ _ _) ?_
 refine c_region ?_
 refine l_val (v:= .int .i64 (0)) rfl rfl rfl (e_assign) ?_
 refine l_nil ?_
 refine f_then ?_
 refine c_block ?_
 refine c_loop (fun(x_:Nat×Option Addr×Nat×Option Addr×Nat) (f:Fm) (L:List Res)=>match x_ with|(i,p,c,q,d)=>(f 1=Ix (id)∧f 2= .pointer (some ⟨b1,0,none⟩)∧f 4= .pointer (some ⟨b2,0,none⟩)∧f 6= .pointer (some ⟨b3,0,none⟩)∧f 7=Nx (i))∧L=[rowF IntF 3 p c (idsE (delE (es.take i) id)),rowF AreaF 32 q d (arsE (delE (es.take i) id)),pt b3 (.cells #[.slice p ((idsE (delE (es.take i) id)).length) c,.slice q ((arsE (delE (es.take i) id)).length) d,.slice tp (tn) tc] 59),pt b2 (.cells #[.slice none 0 0,.slice none 0 0,.slice none 0 0] 59),pt b1 (.cells #[.slice via ((idsE es).length) (vic),.slice vaa ((arsE es).length) (vac),.slice tp (tn) tc] 59)]∧(i≤es.length)) (fun(x_:Nat×Option Addr×Nat×Option Addr×Nat)=>match x_ with|(i,p,c,q,d)=>es.length-i) (0,none,0,none,0) ?_ ?_
 ·exact⟨⟨rfl,rfl,rfl,rfl,rfl⟩,rfl,by omega⟩
 rintro⟨i,p,c,q,d⟩ f0 L0 ⟨⟨hs1,hs2,hs4,hs6,hs7⟩,hL,hk⟩
 subst L0
 refine rebase (d:=1) hs1 ?_
 refine rebase (d:=2) hs2 ?_
 refine rebase (d:=4) hs4 ?_
 refine rebase (d:=6) hs6 ?_
 refine rebase (d:=7) hs7 ?_
 clear hs1 hs2 hs4 hs6 hs7
 have hdl:=delE_len (es.take i) id
 rw[List.length_take]at hdl
 have hdi:(idsE (delE (es.take i) id)).length=(delE (es.take i) id).length:=List.length_map _
 have hda:(arsE (delE (es.take i) id)).length=(delE (es.take i) id).length:=List.length_map _
 refine c_seq ?_
 refine c_seq ?_
 refine c_region ?_
 refine l_val (v:=Nx (i)) rfl rfl rfl (e_move) ?_
 refine l_val (v:= .pointer (some ⟨b1,0,none⟩)) rfl rfl rfl (e_fieldPt (b:=b1) (o:=0) rfl tf256) ?_
 refine l_val (v:= .slice via ((idsE es).length) (vic)) rfl rfl rfl (e_load1 tf257 (v:= .slice via ((idsE es).length) (vic)) rfl (k_pt 4 (cs:= #[.slice via ((idsE es).length) (vic),.slice vaa ((arsE es).length) (vac),.slice tp (tn) tc]) (vs:=[.slice via ((idsE es).length) (vic)]) rfl rfl)) ?_
 refine l_val (v:=Nx ((idsE es).length)) rfl rfl rfl (e_len (a:=via) (n:=(idsE es).length) (c:=vic) rfl tf15) ?_
 refine l_val (v:= .bool (decide (((i:Nat):Int)<(((idsE es).length:Nat):Int)))) rfl rfl rfl (e_lss (a:=((i:Nat):Int)) (b:=(((idsE es).length:Nat):Int)) rfl rfl) ?_
 refine l_nil ?_
 refine f_then ?_
 refine c_if (((i:Nat):Int)<(((idsE es).length:Nat):Int)) rfl (fun hc4=> ?_) (fun hc4=> ?_)
 ·
  refine c_skip ?_
  refine f_then ?_
  refine c_seq ?_
  refine c_block ?_
  refine c_seq ?_
  obtain⟨e,he⟩:∃e_,es[i]? =some e_:=⟨_,List.getElem?_eq_getElem (by omega)⟩
  have hei:(idsE es)[i]? =some e.1:=by rw[List.getElem?_map,he];rfl
  have hea:(arsE es)[i]? =some e.2:=by rw[List.getElem?_map,he];rfl
  obtain⟨hi1,ci1,hi2,rfl⟩:=vie _ _ hei
  obtain⟨ha1,ca1,ha2,rfl⟩:=vae _ _ hea
  refine c_region ?_
  refine l_val (v:= .pointer (some ⟨b1,0,none⟩)) rfl rfl rfl (e_fieldPt (b:=b1) (o:=0) rfl tf256) ?_
  refine l_val (v:= .slice via ((idsE es).length) (vic)) rfl rfl rfl (e_load1 tf257 (v:= .slice via ((idsE es).length) (vic)) rfl (k_pt 4 (cs:= #[.slice via ((idsE es).length) (vic),.slice vaa ((arsE es).length) (vac),.slice tp (tn) tc]) (vs:=[.slice via ((idsE es).length) (vic)]) rfl rfl)) ?_
  refine l_val (v:=Nx (i)) rfl rfl rfl (e_move) ?_
  refine l_val (v:= .pointer (some ((ba via).add (i*1)))) rfl rfl rfl (e_indexAddr (k:=i) (len:=(idsE es).length) (cap:=vic) (a:=via) rfl rfl tf16 (by omega) hi1) ?_
  refine l_val (v:=Ix (e.1)) rfl rfl rfl (e_load1 tf2 (v:=Ix (e.1)) rfl (Knows.of_base (Cs.mono _ _) hi2)) ?_
  refine l_val (v:=Ix (id)) rfl rfl rfl (e_move) ?_
  refine l_val (v:= .bool (decide ((e.1)≠(id)))) rfl rfl rfl (e_neq (a:=(e.1)) (b:=(id)) rfl rfl) ?_
  refine l_nil ?_
  refine f_then ?_
  refine c_if ((e.1)≠(id)) rfl (fun hc5=> ?_) (fun hc5=> ?_)
  ·
   refine c_seq ?_
   refine c_any [⟨[],[],[0],[25],fun f=>f 25= .pointer (some ⟨b3,0,none⟩)⟩,⟨[0],[0],[],[26],fun f=>f 26= .slice p ((idsE (delE (es.take i) id)).length) c⟩,⟨[],[],[1],[27],fun f=>f 27= .pointer (some ⟨b1,0,none⟩)⟩,⟨[2],[2],[],[28],fun f=>f 28= .slice via ((idsE es).length) (vic)⟩,⟨[],[],[2],[29],fun f=>f 29=Nx (i)⟩,⟨[2,3,4],[3,4],[],[30],fun f=>f 30= .pointer (some ((ba via).add (i*1)))⟩,⟨[2,3,4,5],[5],[],[31],fun f=>f 31=Ix (e.1)⟩,⟨[2,3,4,5,6],[6],[],[32],fun f=>f 32= .slice (some ⟨(blk (f 32)),0,none⟩) 1 1⟩,⟨[0,1,2,3,4,5,6,7],[1,7],[],[33],fun f=>f 33= .slice (sla (f 33)) (((idsE (delE (es.take i) id))++[e.1]).length) (slc (f 33))⟩,⟨[0,1,2,3,4,5,6,7,8],[],[0],[34],fun f=>f 34= .pointer (some ⟨b3,0,none⟩)⟩,⟨[0,1,2,3,4,5,6,7,8,9],[9,8],[],[],fun _=>True⟩] [⟨none,(some 8),[8],[],fun _=>rowF IntF 3 p c (idsE (delE (es.take i) id))⟩,⟨none,none,[],[],fun _=>rowF AreaF 32 q d (arsE (delE (es.take i) id))⟩,⟨none,(some 10),[1,10],[],fun _=>pt b3 (.cells #[.slice p ((idsE (delE (es.take i) id)).length) c,.slice q ((arsE (delE (es.take i) id)).length) d,.slice tp (tn) tc] 59)⟩,⟨none,none,[],[],fun _=>pt b2 (.cells #[.slice none 0 0,.slice none 0 0,.slice none 0 0] 59)⟩,⟨none,none,[3],[],fun _=>pt b1 (.cells #[.slice via ((idsE es).length) (vic),.slice vaa ((arsE es).length) (vac),.slice tp (tn) tc] 59)⟩,⟨(some 7),none,[8],[32],fun f=>pt (blk (f 32)) (.cells #[Ix (e.1)] 3)⟩,⟨(some 8),none,[],[33],fun f=>rowF IntF 3 (sla (f 33)) (slc (f 33)) ((idsE (delE (es.take i) id))++[e.1])⟩,⟨(some 10),none,[],[33],fun f=>pt b3 (.cells #[.slice (sla (f 33)) (((idsE (delE (es.take i) id))++[e.1]).length) (slc (f 33)),.slice q ((arsE (delE (es.take i) id)).length) d,.slice tp (tn) tc] 59)⟩] [(6,.pointer (some ⟨b3,0,none⟩)),(2,.pointer (some ⟨b1,0,none⟩)),(7,Nx (i)),(1,Ix (id)),(4,.pointer (some ⟨b2,0,none⟩))] [3,1,4,0,2] [] (by kernel_rfl) (by kernel_rfl) (by kernel_rfl) (by kernel_rfl) rfl ⟨rfl,rfl,rfl,rfl,rfl,trivial⟩ ⟨?_,?_,?_,?_,?_,?_,?_,?_,?_,?_,?_,trivial⟩ ?_
   ·rintro f M-⟨i0,-⟩
    have hs6:f 6= .pointer (some ⟨b3,0,none⟩):=i0
    refine ob_start (L':=M) (by rfl) (up_cons rfl hs6) ?_
    refine l_val (v:= .pointer (some ⟨b3,0,none⟩)) rfl rfl rfl (e_fieldPt (b:=b3) (o:=0) rfl tf256) ?_
    refine l_nil ?_
    exact f_owes_d (up_cons rfl hs6) rfl (List.Perm.refl _)
   ·rintro f M ⟨k0,-⟩-
    have hs25:f 25= .pointer (some ⟨b3,0,none⟩):=k0
    refine ob_start (L':=pt b3 (.cells #[.slice p ((idsE (delE (es.take i) id)).length) c,.slice q ((arsE (delE (es.take i) id)).length) d,.slice tp (tn) tc] 59)::M) (by rfl) (up_cons rfl hs25) ?_
    refine l_val (v:= .slice p ((idsE (delE (es.take i) id)).length) c) rfl rfl rfl (e_load1 tf257 (v:= .slice p ((idsE (delE (es.take i) id)).length) c) rfl (k_pt 0 (cs:= #[.slice p ((idsE (delE (es.take i) id)).length) c,.slice q ((arsE (delE (es.take i) id)).length) d,.slice tp (tn) tc]) (vs:=[.slice p ((idsE (delE (es.take i) id)).length) c]) rfl rfl)) ?_
    refine l_nil ?_
    exact f_owes_d (up_cons rfl hs25) rfl (perm_front 0 rfl)
   ·rintro f M-⟨i0,-⟩
    have hs2:f 2= .pointer (some ⟨b1,0,none⟩):=i0
    refine ob_start (L':=M) (by rfl) (up_cons rfl hs2) ?_
    refine l_val (v:= .pointer (some ⟨b1,0,none⟩)) rfl rfl rfl (e_fieldPt (b:=b1) (o:=0) rfl tf256) ?_
    refine l_nil ?_
    exact f_owes_d (up_cons rfl hs2) rfl (List.Perm.refl _)
   ·rintro f M ⟨k0,-⟩-
    have hs27:f 27= .pointer (some ⟨b1,0,none⟩):=k0
    refine ob_start (L':=pt b1 (.cells #[.slice via ((idsE es).length) (vic),.slice vaa ((arsE es).length) (vac),.slice tp (tn) tc] 59)::M) (by rfl) (up_cons rfl hs27) ?_
    refine l_val (v:= .slice via ((idsE es).length) (vic)) rfl rfl rfl (e_load1 tf257 (v:= .slice via ((idsE es).length) (vic)) rfl (k_pt 0 (cs:= #[.slice via ((idsE es).length) (vic),.slice vaa ((arsE es).length) (vac),.slice tp (tn) tc]) (vs:=[.slice via ((idsE es).length) (vic)]) rfl rfl)) ?_
    refine l_nil ?_
    exact f_owes_d (up_cons rfl hs27) rfl (perm_front 0 rfl)
   ·rintro f M-⟨i0,-⟩
    have hs7:f 7=Nx (i):=i0
    refine ob_start (L':=M) (by rfl) (up_cons rfl hs7) ?_
    refine l_val (v:=Nx (i)) rfl rfl rfl (e_move) ?_
    refine l_nil ?_
    exact f_owes_d (up_cons rfl hs7) rfl (List.Perm.refl _)
   ·rintro f M ⟨k0,k1,-⟩-
    have hs28:f 28= .slice via ((idsE es).length) (vic):=k0
    have hs29:f 29=Nx (i):=k1
    refine ob_start (L':=M) (by rfl) (up_cons (up_cons rfl hs28) hs29) ?_
    refine l_val (v:= .pointer (some ((ba via).add (i*1)))) rfl rfl rfl (e_indexAddr (k:=i) (len:=(idsE es).length) (cap:=vic) (a:=via) rfl rfl tf16 (by omega) hi1) ?_
    refine l_nil ?_
    exact f_owes_d (up_cons (up_cons rfl hs28) hs29) rfl (List.Perm.refl _)
   ·rintro f M ⟨k0,-⟩-
    have hs30:f 30= .pointer (some ((ba via).add (i*1))):=k0
    refine ob_start (L':=M) (by rfl) (up_cons rfl hs30) ?_
    refine l_val (v:=Ix (e.1)) rfl rfl rfl (e_load1 tf2 (v:=Ix (e.1)) rfl (Knows.of_base (Cs.mono _ _) hi2)) ?_
    refine l_nil ?_
    exact f_owes_d (up_cons rfl hs30) rfl (List.Perm.refl _)
   ·rintro f M ⟨k0,-⟩-
    have hs31:f 31=Ix (e.1):=k0
    refine ob_start (L':=M) (by rfl) (up_cons rfl hs31) ?_
    refine l_mv rfl rfl rfl (m_slices tf16 tf21 (vs:=[(0,Ix (e.1))]) (cells:= #[Ix (e.1)]) rfl rfl rfl rfl) ?_
    rintro _ _ ⟨b7,rfl,rfl⟩
    refine l_nil ?_
    exact f_owes_d (up_cons rfl hs31) rfl (perm_front 0 rfl)
   ·rintro f M ⟨k0,k1,-⟩-
    have hs26:f 26= .slice p ((idsE (delE (es.take i) id)).length) c:=k0
    have hs32:f 32= .slice (some ⟨(blk (f 32)),0,none⟩) 1 1:=k1
    refine ob_start (L':=rowF IntF 3 p c (idsE (delE (es.take i) id))::pt (blk (f 32)) (.cells #[Ix (e.1)] 3)::M) (by rfl) (up_cons (up_cons rfl hs26) hs32) ?_
    refine l_mv rfl rfl rfl (m_appendFlN (F:=IntF) 0 tf16 tf56 (p:=p) (m:=(idsE (delE (es.take i) id)).length) (xs:=(idsE (delE (es.take i) id))) (ys:=[e.1]) (ao:=(some ⟨(blk (f 32)),0,none⟩)) (k:=1) (c:=1) rfl rfl rfl rfl rfl (k_ptFl (z:=e.1) 1 rfl rfl) (by first|omega|simp only[List.length_nil,List.length_cons,List.length_append,List.length_set];omega) (by first|omega|simp only[List.length_nil,List.length_cons,List.length_append,List.length_set];omega)) ?_
    rintro _ _ ⟨rp10,rc11,rfl,rfl⟩
    refine l_nil ?_
    exact f_owes_d (up_cons (up_cons rfl hs26) hs32) rfl ((perm_front 0 rfl).trans (perm_front 1 rfl))
   ·rintro f M-⟨i0,-⟩
    have hs6:f 6= .pointer (some ⟨b3,0,none⟩):=i0
    refine ob_start (L':=M) (by rfl) (up_cons rfl hs6) ?_
    refine l_val (v:= .pointer (some ⟨b3,0,none⟩)) rfl rfl rfl (e_fieldPt (b:=b3) (o:=0) rfl tf256) ?_
    refine l_nil ?_
    exact f_owes_d (up_cons rfl hs6) rfl (List.Perm.refl _)
   ·rintro f M ⟨k0,k1,-⟩-
    have hs34:f 34= .pointer (some ⟨b3,0,none⟩):=k0
    have hs33:f 33= .slice (sla (f 33)) (((idsE (delE (es.take i) id))++[e.1]).length) (slc (f 33)):=k1
    refine ob_start (L':=pt b3 (.cells #[.slice p ((idsE (delE (es.take i) id)).length) c,.slice q ((arsE (delE (es.take i) id)).length) d,.slice tp (tn) tc] 59)::M) (by rfl) (up_cons (up_cons rfl hs34) hs33) ?_
    refine l_mu rfl rfl (m_store 0 tf257 (b:=b3) (o:=0) (T:=59) (cs:= #[.slice p ((idsE (delE (es.take i) id)).length) c,.slice q ((arsE (delE (es.take i) id)).length) d,.slice tp (tn) tc]) (cs':= #[.slice (sla (f 33)) (((idsE (delE (es.take i) id))++[e.1]).length) (slc (f 33)),.slice q ((arsE (delE (es.take i) id)).length) d,.slice tp (tn) tc]) (v:= .slice (sla (f 33)) (((idsE (delE (es.take i) id))++[e.1]).length) (slc (f 33))) rfl rfl rfl rfl rfl rfl rfl) ?_
    refine l_nil ?_
    exact f_owes_n (up_cons (up_cons rfl hs34) hs33) trivial (perm_front 0 rfl)
   rintro fa12 ⟨-,-,-,-,-,-,-,-,-,-,-,-⟩ ⟨j0,j1,j2,j3,j4,-⟩
   refine f_re (L':=[rowF AreaF 32 q d (arsE (delE (es.take i) id)),pt b2 (.cells #[.slice none 0 0,.slice none 0 0,.slice none 0 0] 59),pt b1 (.cells #[.slice via ((idsE es).length) (vic),.slice vaa ((arsE es).length) (vac),.slice tp (tn) tc] 59),pt (blk (fa12 32)) (.cells #[Ix (e.1)] 3),rowF IntF 3 (sla (fa12 33)) (slc (fa12 33)) ((idsE (delE (es.take i) id))++[e.1]),pt b3 (.cells #[.slice (sla (fa12 33)) (((idsE (delE (es.take i) id))++[e.1]).length) (slc (fa12 33)),.slice q ((arsE (delE (es.take i) id)).length) d,.slice tp (tn) tc] 59)]) (by rfl) ?_
   refine f_rebase (d:=1) (v:=Ix (id)) j0 ?_
   refine f_rebase (d:=2) (v:= .pointer (some ⟨b1,0,none⟩)) j1 ?_
   refine f_rebase (d:=4) (v:= .pointer (some ⟨b2,0,none⟩)) j2 ?_
   refine f_rebase (d:=6) (v:= .pointer (some ⟨b3,0,none⟩)) j3 ?_
   refine f_rebase (d:=7) (v:=Nx (i)) j4 ?_
   refine f_then ?_
   refine c_any [⟨[],[],[0],[35],fun f=>f 35= .pointer (some ⟨b3,1,none⟩)⟩,⟨[0],[0],[],[36],fun f=>f 36= .slice q ((arsE (delE (es.take i) id)).length) d⟩,⟨[],[],[1],[37],fun f=>f 37= .pointer (some ⟨b1,1,none⟩)⟩,⟨[2],[2],[],[38],fun f=>f 38= .slice vaa ((arsE es).length) (vac)⟩,⟨[],[],[2],[39],fun f=>f 39=Nx (i)⟩,⟨[2,3,4],[3,4],[],[40],fun f=>f 40= .pointer (some ((ba vaa).add (i*4)))⟩,⟨[2,3,4,5],[5],[],[41],fun f=>f 41= .agg (aC e.2)⟩,⟨[2,3,4,5,6],[6],[],[42],fun f=>f 42= .slice (some ⟨(blk (f 42)),0,none⟩) 1 1⟩,⟨[0,1,2,3,4,5,6,7],[1,7],[],[43],fun f=>f 43= .slice (sla (f 43)) (((arsE (delE (es.take i) id))++[e.2]).length) (slc (f 43))⟩,⟨[0,1,2,3,4,5,6,7,8],[],[0],[44],fun f=>f 44= .pointer (some ⟨b3,1,none⟩)⟩,⟨[0,1,2,3,4,5,6,7,8,9],[9,8],[],[],fun _=>True⟩] [⟨none,(some 8),[8],[],fun _=>rowF AreaF 32 q d (arsE (delE (es.take i) id))⟩,⟨none,none,[],[],fun _=>pt b2 (.cells #[.slice none 0 0,.slice none 0 0,.slice none 0 0] 59)⟩,⟨none,none,[3],[],fun _=>pt b1 (.cells #[.slice via ((idsE es).length) (vic),.slice vaa ((arsE es).length) (vac),.slice tp (tn) tc] 59)⟩,⟨none,none,[],[],fun _=>pt (blk (fa12 32)) (.cells #[Ix (e.1)] 3)⟩,⟨none,none,[],[],fun _=>rowF IntF 3 (sla (fa12 33)) (slc (fa12 33)) ((idsE (delE (es.take i) id))++[e.1])⟩,⟨none,(some 10),[1,10],[],fun _=>pt b3 (.cells #[.slice (sla (fa12 33)) (((idsE (delE (es.take i) id))++[e.1]).length) (slc (fa12 33)),.slice q ((arsE (delE (es.take i) id)).length) d,.slice tp (tn) tc] 59)⟩,⟨(some 7),none,[8],[42],fun f=>pt (blk (f 42)) (.cells (aC e.2) 32)⟩,⟨(some 8),none,[],[43],fun f=>rowF AreaF 32 (sla (f 43)) (slc (f 43)) ((arsE (delE (es.take i) id))++[e.2])⟩,⟨(some 10),none,[],[43],fun f=>pt b3 (.cells #[.slice (sla (fa12 33)) (((idsE (delE (es.take i) id))++[e.1]).length) (slc (fa12 33)),.slice (sla (f 43)) (((arsE (delE (es.take i) id))++[e.2]).length) (slc (f 43)),.slice tp (tn) tc] 59)⟩] [(6,.pointer (some ⟨b3,0,none⟩)),(2,.pointer (some ⟨b1,0,none⟩)),(7,Nx (i)),(1,Ix (id)),(4,.pointer (some ⟨b2,0,none⟩))] [3,1,4,0,2] [] (by kernel_rfl) (by kernel_rfl) (by kernel_rfl) (by kernel_rfl) rfl ⟨rfl,rfl,rfl,rfl,rfl,trivial⟩ ⟨?_,?_,?_,?_,?_,?_,?_,?_,?_,?_,?_,trivial⟩ ?_
   ·rintro f M-⟨i0,-⟩
    have hs6:f 6= .pointer (some ⟨b3,0,none⟩):=i0
    refine ob_start (L':=M) (by rfl) (up_cons rfl hs6) ?_
    refine l_val (v:= .pointer (some ⟨b3,1,none⟩)) rfl rfl rfl (e_fieldPt (b:=b3) (o:=0) rfl tf258) ?_
    refine l_nil ?_
    exact f_owes_d (up_cons rfl hs6) rfl (List.Perm.refl _)
   ·rintro f M ⟨k0,-⟩-
    have hs35:f 35= .pointer (some ⟨b3,1,none⟩):=k0
    refine ob_start (L':=pt b3 (.cells #[.slice (sla (fa12 33)) (((idsE (delE (es.take i) id))++[e.1]).length) (slc (fa12 33)),.slice q ((arsE (delE (es.take i) id)).length) d,.slice tp (tn) tc] 59)::M) (by rfl) (up_cons rfl hs35) ?_
    refine l_val (v:= .slice q ((arsE (delE (es.take i) id)).length) d) rfl rfl rfl (e_load1 tf259 (v:= .slice q ((arsE (delE (es.take i) id)).length) d) rfl (k_pt 0 (cs:= #[.slice (sla (fa12 33)) (((idsE (delE (es.take i) id))++[e.1]).length) (slc (fa12 33)),.slice q ((arsE (delE (es.take i) id)).length) d,.slice tp (tn) tc]) (vs:=[.slice q ((arsE (delE (es.take i) id)).length) d]) rfl rfl)) ?_
    refine l_nil ?_
    exact f_owes_d (up_cons rfl hs35) rfl (perm_front 0 rfl)
   ·rintro f M-⟨i0,-⟩
    have hs2:f 2= .pointer (some ⟨b1,0,none⟩):=i0
    refine ob_start (L':=M) (by rfl) (up_cons rfl hs2) ?_
    refine l_val (v:= .pointer (some ⟨b1,1,none⟩)) rfl rfl rfl (e_fieldPt (b:=b1) (o:=0) rfl tf258) ?_
    refine l_nil ?_
    exact f_owes_d (up_cons rfl hs2) rfl (List.Perm.refl _)
   ·rintro f M ⟨k0,-⟩-
    have hs37:f 37= .pointer (some ⟨b1,1,none⟩):=k0
    refine ob_start (L':=pt b1 (.cells #[.slice via ((idsE es).length) (vic),.slice vaa ((arsE es).length) (vac),.slice tp (tn) tc] 59)::M) (by rfl) (up_cons rfl hs37) ?_
    refine l_val (v:= .slice vaa ((arsE es).length) (vac)) rfl rfl rfl (e_load1 tf259 (v:= .slice vaa ((arsE es).length) (vac)) rfl (k_pt 0 (cs:= #[.slice via ((idsE es).length) (vic),.slice vaa ((arsE es).length) (vac),.slice tp (tn) tc]) (vs:=[.slice vaa ((arsE es).length) (vac)]) rfl rfl)) ?_
    refine l_nil ?_
    exact f_owes_d (up_cons rfl hs37) rfl (perm_front 0 rfl)
   ·rintro f M-⟨i0,-⟩
    have hs7:f 7=Nx (i):=i0
    refine ob_start (L':=M) (by rfl) (up_cons rfl hs7) ?_
    refine l_val (v:=Nx (i)) rfl rfl rfl (e_move) ?_
    refine l_nil ?_
    exact f_owes_d (up_cons rfl hs7) rfl (List.Perm.refl _)
   ·rintro f M ⟨k0,k1,-⟩-
    have hs38:f 38= .slice vaa ((arsE es).length) (vac):=k0
    have hs39:f 39=Nx (i):=k1
    refine ob_start (L':=M) (by rfl) (up_cons (up_cons rfl hs38) hs39) ?_
    refine l_val (v:= .pointer (some ((ba vaa).add (i*4)))) rfl rfl rfl (e_indexAddr (k:=i) (len:=(arsE es).length) (cap:=vac) (a:=vaa) rfl rfl tf43 (by omega) ha1) ?_
    refine l_nil ?_
    exact f_owes_d (up_cons (up_cons rfl hs38) hs39) rfl (List.Perm.refl _)
   ·rintro f M ⟨k0,-⟩-
    have hs40:f 40= .pointer (some ((ba vaa).add (i*4))):=k0
    refine ob_start (L':=M) (by rfl) (up_cons rfl hs40) ?_
    refine l_val (v:= .agg (aC e.2)) rfl rfl rfl (e_load tf10 (cs:=(areaE e.2)) rfl (Knows.of_base (Cs.mono _ _) ha2) rfl) ?_
    refine l_nil ?_
    exact f_owes_d (up_cons rfl hs40) rfl (List.Perm.refl _)
   ·rintro f M ⟨k0,-⟩-
    have hs41:f 41= .agg (aC e.2):=k0
    refine ob_start (L':=M) (by rfl) (up_cons rfl hs41) ?_
    refine l_mv rfl rfl rfl (m_slices tf43 tf6 (vs:=[(0,.agg (aC e.2))]) (cells:=(aC e.2)) rfl rfl rfl rfl) ?_
    rintro _ _ ⟨b14,rfl,rfl⟩
    refine l_nil ?_
    exact f_owes_d (up_cons rfl hs41) rfl (perm_front 0 rfl)
   ·rintro f M ⟨k0,k1,-⟩-
    have hs36:f 36= .slice q ((arsE (delE (es.take i) id)).length) d:=k0
    have hs42:f 42= .slice (some ⟨(blk (f 42)),0,none⟩) 1 1:=k1
    refine ob_start (L':=rowF AreaF 32 q d (arsE (delE (es.take i) id))::pt (blk (f 42)) (.cells (aC e.2) 32)::M) (by rfl) (up_cons (up_cons rfl hs36) hs42) ?_
    refine l_mv rfl rfl rfl (m_appendFlN (F:=AreaF) 0 tf43 tf97 (p:=q) (m:=(arsE (delE (es.take i) id)).length) (xs:=(arsE (delE (es.take i) id))) (ys:=[e.2]) (ao:=(some ⟨(blk (f 42)),0,none⟩)) (k:=1) (c:=1) rfl rfl rfl rfl rfl (k_ptFl (z:=e.2) 1 rfl rfl) (by first|omega|simp only[List.length_nil,List.length_cons,List.length_append,List.length_set];omega) (by first|omega|simp only[List.length_nil,List.length_cons,List.length_append,List.length_set];omega)) ?_
    rintro _ _ ⟨rp17,rc18,rfl,rfl⟩
    refine l_nil ?_
    exact f_owes_d (up_cons (up_cons rfl hs36) hs42) rfl ((perm_front 0 rfl).trans (perm_front 1 rfl))
   ·rintro f M-⟨i0,-⟩
    have hs6:f 6= .pointer (some ⟨b3,0,none⟩):=i0
    refine ob_start (L':=M) (by rfl) (up_cons rfl hs6) ?_
    refine l_val (v:= .pointer (some ⟨b3,1,none⟩)) rfl rfl rfl (e_fieldPt (b:=b3) (o:=0) rfl tf258) ?_
    refine l_nil ?_
    exact f_owes_d (up_cons rfl hs6) rfl (List.Perm.refl _)
   ·rintro f M ⟨k0,k1,-⟩-
    have hs44:f 44= .pointer (some ⟨b3,1,none⟩):=k0
    have hs43:f 43= .slice (sla (f 43)) (((arsE (delE (es.take i) id))++[e.2]).length) (slc (f 43)):=k1
    refine ob_start (L':=pt b3 (.cells #[.slice (sla (fa12 33)) (((idsE (delE (es.take i) id))++[e.1]).length) (slc (fa12 33)),.slice q ((arsE (delE (es.take i) id)).length) d,.slice tp (tn) tc] 59)::M) (by rfl) (up_cons (up_cons rfl hs44) hs43) ?_
    refine l_mu rfl rfl (m_store 0 tf259 (b:=b3) (o:=1) (T:=59) (cs:= #[.slice (sla (fa12 33)) (((idsE (delE (es.take i) id))++[e.1]).length) (slc (fa12 33)),.slice q ((arsE (delE (es.take i) id)).length) d,.slice tp (tn) tc]) (cs':= #[.slice (sla (fa12 33)) (((idsE (delE (es.take i) id))++[e.1]).length) (slc (fa12 33)),.slice (sla (f 43)) (((arsE (delE (es.take i) id))++[e.2]).length) (slc (f 43)),.slice tp (tn) tc]) (v:= .slice (sla (f 43)) (((arsE (delE (es.take i) id))++[e.2]).length) (slc (f 43))) rfl rfl rfl rfl rfl rfl rfl) ?_
    refine l_nil ?_
    exact f_owes_n (up_cons (up_cons rfl hs44) hs43) trivial (perm_front 0 rfl)
   rintro fa19 ⟨-,-,-,-,-,-,-,-,-,-,-,-⟩ ⟨j0,j1,j2,j3,j4,-⟩
   refine f_re (L':=[pt b2 (.cells #[.slice none 0 0,.slice none 0 0,.slice none 0 0] 59),pt b1 (.cells #[.slice via ((idsE es).length) (vic),.slice vaa ((arsE es).length) (vac),.slice tp (tn) tc] 59),pt (blk (fa12 32)) (.cells #[Ix (e.1)] 3),rowF IntF 3 (sla (fa12 33)) (slc (fa12 33)) ((idsE (delE (es.take i) id))++[e.1]),pt (blk (fa19 42)) (.cells (aC e.2) 32),rowF AreaF 32 (sla (fa19 43)) (slc (fa19 43)) ((arsE (delE (es.take i) id))++[e.2]),pt b3 (.cells #[.slice (sla (fa12 33)) (((idsE (delE (es.take i) id))++[e.1]).length) (slc (fa12 33)),.slice (sla (fa19 43)) (((arsE (delE (es.take i) id))++[e.2]).length) (slc (fa19 43)),.slice tp (tn) tc] 59)]) (by rfl) ?_
   refine f_rebase (d:=1) (v:=Ix (id)) j0 ?_
   refine f_rebase (d:=2) (v:= .pointer (some ⟨b1,0,none⟩)) j1 ?_
   refine f_rebase (d:=4) (v:= .pointer (some ⟨b2,0,none⟩)) j2 ?_
   refine f_rebase (d:=6) (v:= .pointer (some ⟨b3,0,none⟩)) j3 ?_
   refine f_rebase (d:=7) (v:=Nx (i)) j4 ?_
   refine f_block ?_
   refine f_then ?_
   refine c_region ?_
   refine l_val (v:=Nx (i)) rfl rfl rfl (e_move) ?_
   refine l_val (v:=Nx (i+1)) rfl rfl rfl (e_add (a:=((i:Nat):Int)) (b:=(1:Int)) rfl rfl (i64n (by omega) (by omega))) ?_
   refine l_val (v:=Nx (i+1)) rfl rfl rfl (e_assign) ?_
   refine l_nil ?_
   refine f_perm (L':=[rowF IntF 3 (sla (fa12 33)) (slc (fa12 33)) ((idsE (delE (es.take i) id))++[e.1]),rowF AreaF 32 (sla (fa19 43)) (slc (fa19 43)) ((arsE (delE (es.take i) id))++[e.2]),pt b3 (.cells #[.slice (sla (fa12 33)) (((idsE (delE (es.take i) id))++[e.1]).length) (slc (fa12 33)),.slice (sla (fa19 43)) (((arsE (delE (es.take i) id))++[e.2]).length) (slc (fa19 43)),.slice tp (tn) tc] 59),pt b2 (.cells #[.slice none 0 0,.slice none 0 0,.slice none 0 0] 59),pt b1 (.cells #[.slice via ((idsE es).length) (vic),.slice vaa ((arsE es).length) (vac),.slice tp (tn) tc] 59),pt (blk (fa12 32)) (.cells #[Ix (e.1)] 3),pt (blk (fa19 42)) (.cells (aC e.2) 32)]) (perm_ix [3,5,6,0,1,2,4] 7 rfl (by kernel_rfl) (by kernel_rfl)) ?_
   refine f_mask (L':=[rowF IntF 3 (sla (fa12 33)) (slc (fa12 33)) ((idsE (delE (es.take i) id))++[e.1]),rowF AreaF 32 (sla (fa19 43)) (slc (fa19 43)) ((arsE (delE (es.take i) id))++[e.2]),pt b3 (.cells #[.slice (sla (fa12 33)) (((idsE (delE (es.take i) id))++[e.1]).length) (slc (fa12 33)),.slice (sla (fa19 43)) (((arsE (delE (es.take i) id))++[e.2]).length) (slc (fa19 43)),.slice tp (tn) tc] 59),pt b2 (.cells #[.slice none 0 0,.slice none 0 0,.slice none 0 0] 59),pt b1 (.cells #[.slice via ((idsE es).length) (vic),.slice vaa ((arsE es).length) (vac),.slice tp (tn) tc] 59)]) [true,true,true,true,true,false,false] rfl ?_
   exact f_cut ⟨(i+1,(sla (fa12 33)),(slc (fa12 33)),(sla (fa19 43)),(slc (fa19 43))),⟨⟨rfl,rfl,rfl,rfl,rfl⟩,by rw[ids_yes he hc5,ars_yes he hc5],by omega⟩,(show es.length-(i+1)<es.length-i from by omega)⟩
  ·
   refine c_skip ?_
   refine f_block ?_
   refine f_then ?_
   refine c_region ?_
   refine l_val (v:=Nx (i)) rfl rfl rfl (e_move) ?_
   refine l_val (v:=Nx (i+1)) rfl rfl rfl (e_add (a:=((i:Nat):Int)) (b:=(1:Int)) rfl rfl (i64n (by omega) (by omega))) ?_
   refine l_val (v:=Nx (i+1)) rfl rfl rfl (e_assign) ?_
   refine l_nil ?_
   exact f_cut ⟨(i+1,p,c,q,d),⟨⟨rfl,rfl,rfl,rfl,rfl⟩,by rw[del_skip he hc5],by omega⟩,(show es.length-(i+1)<es.length-i from by omega)⟩
 ·
  refine c_exit ?_
  refine f_then_exit ?_
  refine f_then_exit ?_
  refine f_exit ?_
  refine f_then ?_
  refine c_seq ?_
  refine c_seq ?_
  have htk:es.take i=es:=List.take_of_length_le (by omega)
  rw[htk]
  have hdi:(idsE (delE es id)).length=(delE es id).length:=List.length_map _
  have hlt:(delE es id).length=es.length:=by rw[delE_no hh]
  refine c_region ?_
  refine l_val (v:= .pointer (some ⟨b3,0,none⟩)) rfl rfl rfl (e_fieldPt (b:=b3) (o:=0) rfl tf256) ?_
  refine l_val (v:= .slice p ((idsE (delE es id)).length) c) rfl rfl rfl (e_load1 tf257 (v:= .slice p ((idsE (delE es id)).length) c) rfl (k_pt 2 (cs:= #[.slice p ((idsE (delE es id)).length) c,.slice q ((arsE (delE es id)).length) d,.slice tp (tn) tc]) (vs:=[.slice p ((idsE (delE es id)).length) c]) rfl rfl)) ?_
  refine l_val (v:=Nx ((idsE (delE es id)).length)) rfl rfl rfl (e_len (a:=p) (n:=(idsE (delE es id)).length) (c:=c) rfl tf15) ?_
  refine l_val (v:= .pointer (some ⟨b1,0,none⟩)) rfl rfl rfl (e_fieldPt (b:=b1) (o:=0) rfl tf256) ?_
  refine l_val (v:= .slice via ((idsE es).length) (vic)) rfl rfl rfl (e_load1 tf257 (v:= .slice via ((idsE es).length) (vic)) rfl (k_pt 4 (cs:= #[.slice via ((idsE es).length) (vic),.slice vaa ((arsE es).length) (vac),.slice tp (tn) tc]) (vs:=[.slice via ((idsE es).length) (vic)]) rfl rfl)) ?_
  refine l_val (v:=Nx ((idsE es).length)) rfl rfl rfl (e_len (a:=via) (n:=(idsE es).length) (c:=vic) rfl tf15) ?_
  refine l_val (v:= .bool (decide ((((idsE (delE es id)).length:Nat):Int)=(((idsE es).length:Nat):Int)))) rfl rfl rfl (e_eql (a:=(((idsE (delE es id)).length:Nat):Int)) (b:=(((idsE es).length:Nat):Int)) rfl rfl) ?_
  refine l_nil ?_
  refine f_then ?_
  refine c_if ((((idsE (delE es id)).length:Nat):Int)=(((idsE es).length:Nat):Int)) rfl (fun hc20=> ?_) (fun hc20=> ?_)
  ·
   refine c_seq ?_
   refine c_region ?_
   refine l_val (v:= .agg #[.slice via ((idsE es).length) (vic),.slice vaa ((arsE es).length) (vac),.slice tp (tn) tc]) rfl rfl rfl (e_load tf255 (cs:=[.slice via ((idsE es).length) (vic),.slice vaa ((arsE es).length) (vac),.slice tp (tn) tc]) rfl (k_pt 4 (cs:= #[.slice via ((idsE es).length) (vic),.slice vaa ((arsE es).length) (vac),.slice tp (tn) tc]) (vs:=[.slice via ((idsE es).length) (vic),.slice vaa ((arsE es).length) (vac),.slice tp (tn) tc]) rfl rfl) rfl) ?_
   refine l_mu rfl rfl (m_store 3 tf255 (b:=b2) (o:=0) (T:=59) (cs:= #[.slice none 0 0,.slice none 0 0,.slice none 0 0]) (cs':= #[.slice via ((idsE es).length) (vic),.slice vaa ((arsE es).length) (vac),.slice tp (tn) tc]) (v:= .agg #[.slice via ((idsE es).length) (vic),.slice vaa ((arsE es).length) (vac),.slice tp (tn) tc]) rfl rfl rfl rfl rfl rfl rfl) ?_
   refine l_val (v:= .int .i64 (6)) rfl rfl rfl (e_assign) ?_
   refine l_nil ?_
   refine f_then ?_
   refine c_ret ?_
   refine f_then_ret ?_
   refine retG (l:=[.cell 4 59,.tmp 5]) (m:=[.agg #[.slice via ((idsE es).length) (vic),.slice vaa ((arsE es).length) (vac),.slice tp (tn) tc],.int .i64 (6)]) (v:= .tuple #[.agg #[.slice via ((idsE es).length) (vic),.slice vaa ((arsE es).length) (vac),.slice tp (tn) tc],.int .i64 (6)]) Tryz.results28 ⟨rd_cell tf255 (cs:=[.slice via ((idsE es).length) (vic),.slice vaa ((arsE es).length) (vac),.slice tp (tn) tc]) rfl (k_pt 3 (cs:= #[.slice via ((idsE es).length) (vic),.slice vaa ((arsE es).length) (vac),.slice tp (tn) tc]) (vs:=[.slice via ((idsE es).length) (vic),.slice vaa ((arsE es).length) (vac),.slice tp (tn) tc]) rfl rfl) rfl,rd_tmp (v:= .int .i64 (6)) rfl,trivial⟩ rfl ?_
   intro w hw
   exact⟨rfl,st_mask [false,false,false,false,false] rfl hw⟩
  ·
   exact absurd (by omega) hc20
set_option maxHeartbeats 4000000 in
theorem less_ok(β:Base)(w:World)(hw:St β [] w)(v u:Value)(l m:List KP)(hs:Sl PairF.R β.heap v l)(ht:Sl PairF.R β.heap u m)(hn:l.length≤1000000):Calls Tryz.prog 51 #[v,u] w fun r w'=>∃p c,r= .returned (.slice p (lessE l m).length c)∧St β [rowF PairF 55 p c (lessE l m)] w':=by
 obtain⟨va,vc,rfl,vl,vm,ve⟩:=hs.get
 obtain⟨ua,uc,rfl,ul,um,ue⟩:=ht.get
 refine enter (n:=43) Tryz.func51 rfl Tryz.ntmps51 rfl ?_ hw
 refine c_seq ?_
 refine c_region ?_
 refine l_val (v:= .slice none 0 0) rfl rfl rfl (e_assign) ?_
 refine l_nil ?_
 refine f_then ?_
 refine c_seq ?_
 refine c_region ?_
 refine l_val (v:= .slice none 0 0) rfl rfl rfl (e_assign) ?_
 refine l_nil ?_
 refine f_then ?_
 refine c_seq ?_
 refine c_seq ?_
 refine c_emp (r:=rowF PairF 55 none 0 []) (row_nil _ _ _) ?_
 refine c_region ?_
 refine l_val (v:= .int .i64 (0)) rfl rfl rfl (e_assign) ?_
 refine l_nil ?_
 refine f_then ?_
 refine c_block ?_
 refine c_loop (fun(x_:Nat×Option Addr×Nat) (f:Fm) (L:List Res)=>match x_ with|(k,p,c)=>(f 0= .slice va (l.length) (vc)∧f 1= .slice ua (m.length) (uc)∧f 5= .slice p ((lessE (l.take k) m).length) c∧f 6=Nx (k))∧L=[rowF PairF 55 p c (lessE (l.take k) m)]∧(k≤l.length)) (fun(x_:Nat×Option Addr×Nat)=>match x_ with|(k,p,c)=>l.length-k) (0,none,0) ?_ ?_
 ·exact⟨⟨rfl,rfl,rfl,rfl⟩,rfl,by omega⟩
 rintro⟨k,p,c⟩ f0 L0 ⟨⟨hs0,hs1,hs5,hs6⟩,hL,hk⟩
 subst L0
 refine rebase (d:=0) hs0 ?_
 refine rebase (d:=1) hs1 ?_
 refine rebase (d:=5) hs5 ?_
 refine rebase (d:=6) hs6 ?_
 clear hs0 hs1 hs5 hs6
 have hll:=lessE_len (l.take k) m
 rw[List.length_take]at hll
 refine c_seq ?_
 refine c_seq ?_
 refine c_region ?_
 refine l_val (v:=Nx (k)) rfl rfl rfl (e_move) ?_
 refine l_val (v:= .slice va (l.length) (vc)) rfl rfl rfl (e_move) ?_
 refine l_val (v:=Nx (l.length)) rfl rfl rfl (e_len (a:=va) (n:=l.length) (c:=vc) rfl tf65) ?_
 refine l_val (v:= .bool (decide (((k:Nat):Int)<((l.length:Nat):Int)))) rfl rfl rfl (e_lss (a:=((k:Nat):Int)) (b:=((l.length:Nat):Int)) rfl rfl) ?_
 refine l_nil ?_
 refine f_then ?_
 refine c_if (((k:Nat):Int)<((l.length:Nat):Int)) rfl (fun hc1=> ?_) (fun hc1=> ?_)
 ·
  refine c_skip ?_
  refine f_then ?_
  refine c_seq ?_
  refine c_block ?_
  refine c_seq ?_
  obtain⟨x,hx⟩:∃x_,l[k]? =some x_:=⟨_,List.getElem?_eq_getElem (by omega)⟩
  obtain⟨hxa,cx_,hxc,rfl⟩:=ve _ _ hx
  refine c_region ?_
  refine l_val (v:= .bool false) rfl rfl rfl (e_assign) ?_
  refine l_nil ?_
  refine f_then ?_
  refine c_seq ?_
  refine c_seq ?_
  refine c_region ?_
  refine l_val (v:= .int .i64 (0)) rfl rfl rfl (e_assign) ?_
  refine l_nil ?_
  refine f_then ?_
  refine c_block ?_
  refine c_loop (fun(x_:Nat×Bool) (f:Fm) (L:List Res)=>match x_ with|(j,sm)=>(f 0= .slice va (l.length) (vc)∧f 1= .slice ua (m.length) (uc)∧f 5= .slice p ((lessE (l.take k) m).length) c∧f 6=Nx (k)∧f 7= .bool (sm)∧f 8=Nx (j))∧L=[rowF PairF 55 p c (lessE (l.take k) m)]∧(j≤m.length∧(sm=true↔x∈m.take j))) (fun(x_:Nat×Bool)=>match x_ with|(j,sm)=>m.length-j) (0,false) ?_ ?_
  ·exact⟨⟨rfl,rfl,rfl,rfl,rfl,rfl⟩,rfl,⟨by omega,by simp⟩⟩
  rintro⟨j,sm⟩ f0 L0 ⟨⟨hs0,hs1,hs5,hs6,hs7,hs8⟩,hL,⟨hj,hsm⟩⟩
  subst L0
  refine rebase (d:=0) hs0 ?_
  refine rebase (d:=1) hs1 ?_
  refine rebase (d:=5) hs5 ?_
  refine rebase (d:=6) hs6 ?_
  refine rebase (d:=7) hs7 ?_
  refine rebase (d:=8) hs8 ?_
  clear hs0 hs1 hs5 hs6 hs7 hs8
  refine c_seq ?_
  refine c_seq ?_
  refine c_region ?_
  refine l_val (v:=Nx (j)) rfl rfl rfl (e_move) ?_
  refine l_val (v:= .slice ua (m.length) (uc)) rfl rfl rfl (e_move) ?_
  refine l_val (v:=Nx (m.length)) rfl rfl rfl (e_len (a:=ua) (n:=m.length) (c:=uc) rfl tf65) ?_
  refine l_val (v:= .bool (decide (((j:Nat):Int)<((m.length:Nat):Int)))) rfl rfl rfl (e_lss (a:=((j:Nat):Int)) (b:=((m.length:Nat):Int)) rfl rfl) ?_
  refine l_nil ?_
  refine f_then ?_
  refine c_if (((j:Nat):Int)<((m.length:Nat):Int)) rfl (fun hc2=> ?_) (fun hc2=> ?_)
  ·
   refine c_skip ?_
   refine f_then ?_
   refine c_seq ?_
   refine c_block ?_
   refine c_quiet (by kernel_rfl) (by kernel_rfl) ?_
   refine q_val (v:= .bool (sm)) rfl rfl rfl (e_move) ?_
   refine q_val (v:= .bool (sm)) rfl rfl rfl (e_move) ?_
   refine q_splitb (s:=22) (b:=sm) rfl (fun hg3=> ?_) (fun hg3=> ?_)
   ·
    refine q_skip rfl rfl rfl rfl rfl rfl ?_
    refine q_skip rfl rfl rfl rfl rfl rfl ?_
    refine q_skip rfl rfl rfl rfl rfl rfl ?_
    refine q_skip rfl rfl rfl rfl rfl rfl ?_
    refine q_skip rfl rfl rfl rfl rfl rfl ?_
    refine q_skip rfl rfl rfl rfl rfl rfl ?_
    refine q_skip rfl rfl rfl rfl rfl rfl ?_
    refine q_skip rfl rfl rfl rfl rfl rfl ?_
    refine q_skip rfl rfl rfl rfl rfl rfl ?_
    refine q_val (v:= .bool true) rfl rfl rfl (e_pick_t rfl) ?_
    refine q_val (v:= .bool true) rfl rfl rfl (e_assign) ?_
    refine q_nil ?_
    refine f_block ?_
    refine f_then ?_
    refine c_region ?_
    refine l_val (v:=Nx (j)) rfl rfl rfl (e_move) ?_
    refine l_val (v:=Nx (j+1)) rfl rfl rfl (e_add (a:=((j:Nat):Int)) (b:=(1:Int)) rfl rfl (i64n (by omega) (by omega))) ?_
    refine l_val (v:=Nx (j+1)) rfl rfl rfl (e_assign) ?_
    refine l_nil ?_
    exact f_cut ⟨(j+1,true),⟨⟨rfl,rfl,rfl,rfl,rfl,rfl⟩,rfl,⟨by omega,⟨fun _=>take_more (hsm.1 hg3),fun _=>rfl⟩⟩⟩,(show m.length-(j+1)<m.length-j from by omega)⟩
   ·
    refine qg_val (v:= .slice va (l.length) (vc)) rfl rfl rfl rfl rfl (e_move) ?_
    refine qg_val (v:=Nx (k)) rfl rfl rfl rfl rfl (e_move) ?_
    refine qg_val (v:= .pointer (some ((ba va).add (k*2)))) rfl rfl rfl rfl rfl (e_indexAddr (k:=k) (len:=l.length) (cap:=vc) (a:=va) rfl rfl tf37 (by omega) hxa) ?_
    refine qg_val (v:= .agg #[Ix (x.a),Ix (x.b)]) rfl rfl rfl rfl rfl (e_load tf35 (cs:=[Ix (x.a),Ix (x.b)]) rfl (Knows.of_base (Cs.mono _ _) hxc) rfl) ?_
    refine qg_val (v:= .slice ua (m.length) (uc)) rfl rfl rfl rfl rfl (e_move) ?_
    refine qg_val (v:=Nx (j)) rfl rfl rfl rfl rfl (e_move) ?_
    obtain⟨x4,hx5⟩:∃x_,(m)[j]? =some x_:=⟨_,List.getElem?_eq_getElem (by omega)⟩
    obtain⟨ha6,cs7,hc8,rfl⟩:=ue _ _ hx5
    refine qg_val (v:= .pointer (some ((ba ua).add (j*2)))) rfl rfl rfl rfl rfl (e_indexAddr (k:=j) (len:=m.length) (cap:=uc) (a:=ua) rfl rfl tf37 (by omega) ha6) ?_
    refine qg_val (v:= .agg #[Ix (x4.a),Ix (x4.b)]) rfl rfl rfl rfl rfl (e_load tf35 (cs:=[Ix (x4.a),Ix (x4.b)]) rfl (Knows.of_base (Cs.mono _ _) hc8) rfl) ?_
    refine qg_val (v:= .bool (decide ((x.a)=(x4.a)∧(x.b)=(x4.b)))) rfl rfl rfl rfl rfl (e_eql_t (xs:=[Ix (x.a),Ix (x.b)]) (ys:=[Ix (x4.a),Ix (x4.b)]) tf68 tf69 tf70 rfl rfl rfl rfl vec_eq) ?_
    refine q_val (v:= .bool (decide ((x.a)=(x4.a)∧(x.b)=(x4.b)))) rfl rfl rfl (e_pick_f rfl) ?_
    refine q_val (v:= .bool (decide ((x.a)=(x4.a)∧(x.b)=(x4.b)))) rfl rfl rfl (e_assign) ?_
    refine q_nil ?_
    refine f_block ?_
    refine f_then ?_
    refine c_region ?_
    refine l_val (v:=Nx (j)) rfl rfl rfl (e_move) ?_
    refine l_val (v:=Nx (j+1)) rfl rfl rfl (e_add (a:=((j:Nat):Int)) (b:=(1:Int)) rfl rfl (i64n (by omega) (by omega))) ?_
    refine l_val (v:=Nx (j+1)) rfl rfl rfl (e_assign) ?_
    refine l_nil ?_
    exact f_cut ⟨(j+1,(decide ((x.a)=(x4.a)∧(x.b)=(x4.b)))),⟨⟨rfl,rfl,rfl,rfl,rfl,rfl⟩,rfl,⟨by omega,mem_snoc hx5 (by simpa using hg3) hsm (pair_iff _ _)⟩⟩,(show m.length-(j+1)<m.length-j from by omega)⟩
  ·
   refine c_exit ?_
   refine f_then_exit ?_
   refine f_then_exit ?_
   refine f_exit ?_
   refine f_then ?_
   refine c_seq ?_
   refine c_region ?_
   refine l_val (v:= .bool (sm)) rfl rfl rfl (e_move) ?_
   refine l_val (v:= .bool (!sm)) rfl rfl rfl (e_not rfl) ?_
   refine l_nil ?_
   refine f_then ?_
   refine c_ifb (!sm) rfl (fun hc10=> ?_) (fun hc10=> ?_)
   ·
    refine c_region ?_
    refine l_val (v:= .slice p ((lessE (l.take k) m).length) c) rfl rfl rfl (e_move) ?_
    refine l_val (v:= .slice va (l.length) (vc)) rfl rfl rfl (e_move) ?_
    refine l_val (v:=Nx (k)) rfl rfl rfl (e_move) ?_
    refine l_val (v:= .pointer (some ((ba va).add (k*2)))) rfl rfl rfl (e_indexAddr (k:=k) (len:=l.length) (cap:=vc) (a:=va) rfl rfl tf37 (by omega) hxa) ?_
    refine l_val (v:= .agg #[Ix (x.a),Ix (x.b)]) rfl rfl rfl (e_load tf35 (cs:=[Ix (x.a),Ix (x.b)]) rfl (Knows.of_base (Cs.mono _ _) hxc) rfl) ?_
    refine l_mv rfl rfl rfl (m_slices tf37 tf33 (vs:=[(0,.agg #[Ix (x.a),Ix (x.b)])]) (cells:= #[Ix (x.a),Ix (x.b)]) rfl rfl rfl rfl) ?_
    rintro _ _ ⟨b11,rfl,rfl⟩
    refine l_mv rfl rfl rfl (m_appendFlN (F:=PairF) 1 tf37 tf38 (p:=p) (m:=(lessE (l.take k) m).length) (xs:=(lessE (l.take k) m)) (ys:=[x]) (ao:=(some ⟨b11,0,none⟩)) (k:=1) (c:=1) rfl rfl rfl rfl rfl (k_ptFl (z:=x) 0 rfl rfl) (by first|omega|simp only[List.length_nil,List.length_cons,List.length_append,List.length_set];omega) (by first|omega|simp only[List.length_nil,List.length_cons,List.length_append,List.length_set];omega)) ?_
    rintro _ _ ⟨rp12,rc13,rfl,rfl⟩
    refine l_val (v:= .slice rp12 (((lessE (l.take k) m)++[x]).length) rc13) rfl rfl rfl (e_assign) ?_
    refine l_nil ?_
    refine f_block ?_
    refine f_then ?_
    refine c_region ?_
    refine l_val (v:=Nx (k)) rfl rfl rfl (e_move) ?_
    refine l_val (v:=Nx (k+1)) rfl rfl rfl (e_add (a:=((k:Nat):Int)) (b:=(1:Int)) rfl rfl (i64n (by omega) (by omega))) ?_
    refine l_val (v:=Nx (k+1)) rfl rfl rfl (e_assign) ?_
    refine l_nil ?_
    refine f_mask (L':=[rowF PairF 55 rp12 rc13 ((lessE (l.take k) m)++[x])]) [false,true] rfl ?_
    exact f_cut ⟨(k+1,rp12,rc13),⟨⟨rfl,rfl,(by show Value.slice _ _ _=Value.slice _ _ _;rw[less_yes hx (fun q=>by rw[hsm.2 (by rwa [List.take_of_length_le (by omega)])]at hc10;cases hc10)]),rfl⟩,by rw[less_yes hx (fun q=>by rw[hsm.2 (by rwa [List.take_of_length_le (by omega)])]at hc10;cases hc10)],by omega⟩,(show l.length-(k+1)<l.length-k from by omega)⟩
   ·
    refine c_skip ?_
    refine f_block ?_
    refine f_then ?_
    refine c_region ?_
    refine l_val (v:=Nx (k)) rfl rfl rfl (e_move) ?_
    refine l_val (v:=Nx (k+1)) rfl rfl rfl (e_add (a:=((k:Nat):Int)) (b:=(1:Int)) rfl rfl (i64n (by omega) (by omega))) ?_
    refine l_val (v:=Nx (k+1)) rfl rfl rfl (e_assign) ?_
    refine l_nil ?_
    exact f_cut ⟨(k+1,p,c),⟨⟨rfl,rfl,(by show Value.slice _ _ _=Value.slice _ _ _;rw[less_no hx (by have:=hsm.1 (by simpa using hc10);rwa [List.take_of_length_le (by omega)]at this)]),rfl⟩,by rw[less_no hx (by have:=hsm.1 (by simpa using hc10);rwa [List.take_of_length_le (by omega)]at this)],by omega⟩,(show l.length-(k+1)<l.length-k from by omega)⟩
 ·
  refine c_exit ?_
  refine f_then_exit ?_
  refine f_then_exit ?_
  refine f_exit ?_
  refine f_then ?_
  refine c_seq ?_
  refine c_region ?_
  refine l_val (v:= .slice p ((lessE (l.take k) m).length) c) rfl rfl rfl (e_move) ?_
  refine l_val (v:= .slice p ((lessE (l.take k) m).length) c) rfl rfl rfl (e_assign) ?_
  refine l_nil ?_
  refine f_then ?_
  refine c_ret ?_
  refine ret1 Tryz.results51 (v:= .slice p ((lessE (l.take k) m).length) c) rfl ?_
  intro w hw
  rw[List.take_of_length_le (by omega)]at hw⊢
  exact⟨p,c,rfl,st_mask [true] rfl hw⟩
set_option maxHeartbeats 4000000 in
theorem rquery_ok(β:Base)(w:World)(hw:St β [] w)(vi va:Value)(es:ES)(hi:Sl IntF.R β.heap vi (idsE es))(ha:Sl AreaF.R β.heap va (arsE es))(hn:es.length≤1000)(tp:Option Addr)(tn tc:Nat)(a:KA):Calls Tryz.prog 30 #[.agg #[vi,va,.slice tp tn tc],.agg (aC a)] w fun r w'=>∃p c,r= .returned (.slice p (queryE es a).length c)∧St β [rowF IntF 3 p c (queryE es a)] w':=by
 obtain⟨via,vic,rfl,vil,vim,vie⟩:=hi.get
 obtain⟨vaa,vac,rfl,val,vam,vae⟩:=ha.get
 have hil:(idsE es).length=es.length:=List.length_map _
 have hal:(arsE es).length=es.length:=List.length_map _
 refine enter (n:=30) Tryz.func30 rfl Tryz.ntmps30 rfl ?_ hw
 refine c_seq ?_
 refine c_region ?_
 refine l_mv rfl rfl rfl (m_box (v:= .agg #[.slice via ((idsE es).length) (vic),.slice vaa ((arsE es).length) (vac),.slice tp (tn) tc]) rfl) ?_
 rintro _ _ ⟨b1,rfl,rfl⟩
 refine l_mv rfl rfl rfl (m_box (v:= .agg (aC a)) rfl) ?_
 rintro _ _ ⟨b2,rfl,rfl⟩
 refine l_val (v:= .slice none 0 0) rfl rfl rfl (e_assign) ?_
 refine l_nil ?_
 refine f_then ?_
 refine c_seq ?_
 refine c_region ?_
 refine l_val (v:= .slice none 0 0) rfl rfl rfl (e_assign) ?_
 refine l_nil ?_
 refine f_then ?_
 refine c_seq ?_
 refine c_seq ?_
 refine c_emp (r:=rowF IntF 3 none 0 []) (row_nil _ _ _) ?_
 refine c_region ?_
 refine l_val (v:= .int .i64 (0)) rfl rfl rfl (e_assign) ?_
 refine l_nil ?_
 refine f_then ?_
 refine c_block ?_
 refine c_loop (fun(x_:Nat×Option Addr×Nat) (f:Fm) (L:List Res)=>match x_ with|(i,p,c)=>(f 2= .pointer (some ⟨b1,0,none⟩)∧f 3= .pointer (some ⟨b2,0,none⟩)∧f 5= .slice p ((queryE (es.take i) a).length) c∧f 6=Nx (i))∧L=[rowF IntF 3 p c (queryE (es.take i) a),pt b2 (.cells (aC a) 32),pt b1 (.cells #[.slice via ((idsE es).length) (vic),.slice vaa ((arsE es).length) (vac),.slice tp (tn) tc] 59)]∧(i≤es.length)) (fun(x_:Nat×Option Addr×Nat)=>match x_ with|(i,p,c)=>es.length-i) (0,none,0) ?_ ?_
 ·exact⟨⟨rfl,rfl,rfl,rfl⟩,rfl,by omega⟩
 rintro⟨i,p,c⟩ f0 L0 ⟨⟨hs2,hs3,hs5,hs6⟩,hL,hk⟩
 subst L0
 refine rebase (d:=2) hs2 ?_
 refine rebase (d:=3) hs3 ?_
 refine rebase (d:=5) hs5 ?_
 refine rebase (d:=6) hs6 ?_
 clear hs2 hs3 hs5 hs6
 have hql:=queryE_len (es.take i) a
 rw[List.length_take]at hql
 refine c_seq ?_
 refine c_seq ?_
 refine c_region ?_
 refine l_val (v:=Nx (i)) rfl rfl rfl (e_move) ?_
 refine l_val (v:= .pointer (some ⟨b1,0,none⟩)) rfl rfl rfl (e_fieldPt (b:=b1) (o:=0) rfl tf256) ?_
 refine l_val (v:= .slice via ((idsE es).length) (vic)) rfl rfl rfl (e_load1 tf257 (v:= .slice via ((idsE es).length) (vic)) rfl (k_pt 2 (cs:= #[.slice via ((idsE es).length) (vic),.slice vaa ((arsE es).length) (vac),.slice tp (tn) tc]) (vs:=[.slice via ((idsE es).length) (vic)]) rfl rfl)) ?_
 refine l_val (v:=Nx ((idsE es).length)) rfl rfl rfl (e_len (a:=via) (n:=(idsE es).length) (c:=vic) rfl tf15) ?_
 refine l_val (v:= .bool (decide (((i:Nat):Int)<(((idsE es).length:Nat):Int)))) rfl rfl rfl (e_lss (a:=((i:Nat):Int)) (b:=(((idsE es).length:Nat):Int)) rfl rfl) ?_
 refine l_nil ?_
 refine f_then ?_
 refine c_if (((i:Nat):Int)<(((idsE es).length:Nat):Int)) rfl (fun hc3=> ?_) (fun hc3=> ?_)
 ·
  refine c_skip ?_
  refine f_then ?_
  refine c_seq ?_
  refine c_block ?_
  refine c_seq ?_
  obtain⟨e,he⟩:∃e_,es[i]? =some e_:=⟨_,List.getElem?_eq_getElem (by omega)⟩
  have hei:(idsE es)[i]? =some e.1:=by rw[List.getElem?_map,he];rfl
  have hea:(arsE es)[i]? =some e.2:=by rw[List.getElem?_map,he];rfl
  obtain⟨hi1,ci1,hi2,rfl⟩:=vie _ _ hei
  obtain⟨ha1,ca1,ha2,rfl⟩:=vae _ _ hea
  refine c_quiet (by kernel_rfl) (by kernel_rfl) ?_
  refine q_val (v:= .pointer (some ⟨b1,1,none⟩)) rfl rfl rfl (e_fieldPt (b:=b1) (o:=0) rfl tf258) ?_
  refine q_val (v:= .slice vaa ((arsE es).length) (vac)) rfl rfl rfl (e_load1 tf259 (v:= .slice vaa ((arsE es).length) (vac)) rfl (k_pt 2 (cs:= #[.slice via ((idsE es).length) (vic),.slice vaa ((arsE es).length) (vac),.slice tp (tn) tc]) (vs:=[.slice vaa ((arsE es).length) (vac)]) rfl rfl)) ?_
  refine q_val (v:=Nx (i)) rfl rfl rfl (e_move) ?_
  refine q_val (v:= .pointer (some ((ba vaa).add (i*4)))) rfl rfl rfl (e_indexAddr (k:=i) (len:=(arsE es).length) (cap:=vac) (a:=vaa) rfl rfl tf43 (by omega) ha1) ?_
  refine q_val (v:= .agg (aC e.2)) rfl rfl rfl (e_load tf10 (cs:=(areaE e.2)) rfl (Knows.of_base (Cs.mono _ _) ha2) rfl) ?_
  refine q_val (v:= .agg (aC a)) rfl rfl rfl (e_load tf10 (cs:=(areaE a)) rfl (k_pt 1 (cs:=(aC a)) (vs:=(areaE a)) rfl rfl) rfl) ?_
  refine q_call (v:= .bool (decide (meetA e.2 a))) rfl rfl rfl (cl_value (fst:=[]) (cap:=[]) (vs:=[.agg (aC e.2),.agg (aC a)]) (all:=[.agg (aC e.2),.agg (aC a)]) tf107 rfl rfl rfl) (fun w hw=> ?_) ?_
  ·obtain⟨β1,sb,kn,hw1,back⟩:=St.frame_all hw
   exact(rmeet_ok β1 w hw1 e.2 a).mono (fun e w' ⟨he,hw'⟩=>⟨he,st_mask [true,true,true] rfl (back _ _ hw')⟩)
  refine q_nil ?_
  refine f_then ?_
  refine c_if (meetA e.2 a) rfl (fun hc4=> ?_) (fun hc4=> ?_)
  ·
   refine c_region ?_
   refine l_val (v:= .slice p ((queryE (es.take i) a).length) c) rfl rfl rfl (e_move) ?_
   refine l_val (v:= .pointer (some ⟨b1,0,none⟩)) rfl rfl rfl (e_fieldPt (b:=b1) (o:=0) rfl tf256) ?_
   refine l_val (v:= .slice via ((idsE es).length) (vic)) rfl rfl rfl (e_load1 tf257 (v:= .slice via ((idsE es).length) (vic)) rfl (k_pt 2 (cs:= #[.slice via ((idsE es).length) (vic),.slice vaa ((arsE es).length) (vac),.slice tp (tn) tc]) (vs:=[.slice via ((idsE es).length) (vic)]) rfl rfl)) ?_
   refine l_val (v:=Nx (i)) rfl rfl rfl (e_move) ?_
   refine l_val (v:= .pointer (some ((ba via).add (i*1)))) rfl rfl rfl (e_indexAddr (k:=i) (len:=(idsE es).length) (cap:=vic) (a:=via) rfl rfl tf16 (by omega) hi1) ?_
   refine l_val (v:=Ix (e.1)) rfl rfl rfl (e_load1 tf2 (v:=Ix (e.1)) rfl (Knows.of_base (Cs.mono _ _) hi2)) ?_
   refine l_mv rfl rfl rfl (m_slices tf16 tf21 (vs:=[(0,Ix (e.1))]) (cells:= #[Ix (e.1)]) rfl rfl rfl rfl) ?_
   rintro _ _ ⟨b5,rfl,rfl⟩
   refine l_mv rfl rfl rfl (m_appendFlN (F:=IntF) 1 tf16 tf56 (p:=p) (m:=(queryE (es.take i) a).length) (xs:=(queryE (es.take i) a)) (ys:=[e.1]) (ao:=(some ⟨b5,0,none⟩)) (k:=1) (c:=1) rfl rfl rfl rfl rfl (k_ptFl (z:=e.1) 0 rfl rfl) (by first|omega|simp only[List.length_nil,List.length_cons,List.length_append,List.length_set];omega) (by first|omega|simp only[List.length_nil,List.length_cons,List.length_append,List.length_set];omega)) ?_
   rintro _ _ ⟨rp6,rc7,rfl,rfl⟩
   refine l_val (v:= .slice rp6 (((queryE (es.take i) a)++[e.1]).length) rc7) rfl rfl rfl (e_assign) ?_
   refine l_nil ?_
   refine f_block ?_
   refine f_then ?_
   refine c_region ?_
   refine l_val (v:=Nx (i)) rfl rfl rfl (e_move) ?_
   refine l_val (v:=Nx (i+1)) rfl rfl rfl (e_add (a:=((i:Nat):Int)) (b:=(1:Int)) rfl rfl (i64n (by omega) (by omega))) ?_
   refine l_val (v:=Nx (i+1)) rfl rfl rfl (e_assign) ?_
   refine l_nil ?_
   refine f_mask (L':=[rowF IntF 3 rp6 rc7 ((queryE (es.take i) a)++[e.1]),pt b2 (.cells (aC a) 32),pt b1 (.cells #[.slice via ((idsE es).length) (vic),.slice vaa ((arsE es).length) (vac),.slice tp (tn) tc] 59)]) [false,true,true,true] rfl ?_
   exact f_cut ⟨(i+1,rp6,rc7),⟨⟨rfl,rfl,(by show Value.slice _ _ _=Value.slice _ _ _;rw[query_yes he hc4]),rfl⟩,by rw[query_yes he hc4],by omega⟩,(show es.length-(i+1)<es.length-i from by omega)⟩
  ·
   refine c_skip ?_
   refine f_block ?_
   refine f_then ?_
   refine c_region ?_
   refine l_val (v:=Nx (i)) rfl rfl rfl (e_move) ?_
   refine l_val (v:=Nx (i+1)) rfl rfl rfl (e_add (a:=((i:Nat):Int)) (b:=(1:Int)) rfl rfl (i64n (by omega) (by omega))) ?_
   refine l_val (v:=Nx (i+1)) rfl rfl rfl (e_assign) ?_
   refine l_nil ?_
   exact f_cut ⟨(i+1,p,c),⟨⟨rfl,rfl,(by show Value.slice _ _ _=Value.slice _ _ _;rw[query_no he hc4]),rfl⟩,by rw[query_no he hc4],by omega⟩,(show es.length-(i+1)<es.length-i from by omega)⟩
 ·
  refine c_exit ?_
  refine f_then_exit ?_
  refine f_then_exit ?_
  refine f_exit ?_
  refine f_then ?_
  refine c_seq ?_
  refine c_region ?_
  refine l_val (v:= .slice p ((queryE (es.take i) a).length) c) rfl rfl rfl (e_move) ?_
  refine l_val (v:= .slice p ((queryE (es.take i) a).length) c) rfl rfl rfl (e_assign) ?_
  refine l_nil ?_
  refine f_then ?_
  refine c_ret ?_
  refine ret1 Tryz.results30 (v:= .slice p ((queryE (es.take i) a).length) c) rfl ?_
  intro w hw
  rw[List.take_of_length_le (by omega)]at hw⊢
  exact⟨p,c,rfl,st_mask [true,false,false] rfl hw⟩
end Go.Proofs
