/-
 BroadPairs: walked. Printed by a program of my own.
-/
import Derived.Test.YtmgpmgckbcjalaaGreatBr18
namespace Go.Brd
open Go.Sl Go.Proofs
theorem sl_pre{h:PHeap}{p:Option Addr}{n c:Nat}{xs ys:List KA}(hs:Sl AreaF.R h (.slice p n c) (xs++ys)):Sl AreaF.R h (.slice p xs.length c) xs:=by
 obtain⟨e,h1,h2,h3⟩:=hs.parts
 subst e
 refine⟨_,_,rfl,by rw[List.length_append]at h1;omega,h2,fun j x hj=>h3 j x ?_⟩
 rw[List.getElem?_append_left (List.getElem?_eq_some_iff.1 hj).1];exact hj
theorem pairsX_len(l:List KA):(pairsX l).length≤1000000:=by
 unfold pairsX
 by_cases h:errP l=0
 ·rw[if_pos h]
  have hl:l.length≤128:=by
   unfold errP at h
   by_cases h1:∀a∈l,okA a
   ·rw[if_pos h1]at h
    by_cases h2:128<l.length
    ·rw[if_pos h2]at h;exact absurd h (by decide)
    ·omega
   ·rw[if_neg h1]at h;exact absurd h (by decide)
  have:=pairsA_le hl;omega
 ·rw[if_neg h];exact Nat.zero_le _
end Go.Brd
namespace Go.Proofs
open Go Go.Sl Go.Brd
theorem tf247:cfB Tryz.prog 16=true:=by kernel_rfl
theorem tf248:cfB Tryz.prog 18=true:=by kernel_rfl
theorem tf249:cfB Tryz.prog 20=true:=by kernel_rfl
theorem tf250:cfB Tryz.prog 21=true:=by kernel_rfl
theorem tf251:cfB Tryz.prog 6=true:=by kernel_rfl
set_option maxHeartbeats 4000000 in
theorem lists_ok(β:Base)(w:World)(hw:St β [] w)(v:Value)(l:List KA)(hs:Sl KAR β.heap v l)(hn:l.length≤1048576):Calls Tryz.prog 6 #[v] w fun r w'=>r= .returned (.bool true)∧St β [] w':=by
 obtain⟨va,vc,rfl,vl,vm,ve⟩:=hs.get
 refine enter (n:=46) Tryz.func6 rfl Tryz.ntmps6 rfl ?_ hw
 refine c_seq ?_
 refine c_region ?_
 refine l_val (v:= .bool false) rfl rfl rfl (e_assign) ?_
 refine l_nil ?_
 refine f_then ?_
 refine c_seq ?_
 refine c_region ?_
 refine l_val (v:= .slice va (l.length) (vc)) rfl rfl rfl (e_move) ?_
 refine l_call rfl rfl rfl (cl_value (fst:=[]) (cap:=[]) (vs:=[.slice va (l.length) (vc)]) (all:=[.slice va (l.length) (vc)]) tf247 rfl rfl rfl) ?_
 intro w hw
 obtain⟨β1,sb,kn,hw1,back⟩:=St.frame_all hw
 refine(lentA_ok β1 w hw1 _ l (Sl.mono _ _ _ _ _ sb hs) (by omega)).mono ?_
 rintro e w' ⟨p1,c2,rfl,hw'⟩
 refine⟨_,rfl,_,back _ _ hw',?_⟩
 clear hw hw1 hw' back kn sb
 refine l_val (v:= .slice p1 (l.length) c2) rfl rfl rfl (e_assign) ?_
 refine l_nil ?_
 refine f_then ?_
 refine c_seq ?_
 refine c_freeze2 (M:=[]) (K:=[rowF AreaF 32 p1 c2 (lentX markAr l)]) rfl (fun βf ext1 kn1 bk1=> ?_)
 have hslX:=kn1 _ (k_fl 0 (F:=AreaF) rfl)
 have hsli:Sl AreaF.R βf.heap (.slice p1 l.length c2) l:=sl_pre hslX
 obtain⟨-,hcl,hml,hel⟩:=hsli.parts
 have hs:=Sl.mono _ _ _ _ _ ext1.sub hs
 have hpl:=pairsX_len l
 refine c_region ?_
 refine l_val (v:= .slice p1 (l.length) (c2)) rfl rfl rfl (e_move) ?_
 refine l_call rfl rfl rfl (cl_value (fst:=[]) (cap:=[]) (vs:=[.slice p1 (l.length) (c2)]) (all:=[.slice p1 (l.length) (c2)]) tf73 rfl rfl rfl) ?_
 intro w hw
 obtain⟨β1,sb,kn,hw1,back⟩:=St.frame_all hw
 refine(pairs_ok β1 w hw1 _ l (Sl.mono _ _ _ _ _ sb hsli) (by omega)).mono ?_
 rintro e w' ⟨p3,c4,rfl,hw'⟩
 refine⟨_,rfl,_,back _ _ hw',?_⟩
 clear hw hw1 hw' back kn sb
 refine l_val (v:= .tuple #[.slice p3 ((pairsX l).length) c4,Ix (errP l)]) rfl rfl rfl (e_move) ?_
 refine l_val (v:= .slice p3 ((pairsX l).length) c4) rfl rfl rfl (e_extract (vs:= #[.slice p3 ((pairsX l).length) c4,Ix (errP l)]) rfl rfl) ?_
 refine l_val (v:=Ix (errP l)) rfl rfl rfl (e_extract (vs:= #[.slice p3 ((pairsX l).length) c4,Ix (errP l)]) rfl rfl) ?_
 refine l_val (v:= .slice p3 ((pairsX l).length) c4) rfl rfl rfl (e_assign) ?_
 refine l_val (v:=Ix (errP l)) rfl rfl rfl (e_assign) ?_
 refine l_nil ?_
 refine f_then ?_
 refine c_seq ?_
 refine c_region ?_
 refine l_val (v:= .slice va (l.length) (vc)) rfl rfl rfl (e_move) ?_
 refine l_call rfl rfl rfl (cl_value (fst:=[]) (cap:=[]) (vs:=[.slice va (l.length) (vc)]) (all:=[.slice va (l.length) (vc)]) tf248 rfl rfl rfl) ?_
 intro w hw
 obtain⟨β1,sb,kn,hw1,back⟩:=St.frame_all hw
 refine(rpairs_ok β1 w hw1 _ l (Sl.mono _ _ _ _ _ sb hs) (by omega)).mono ?_
 rintro e w' ⟨p5,c6,rfl,hw'⟩
 refine⟨_,rfl,_,back _ _ hw',?_⟩
 clear hw hw1 hw' back kn sb
 refine l_val (v:= .tuple #[.slice p5 ((pairsX l).length) c6,Ix (errP l)]) rfl rfl rfl (e_move) ?_
 refine l_val (v:= .slice p5 ((pairsX l).length) c6) rfl rfl rfl (e_extract (vs:= #[.slice p5 ((pairsX l).length) c6,Ix (errP l)]) rfl rfl) ?_
 refine l_val (v:=Ix (errP l)) rfl rfl rfl (e_extract (vs:= #[.slice p5 ((pairsX l).length) c6,Ix (errP l)]) rfl rfl) ?_
 refine l_val (v:= .slice p5 ((pairsX l).length) c6) rfl rfl rfl (e_assign) ?_
 refine l_val (v:=Ix (errP l)) rfl rfl rfl (e_assign) ?_
 refine l_nil ?_
 refine f_then ?_
 refine c_seq ?_
 refine c_region ?_
 refine l_val (v:= .slice p1 (l.length) (c2)) rfl rfl rfl (e_move) ?_
 refine l_call rfl rfl rfl (cl_value (fst:=[]) (cap:=[]) (vs:=[.slice p1 (l.length) (c2)]) (all:=[.slice p1 (l.length) (c2)]) tf73 rfl rfl rfl) ?_
 intro w hw
 obtain⟨β1,sb,kn,hw1,back⟩:=St.frame_all hw
 refine(pairs_ok β1 w hw1 _ l (Sl.mono _ _ _ _ _ sb hsli) (by omega)).mono ?_
 rintro e w' ⟨p7,c8,rfl,hw'⟩
 refine⟨_,rfl,_,back _ _ hw',?_⟩
 clear hw hw1 hw' back kn sb
 refine l_val (v:= .tuple #[.slice p7 ((pairsX l).length) c8,Ix (errP l)]) rfl rfl rfl (e_move) ?_
 refine l_val (v:= .slice p7 ((pairsX l).length) c8) rfl rfl rfl (e_extract (vs:= #[.slice p7 ((pairsX l).length) c8,Ix (errP l)]) rfl rfl) ?_
 refine l_val (v:=Ix (errP l)) rfl rfl rfl (e_extract (vs:= #[.slice p7 ((pairsX l).length) c8,Ix (errP l)]) rfl rfl) ?_
 refine l_val (v:= .slice p7 ((pairsX l).length) c8) rfl rfl rfl (e_assign) ?_
 refine l_val (v:=Ix (errP l)) rfl rfl rfl (e_assign) ?_
 refine l_nil ?_
 refine f_then ?_
 refine c_seq ?_
 refine c_region ?_
 refine l_val (v:=Ix (errP l)) rfl rfl rfl (e_move) ?_
 refine l_val (v:=Ix (errP l)) rfl rfl rfl (e_move) ?_
 refine l_val (v:= .bool (decide ((errP l)=(errP l)))) rfl rfl rfl (e_eql (a:=(errP l)) (b:=(errP l)) rfl rfl) ?_
 refine l_val (v:= .bool (decide ((errP l)=(errP l)))) rfl rfl rfl (e_move) ?_
 refine l_split (s:=30) (p:=(errP l)=(errP l)) rfl (fun h=> ?_) (fun h=> ?_)
 rotate_left;exact absurd rfl h
 refine g_val (v:= .slice p3 ((pairsX l).length) c4) rfl rfl rfl rfl rfl (e_move) ?_
 refine g_val (v:= .slice p5 ((pairsX l).length) c6) rfl rfl rfl rfl rfl (e_move) ?_
 refine g_call rfl rfl rfl rfl rfl (cl_value (fst:=[]) (cap:=[]) (vs:=[.slice p3 ((pairsX l).length) c4,.slice p5 ((pairsX l).length) c6]) (all:=[.slice p3 ((pairsX l).length) c4,.slice p5 ((pairsX l).length) c6]) tf83 rfl rfl rfl) ?_
 intro w hw
 obtain⟨β1,sb,kn,hw1,back⟩:=St.frame_all hw
 refine(same_ok β1 w hw1 _ _ (pairsX l) (pairsX l) (kn _ (k_flN 2 (F:=PairF) (m:=(pairsX l).length) rfl rfl)) (kn _ (k_flN 1 (F:=PairF) (m:=(pairsX l).length) rfl rfl))).mono ?_
 rintro e w' ⟨rfl,hw'⟩
 refine⟨_,rfl,_,back _ _ hw',?_⟩
 clear hw hw1 hw' back kn sb
 refine l_val (v:= .bool (decide ((pairsX l)=(pairsX l)))) rfl rfl rfl (e_pick_t rfl) ?_
 refine l_val (v:= .bool (decide ((pairsX l)=(pairsX l)))) rfl rfl rfl (e_move) ?_
 refine l_split (s:=35) (p:=(pairsX l)=(pairsX l)) rfl (fun h=> ?_) (fun h=> ?_)
 rotate_left;exact absurd rfl h
 refine g_val (v:= .slice p1 (l.length) (c2)) rfl rfl rfl rfl rfl (e_move) ?_
 refine g_val (v:= .slice va (l.length) (vc)) rfl rfl rfl rfl rfl (e_move) ?_
 refine g_call rfl rfl rfl rfl rfl (cl_value (fst:=[]) (cap:=[]) (vs:=[.slice p1 (l.length) (c2),.slice va (l.length) (vc)]) (all:=[.slice p1 (l.length) (c2),.slice va (l.length) (vc)]) tf249 rfl rfl rfl) ?_
 intro w hw
 obtain⟨β1,sb,kn,hw1,back⟩:=St.frame_all hw
 refine(keptA_ok β1 w hw1 _ _ _ l (by omega) (Sl.mono _ _ _ _ _ sb hslX) (Sl.mono _ _ _ _ _ sb hs)).mono ?_
 rintro e w' ⟨rfl,hw'⟩
 refine⟨_,rfl,_,back _ _ hw',?_⟩
 clear hw hw1 hw' back kn sb
 refine l_val (v:= .bool true) rfl rfl rfl (e_pick_t rfl) ?_
 refine l_val (v:= .bool true) rfl rfl rfl (e_move) ?_
 refine g_val (v:= .slice p3 ((pairsX l).length) c4) rfl rfl rfl rfl rfl (e_move) ?_
 refine g_val (v:= .slice p7 ((pairsX l).length) c8) rfl rfl rfl rfl rfl (e_move) ?_
 refine g_mv rfl rfl rfl rfl rfl (m_slices tf122 tf59 (vs:=[(0,.slice p3 ((pairsX l).length) c4),(1,.slice p7 ((pairsX l).length) c8)]) (cells:= #[.slice p3 ((pairsX l).length) c4,.slice p7 ((pairsX l).length) c8]) rfl rfl rfl rfl) ?_
 rintro _ _ ⟨b9,rfl,rfl⟩
 refine g_call rfl rfl rfl rfl rfl (cl_value (fst:=[]) (cap:=[]) (vs:=[.slice (some ⟨b9,0,none⟩) 2 2]) (all:=[.slice (some ⟨b9,0,none⟩) 2 2]) tf250 rfl rfl rfl) ?_
 intro w hw
 replace hw:=hw.perm (L':=_::_::_::_::[]) (by exact((((perm_front 2 rfl).trans (perm_front 1 rfl)).trans (perm_front 2 rfl)).trans (perm_front 3 rfl)))
 obtain⟨β1,sb,kn,hw1,back⟩:=St.frame (L:=[_,_]) (M:=_::_::[]) hw
 have hls2:Sl H3F.R β1.heap (.slice (some ⟨b9,0,none⟩) 2 2) [(⟨p3,(pairsX l).length,c4⟩:H3),(⟨p7,(pairsX l).length,c8⟩:H3)]:=kn _ (k_ptFls (F:=H3F) 0 (m:=2) (xs:=[(⟨p3,(pairsX l).length,c4⟩:H3),(⟨p7,(pairsX l).length,c8⟩:H3)]) rfl rfl rfl (Nat.le_of_ble_eq_true rfl))
 refine(apart2_ok β1 w _ p3 p7 c4 c8 (pairsX l) (pairsX l) hpl hpl hls2 hw1).mono ?_
 rintro e w' ⟨rfl,hw'⟩
 refine⟨_,rfl,_,back _ _ hw',?_⟩
 clear hw hw1 hw' back kn sb
 refine l_val (v:= .bool true) rfl rfl rfl (e_pick_t rfl) ?_
 refine l_val (v:= .bool true) rfl rfl rfl (e_assign) ?_
 refine l_nil ?_
 refine f_then ?_
 refine c_ret ?_
 refine ret1 Tryz.results6 (v:= .bool true) rfl ?_
 intro w hw
 exact⟨rfl,st_mask [false] rfl (bk1 _ _ (st_mask [false,false] rfl hw))⟩
end Go.Proofs
