/-
 Lists of pairs share no memory: walked. Printed by a program of my own.
-/
import Derived.Test.YtmgpmgckbcjalaaGreatBr13
import Derived.Test.YtmgpmgckbcjalaaGreatSlApt
namespace Go.Brd
open Go.Sl Go.Proofs
def mrk(k i:Nat):Nat:=1000003*(k+7)+i
theorem vec_eq{a b c e:Int}:[Ix a,Ix b]=[Ix c,Ix e]↔a=c∧b=e:=by simp
def markP(k i:Nat):KP:=⟨((mrk k i:Nat):Int),0⟩
end Go.Brd
namespace Go.Proofs
open Go Go.Sl Go.Brd
theorem tf120:cfB Tryz.prog 61=true:=by kernel_rfl
theorem tf121:Tryz.prog.underlying 49=some (.slice 38):=by kernel_rfl
theorem tf122:slB Tryz.prog 49 38 1=true:=by kernel_rfl
theorem tf123:cfB Tryz.prog 113=true:=by kernel_rfl
theorem tf124:elB Tryz.prog 38 1 24=true:=by kernel_rfl
theorem mark_ok(β:Base)(w:World)(hw:St β [] w)(k i:Nat)(hk:k≤1000000)(hi:i≤100000000):Calls Tryz.prog 61 #[Nx k,Nx i] w fun r w'=>r= .returned (Nx (mrk k i))∧St β [] w':=by
 refine enter (n:=10) Tryz.func61 rfl Tryz.ntmps61 rfl ?_ hw
 refine c_seq ?_
 refine c_region ?_
 refine l_val (v:= .int .i64 (0)) rfl rfl rfl (e_assign) ?_
 refine l_nil ?_
 refine f_then ?_
 refine c_seq ?_
 refine c_region ?_
 refine l_val (v:=Nx (k)) rfl rfl rfl (e_move) ?_
 refine l_val (v:=Nx (k+7)) rfl rfl rfl (e_add (a:=((k:Nat):Int)) (b:=(7:Int)) rfl rfl (i64n (by omega) (by omega))) ?_
 refine l_val (v:=Nx (1000003*(k+7))) rfl rfl rfl (e_mul (a:=(1000003:Int)) (b:=((k+7:Nat):Int)) rfl rfl (i64n (by omega) (by omega))) ?_
 refine l_val (v:=Nx (i)) rfl rfl rfl (e_move) ?_
 refine l_val (v:=Nx ((1000003*(k+7))+i)) rfl rfl rfl (e_add (a:=((1000003*(k+7):Nat):Int)) (b:=((i:Nat):Int)) rfl rfl (i64n (by omega) (by omega))) ?_
 refine l_val (v:=Nx ((1000003*(k+7))+i)) rfl rfl rfl (e_assign) ?_
 refine l_nil ?_
 refine f_then ?_
 refine c_ret ?_
 refine ret1 Tryz.results61 (v:=Nx ((1000003*(k+7))+i)) rfl ?_
 intro w hw
 exact⟨rfl,st_mask [] rfl hw⟩
theorem markP_ok(β:Base)(w:World)(hw:St β [] w)(k i:Nat)(hk:k≤1000000)(hi:i≤100000000):Calls Tryz.prog 113 #[Nx k,Nx i] w fun r w'=>r= .returned (.agg #[Ix (markP k i).a,Ix (markP k i).b])∧St β [] w':=by
 refine enter (n:=9) Tryz.func113 rfl Tryz.ntmps113 rfl ?_ hw
 refine c_seq ?_
 refine c_region ?_
 refine l_mv rfl rfl rfl (m_alloc tf33) ?_
 rintro _ _ ⟨b1,rfl,rfl⟩
 refine l_nil ?_
 refine f_then ?_
 refine c_seq ?_
 refine c_region ?_
 refine l_val (v:=Nx (k)) rfl rfl rfl (e_move) ?_
 refine l_val (v:=Nx (i)) rfl rfl rfl (e_move) ?_
 refine l_call rfl rfl rfl (cl_value (fst:=[]) (cap:=[]) (vs:=[Nx (k),Nx (i)]) (all:=[Nx (k),Nx (i)]) tf120 rfl rfl rfl) ?_
 intro w hw
 obtain⟨β1,sb,kn,hw1,back⟩:=St.frame_all hw
 refine(mark_ok β1 w hw1 k i (by omega) (by omega)).mono ?_
 rintro e w' ⟨rfl,hw'⟩
 refine⟨_,rfl,_,back _ _ hw',?_⟩
 clear hw hw1 hw' back kn sb
 refine l_val (v:= .agg #[Nx (mrk k i),.int .i64 (0)]) rfl rfl rfl (e_build tf33 tf32 (vs:=[(0,Nx (mrk k i))]) (cells:= #[Nx (mrk k i),.int .i64 (0)]) rfl rfl) ?_
 refine l_mu rfl rfl (m_store 0 tf35 (b:=b1) (o:=0) (T:=55) (cs:= #[.int .i64 (0),.int .i64 (0)]) (cs':= #[Nx (mrk k i),.int .i64 (0)]) (v:= .agg #[Nx (mrk k i),.int .i64 (0)]) rfl rfl rfl rfl rfl rfl rfl) ?_
 refine l_nil ?_
 refine f_then ?_
 refine c_ret ?_
 refine retG (l:=[.cell 4 55]) (m:=[.agg #[Nx (mrk k i),.int .i64 (0)]]) (v:= .agg #[Nx (mrk k i),.int .i64 (0)]) Tryz.results113 ⟨rd_cell tf35 (cs:=[Nx (mrk k i),.int .i64 (0)]) rfl (k_pt 0 (cs:= #[Nx (mrk k i),.int .i64 (0)]) (vs:=[Nx (mrk k i),.int .i64 (0)]) rfl rfl) rfl,trivial⟩ rfl ?_
 intro w hw
 exact⟨rfl,st_mask [false] rfl hw⟩
set_option maxHeartbeats 4000000 in
theorem flatP_ok(β:Base)(w:World)(v:Value)(HL:List H3)(hv:List (HV KP))(hhs:HL=hv.map HV.h)(hls:Sl H3F.R β.heap v HL)(hn:HL.length≤1000)(hbd:∀v∈hv,v.xs.length≤1000000)(hw:St β [Sat (hv.map (ownV PairF 55))] w):Calls Tryz.prog 79 #[v] w fun r w'=>r= .returned (.bool true)∧St β [] w':=by
 have hbd0:∀h∈HL,h.n≤1000000:=fun h hh=>by rw[hhs]at hh;obtain⟨v,hv_,rfl⟩:=List.mem_map.1 hh;exact hbd v hv_
 obtain⟨lsa,lsc,rfl,lsl,lsm,lse⟩:=hls.get
 refine enter (n:=193) Tryz.func79 rfl Tryz.ntmps79 rfl ?_ hw
 refine c_seq ?_
 refine c_region ?_
 refine l_val (v:= .bool false) rfl rfl rfl (e_assign) ?_
 refine l_nil ?_
 refine f_then ?_
 refine c_seq ?_
 refine c_seq ?_
 refine c_emp (r:=Sat (fromK (rowK PairF 55 markP) 0 [])) trivial ?_
 refine c_region ?_
 refine l_val (v:= .int .i64 (0)) rfl rfl rfl (e_assign) ?_
 refine l_nil ?_
 refine f_then ?_
 refine c_block ?_
 refine c_loop (fun(x_:List H3×List (HV KP)) (f:Fm) (L:List Res)=>match x_ with|(pre,post)=>(f 0= .slice lsa (HL.length) (lsc)∧f 3=Nx (pre.length))∧L=[Sat (fromK (rowK PairF 55 markP) 0 pre),Sat (post.map (ownV PairF 55))]∧(HL=pre++post.map HV.h∧∀v∈post,v.xs.length≤1000000)) (fun(x_:List H3×List (HV KP))=>match x_ with|(pre,post)=>post.length) ([],hv) ?_ ?_
 ·exact⟨⟨rfl,rfl⟩,rfl,⟨hhs,hbd⟩⟩
 rintro⟨pre,post⟩ f0 L0 ⟨⟨hs0,hs3⟩,hL,⟨hpp,hbp⟩⟩
 subst L0
 refine rebase (d:=0) hs0 ?_
 refine rebase (d:=3) hs3 ?_
 clear hs0 hs3
 have hlen:HL.length=pre.length+post.length:=by rw[hpp,List.length_append,List.length_map]
 refine c_seq ?_
 refine c_seq ?_
 refine c_region ?_
 refine l_val (v:=Nx (pre.length)) rfl rfl rfl (e_move) ?_
 refine l_val (v:= .slice lsa (HL.length) (lsc)) rfl rfl rfl (e_move) ?_
 refine l_val (v:=Nx (HL.length)) rfl rfl rfl (e_len (a:=lsa) (n:=HL.length) (c:=lsc) rfl tf121) ?_
 refine l_val (v:= .bool (decide (((pre.length:Nat):Int)<((HL.length:Nat):Int)))) rfl rfl rfl (e_lss (a:=((pre.length:Nat):Int)) (b:=((HL.length:Nat):Int)) rfl rfl) ?_
 refine l_nil ?_
 refine f_then ?_
 refine c_if (((pre.length:Nat):Int)<((HL.length:Nat):Int)) rfl (fun hc1=> ?_) (fun hc1=> ?_)
 ·
  refine c_skip ?_
  refine f_then ?_
  refine c_seq ?_
  refine c_block ?_
  refine c_seq ?_
  obtain⟨⟨xp,xc,xs⟩,po,hpo⟩:=uncons hlen (by omega)
  have hx:HL[pre.length]? =some (⟨xp,xs.length,xc⟩:H3):=by rw[hpp,hpo];exact mid_at rfl
  have hxl:xs.length≤1000000:=hbp ⟨xp,xc,xs⟩ (by rw[hpo];exact List.mem_cons_self)
  obtain⟨hxa,cs_,hxc,rfl⟩:=lse _ _ hx
  refine c_perm (L':=[Sat (post.map (ownV PairF 55)),Sat (fromK (rowK PairF 55 markP) 0 pre)]) (perm_ix [1,0] 2 rfl (by kernel_rfl) (by kernel_rfl)) ?_
  rw[hpo]
  refine c_headR (r:=rowF PairF 55 xp xc xs) (Ls:=po.map (ownV PairF 55)) (M:=[Sat (fromK (rowK PairF 55 markP) 0 pre)]) rfl ?_
  refine c_region ?_
  refine l_val (v:= .int .i64 (0)) rfl rfl rfl (e_assign) ?_
  refine l_nil ?_
  refine f_then ?_
  refine c_block ?_
  refine c_loop (fun(i:Nat) (f:Fm) (L:List Res)=>(f 0= .slice lsa (HL.length) (lsc)∧f 3=Nx (pre.length)∧f 4=Nx (i))∧L=[Sat (po.map (ownV PairF 55)),rowF PairF 55 xp xc ((mkL markP pre.length i)++xs.drop i),Sat (fromK (rowK PairF 55 markP) 0 pre)]∧(i≤xs.length)) (fun(i:Nat)=>xs.length-i) 0 ?_ ?_
  ·exact⟨⟨rfl,rfl,rfl⟩,by rw[mkp_zero],by omega⟩
  rintro i f0 L0 ⟨⟨hs0,hs3,hs4⟩,hL,hi⟩
  subst L0
  refine rebase (d:=0) hs0 ?_
  refine rebase (d:=3) hs3 ?_
  refine rebase (d:=4) hs4 ?_
  clear hs0 hs3 hs4
  refine c_seq ?_
  refine c_seq ?_
  refine c_region ?_
  refine l_val (v:=Nx (i)) rfl rfl rfl (e_move) ?_
  refine l_val (v:= .slice lsa (HL.length) (lsc)) rfl rfl rfl (e_move) ?_
  refine l_val (v:=Nx (pre.length)) rfl rfl rfl (e_move) ?_
  refine l_val (v:= .pointer (some ((ba lsa).add (pre.length*1)))) rfl rfl rfl (e_indexAddr (k:=pre.length) (len:=HL.length) (cap:=lsc) (a:=lsa) rfl rfl tf122 (by omega) hxa) ?_
  refine l_val (v:= .slice xp (xs.length) xc) rfl rfl rfl (e_load1 tf36 (v:= .slice xp (xs.length) xc) rfl (Knows.of_base (Cs.mono _ _) hxc)) ?_
  refine l_val (v:=Nx (xs.length)) rfl rfl rfl (e_len (a:=xp) (n:=xs.length) (c:=xc) rfl tf65) ?_
  refine l_val (v:= .bool (decide (((i:Nat):Int)<((xs.length:Nat):Int)))) rfl rfl rfl (e_lss (a:=((i:Nat):Int)) (b:=((xs.length:Nat):Int)) rfl rfl) ?_
  refine l_nil ?_
  refine f_then ?_
  refine c_if (((i:Nat):Int)<((xs.length:Nat):Int)) rfl (fun hc2=> ?_) (fun hc2=> ?_)
  ·
   refine c_skip ?_
   refine f_then ?_
   refine c_seq ?_
   refine c_block ?_
   refine c_any [⟨[],[],[0],[31],fun f=>f 31= .slice lsa (HL.length) (lsc)⟩,⟨[],[],[1],[32],fun f=>f 32=Nx (pre.length)⟩,⟨[0,1],[0,1],[],[33],fun f=>f 33= .pointer (some ((ba lsa).add (pre.length*1)))⟩,⟨[0,1,2],[2],[],[34],fun f=>f 34= .slice xp (xs.length) xc⟩,⟨[],[],[2],[35],fun f=>f 35=Nx (i)⟩,⟨[],[],[1],[36],fun f=>f 36=Nx (pre.length)⟩,⟨[],[],[2],[37],fun f=>f 37=Nx (i)⟩,⟨[5,6],[5,6],[],[38],fun f=>f 38= .agg #[Ix ((markP pre.length i).a),Ix ((markP pre.length i).b)]⟩,⟨[0,1,2,3,4,5,6,7],[3,4],[],[39],fun f=>f 39= .pointer (some ((ba xp).add (i*2)))⟩,⟨[0,1,2,3,4,5,6,7,8],[8,7],[],[],fun _=>True⟩] [⟨none,none,[],[],fun _=>Sat (po.map (ownV PairF 55))⟩,⟨none,(some 9),[8,9],[],fun _=>rowF PairF 55 xp xc ((mkL markP pre.length i)++xs.drop i)⟩,⟨none,none,[],[],fun _=>Sat (fromK (rowK PairF 55 markP) 0 pre)⟩,⟨(some 9),none,[],[],fun _=>rowF PairF 55 xp xc (((mkL markP pre.length i)++xs.drop i).set i (markP pre.length i))⟩] [(0,.slice lsa (HL.length) (lsc)),(3,Nx (pre.length)),(4,Nx (i))] [0,1,2] [] (by kernel_rfl) (by kernel_rfl) (by kernel_rfl) (by kernel_rfl) rfl ⟨rfl,rfl,rfl,trivial⟩ ⟨?_,?_,?_,?_,?_,?_,?_,?_,?_,?_,trivial⟩ ?_
   ·rintro f M-⟨i0,-⟩
    have hs0:f 0= .slice lsa (HL.length) (lsc):=i0
    refine ob_start (L':=M) (by rfl) (up_cons rfl hs0) ?_
    refine l_val (v:= .slice lsa (HL.length) (lsc)) rfl rfl rfl (e_move) ?_
    refine l_nil ?_
    exact f_owes_d (up_cons rfl hs0) rfl (List.Perm.refl _)
   ·rintro f M-⟨i0,-⟩
    have hs3:f 3=Nx (pre.length):=i0
    refine ob_start (L':=M) (by rfl) (up_cons rfl hs3) ?_
    refine l_val (v:=Nx (pre.length)) rfl rfl rfl (e_move) ?_
    refine l_nil ?_
    exact f_owes_d (up_cons rfl hs3) rfl (List.Perm.refl _)
   ·rintro f M ⟨k0,k1,-⟩-
    have hs31:f 31= .slice lsa (HL.length) (lsc):=k0
    have hs32:f 32=Nx (pre.length):=k1
    refine ob_start (L':=M) (by rfl) (up_cons (up_cons rfl hs31) hs32) ?_
    refine l_val (v:= .pointer (some ((ba lsa).add (pre.length*1)))) rfl rfl rfl (e_indexAddr (k:=pre.length) (len:=HL.length) (cap:=lsc) (a:=lsa) rfl rfl tf122 (by omega) hxa) ?_
    refine l_nil ?_
    exact f_owes_d (up_cons (up_cons rfl hs31) hs32) rfl (List.Perm.refl _)
   ·rintro f M ⟨k0,-⟩-
    have hs33:f 33= .pointer (some ((ba lsa).add (pre.length*1))):=k0
    refine ob_start (L':=M) (by rfl) (up_cons rfl hs33) ?_
    refine l_val (v:= .slice xp (xs.length) xc) rfl rfl rfl (e_load1 tf36 (v:= .slice xp (xs.length) xc) rfl (Knows.of_base (Cs.mono _ _) hxc)) ?_
    refine l_nil ?_
    exact f_owes_d (up_cons rfl hs33) rfl (List.Perm.refl _)
   ·rintro f M-⟨i0,-⟩
    have hs4:f 4=Nx (i):=i0
    refine ob_start (L':=M) (by rfl) (up_cons rfl hs4) ?_
    refine l_val (v:=Nx (i)) rfl rfl rfl (e_move) ?_
    refine l_nil ?_
    exact f_owes_d (up_cons rfl hs4) rfl (List.Perm.refl _)
   ·rintro f M-⟨i0,-⟩
    have hs3:f 3=Nx (pre.length):=i0
    refine ob_start (L':=M) (by rfl) (up_cons rfl hs3) ?_
    refine l_val (v:=Nx (pre.length)) rfl rfl rfl (e_move) ?_
    refine l_nil ?_
    exact f_owes_d (up_cons rfl hs3) rfl (List.Perm.refl _)
   ·rintro f M-⟨i0,-⟩
    have hs4:f 4=Nx (i):=i0
    refine ob_start (L':=M) (by rfl) (up_cons rfl hs4) ?_
    refine l_val (v:=Nx (i)) rfl rfl rfl (e_move) ?_
    refine l_nil ?_
    exact f_owes_d (up_cons rfl hs4) rfl (List.Perm.refl _)
   ·rintro f M ⟨k0,k1,-⟩-
    have hs36:f 36=Nx (pre.length):=k0
    have hs37:f 37=Nx (i):=k1
    refine ob_start (L':=M) (by rfl) (up_cons (up_cons rfl hs36) hs37) ?_
    refine l_call rfl rfl rfl (cl_value (fst:=[]) (cap:=[]) (vs:=[Nx (pre.length),Nx (i)]) (all:=[Nx (pre.length),Nx (i)]) tf123 rfl rfl rfl) ?_
    intro w hw
    obtain⟨β1,sb,kn,hw1,back⟩:=St.frame_all hw
    refine(markP_ok β1 w hw1 pre.length i (by omega) (by omega)).mono ?_
    rintro e w' ⟨rfl,hw'⟩
    refine⟨_,rfl,_,back _ _ hw',?_⟩
    clear hw hw1 hw' back kn sb
    refine l_nil ?_
    exact f_owes_d (up_cons (up_cons rfl hs36) hs37) rfl (List.Perm.refl _)
   ·rintro f M ⟨k0,k1,-⟩-
    have hs34:f 34= .slice xp (xs.length) xc:=k0
    have hs35:f 35=Nx (i):=k1
    refine ob_start (L':=rowF PairF 55 xp xc ((mkL markP pre.length i)++xs.drop i)::M) (by rfl) (up_cons (up_cons rfl hs34) hs35) ?_
    refine l_val (v:= .pointer (some ((ba xp).add (i*2)))) rfl rfl rfl (e_indexFlN 0 (F:=PairF) (j:=i) (m:=xs.length) (xs:=((mkL markP pre.length i)++xs.drop i)) rfl (mkp_len (by omega)).symm rfl tf37 (by omega) rfl) ?_
    refine l_nil ?_
    exact f_owes_d (up_cons (up_cons rfl hs34) hs35) rfl (perm_front 0 rfl)
   ·rintro f M ⟨k0,k1,-⟩-
    have hs39:f 39= .pointer (some ((ba xp).add (i*2))):=k0
    have hs38:f 38= .agg #[Ix ((markP pre.length i).a),Ix ((markP pre.length i).b)]:=k1
    refine ob_start (L':=rowF PairF 55 xp xc ((mkL markP pre.length i)++xs.drop i)::M) (by rfl) (up_cons (up_cons rfl hs39) hs38) ?_
    refine l_mu rfl rfl (m_storeFl 0 (F:=PairF) (p:=xp) (k:=i) (xs:=((mkL markP pre.length i)++xs.drop i)) (z:=(markP pre.length i)) tf35 rfl rfl rfl rfl (by rw[mkp_len (by first|omega|(rw[List.length_replicate];omega))];(try rw[List.length_replicate]);omega)) ?_
    refine l_nil ?_
    exact f_owes_n (up_cons (up_cons rfl hs39) hs38) trivial (perm_front 0 rfl)
   rintro fa3 ⟨-,-,-,-,-,-,-,-,-,-,-⟩ ⟨j0,j1,j2,-⟩
   refine f_re (L':=[Sat (po.map (ownV PairF 55)),Sat (fromK (rowK PairF 55 markP) 0 pre),rowF PairF 55 xp xc (((mkL markP pre.length i)++xs.drop i).set i (markP pre.length i))]) (by rfl) ?_
   refine f_rebase (d:=0) (v:= .slice lsa (HL.length) (lsc)) j0 ?_
   refine f_rebase (d:=3) (v:=Nx (pre.length)) j1 ?_
   refine f_rebase (d:=4) (v:=Nx (i)) j2 ?_
   refine f_block ?_
   refine f_then ?_
   refine c_region ?_
   refine l_val (v:=Nx (i)) rfl rfl rfl (e_move) ?_
   refine l_val (v:=Nx (i+1)) rfl rfl rfl (e_add (a:=((i:Nat):Int)) (b:=(1:Int)) rfl rfl (i64n (by omega) (by omega))) ?_
   refine l_val (v:=Nx (i+1)) rfl rfl rfl (e_assign) ?_
   refine l_nil ?_
   refine f_perm (L':=[Sat (po.map (ownV PairF 55)),rowF PairF 55 xp xc (((mkL markP pre.length i)++xs.drop i).set i (markP pre.length i)),Sat (fromK (rowK PairF 55 markP) 0 pre)]) (perm_ix [0,2,1] 3 rfl (by kernel_rfl) (by kernel_rfl)) ?_
   exact f_cut ⟨i+1,⟨⟨rfl,rfl,rfl⟩,by rw[mkp_step (by omega)],by omega⟩,(show xs.length-(i+1)<xs.length-i from by omega)⟩
  ·
   refine c_exit ?_
   refine f_then_exit ?_
   refine f_then_exit ?_
   refine f_exit ?_
   refine f_block ?_
   refine f_then ?_
   obtain rfl:i=xs.length:=by omega
   rw[mkp_done (Nat.le_refl _)]
   refine c_perm (L':=[Sat (fromK (rowK PairF 55 markP) 0 pre),rowF PairF 55 xp xc (mkL markP pre.length xs.length),Sat (po.map (ownV PairF 55))]) (perm_ix [2,1,0] 3 rfl (by kernel_rfl) (by kernel_rfl)) ?_
   refine c_snocR (Ls':=fromK (rowK PairF 55 markP) 0 (pre++[(⟨xp,xs.length,xc⟩:H3)])) (M:=[Sat (po.map (ownV PairF 55))]) rfl (snocK (rowK PairF 55 markP) (⟨xp,xs.length,xc⟩:H3) pre) ?_
   refine c_region ?_
   refine l_val (v:=Nx (pre.length)) rfl rfl rfl (e_move) ?_
   refine l_val (v:=Nx (pre.length+1)) rfl rfl rfl (e_add (a:=((pre.length:Nat):Int)) (b:=(1:Int)) rfl rfl (i64n (by omega) (by omega))) ?_
   refine l_val (v:=Nx (pre.length+1)) rfl rfl rfl (e_assign) ?_
   refine l_nil ?_
   exact f_cut ⟨((pre++[(⟨xp,xs.length,xc⟩:H3)]),po),⟨⟨rfl,congrArg (fun z:Nat=>Nx z) (by rw[List.length_append];rfl)⟩,rfl,⟨by rw[hpp,hpo,List.append_assoc];rfl,fun v hv=>hbp v (by rw[hpo];exact List.mem_cons_of_mem _ hv)⟩⟩,(Nat.lt_succ_self po.length)⟩
 ·
  refine c_exit ?_
  refine f_then_exit ?_
  refine f_then_exit ?_
  refine f_exit ?_
  refine f_then ?_
  refine c_seq ?_
  have hlen:HL.length=pre.length+post.length:=by rw[hpp,List.length_append,List.length_map]
  obtain rfl:=unnil hlen (by omega)
  obtain rfl:HL=pre:=by rw[hpp,List.map_nil,List.append_nil]
  refine c_mask [true,false] rfl ?_
  refine c_region ?_
  refine l_val (v:= .slice lsa (HL.length) (lsc)) rfl rfl rfl (e_move) ?_
  refine l_val (v:=Nx (HL.length)) rfl rfl rfl (e_len (a:=lsa) (n:=HL.length) (c:=lsc) rfl tf121) ?_
  refine l_mv rfl rfl rfl (m_makeFl (F:=H3F) (x0:=(⟨none,0,0⟩:H3)) (c:=HL.length) tf122 tf124 tf59 rfl rfl rfl (by unfold maxLen;omega) (by omega)) ?_
  rintro _ _ ⟨b4,rfl,rfl⟩
  refine l_val (v:= .slice (some ⟨b4,0,none⟩) (HL.length) HL.length) rfl rfl rfl (e_assign) ?_
  refine l_nil ?_
  refine f_then ?_
  refine c_seq ?_
  refine c_seq ?_
  refine c_emp (r:=Sat (fromK (famK PairF 55 markP) 0 [])) trivial ?_
  refine c_perm (L':=[Sat (fromK (famK PairF 55 markP) 0 []),Sat (fromK (rowK PairF 55 markP) 0 HL),rowF H3F 38 (some ⟨b4,0,none⟩) HL.length (List.replicate HL.length (⟨none,0,0⟩:H3))]) (perm_ix [0,2,1] 3 rfl (by kernel_rfl) (by kernel_rfl)) ?_
  refine c_region ?_
  refine l_val (v:= .int .i64 (0)) rfl rfl rfl (e_assign) ?_
  refine l_nil ?_
  refine f_then ?_
  refine c_block ?_
  refine c_loop (fun(x_:List Z5×List H3) (f:Fm) (L:List Res)=>match x_ with|(zs,post)=>(f 0= .slice lsa (HL.length) (lsc)∧f 5= .slice (some ⟨b4,0,none⟩) (HL.length) HL.length∧f 6=Nx (zs.length))∧L=[Sat (fromK (famK PairF 55 markP) 0 zs),Sat (fromK (rowK PairF 55 markP) zs.length post),rowF H3F 38 (some ⟨b4,0,none⟩) HL.length (zs.map gh3++List.replicate post.length (⟨none,0,0⟩:H3))]∧(HL=zs.map Z5.h++post)) (fun(x_:List Z5×List H3)=>match x_ with|(zs,post)=>post.length) ([],HL) ?_ ?_
  ·exact⟨⟨rfl,rfl,rfl⟩,rfl,rfl⟩
  rintro⟨zs,post⟩ f0 L0 ⟨⟨hs0,hs5,hs6⟩,hL,hpp⟩
  subst L0
  refine rebase (d:=0) hs0 ?_
  refine rebase (d:=5) hs5 ?_
  refine rebase (d:=6) hs6 ?_
  clear hs0 hs5 hs6
  have hlen:HL.length=zs.length+post.length:=by rw[hpp,List.length_append,List.length_map]
  refine c_seq ?_
  refine c_seq ?_
  refine c_region ?_
  refine l_val (v:=Nx (zs.length)) rfl rfl rfl (e_move) ?_
  refine l_val (v:= .slice lsa (HL.length) (lsc)) rfl rfl rfl (e_move) ?_
  refine l_val (v:=Nx (HL.length)) rfl rfl rfl (e_len (a:=lsa) (n:=HL.length) (c:=lsc) rfl tf121) ?_
  refine l_val (v:= .bool (decide (((zs.length:Nat):Int)<((HL.length:Nat):Int)))) rfl rfl rfl (e_lss (a:=((zs.length:Nat):Int)) (b:=((HL.length:Nat):Int)) rfl rfl) ?_
  refine l_nil ?_
  refine f_then ?_
  refine c_if (((zs.length:Nat):Int)<((HL.length:Nat):Int)) rfl (fun hc5=> ?_) (fun hc5=> ?_)
  ·
   refine c_skip ?_
   refine f_then ?_
   refine c_seq ?_
   refine c_block ?_
   refine c_seq ?_
   obtain⟨⟨xp,xn,xc⟩,po,hpo⟩:=uncons hlen (by omega)
   have hx:HL[zs.length]? =some (⟨xp,xn,xc⟩:H3):=by rw[hpp,hpo];exact mid_at (List.length_map _).symm
   have hxl:xn≤1000000:=hbd0 _ (List.mem_of_getElem? hx)
   obtain⟨hxa,cs_,hxc,rfl⟩:=lse _ _ hx
   refine c_perm (L':=[Sat (fromK (rowK PairF 55 markP) zs.length post),Sat (fromK (famK PairF 55 markP) 0 zs),rowF H3F 38 (some ⟨b4,0,none⟩) HL.length (zs.map gh3++List.replicate post.length (⟨none,0,0⟩:H3))]) (perm_ix [1,0,2] 3 rfl (by kernel_rfl) (by kernel_rfl)) ?_
   rw[hpo]
   refine c_headR (r:=rowF PairF 55 xp xc (mkL markP zs.length xn)) (Ls:=fromK (rowK PairF 55 markP) (zs.length+1) po) (M:=[Sat (fromK (famK PairF 55 markP) 0 zs),rowF H3F 38 (some ⟨b4,0,none⟩) HL.length (zs.map gh3++(⟨none,0,0⟩:H3)::List.replicate po.length (⟨none,0,0⟩:H3))]) rfl ?_
   have hpl:post.length=po.length+1:=by rw[hpo];rfl
   refine c_region ?_
   refine l_val (v:= .slice lsa (HL.length) (lsc)) rfl rfl rfl (e_move) ?_
   refine l_val (v:=Nx (zs.length)) rfl rfl rfl (e_move) ?_
   refine l_val (v:= .pointer (some ((ba lsa).add (zs.length*1)))) rfl rfl rfl (e_indexAddr (k:=zs.length) (len:=HL.length) (cap:=lsc) (a:=lsa) rfl rfl tf122 (by omega) hxa) ?_
   refine l_val (v:= .slice xp (xn) xc) rfl rfl rfl (e_load1 tf36 (v:= .slice xp (xn) xc) rfl (Knows.of_base (Cs.mono _ _) hxc)) ?_
   refine l_val (v:= .slice xp (xn) xc) rfl rfl rfl (e_assign) ?_
   refine l_nil ?_
   refine f_then ?_
   refine c_seq ?_
   refine c_seq ?_
   refine c_conseq 1 (r':=famF PairF 55 xp xc (mkL markP zs.length xn) xp xc (mkL markP zs.length xn)) rfl famF_start ?_
   refine c_region ?_
   refine l_val (v:= .int .i64 (0)) rfl rfl rfl (e_assign) ?_
   refine l_nil ?_
   refine f_then ?_
   refine c_block ?_
   refine c_loop (fun(x_:Nat×Option Addr×Nat) (f:Fm) (L:List Res)=>match x_ with|(i,q,e)=>(f 0= .slice lsa (HL.length) (lsc)∧f 5= .slice (some ⟨b4,0,none⟩) (HL.length) HL.length∧f 6=Nx (zs.length)∧f 7= .slice q (xn+i) e∧f 8=Nx (i))∧L=[Sat (fromK (rowK PairF 55 markP) (zs.length+1) po),famF PairF 55 xp xc (mkL markP zs.length xn) q e (mkL markP zs.length (xn+i)),Sat (fromK (famK PairF 55 markP) 0 zs),rowF H3F 38 (some ⟨b4,0,none⟩) HL.length (zs.map gh3++(⟨none,0,0⟩:H3)::List.replicate po.length (⟨none,0,0⟩:H3))]∧(i≤64)) (fun(x_:Nat×Option Addr×Nat)=>match x_ with|(i,q,e)=>64-i) (0,xp,xc) ?_ ?_
   ·exact⟨⟨rfl,rfl,rfl,rfl,rfl⟩,rfl,by omega⟩
   rintro⟨i,q,e⟩ f0 L0 ⟨⟨hs0,hs5,hs6,hs7,hs8⟩,hL,hi⟩
   subst L0
   refine rebase (d:=0) hs0 ?_
   refine rebase (d:=5) hs5 ?_
   refine rebase (d:=6) hs6 ?_
   refine rebase (d:=7) hs7 ?_
   refine rebase (d:=8) hs8 ?_
   clear hs0 hs5 hs6 hs7 hs8
   refine c_seq ?_
   refine c_seq ?_
   refine c_region ?_
   refine l_val (v:=Nx (i)) rfl rfl rfl (e_move) ?_
   refine l_val (v:= .bool (decide (((i:Nat):Int)<(64:Int)))) rfl rfl rfl (e_lss (a:=((i:Nat):Int)) (b:=(64:Int)) rfl rfl) ?_
   refine l_nil ?_
   refine f_then ?_
   refine c_if (((i:Nat):Int)<(64:Int)) rfl (fun hc6=> ?_) (fun hc6=> ?_)
   ·
    refine c_skip ?_
    refine f_then ?_
    refine c_seq ?_
    refine c_block ?_
    refine c_region ?_
    refine l_val (v:= .slice q (xn+i) e) rfl rfl rfl (e_move) ?_
    refine l_val (v:=Nx (zs.length)) rfl rfl rfl (e_move) ?_
    refine l_val (v:= .slice lsa (HL.length) (lsc)) rfl rfl rfl (e_move) ?_
    refine l_val (v:=Nx (zs.length)) rfl rfl rfl (e_move) ?_
    refine l_val (v:= .pointer (some ((ba lsa).add (zs.length*1)))) rfl rfl rfl (e_indexAddr (k:=zs.length) (len:=HL.length) (cap:=lsc) (a:=lsa) rfl rfl tf122 (by omega) hxa) ?_
    refine l_val (v:= .slice xp (xn) xc) rfl rfl rfl (e_load1 tf36 (v:= .slice xp (xn) xc) rfl (Knows.of_base (Cs.mono _ _) hxc)) ?_
    refine l_val (v:=Nx (xn)) rfl rfl rfl (e_len (a:=xp) (n:=xn) (c:=xc) rfl tf65) ?_
    refine l_val (v:=Nx (i)) rfl rfl rfl (e_move) ?_
    refine l_val (v:=Nx (xn+i)) rfl rfl rfl (e_add (a:=((xn:Nat):Int)) (b:=((i:Nat):Int)) rfl rfl (i64n (by omega) (by omega))) ?_
    refine l_call rfl rfl rfl (cl_value (fst:=[]) (cap:=[]) (vs:=[Nx (zs.length),Nx (xn+i)]) (all:=[Nx (zs.length),Nx (xn+i)]) tf123 rfl rfl rfl) ?_
    intro w hw
    obtain⟨β1,sb,kn,hw1,back⟩:=St.frame_all hw
    refine(markP_ok β1 w hw1 zs.length (xn+i) (by omega) (by omega)).mono ?_
    rintro e w' ⟨rfl,hw'⟩
    refine⟨_,rfl,_,back _ _ hw',?_⟩
    clear hw hw1 hw' back kn sb
    refine l_mv rfl rfl rfl (m_slices tf37 tf33 (vs:=[(0,.agg #[Ix ((markP zs.length (xn+i)).a),Ix ((markP zs.length (xn+i)).b)])]) (cells:= #[Ix ((markP zs.length (xn+i)).a),Ix ((markP zs.length (xn+i)).b)]) rfl rfl rfl rfl) ?_
    rintro _ _ ⟨b7,rfl,rfl⟩
    refine l_mv rfl rfl rfl (m_append_famF (F:=PairF) 2 tf37 tf38 (q:=q) (m:=xn+i) (e:=e) (zs:=[(markP zs.length (xn+i))]) (ad:=⟨b7,0,none⟩) (k:=1) (cc:=1) rfl rfl (mkL_len _ _).symm rfl rfl (k_pt 0 (cs:= #[Ix ((markP zs.length (xn+i)).a),Ix ((markP zs.length (xn+i)).b)]) (vs:=[Ix ((markP zs.length (xn+i)).a),Ix ((markP zs.length (xn+i)).b)]) rfl rfl) (by omega) (by unfold maxLen;omega) (by omega)) ?_
    rintro _ _ ⟨rp8,rc9,rfl,rfl⟩
    refine l_val (v:= .slice rp8 (xn+i+1) rc9) rfl rfl rfl (e_assign) ?_
    refine l_nil ?_
    refine f_block ?_
    refine f_then ?_
    refine c_region ?_
    refine l_val (v:=Nx (i)) rfl rfl rfl (e_move) ?_
    refine l_val (v:=Nx (i+1)) rfl rfl rfl (e_add (a:=((i:Nat):Int)) (b:=(1:Int)) rfl rfl (i64n (by omega) (by omega))) ?_
    refine l_val (v:=Nx (i+1)) rfl rfl rfl (e_assign) ?_
    refine l_nil ?_
    refine f_mask (L':=[Sat (fromK (rowK PairF 55 markP) (zs.length+1) po),famF PairF 55 xp xc (mkL markP zs.length xn) rp8 rc9 ((mkL markP zs.length (xn+i))++[(markP zs.length (xn+i))]),Sat (fromK (famK PairF 55 markP) 0 zs),rowF H3F 38 (some ⟨b4,0,none⟩) HL.length (zs.map gh3++(⟨none,0,0⟩:H3)::List.replicate po.length (⟨none,0,0⟩:H3))]) [false,true,true,true,true] rfl ?_
    exact f_cut ⟨(i+1,rp8,rc9),⟨⟨rfl,rfl,rfl,rfl,rfl⟩,by rw[mkL_succ]<;>rfl,by omega⟩,(show 64-(i+1)<64-i from by omega)⟩
   ·
    refine c_exit ?_
    refine f_then_exit ?_
    refine f_then_exit ?_
    refine f_exit ?_
    refine f_then ?_
    refine c_region ?_
    refine l_val (v:= .slice (some ⟨b4,0,none⟩) (HL.length) HL.length) rfl rfl rfl (e_move) ?_
    refine l_val (v:=Nx (zs.length)) rfl rfl rfl (e_move) ?_
    refine l_val (v:= .slice q (xn+i) e) rfl rfl rfl (e_move) ?_
    refine l_val (v:= .pointer (some ((ba (some ⟨b4,0,none⟩)).add (zs.length*1)))) rfl rfl rfl (e_indexFlN 3 (F:=H3F) (j:=zs.length) (m:=HL.length) (xs:=(zs.map gh3++(⟨none,0,0⟩:H3)::List.replicate po.length (⟨none,0,0⟩:H3))) rfl (by simp only[List.length_append,List.length_map,List.length_replicate,List.length_cons,List.length_set];omega) rfl tf122 (by omega) rfl) ?_
    refine l_mu rfl rfl (m_storeFl 3 (F:=H3F) (p:=(some ⟨b4,0,none⟩)) (k:=zs.length) (xs:=(zs.map gh3++(⟨none,0,0⟩:H3)::List.replicate po.length (⟨none,0,0⟩:H3))) (z:=(⟨q,xn+i,e⟩:H3)) tf36 rfl rfl rfl rfl (by simp only[List.length_append,List.length_map,List.length_replicate,List.length_cons];omega)) ?_
    refine l_nil ?_
    refine f_block ?_
    refine f_then ?_
    obtain rfl:i=64:=by omega
    refine c_perm (L':=[Sat (fromK (famK PairF 55 markP) 0 zs),famF PairF 55 xp xc (mkL markP zs.length xn) q e (mkL markP zs.length (xn+64)),Sat (fromK (rowK PairF 55 markP) (zs.length+1) po),rowF H3F 38 (some ⟨b4,0,none⟩) HL.length ((zs.map gh3++(⟨none,0,0⟩:H3)::List.replicate po.length (⟨none,0,0⟩:H3)).set zs.length (⟨q,xn+64,e⟩:H3))]) (perm_ix [2,1,0,3] 4 rfl (by kernel_rfl) (by kernel_rfl)) ?_
    refine c_re (L':=[Sat (fromK (famK PairF 55 markP) 0 zs),famF PairF 55 xp xc (mkL markP zs.length xn) q e (mkL markP zs.length (xn+64)),Sat (fromK (rowK PairF 55 markP) (zs.length+1) po),rowF H3F 38 (some ⟨b4,0,none⟩) HL.length ((zs++[(⟨(⟨xp,xn,xc⟩:H3),q,e⟩:Z5)]).map gh3++List.replicate po.length (⟨none,0,0⟩:H3))]) (by rw[←gs_set];rfl) ?_
    refine c_snocR (Ls':=fromK (famK PairF 55 markP) 0 (zs++[(⟨(⟨xp,xn,xc⟩:H3),q,e⟩:Z5)])) (M:=[Sat (fromK (rowK PairF 55 markP) (zs.length+1) po),rowF H3F 38 (some ⟨b4,0,none⟩) HL.length ((zs++[(⟨(⟨xp,xn,xc⟩:H3),q,e⟩:Z5)]).map gh3++List.replicate po.length (⟨none,0,0⟩:H3))]) rfl (snocK (famK PairF 55 markP) (⟨(⟨xp,xn,xc⟩:H3),q,e⟩:Z5) zs) ?_
    refine c_region ?_
    refine l_val (v:=Nx (zs.length)) rfl rfl rfl (e_move) ?_
    refine l_val (v:=Nx (zs.length+1)) rfl rfl rfl (e_add (a:=((zs.length:Nat):Int)) (b:=(1:Int)) rfl rfl (i64n (by omega) (by omega))) ?_
    refine l_val (v:=Nx (zs.length+1)) rfl rfl rfl (e_assign) ?_
    refine l_nil ?_
    exact f_cut ⟨((zs++[⟨(⟨xp,xn,xc⟩:H3),q,e⟩]),po),⟨⟨rfl,rfl,congrArg (fun z:Nat=>Nx z) (by rw[List.length_append];rfl)⟩,by rw[List.length_append]<;>rfl,by rw[hpp,hpo,List.map_append,List.append_assoc];rfl⟩,(Nat.lt_succ_self po.length)⟩
  ·
   refine c_exit ?_
   refine f_then_exit ?_
   refine f_then_exit ?_
   refine f_exit ?_
   refine f_then ?_
   refine c_seq ?_
   refine c_seq ?_
   have hlen:HL.length=zs.length+post.length:=by rw[hpp,List.length_append,List.length_map]
   obtain rfl:=unnil hlen (by omega)
   have hz:HL=zs.map Z5.h:=by rw[hpp,List.append_nil]
   have hzl:zs.length=HL.length:=by rw[hz,List.length_map]
   refine c_re (L':=[Sat (fromK (famK PairF 55 markP) 0 zs),Sat (fromK (rowK PairF 55 markP) zs.length ([]:List H3)),rowF H3F 38 (some ⟨b4,0,none⟩) HL.length (zs.map gh3)]) (by rw[show List.replicate ([]:List H3).length (⟨none,0,0⟩:H3)=[]from rfl,List.append_nil]) ?_
   refine c_mask [true,false,true] rfl ?_
   refine c_region ?_
   refine l_val (v:= .int .i64 (0)) rfl rfl rfl (e_assign) ?_
   refine l_nil ?_
   refine f_then ?_
   refine c_block ?_
   refine c_loop (fun(k:Nat) (f:Fm) (L:List Res)=>(f 0= .slice lsa (HL.length) (lsc)∧f 5= .slice (some ⟨b4,0,none⟩) (HL.length) HL.length∧f 9=Nx (k))∧L=[Sat (fromK (famK PairF 55 markP) 0 zs),rowF H3F 38 (some ⟨b4,0,none⟩) HL.length (zs.map gh3)]∧(k≤HL.length)) (fun(k:Nat)=>HL.length-k) 0 ?_ ?_
   ·exact⟨⟨rfl,rfl,rfl⟩,rfl,by omega⟩
   rintro k f0 L0 ⟨⟨hs0,hs5,hs9⟩,hL,hk⟩
   subst L0
   refine rebase (d:=0) hs0 ?_
   refine rebase (d:=5) hs5 ?_
   refine rebase (d:=9) hs9 ?_
   clear hs0 hs5 hs9
   refine c_seq ?_
   refine c_seq ?_
   refine c_region ?_
   refine l_val (v:=Nx (k)) rfl rfl rfl (e_move) ?_
   refine l_val (v:= .slice lsa (HL.length) (lsc)) rfl rfl rfl (e_move) ?_
   refine l_val (v:=Nx (HL.length)) rfl rfl rfl (e_len (a:=lsa) (n:=HL.length) (c:=lsc) rfl tf121) ?_
   refine l_val (v:= .bool (decide (((k:Nat):Int)<((HL.length:Nat):Int)))) rfl rfl rfl (e_lss (a:=((k:Nat):Int)) (b:=((HL.length:Nat):Int)) rfl rfl) ?_
   refine l_nil ?_
   refine f_then ?_
   refine c_if (((k:Nat):Int)<((HL.length:Nat):Int)) rfl (fun hc10=> ?_) (fun hc10=> ?_)
   ·
    refine c_skip ?_
    refine f_then ?_
    refine c_seq ?_
    refine c_block ?_
    refine c_seq ?_
    obtain⟨⟨⟨zp,zn,zc⟩,zq,ze⟩,hzk⟩:∃z_,zs[k]? =some z_:=⟨_,List.getElem?_eq_getElem (by omega)⟩
    have hx:HL[k]? =some (⟨zp,zn,zc⟩:H3):=by rw[hz,List.getElem?_map,hzk];rfl
    have hxl:zn≤1000000:=hbd0 _ (List.mem_of_getElem? hx)
    have hgk:(zs.map gh3)[k]? =some (⟨zq,zn+64,ze⟩:H3):=by rw[List.getElem?_map,hzk];rfl
    obtain⟨hxa,cs_,hxc,rfl⟩:=lse _ _ hx
    refine c_takeN k (r:=famF PairF 55 zp zc (mkL markP k zn) zq ze (mkL markP k (zn+64))) (fromK_at0 _ hzk) rfl ?_
    refine c_region ?_
    refine l_val (v:= .int .i64 (0)) rfl rfl rfl (e_assign) ?_
    refine l_nil ?_
    refine f_then ?_
    refine c_block ?_
    refine c_loop (fun(i:Nat) (f:Fm) (L:List Res)=>(f 0= .slice lsa (HL.length) (lsc)∧f 5= .slice (some ⟨b4,0,none⟩) (HL.length) HL.length∧f 9=Nx (k)∧f 10=Nx (i))∧L=[Sat ((fromK (famK PairF 55 markP) 0 zs).eraseIdx k),famF PairF 55 zp zc (mkL markP k zn) zq ze (mkL markP k (zn+64)),rowF H3F 38 (some ⟨b4,0,none⟩) HL.length (zs.map gh3)]∧(i≤zn+64)) (fun(i:Nat)=>zn+64-i) 0 ?_ ?_
    ·exact⟨⟨rfl,rfl,rfl,rfl⟩,rfl,by omega⟩
    rintro i f0 L0 ⟨⟨hs0,hs5,hs9,hs10⟩,hL,hi⟩
    subst L0
    refine rebase (d:=0) hs0 ?_
    refine rebase (d:=5) hs5 ?_
    refine rebase (d:=9) hs9 ?_
    refine rebase (d:=10) hs10 ?_
    clear hs0 hs5 hs9 hs10
    refine c_seq ?_
    refine c_seq ?_
    refine c_region ?_
    refine l_val (v:=Nx (i)) rfl rfl rfl (e_move) ?_
    refine l_val (v:= .slice (some ⟨b4,0,none⟩) (HL.length) HL.length) rfl rfl rfl (e_move) ?_
    refine l_val (v:=Nx (k)) rfl rfl rfl (e_move) ?_
    refine l_val (v:= .pointer (some ((ba (some ⟨b4,0,none⟩)).add (k*1)))) rfl rfl rfl (e_indexFlN 2 (F:=H3F) (j:=k) (m:=HL.length) (xs:=(zs.map gh3)) rfl (by simp only[List.length_append,List.length_map,List.length_replicate,List.length_cons,List.length_set];omega) rfl tf122 (by omega) rfl) ?_
    refine l_val (v:= .slice zq (zn+64) ze) rfl rfl rfl (e_load1 tf36 (v:= .slice zq (zn+64) ze) rfl (k_flAt 2 (F:=H3F) rfl hgk)) ?_
    refine l_val (v:=Nx (zn+64)) rfl rfl rfl (e_len (a:=zq) (n:=zn+64) (c:=ze) rfl tf65) ?_
    refine l_val (v:= .bool (decide (((i:Nat):Int)<((zn+64:Nat):Int)))) rfl rfl rfl (e_lss (a:=((i:Nat):Int)) (b:=((zn+64:Nat):Int)) rfl rfl) ?_
    refine l_nil ?_
    refine f_then ?_
    refine c_if (((i:Nat):Int)<((zn+64:Nat):Int)) rfl (fun hc11=> ?_) (fun hc11=> ?_)
    ·
     refine c_skip ?_
     refine f_then ?_
     refine c_seq ?_
     refine c_block ?_
     refine c_seq ?_
     refine c_quiet (by kernel_rfl) (by kernel_rfl) ?_
     refine q_val (v:= .slice (some ⟨b4,0,none⟩) (HL.length) HL.length) rfl rfl rfl (e_move) ?_
     refine q_val (v:=Nx (k)) rfl rfl rfl (e_move) ?_
     refine q_val (v:= .pointer (some ((ba (some ⟨b4,0,none⟩)).add (k*1)))) rfl rfl rfl (e_indexFlN 2 (F:=H3F) (j:=k) (m:=HL.length) (xs:=(zs.map gh3)) rfl (by simp only[List.length_append,List.length_map,List.length_replicate,List.length_cons,List.length_set];omega) rfl tf122 (by omega) rfl) ?_
     refine q_val (v:= .slice zq (zn+64) ze) rfl rfl rfl (e_load1 tf36 (v:= .slice zq (zn+64) ze) rfl (k_flAt 2 (F:=H3F) rfl hgk)) ?_
     refine q_val (v:=Nx (i)) rfl rfl rfl (e_move) ?_
     refine q_val (v:= .pointer (some ((ba zq).add (i*2)))) rfl rfl rfl (e_indexFam2F 1 (F:=PairF) (j:=i) (m:=zn+64) rfl (by rw[mkL_len];omega) rfl tf37 (by omega) rfl) ?_
     refine q_val (v:= .agg #[Ix ((markP k i).a),Ix ((markP k i).b)]) rfl rfl rfl (e_load tf35 (cs:=[Ix ((markP k i).a),Ix ((markP k i).b)]) rfl (k_fam2F 1 (F:=PairF) (j:=i) (x:=(markP k i)) rfl (mkL_at (by omega))) rfl) ?_
     refine q_val (v:=Nx (k)) rfl rfl rfl (e_move) ?_
     refine q_val (v:=Nx (i)) rfl rfl rfl (e_move) ?_
     refine q_call (v:= .agg #[Ix ((markP k i).a),Ix ((markP k i).b)]) rfl rfl rfl (cl_value (fst:=[]) (cap:=[]) (vs:=[Nx (k),Nx (i)]) (all:=[Nx (k),Nx (i)]) tf123 rfl rfl rfl) (fun w hw=> ?_) ?_
     ·obtain⟨β1,sb,kn,hw1,back⟩:=St.frame_all hw
      exact(markP_ok β1 w hw1 k i (by omega) (by omega)).mono (fun e w' ⟨he,hw'⟩=>⟨he,st_mask [true,true,true] rfl (back _ _ hw')⟩)
     refine q_val (v:= .bool (decide (((markP k i).a)=((markP k i).a)∧((markP k i).b)=((markP k i).b)))) rfl rfl rfl (e_eql_t (xs:=[Ix ((markP k i).a),Ix ((markP k i).b)]) (ys:=[Ix ((markP k i).a),Ix ((markP k i).b)]) tf68 tf69 tf70 rfl rfl rfl rfl vec_eq) ?_
     refine q_val (v:= .bool (decide (¬(((markP k i).a)=((markP k i).a)∧((markP k i).b)=((markP k i).b))))) rfl rfl rfl (e_not_p (p:=((markP k i).a)=((markP k i).a)∧((markP k i).b)=((markP k i).b)) rfl) ?_
     refine q_val (v:= .bool (decide (¬(((markP k i).a)=((markP k i).a)∧((markP k i).b)=((markP k i).b))))) rfl rfl rfl (e_move) ?_
     refine q_split (s:=100) (p:=¬(((markP k i).a)=((markP k i).a)∧((markP k i).b)=((markP k i).b))) rfl (fun h=> ?_) (fun h=> ?_)
     exact absurd h (fun h=>h ⟨rfl,rfl⟩)
     refine qg_val (v:=Nx (i)) rfl rfl rfl rfl rfl (e_move) ?_
     refine qg_val (v:= .slice lsa (HL.length) (lsc)) rfl rfl rfl rfl rfl (e_move) ?_
     refine qg_val (v:=Nx (k)) rfl rfl rfl rfl rfl (e_move) ?_
     refine qg_val (v:= .pointer (some ((ba lsa).add (k*1)))) rfl rfl rfl rfl rfl (e_indexAddr (k:=k) (len:=HL.length) (cap:=lsc) (a:=lsa) rfl rfl tf122 (by omega) hxa) ?_
     refine qg_val (v:= .slice zp (zn) zc) rfl rfl rfl rfl rfl (e_load1 tf36 (v:= .slice zp (zn) zc) rfl (Knows.of_base (Cs.mono _ _) hxc)) ?_
     refine qg_val (v:=Nx (zn)) rfl rfl rfl rfl rfl (e_len (a:=zp) (n:=zn) (c:=zc) rfl tf65) ?_
     refine qg_val (v:= .bool (decide (((i:Nat):Int)<((zn:Nat):Int)))) rfl rfl rfl rfl rfl (e_lss (a:=((i:Nat):Int)) (b:=((zn:Nat):Int)) rfl rfl) ?_
     refine qg_val (v:= .bool (decide (((i:Nat):Int)<((zn:Nat):Int)))) rfl rfl rfl rfl rfl (e_move) ?_
     refine q_split (s:=108) (p:=((i:Nat):Int)<((zn:Nat):Int)) rfl (fun hg12=> ?_) (fun hg12=> ?_)
     ·
      refine qg_val (v:= .slice lsa (HL.length) (lsc)) rfl rfl rfl rfl rfl (e_move) ?_
      refine qg_val (v:=Nx (k)) rfl rfl rfl rfl rfl (e_move) ?_
      refine qg_val (v:= .pointer (some ((ba lsa).add (k*1)))) rfl rfl rfl rfl rfl (e_indexAddr (k:=k) (len:=HL.length) (cap:=lsc) (a:=lsa) rfl rfl tf122 (by omega) hxa) ?_
      refine qg_val (v:= .slice zp (zn) zc) rfl rfl rfl rfl rfl (e_load1 tf36 (v:= .slice zp (zn) zc) rfl (Knows.of_base (Cs.mono _ _) hxc)) ?_
      refine qg_val (v:=Nx (i)) rfl rfl rfl rfl rfl (e_move) ?_
      refine qg_val (v:= .pointer (some ((ba zp).add (i*2)))) rfl rfl rfl rfl rfl (e_indexFam1F 1 (F:=PairF) (j:=i) (m:=zn) rfl (by rw[mkL_len];omega) rfl tf37 (by omega) rfl) ?_
      refine qg_val (v:= .agg #[Ix ((markP k i).a),Ix ((markP k i).b)]) rfl rfl rfl rfl rfl (e_load tf35 (cs:=[Ix ((markP k i).a),Ix ((markP k i).b)]) rfl (k_fam1F 1 (F:=PairF) (j:=i) (x:=(markP k i)) rfl (mkL_at (by omega))) rfl) ?_
      refine qg_val (v:=Nx (k)) rfl rfl rfl rfl rfl (e_move) ?_
      refine qg_val (v:=Nx (i)) rfl rfl rfl rfl rfl (e_move) ?_
      refine qg_call (v:= .agg #[Ix ((markP k i).a),Ix ((markP k i).b)]) rfl rfl rfl rfl rfl (cl_value (fst:=[]) (cap:=[]) (vs:=[Nx (k),Nx (i)]) (all:=[Nx (k),Nx (i)]) tf123 rfl rfl rfl) (fun w hw=> ?_) ?_
      ·obtain⟨β1,sb,kn,hw1,back⟩:=St.frame_all hw
       exact(markP_ok β1 w hw1 k i (by omega) (by omega)).mono (fun e w' ⟨he,hw'⟩=>⟨he,st_mask [true,true,true] rfl (back _ _ hw')⟩)
      refine qg_val (v:= .bool (decide (((markP k i).a)=((markP k i).a)∧((markP k i).b)=((markP k i).b)))) rfl rfl rfl rfl rfl (e_eql_t (xs:=[Ix ((markP k i).a),Ix ((markP k i).b)]) (ys:=[Ix ((markP k i).a),Ix ((markP k i).b)]) tf68 tf69 tf70 rfl rfl rfl rfl vec_eq) ?_
      refine qg_val (v:= .bool (decide (¬(((markP k i).a)=((markP k i).a)∧((markP k i).b)=((markP k i).b))))) rfl rfl rfl rfl rfl (e_not_p (p:=((markP k i).a)=((markP k i).a)∧((markP k i).b)=((markP k i).b)) rfl) ?_
      refine qg_val (v:= .bool (decide (¬(((markP k i).a)=((markP k i).a)∧((markP k i).b)=((markP k i).b))))) rfl rfl rfl rfl rfl (e_pick_t rfl) ?_
      refine q_val (v:= .bool (decide (¬(((markP k i).a)=((markP k i).a)∧((markP k i).b)=((markP k i).b))))) rfl rfl rfl (e_pick_f rfl) ?_
      refine q_nil ?_
      refine f_then ?_
      refine c_if (¬(((markP k i).a)=((markP k i).a)∧((markP k i).b)=((markP k i).b))) rfl (fun hc13=> ?_) (fun hc13=> ?_)
      ·
       exact absurd hc13 (fun h=>h ⟨rfl,rfl⟩)
      ·
       refine c_skip ?_
       refine f_block ?_
       refine f_then ?_
       refine c_region ?_
       refine l_val (v:=Nx (i)) rfl rfl rfl (e_move) ?_
       refine l_val (v:=Nx (i+1)) rfl rfl rfl (e_add (a:=((i:Nat):Int)) (b:=(1:Int)) rfl rfl (i64n (by omega) (by omega))) ?_
       refine l_val (v:=Nx (i+1)) rfl rfl rfl (e_assign) ?_
       refine l_nil ?_
       exact f_cut ⟨i+1,⟨⟨rfl,rfl,rfl,rfl⟩,rfl,by omega⟩,(show zn+64-(i+1)<zn+64-i from by omega)⟩
     ·
      refine q_skip rfl rfl rfl rfl rfl rfl ?_
      refine q_skip rfl rfl rfl rfl rfl rfl ?_
      refine q_skip rfl rfl rfl rfl rfl rfl ?_
      refine q_skip rfl rfl rfl rfl rfl rfl ?_
      refine q_skip rfl rfl rfl rfl rfl rfl ?_
      refine q_skip rfl rfl rfl rfl rfl rfl ?_
      refine q_skip rfl rfl rfl rfl rfl rfl ?_
      refine q_skip rfl rfl rfl rfl rfl rfl ?_
      refine q_skip rfl rfl rfl rfl rfl rfl ?_
      refine q_skip rfl rfl rfl rfl rfl rfl ?_
      refine q_skip rfl rfl rfl rfl rfl rfl ?_
      refine q_skip rfl rfl rfl rfl rfl rfl ?_
      refine qg_val (v:= .bool false) rfl rfl rfl rfl rfl (e_pick_f rfl) ?_
      refine q_val (v:= .bool false) rfl rfl rfl (e_pick_f rfl) ?_
      refine q_nil ?_
      refine f_then ?_
      refine c_no rfl ?_
      refine c_skip ?_
      refine f_block ?_
      refine f_then ?_
      refine c_region ?_
      refine l_val (v:=Nx (i)) rfl rfl rfl (e_move) ?_
      refine l_val (v:=Nx (i+1)) rfl rfl rfl (e_add (a:=((i:Nat):Int)) (b:=(1:Int)) rfl rfl (i64n (by omega) (by omega))) ?_
      refine l_val (v:=Nx (i+1)) rfl rfl rfl (e_assign) ?_
      refine l_nil ?_
      exact f_cut ⟨i+1,⟨⟨rfl,rfl,rfl,rfl⟩,rfl,by omega⟩,(show zn+64-(i+1)<zn+64-i from by omega)⟩
    ·
     refine c_exit ?_
     refine f_then_exit ?_
     refine f_then_exit ?_
     refine f_exit ?_
     refine f_block ?_
     refine f_then ?_
     refine c_putN k (fromK_at0 _ hzk) rfl ?_
     refine c_re (L':=[Sat (fromK (famK PairF 55 markP) 0 zs),rowF H3F 38 (some ⟨b4,0,none⟩) HL.length (zs.map gh3)]) rfl ?_
     refine c_region ?_
     refine l_val (v:=Nx (k)) rfl rfl rfl (e_move) ?_
     refine l_val (v:=Nx (k+1)) rfl rfl rfl (e_add (a:=((k:Nat):Int)) (b:=(1:Int)) rfl rfl (i64n (by omega) (by omega))) ?_
     refine l_val (v:=Nx (k+1)) rfl rfl rfl (e_assign) ?_
     refine l_nil ?_
     exact f_cut ⟨k+1,⟨⟨rfl,rfl,rfl⟩,rfl,by omega⟩,(show HL.length-(k+1)<HL.length-k from by omega)⟩
   ·
    refine c_exit ?_
    refine f_then_exit ?_
    refine f_then_exit ?_
    refine f_exit ?_
    refine f_then ?_
    refine c_seq ?_
    refine c_seq ?_
    refine c_emp (r:=Sat (fromK (famM PairF 55 markP HL.length) 0 [])) trivial ?_
    refine c_region ?_
    refine l_val (v:= .int .i64 (0)) rfl rfl rfl (e_assign) ?_
    refine l_nil ?_
    refine f_then ?_
    refine c_block ?_
    refine c_loop (fun(x_:List Z5×List Z5) (f:Fm) (L:List Res)=>match x_ with|(ys,post)=>(f 0= .slice lsa (HL.length) (lsc)∧f 5= .slice (some ⟨b4,0,none⟩) (HL.length) HL.length∧f 11=Nx (ys.length))∧L=[Sat (fromK (famM PairF 55 markP HL.length) 0 ys),Sat (fromK (famK PairF 55 markP) ys.length post),rowF H3F 38 (some ⟨b4,0,none⟩) HL.length (ys.map gh3++post.map gh3)]∧(HL=ys.map Z5.h++post.map Z5.h)) (fun(x_:List Z5×List Z5)=>match x_ with|(ys,post)=>post.length) ([],zs) ?_ ?_
    ·exact⟨⟨rfl,rfl,rfl⟩,rfl,hz⟩
    rintro⟨ys,post⟩ f0 L0 ⟨⟨hs0,hs5,hs11⟩,hL,hpp⟩
    subst L0
    refine rebase (d:=0) hs0 ?_
    refine rebase (d:=5) hs5 ?_
    refine rebase (d:=11) hs11 ?_
    clear hs0 hs5 hs11
    have hlen:HL.length=ys.length+post.length:=by rw[hpp,List.length_append,List.length_map,List.length_map]
    refine c_seq ?_
    refine c_seq ?_
    refine c_region ?_
    refine l_val (v:=Nx (ys.length)) rfl rfl rfl (e_move) ?_
    refine l_val (v:= .slice lsa (HL.length) (lsc)) rfl rfl rfl (e_move) ?_
    refine l_val (v:=Nx (HL.length)) rfl rfl rfl (e_len (a:=lsa) (n:=HL.length) (c:=lsc) rfl tf121) ?_
    refine l_val (v:= .bool (decide (((ys.length:Nat):Int)<((HL.length:Nat):Int)))) rfl rfl rfl (e_lss (a:=((ys.length:Nat):Int)) (b:=((HL.length:Nat):Int)) rfl rfl) ?_
    refine l_nil ?_
    refine f_then ?_
    refine c_if (((ys.length:Nat):Int)<((HL.length:Nat):Int)) rfl (fun hc14=> ?_) (fun hc14=> ?_)
    ·
     refine c_skip ?_
     refine f_then ?_
     refine c_seq ?_
     refine c_block ?_
     refine c_seq ?_
     obtain⟨⟨⟨zp,zn,zc⟩,zq,ze⟩,po,hpo⟩:=uncons hlen (by omega)
     have hx:HL[ys.length]? =some (⟨zp,zn,zc⟩:H3):=by rw[hpp,hpo];exact mid_at (List.length_map _).symm
     have hxl:zn≤1000000:=hbd0 _ (List.mem_of_getElem? hx)
     obtain⟨hxa,cs_,hxc,rfl⟩:=lse _ _ hx
     refine c_perm (L':=[Sat (fromK (famK PairF 55 markP) ys.length post),Sat (fromK (famM PairF 55 markP HL.length) 0 ys),rowF H3F 38 (some ⟨b4,0,none⟩) HL.length (ys.map gh3++post.map gh3)]) (perm_ix [1,0,2] 3 rfl (by kernel_rfl) (by kernel_rfl)) ?_
     rw[hpo]
     refine c_headR (r:=famF PairF 55 zp zc (mkL markP ys.length zn) zq ze (mkL markP ys.length (zn+64))) (Ls:=fromK (famK PairF 55 markP) (ys.length+1) po) (M:=[Sat (fromK (famM PairF 55 markP HL.length) 0 ys),rowF H3F 38 (some ⟨b4,0,none⟩) HL.length (ys.map gh3++((⟨(⟨zp,zn,zc⟩:H3),zq,ze⟩:Z5)::po).map gh3)]) rfl ?_
     have hpl:post.length=po.length+1:=by rw[hpo];rfl
     refine c_region ?_
     refine l_mv rfl rfl rfl (m_makeFl (F:=PairF) (x0:=(⟨0,0⟩:KP)) (c:=64) tf37 tf38 tf33 rfl rfl rfl (by unfold maxLen;omega) (by omega)) ?_
     rintro _ _ ⟨b15,rfl,rfl⟩
     refine l_val (v:= .slice (some ⟨b15,0,none⟩) (64) 64) rfl rfl rfl (e_assign) ?_
     refine l_nil ?_
     refine f_then ?_
     refine c_seq ?_
     refine c_seq ?_
     refine c_region ?_
     refine l_val (v:= .int .i64 (0)) rfl rfl rfl (e_assign) ?_
     refine l_nil ?_
     refine f_then ?_
     refine c_block ?_
     refine c_loop (fun(i:Nat) (f:Fm) (L:List Res)=>(f 0= .slice lsa (HL.length) (lsc)∧f 5= .slice (some ⟨b4,0,none⟩) (HL.length) HL.length∧f 11=Nx (ys.length)∧f 12= .slice (some ⟨b15,0,none⟩) (64) 64∧f 13=Nx (i))∧L=[rowF PairF 55 (some ⟨b15,0,none⟩) 64 ((mkL markP (ys.length+HL.length) i)++(List.replicate 64 (⟨0,0⟩:KP)).drop i),Sat (fromK (famK PairF 55 markP) (ys.length+1) po),famF PairF 55 zp zc (mkL markP ys.length zn) zq ze (mkL markP ys.length (zn+64)),Sat (fromK (famM PairF 55 markP HL.length) 0 ys),rowF H3F 38 (some ⟨b4,0,none⟩) HL.length (ys.map gh3++((⟨(⟨zp,zn,zc⟩:H3),zq,ze⟩:Z5)::po).map gh3)]∧(i≤64)) (fun(i:Nat)=>64-i) 0 ?_ ?_
     ·exact⟨⟨rfl,rfl,rfl,rfl,rfl⟩,by rw[mkp_zero],by omega⟩
     rintro i f0 L0 ⟨⟨hs0,hs5,hs11,hs12,hs13⟩,hL,hi⟩
     subst L0
     refine rebase (d:=0) hs0 ?_
     refine rebase (d:=5) hs5 ?_
     refine rebase (d:=11) hs11 ?_
     refine rebase (d:=12) hs12 ?_
     refine rebase (d:=13) hs13 ?_
     clear hs0 hs5 hs11 hs12 hs13
     refine c_seq ?_
     refine c_seq ?_
     refine c_region ?_
     refine l_val (v:=Nx (i)) rfl rfl rfl (e_move) ?_
     refine l_val (v:= .bool (decide (((i:Nat):Int)<(64:Int)))) rfl rfl rfl (e_lss (a:=((i:Nat):Int)) (b:=(64:Int)) rfl rfl) ?_
     refine l_nil ?_
     refine f_then ?_
     refine c_if (((i:Nat):Int)<(64:Int)) rfl (fun hc16=> ?_) (fun hc16=> ?_)
     ·
      refine c_skip ?_
      refine f_then ?_
      refine c_seq ?_
      refine c_block ?_
      refine c_region ?_
      refine l_val (v:= .slice (some ⟨b15,0,none⟩) (64) 64) rfl rfl rfl (e_move) ?_
      refine l_val (v:=Nx (i)) rfl rfl rfl (e_move) ?_
      refine l_val (v:=Nx (ys.length)) rfl rfl rfl (e_move) ?_
      refine l_val (v:= .slice lsa (HL.length) (lsc)) rfl rfl rfl (e_move) ?_
      refine l_val (v:=Nx (HL.length)) rfl rfl rfl (e_len (a:=lsa) (n:=HL.length) (c:=lsc) rfl tf121) ?_
      refine l_val (v:=Nx (ys.length+HL.length)) rfl rfl rfl (e_add (a:=((ys.length:Nat):Int)) (b:=((HL.length:Nat):Int)) rfl rfl (i64n (by omega) (by omega))) ?_
      refine l_val (v:=Nx (i)) rfl rfl rfl (e_move) ?_
      refine l_call rfl rfl rfl (cl_value (fst:=[]) (cap:=[]) (vs:=[Nx (ys.length+HL.length),Nx (i)]) (all:=[Nx (ys.length+HL.length),Nx (i)]) tf123 rfl rfl rfl) ?_
      intro w hw
      obtain⟨β1,sb,kn,hw1,back⟩:=St.frame_all hw
      refine(markP_ok β1 w hw1 (ys.length+HL.length) i (by omega) (by omega)).mono ?_
      rintro e w' ⟨rfl,hw'⟩
      refine⟨_,rfl,_,back _ _ hw',?_⟩
      clear hw hw1 hw' back kn sb
      refine l_val (v:= .pointer (some ((ba (some ⟨b15,0,none⟩)).add (i*2)))) rfl rfl rfl (e_indexFlN 0 (F:=PairF) (j:=i) (m:=64) (xs:=((mkL markP (ys.length+HL.length) i)++(List.replicate 64 (⟨0,0⟩:KP)).drop i)) rfl (by rw[mkp_len (by rw[List.length_replicate];omega),List.length_replicate]) rfl tf37 (by omega) rfl) ?_
      refine l_mu rfl rfl (m_storeFl 0 (F:=PairF) (p:=(some ⟨b15,0,none⟩)) (k:=i) (xs:=((mkL markP (ys.length+HL.length) i)++(List.replicate 64 (⟨0,0⟩:KP)).drop i)) (z:=(markP (ys.length+HL.length) i)) tf35 rfl rfl rfl rfl (by rw[mkp_len (by first|omega|(rw[List.length_replicate];omega))];(try rw[List.length_replicate]);omega)) ?_
      refine l_nil ?_
      refine f_block ?_
      refine f_then ?_
      refine c_region ?_
      refine l_val (v:=Nx (i)) rfl rfl rfl (e_move) ?_
      refine l_val (v:=Nx (i+1)) rfl rfl rfl (e_add (a:=((i:Nat):Int)) (b:=(1:Int)) rfl rfl (i64n (by omega) (by omega))) ?_
      refine l_val (v:=Nx (i+1)) rfl rfl rfl (e_assign) ?_
      refine l_nil ?_
      exact f_cut ⟨i+1,⟨⟨rfl,rfl,rfl,rfl,rfl⟩,by rw[mkp_step (by rw[List.length_replicate];omega)]<;>rfl,by omega⟩,(show 64-(i+1)<64-i from by omega)⟩
     ·
      refine c_exit ?_
      refine f_then_exit ?_
      refine f_then_exit ?_
      refine f_exit ?_
      refine f_then ?_
      obtain rfl:i=64:=by omega
      rw[mkp_done (by rw[List.length_replicate];omega)]
      refine c_conseq 2 (r':=famF PairF 55 zp zc (mkL markP ys.length zn) zp zc (mkL markP ys.length zn)) rfl (fun a h=>famF_start a (famF_first a h)) ?_
      refine c_region ?_
      refine l_val (v:= .slice (some ⟨b4,0,none⟩) (HL.length) HL.length) rfl rfl rfl (e_move) ?_
      refine l_val (v:=Nx (ys.length)) rfl rfl rfl (e_move) ?_
      refine l_val (v:= .slice lsa (HL.length) (lsc)) rfl rfl rfl (e_move) ?_
      refine l_val (v:=Nx (ys.length)) rfl rfl rfl (e_move) ?_
      refine l_val (v:= .pointer (some ((ba lsa).add (ys.length*1)))) rfl rfl rfl (e_indexAddr (k:=ys.length) (len:=HL.length) (cap:=lsc) (a:=lsa) rfl rfl tf122 (by omega) hxa) ?_
      refine l_val (v:= .slice zp (zn) zc) rfl rfl rfl (e_load1 tf36 (v:= .slice zp (zn) zc) rfl (Knows.of_base (Cs.mono _ _) hxc)) ?_
      refine l_val (v:= .slice (some ⟨b15,0,none⟩) (64) 64) rfl rfl rfl (e_move) ?_
      refine l_mv rfl rfl rfl (m_append_famF (F:=PairF) 2 tf37 tf38 (q:=zp) (m:=zn) (e:=zc) (zs:=(mkL markP (ys.length+HL.length) 64)) (ad:=⟨b15,0,none⟩) (k:=64) (cc:=64) rfl rfl (mkL_len _ _).symm rfl (mkL_len _ _) (k_rowF_all (p:=(some ⟨b15,0,none⟩)) 0 rfl (by rw[mkL_len];omega)) (by omega) (by unfold maxLen;omega) (by omega)) ?_
      rintro _ _ ⟨rp17,rc18,rfl,rfl⟩
      refine l_val (v:= .pointer (some ((ba (some ⟨b4,0,none⟩)).add (ys.length*1)))) rfl rfl rfl (e_indexFlN 4 (F:=H3F) (j:=ys.length) (m:=HL.length) (xs:=(ys.map gh3++((⟨(⟨zp,zn,zc⟩:H3),zq,ze⟩:Z5)::po).map gh3)) rfl (by simp only[List.length_append,List.length_map,List.length_replicate,List.length_cons,List.length_set];omega) rfl tf122 (by omega) rfl) ?_
      refine l_mu rfl rfl (m_storeFl 4 (F:=H3F) (p:=(some ⟨b4,0,none⟩)) (k:=ys.length) (xs:=(ys.map gh3++((⟨(⟨zp,zn,zc⟩:H3),zq,ze⟩:Z5)::po).map gh3)) (z:=(⟨rp17,zn+64,rc18⟩:H3)) tf36 rfl rfl rfl rfl (by simp only[List.length_append,List.length_map,List.length_replicate,List.length_cons];omega)) ?_
      refine l_nil ?_
      refine f_block ?_
      refine f_then ?_
      obtain⟨q,hq_⟩:∃z_,z_=rp17:=⟨_,rfl⟩
      obtain⟨e,he_⟩:∃z_,z_=rc18:=⟨_,rfl⟩
      rw[←hq_,←he_]
      refine c_perm (L':=[Sat (fromK (famM PairF 55 markP HL.length) 0 ys),famF PairF 55 zp zc (mkL markP ys.length zn) q e ((mkL markP ys.length zn)++(mkL markP (ys.length+HL.length) 64)),rowF PairF 55 (some ⟨b15,0,none⟩) 64 (mkL markP (ys.length+HL.length) 64),Sat (fromK (famK PairF 55 markP) (ys.length+1) po),rowF H3F 38 (some ⟨b4,0,none⟩) HL.length ((ys.map gh3++((⟨(⟨zp,zn,zc⟩:H3),zq,ze⟩:Z5)::po).map gh3).set ys.length (⟨q,zn+64,e⟩:H3))]) (perm_ix [3,2,0,1,4] 5 rfl (by kernel_rfl) (by kernel_rfl)) ?_
      refine c_re (L':=[Sat (fromK (famM PairF 55 markP HL.length) 0 ys),famF PairF 55 zp zc (mkL markP ys.length zn) q e ((mkL markP ys.length zn)++(mkL markP (ys.length+HL.length) 64)),rowF PairF 55 (some ⟨b15,0,none⟩) 64 (mkL markP (ys.length+HL.length) 64),Sat (fromK (famK PairF 55 markP) (ys.length+1) po),rowF H3F 38 (some ⟨b4,0,none⟩) HL.length ((ys++[(⟨(⟨zp,zn,zc⟩:H3),q,e⟩:Z5)]).map gh3++po.map gh3)]) (by rw[←gs_set2];rfl) ?_
      refine c_snocR (Ls':=fromK (famM PairF 55 markP HL.length) 0 (ys++[(⟨(⟨zp,zn,zc⟩:H3),q,e⟩:Z5)])) (M:=[rowF PairF 55 (some ⟨b15,0,none⟩) 64 (mkL markP (ys.length+HL.length) 64),Sat (fromK (famK PairF 55 markP) (ys.length+1) po),rowF H3F 38 (some ⟨b4,0,none⟩) HL.length ((ys++[(⟨(⟨zp,zn,zc⟩:H3),q,e⟩:Z5)]).map gh3++po.map gh3)]) rfl (snocK (famM PairF 55 markP HL.length) (⟨(⟨zp,zn,zc⟩:H3),q,e⟩:Z5) ys) ?_
      refine c_mask [true,false,true,true] rfl ?_
      refine c_region ?_
      refine l_val (v:=Nx (ys.length)) rfl rfl rfl (e_move) ?_
      refine l_val (v:=Nx (ys.length+1)) rfl rfl rfl (e_add (a:=((ys.length:Nat):Int)) (b:=(1:Int)) rfl rfl (i64n (by omega) (by omega))) ?_
      refine l_val (v:=Nx (ys.length+1)) rfl rfl rfl (e_assign) ?_
      refine l_nil ?_
      exact f_cut ⟨((ys++[⟨(⟨zp,zn,zc⟩:H3),q,e⟩]),po),⟨⟨rfl,rfl,congrArg (fun z:Nat=>Nx z) (by rw[List.length_append];rfl)⟩,by rw[List.length_append]<;>rfl,by rw[hpp,hpo,List.map_append,List.append_assoc];rfl⟩,(Nat.lt_succ_self po.length)⟩
    ·
     refine c_exit ?_
     refine f_then_exit ?_
     refine f_then_exit ?_
     refine f_exit ?_
     refine f_then ?_
     refine c_seq ?_
     refine c_seq ?_
     have hlen:HL.length=ys.length+post.length:=by rw[hpp,List.length_append,List.length_map,List.length_map]
     obtain rfl:=unnil hlen (by omega)
     have hy:HL=ys.map Z5.h:=by rw[hpp,List.map_nil,List.append_nil]
     have hyl:ys.length=HL.length:=by rw[hy,List.length_map]
     refine c_re (L':=[Sat (fromK (famM PairF 55 markP HL.length) 0 ys),Sat (fromK (famK PairF 55 markP) ys.length ([]:List Z5)),rowF H3F 38 (some ⟨b4,0,none⟩) HL.length (ys.map gh3)]) (by rw[List.map_nil,List.append_nil]) ?_
     refine c_mask [true,false,true] rfl ?_
     refine c_region ?_
     refine l_val (v:= .int .i64 (0)) rfl rfl rfl (e_assign) ?_
     refine l_nil ?_
     refine f_then ?_
     refine c_block ?_
     refine c_loop (fun(k:Nat) (f:Fm) (L:List Res)=>(f 0= .slice lsa (HL.length) (lsc)∧f 5= .slice (some ⟨b4,0,none⟩) (HL.length) HL.length∧f 14=Nx (k))∧L=[Sat (fromK (famM PairF 55 markP HL.length) 0 ys),rowF H3F 38 (some ⟨b4,0,none⟩) HL.length (ys.map gh3)]∧(k≤HL.length)) (fun(k:Nat)=>HL.length-k) 0 ?_ ?_
     ·exact⟨⟨rfl,rfl,rfl⟩,rfl,by omega⟩
     rintro k f0 L0 ⟨⟨hs0,hs5,hs14⟩,hL,hk⟩
     subst L0
     refine rebase (d:=0) hs0 ?_
     refine rebase (d:=5) hs5 ?_
     refine rebase (d:=14) hs14 ?_
     clear hs0 hs5 hs14
     refine c_seq ?_
     refine c_seq ?_
     refine c_region ?_
     refine l_val (v:=Nx (k)) rfl rfl rfl (e_move) ?_
     refine l_val (v:= .slice lsa (HL.length) (lsc)) rfl rfl rfl (e_move) ?_
     refine l_val (v:=Nx (HL.length)) rfl rfl rfl (e_len (a:=lsa) (n:=HL.length) (c:=lsc) rfl tf121) ?_
     refine l_val (v:= .bool (decide (((k:Nat):Int)<((HL.length:Nat):Int)))) rfl rfl rfl (e_lss (a:=((k:Nat):Int)) (b:=((HL.length:Nat):Int)) rfl rfl) ?_
     refine l_nil ?_
     refine f_then ?_
     refine c_if (((k:Nat):Int)<((HL.length:Nat):Int)) rfl (fun hc19=> ?_) (fun hc19=> ?_)
     ·
      refine c_skip ?_
      refine f_then ?_
      refine c_seq ?_
      refine c_block ?_
      refine c_seq ?_
      obtain⟨⟨⟨zp,zn,zc⟩,zq,ze⟩,hzk⟩:∃z_,ys[k]? =some z_:=⟨_,List.getElem?_eq_getElem (by omega)⟩
      have hx:HL[k]? =some (⟨zp,zn,zc⟩:H3):=by rw[hy,List.getElem?_map,hzk];rfl
      have hxl:zn≤1000000:=hbd0 _ (List.mem_of_getElem? hx)
      have hgk:(ys.map gh3)[k]? =some (⟨zq,zn+64,ze⟩:H3):=by rw[List.getElem?_map,hzk];rfl
      obtain⟨hxa,cs_,hxc,rfl⟩:=lse _ _ hx
      refine c_takeN k (r:=famF PairF 55 zp zc (mkL markP k zn) zq ze ((mkL markP k zn)++(mkL markP (k+HL.length) 64))) (fromK_at0 _ hzk) rfl ?_
      refine c_region ?_
      refine l_val (v:= .int .i64 (0)) rfl rfl rfl (e_assign) ?_
      refine l_nil ?_
      refine f_then ?_
      refine c_block ?_
      refine c_loop (fun(i:Nat) (f:Fm) (L:List Res)=>(f 0= .slice lsa (HL.length) (lsc)∧f 5= .slice (some ⟨b4,0,none⟩) (HL.length) HL.length∧f 14=Nx (k)∧f 15=Nx (i))∧L=[Sat ((fromK (famM PairF 55 markP HL.length) 0 ys).eraseIdx k),famF PairF 55 zp zc (mkL markP k zn) zq ze ((mkL markP k zn)++(mkL markP (k+HL.length) 64)),rowF H3F 38 (some ⟨b4,0,none⟩) HL.length (ys.map gh3)]∧(i≤zn)) (fun(i:Nat)=>zn-i) 0 ?_ ?_
      ·exact⟨⟨rfl,rfl,rfl,rfl⟩,rfl,by omega⟩
      rintro i f0 L0 ⟨⟨hs0,hs5,hs14,hs15⟩,hL,hi⟩
      subst L0
      refine rebase (d:=0) hs0 ?_
      refine rebase (d:=5) hs5 ?_
      refine rebase (d:=14) hs14 ?_
      refine rebase (d:=15) hs15 ?_
      clear hs0 hs5 hs14 hs15
      refine c_seq ?_
      refine c_seq ?_
      refine c_region ?_
      refine l_val (v:=Nx (i)) rfl rfl rfl (e_move) ?_
      refine l_val (v:= .slice lsa (HL.length) (lsc)) rfl rfl rfl (e_move) ?_
      refine l_val (v:=Nx (k)) rfl rfl rfl (e_move) ?_
      refine l_val (v:= .pointer (some ((ba lsa).add (k*1)))) rfl rfl rfl (e_indexAddr (k:=k) (len:=HL.length) (cap:=lsc) (a:=lsa) rfl rfl tf122 (by omega) hxa) ?_
      refine l_val (v:= .slice zp (zn) zc) rfl rfl rfl (e_load1 tf36 (v:= .slice zp (zn) zc) rfl (Knows.of_base (Cs.mono _ _) hxc)) ?_
      refine l_val (v:=Nx (zn)) rfl rfl rfl (e_len (a:=zp) (n:=zn) (c:=zc) rfl tf65) ?_
      refine l_val (v:= .bool (decide (((i:Nat):Int)<((zn:Nat):Int)))) rfl rfl rfl (e_lss (a:=((i:Nat):Int)) (b:=((zn:Nat):Int)) rfl rfl) ?_
      refine l_nil ?_
      refine f_then ?_
      refine c_if (((i:Nat):Int)<((zn:Nat):Int)) rfl (fun hc20=> ?_) (fun hc20=> ?_)
      ·
       refine c_skip ?_
       refine f_then ?_
       refine c_seq ?_
       refine c_block ?_
       refine c_seq ?_
       refine c_quiet (by kernel_rfl) (by kernel_rfl) ?_
       refine q_val (v:= .slice lsa (HL.length) (lsc)) rfl rfl rfl (e_move) ?_
       refine q_val (v:=Nx (k)) rfl rfl rfl (e_move) ?_
       refine q_val (v:= .pointer (some ((ba lsa).add (k*1)))) rfl rfl rfl (e_indexAddr (k:=k) (len:=HL.length) (cap:=lsc) (a:=lsa) rfl rfl tf122 (by omega) hxa) ?_
       refine q_val (v:= .slice zp (zn) zc) rfl rfl rfl (e_load1 tf36 (v:= .slice zp (zn) zc) rfl (Knows.of_base (Cs.mono _ _) hxc)) ?_
       refine q_val (v:=Nx (i)) rfl rfl rfl (e_move) ?_
       refine q_val (v:= .pointer (some ((ba zp).add (i*2)))) rfl rfl rfl (e_indexFam1F 1 (F:=PairF) (j:=i) (m:=zn) rfl (by rw[mkL_len];omega) rfl tf37 (by omega) rfl) ?_
       refine q_val (v:= .agg #[Ix ((markP k i).a),Ix ((markP k i).b)]) rfl rfl rfl (e_load tf35 (cs:=[Ix ((markP k i).a),Ix ((markP k i).b)]) rfl (k_fam1F 1 (F:=PairF) (j:=i) (x:=(markP k i)) rfl (mkL_at (by omega))) rfl) ?_
       refine q_val (v:=Nx (k)) rfl rfl rfl (e_move) ?_
       refine q_val (v:=Nx (i)) rfl rfl rfl (e_move) ?_
       refine q_call (v:= .agg #[Ix ((markP k i).a),Ix ((markP k i).b)]) rfl rfl rfl (cl_value (fst:=[]) (cap:=[]) (vs:=[Nx (k),Nx (i)]) (all:=[Nx (k),Nx (i)]) tf123 rfl rfl rfl) (fun w hw=> ?_) ?_
       ·obtain⟨β1,sb,kn,hw1,back⟩:=St.frame_all hw
        exact(markP_ok β1 w hw1 k i (by omega) (by omega)).mono (fun e w' ⟨he,hw'⟩=>⟨he,st_mask [true,true,true] rfl (back _ _ hw')⟩)
       refine q_val (v:= .bool (decide (((markP k i).a)=((markP k i).a)∧((markP k i).b)=((markP k i).b)))) rfl rfl rfl (e_eql_t (xs:=[Ix ((markP k i).a),Ix ((markP k i).b)]) (ys:=[Ix ((markP k i).a),Ix ((markP k i).b)]) tf68 tf69 tf70 rfl rfl rfl rfl vec_eq) ?_
       refine q_val (v:= .bool (decide (¬(((markP k i).a)=((markP k i).a)∧((markP k i).b)=((markP k i).b))))) rfl rfl rfl (e_not_p (p:=((markP k i).a)=((markP k i).a)∧((markP k i).b)=((markP k i).b)) rfl) ?_
       refine q_val (v:= .bool (decide (¬(((markP k i).a)=((markP k i).a)∧((markP k i).b)=((markP k i).b))))) rfl rfl rfl (e_move) ?_
       refine q_split (s:=179) (p:=¬(((markP k i).a)=((markP k i).a)∧((markP k i).b)=((markP k i).b))) rfl (fun h=> ?_) (fun h=> ?_)
       exact absurd h (fun h=>h ⟨rfl,rfl⟩)
       refine qg_val (v:= .slice (some ⟨b4,0,none⟩) (HL.length) HL.length) rfl rfl rfl rfl rfl (e_move) ?_
       refine qg_val (v:=Nx (k)) rfl rfl rfl rfl rfl (e_move) ?_
       refine qg_val (v:= .pointer (some ((ba (some ⟨b4,0,none⟩)).add (k*1)))) rfl rfl rfl rfl rfl (e_indexFlN 2 (F:=H3F) (j:=k) (m:=HL.length) (xs:=(ys.map gh3)) rfl (by simp only[List.length_append,List.length_map,List.length_replicate,List.length_cons,List.length_set];omega) rfl tf122 (by omega) rfl) ?_
       refine qg_val (v:= .slice zq (zn+64) ze) rfl rfl rfl rfl rfl (e_load1 tf36 (v:= .slice zq (zn+64) ze) rfl (k_flAt 2 (F:=H3F) rfl hgk)) ?_
       refine qg_val (v:=Nx (i)) rfl rfl rfl rfl rfl (e_move) ?_
       refine qg_val (v:= .pointer (some ((ba zq).add (i*2)))) rfl rfl rfl rfl rfl (e_indexFam2F 1 (F:=PairF) (j:=i) (m:=zn+64) rfl (by rw[List.length_append,mkL_len,mkL_len];omega) rfl tf37 (by omega) rfl) ?_
       refine qg_val (v:= .agg #[Ix ((markP k i).a),Ix ((markP k i).b)]) rfl rfl rfl rfl rfl (e_load tf35 (cs:=[Ix ((markP k i).a),Ix ((markP k i).b)]) rfl (k_fam2F 1 (F:=PairF) (j:=i) (x:=(markP k i)) rfl (mkL_at2 (by omega))) rfl) ?_
       refine qg_val (v:=Nx (k)) rfl rfl rfl rfl rfl (e_move) ?_
       refine qg_val (v:=Nx (i)) rfl rfl rfl rfl rfl (e_move) ?_
       refine qg_call (v:= .agg #[Ix ((markP k i).a),Ix ((markP k i).b)]) rfl rfl rfl rfl rfl (cl_value (fst:=[]) (cap:=[]) (vs:=[Nx (k),Nx (i)]) (all:=[Nx (k),Nx (i)]) tf123 rfl rfl rfl) (fun w hw=> ?_) ?_
       ·obtain⟨β1,sb,kn,hw1,back⟩:=St.frame_all hw
        exact(markP_ok β1 w hw1 k i (by omega) (by omega)).mono (fun e w' ⟨he,hw'⟩=>⟨he,st_mask [true,true,true] rfl (back _ _ hw')⟩)
       refine qg_val (v:= .bool (decide (((markP k i).a)=((markP k i).a)∧((markP k i).b)=((markP k i).b)))) rfl rfl rfl rfl rfl (e_eql_t (xs:=[Ix ((markP k i).a),Ix ((markP k i).b)]) (ys:=[Ix ((markP k i).a),Ix ((markP k i).b)]) tf68 tf69 tf70 rfl rfl rfl rfl vec_eq) ?_
       refine qg_val (v:= .bool (decide (¬(((markP k i).a)=((markP k i).a)∧((markP k i).b)=((markP k i).b))))) rfl rfl rfl rfl rfl (e_not_p (p:=((markP k i).a)=((markP k i).a)∧((markP k i).b)=((markP k i).b)) rfl) ?_
       refine q_val (v:= .bool (decide (¬(((markP k i).a)=((markP k i).a)∧((markP k i).b)=((markP k i).b))))) rfl rfl rfl (e_pick_f rfl) ?_
       refine q_nil ?_
       refine f_then ?_
       refine c_if (¬(((markP k i).a)=((markP k i).a)∧((markP k i).b)=((markP k i).b))) rfl (fun hc21=> ?_) (fun hc21=> ?_)
       ·
        exact absurd hc21 (fun h=>h ⟨rfl,rfl⟩)
       ·
        refine c_skip ?_
        refine f_block ?_
        refine f_then ?_
        refine c_region ?_
        refine l_val (v:=Nx (i)) rfl rfl rfl (e_move) ?_
        refine l_val (v:=Nx (i+1)) rfl rfl rfl (e_add (a:=((i:Nat):Int)) (b:=(1:Int)) rfl rfl (i64n (by omega) (by omega))) ?_
        refine l_val (v:=Nx (i+1)) rfl rfl rfl (e_assign) ?_
        refine l_nil ?_
        exact f_cut ⟨i+1,⟨⟨rfl,rfl,rfl,rfl⟩,rfl,by omega⟩,(show zn-(i+1)<zn-i from by omega)⟩
      ·
       refine c_exit ?_
       refine f_then_exit ?_
       refine f_then_exit ?_
       refine f_exit ?_
       refine f_block ?_
       refine f_then ?_
       refine c_putN k (fromK_at0 _ hzk) rfl ?_
       refine c_re (L':=[Sat (fromK (famM PairF 55 markP HL.length) 0 ys),rowF H3F 38 (some ⟨b4,0,none⟩) HL.length (ys.map gh3)]) rfl ?_
       refine c_region ?_
       refine l_val (v:=Nx (k)) rfl rfl rfl (e_move) ?_
       refine l_val (v:=Nx (k+1)) rfl rfl rfl (e_add (a:=((k:Nat):Int)) (b:=(1:Int)) rfl rfl (i64n (by omega) (by omega))) ?_
       refine l_val (v:=Nx (k+1)) rfl rfl rfl (e_assign) ?_
       refine l_nil ?_
       exact f_cut ⟨k+1,⟨⟨rfl,rfl,rfl⟩,rfl,by omega⟩,(show HL.length-(k+1)<HL.length-k from by omega)⟩
     ·
      refine c_exit ?_
      refine f_then_exit ?_
      refine f_then_exit ?_
      refine f_exit ?_
      refine f_then ?_
      refine c_seq ?_
      refine c_region ?_
      refine l_val (v:= .bool true) rfl rfl rfl (e_assign) ?_
      refine l_nil ?_
      refine f_then ?_
      refine c_ret ?_
      refine ret1 Tryz.results79 (v:= .bool true) rfl ?_
      intro w hw
      exact⟨rfl,st_mask [false,false] rfl hw⟩
end Go.Proofs
