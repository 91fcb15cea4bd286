/-
 The examples of the chapter: walked. Printed by a program of my own.
-/
import Derived.Test.YtmhlglginimmnaaGreatDoorHvLaw
set_option linter.all false
namespace Go.Proofs
open Go Go.Sl Go.Hv Go.Jn
instance us0:ArrC Tryz.prog 98 4 3 1:={}
instance us1:ZerC Tryz.prog 98 (.agg #[.int .i64 (0),.int .i64 (0),.int .i64 (0),.int .i64 (0)]):={}
theorem us2:stB Tryz.prog 100 [(0,1),(1,4)]=true:=by kernel_rfl
instance us3:ZerC Tryz.prog 100 (.agg #[.int .u8 (0),.int .i64 (0),.int .i64 (0),.int .i64 (0),.int .i64 (0)]):={}
theorem us4:slB Tryz.prog 30 100 5=true:=by kernel_rfl
theorem us5:stB Tryz.prog 32 [(0,1),(1,1)]=true:=by kernel_rfl
instance us6:ZerC Tryz.prog 32 (.agg #[.int .i64 (0),.slice none 0 0]):={}
instance us7:TyC Tryz.prog 32 true 2:={}
instance us8:CfC Tryz.prog 10:={}
instance us9:CfC Tryz.prog 9:={}
instance us10:CfC Tryz.prog 11:={}
instance us11:CfC Tryz.prog 13:={}
instance us12:CfC Tryz.prog 14:={}
instance us13:UndC Tryz.prog 35 38:={}
theorem us14:slB Tryz.prog 35 38 6=true:=by kernel_rfl
instance us15:FldC Tryz.prog 38 2 2 1 false:={}
instance us16:TyC Tryz.prog 3 false 1:={}
instance us17:CfC Tryz.prog 16:={}
instance us18:UndC Tryz.prog 40 32:={}
instance us19:TyC Tryz.prog 38 true 6:={}
instance us20:CfC Tryz.prog 15:={}
theorem us21:slB Tryz.prog 40 32 2=true:=by kernel_rfl
instance us22:CfC Tryz.prog 18:={}
instance us23:CfC Tryz.prog 17:={}
instance us24:CfC Tryz.prog 20:={}
set_option maxHeartbeats 4000000 in
theorem awake_ok(β:Base)(w:World)(hw:St β [] w)(hG:GRng β):Ret Tryz.prog 19 #[] β w (.bool true):=by
 refine enter (n:=112) Tryz.func19 rfl Tryz.ntmps19 rfl ?_ hw
 refine csr (lE oab (lnc ?_))
 refine lv (v:= .agg #[.int .i64 (1),.int .i64 (2),.int .i64 (3),.int .i64 (4)]) (e_build_a us1.ok us0.ok (vs:=[(0,.int .i64 (1)),(1,.int .i64 (2)),(2,.int .i64 (3)),(3,.int .i64 (4))]) (cells:= #[.int .i64 (1),.int .i64 (2),.int .i64 (3),.int .i64 (4)]) rfl (by kernel_rfl)) ?_
 refine lv (v:= .agg #[.int .u8 (10),.int .i64 (1),.int .i64 (2),.int .i64 (3),.int .i64 (4)]) (e_build us3.ok us2 (vs:=[(0,.int .u8 (10)),(1,.agg #[.int .i64 (1),.int .i64 (2),.int .i64 (3),.int .i64 (4)])]) (cells:= #[.int .u8 (10),.int .i64 (1),.int .i64 (2),.int .i64 (3),.int .i64 (4)]) rfl (by kernel_rfl)) ?_
 refine l_mv rfl rfl rfl (m_slices us4 us3.ok (cells:= #[.int .u8 (10),.int .i64 (1),.int .i64 (2),.int .i64 (3),.int .i64 (4)]) rfl rfl rfl (by kernel_rfl)) ?_
 rintro _ _ ⟨b1,rfl,rfl⟩
 refine lv (v:= .agg #[.int .i64 (7),.slice (some ⟨b1,0,none⟩) 1 1]) (e_build us6.ok us5 (vs:=[(0,.int .i64 (7)),(1,.slice (some ⟨b1,0,none⟩) 1 1)]) (cells:= #[.int .i64 (7),.slice (some ⟨b1,0,none⟩) 1 1]) rfl rfl) ?_
 refine alE fun b2=>lu (mS 0 (#[.int .i64 (7),.slice (some ⟨b1,0,none⟩) 1 1])) (lnf (c_seq ?_))
 refine c_conseq 1 (r':=rowF CpF 100 (some ⟨b1,0,none⟩) 1 awE.comps) rfl (pt_rowF (F:=CpF) (xs:=awE.comps) rfl (by decide)) ?_
 have hel:awE.comps.length=1:=rfl
 refine c_region (lcf (cl0 (vs:=[]) us8.ok rfl rfl) rfl fun w β1 sb kn hw1 back=>(empty_ok β1 w hw1 1 (by decide)).mono ?_)
 rintro e w' ⟨S3,rfl,hw'⟩
 refine⟨_,rfl,_,back _ _ hw',?_⟩
 clear hw1 hw' back kn sb
 refine l_call rfl rfl rfl (cl0 (vs:=[.int .i64 (1),pp S3 0]) us9.ok rfl rfl) ?_
 intro w hw
 replace hw:=hw.perm (L':=_::_::_::[]) (by exact(((perm_front 2 rfl).trans (perm_front 2 rfl)).trans (perm_front 2 rfl)))
 obtain⟨β1,sb,kn,hw1,back⟩:=St.frame (L:=[_]) (M:=_::_::[]) hw
 refine((gopen_ok β1 w S3 0 (freshG 1) true hw1 (by decide)).mono fun _ _ z=>open_yes z).mono ?_
 rintro e w' ⟨G4,rfl,hw'⟩
 refine⟨_,rfl,_,back _ _ hw',?_⟩
 clear hw hw1 hw' back kn sb
 refine lE omt (lE oxp (lE oxi (lE oap (lE oai (lnc ?_)))))
 refine lcf (cl0 (vs:=[]) us8.ok rfl rfl) rfl fun w β1 sb kn hw1 back=>(empty_ok β1 w hw1 2 (by decide)).mono ?_
 rintro e w' ⟨S5,rfl,hw'⟩
 refine⟨_,rfl,_,back _ _ hw',?_⟩
 clear hw1 hw' back kn sb
 refine l_call rfl rfl rfl (cl0 (vs:=[.int .i64 (2),pp S5 0]) us9.ok rfl rfl) ?_
 intro w hw
 replace hw:=hw.perm (L':=_::_::_::_::[]) (by exact((((perm_front 3 rfl).trans (perm_front 3 rfl)).trans (perm_front 3 rfl)).trans (perm_front 3 rfl)))
 obtain⟨β1,sb,kn,hw1,back⟩:=St.frame (L:=[_]) (M:=_::_::_::[]) hw
 refine((gopen_ok β1 w S5 0 (freshG 2) true hw1 (by decide)).mono fun _ _ z=>open_yes z).mono ?_
 rintro e w' ⟨G6,rfl,hw'⟩
 refine⟨_,rfl,_,back _ _ hw',?_⟩
 clear hw hw1 hw' back kn sb
 refine lE omt (lE oxp (lE oxi (lE oap (lE oai (lnf (cs2 (c_region (lE omi (lE onq (lE omb (gE omi (gE onq (lE okfb (lE omb (gE omp (gE (olg 2) ?_))))))))))))))))
 refine g_call rfl rfl rfl rfl rfl (cl0 (vs:=[pp G4 0,.agg #[.int .i64 (7),.slice (some ⟨b1,0,none⟩) (1) 1]]) us10.ok rfl rfl) ?_
 intro w hw
 replace hw:=hw.perm (L':=_::_::_::_::[]) (by exact((((perm_front 3 rfl).trans (perm_front 3 rfl)).trans (perm_front 2 rfl)).trans (perm_front 3 rfl)))
 obtain⟨β1,sb,kn,hw1,back⟩:=St.frame (L:=[_]) (M:=_::_::_::[]) hw
 refine((gput_ok β1 w (Cs.mono _ _ _ _ sb hG) G4 S3 0 (freshG 1) true hw1 (by decide) awE _ (kn _ (k_flN 2 (F:=CpF) (m:=1) rfl (by omega)))).mono fun _ _ z=>act_yes (N':=300) (Y:=awA1) aw_p1 aw_y1 (Nat.le_refl _) z).mono ?_
 rintro e w' ⟨rfl,hw'⟩
 refine⟨_,rfl,_,back _ _ hw',?_⟩
 clear hw hw1 hw' back kn sb
 refine gE onq (lE okfb (lE omb (gE omp (g_call rfl rfl rfl rfl rfl (cl0 (vs:=[pp G4 0,.int .i64 (7),.int .i64 (2)]) us11.ok rfl rfl) ?_))))
 intro w hw
 replace hw:=hw.perm (L':=_::_::_::_::[]) (by exact((((perm_front 3 rfl).trans (perm_front 3 rfl)).trans (perm_front 3 rfl)).trans (perm_front 3 rfl)))
 obtain⟨β1,sb,kn,hw1,back⟩:=St.frame (L:=[_]) (M:=_::_::_::[]) hw
 refine((ggive_ok β1 w (Cs.mono _ _ _ _ sb hG) G4 S3 300 awA1 true hw1 (by decide) 7 2 (by decide) (by decide)).mono fun _ _ z=>act_yes (N':=600) (Y:=awA2) aw_p2 aw_y2 (Nat.le_refl _) z).mono ?_
 rintro e w' ⟨rfl,hw'⟩
 refine⟨_,rfl,_,back _ _ hw',?_⟩
 clear hw hw1 hw' back kn sb
 refine gE onq (lE okfb (lnf (c_no rfl (csk (csr (lE omp (l_call rfl rfl rfl (cl0 (vs:=[pp G4 0]) us12.ok rfl rfl) ?_)))))))
 intro w hw
 replace hw:=hw.perm (L':=_::_::_::_::[]) (by exact((((perm_front 3 rfl).trans (perm_front 3 rfl)).trans (perm_front 3 rfl)).trans (perm_front 3 rfl)))
 obtain⟨β1,sb,kn,hw1,back⟩:=St.frame (L:=[_]) (M:=_::_::_::[]) hw
 refine((msgsG_ok β1 w G4 S3 600 awA2 true hw1).mono fun _ _ z=>shownM (L':=[awM]) aw_m2 z).mono ?_
 rintro e w' ⟨p7,c8,rfl,hw'⟩
 refine⟨_,rfl,_,back _ _ hw',?_⟩
 clear hw hw1 hw' back kn sb
 refine lE oas (lnf (cs2 (c_openMsgs rfl fun oz9 hoz10 hoh11=> ?_)))
 have hoz10l:oz9.length=[awM].length:=by rw[←hoz10,List.length_map]
 have hoz10k:(oz9.map Prod.fst).length=oz9.length:=List.length_map _
 have hoz10n:oz9.length=1:=hoz10l
 refine rbs 6 (v:=sB p7 oz9 c8) (show(sB p7 [awM] c8:Value)=sB p7 oz9 c8 from congrArg (fun z=>Value.slice p7 z c8) hoz10l.symm) ?_
 obtain⟨x12,hx13⟩:∃x_,(oz9.map Prod.fst)[0]? =some x_:=⟨_,List.getElem?_eq_getElem (by first|omega|decide)⟩
 obtain⟨s14,hs15,hm16,hp17⟩:=msg_at hoz10 hoh11 hx13
 injection hs15 with hs15
 subst hs15
 have hxn:x12.number=1:=hm16.number
 refine c_region (lE oms (lE oln (lE onq (lE omb (l_split (s:=45) rfl (fun h=> ?_) (fun h=> ?_))))))
 exact absurd h (fun q=>q (by first|omega|decide))
 refine gE oms ?_
 refine g_val (v:= .pointer (some ((ba p7).add (0*6)))) rfl rfl rfl rfl rfl (e_indexFlN 0 (F:=MgF) rfl (List.length_map _).symm rfl us14 (by omega) rfl) ?_
 refine gE ofd ?_
 refine g_val (v:=Ix (x12.number)) rfl rfl rfl rfl rfl (e_load1 us16.ok rfl (k_flPart 0 (F:=MgF) (o:=2) (us:=[Ix (x12.number)]) rfl hx13 rfl)) ?_
 refine gE onq (lE okfb (lE omb (l_split (s:=52) rfl (fun h=> ?_) (fun h=> ?_))))
 exact absurd h (fun q=>q (by first|omega|decide))
 refine gE omp (g_call rfl rfl rfl rfl rfl (cl0 (vs:=[pp G4 0]) us17.ok rfl rfl) ?_)
 intro w hw
 replace hw:=hw.perm (L':=_::_::_::_::_::_::[]) (by exact((((((perm_front 5 rfl).trans (perm_front 5 rfl)).trans (perm_front 5 rfl)).trans (perm_front 4 rfl)).trans (perm_front 4 rfl)).trans (perm_front 5 rfl)))
 obtain⟨β1,sb,kn,hw1,back⟩:=St.frame (L:=[_]) (M:=_::_::_::_::_::[]) hw
 refine((hereG_ok β1 w G4 S3 600 awA2 true hw1).mono fun _ _ z=>shownE (L':=([]:List KEnt)) rfl z).mono ?_
 rintro e w' ⟨p18,c19,rfl,hw'⟩
 refine⟨_,rfl,_,back _ _ hw',?_⟩
 clear hw hw1 hw' back kn sb
 refine gE oln (gE onq (lE okfb (lE omb (l_split (s:=58) rfl (fun h=> ?_) (fun h=> ?_)))))
 exact absurd h (fun q=>q (by first|omega|decide))
 refine gE omp (gE oms ?_)
 refine g_val (v:= .pointer (some ((ba p7).add (0*6)))) rfl rfl rfl rfl rfl (e_indexFlN 2 (F:=MgF) rfl (List.length_map _).symm rfl us14 (by omega) rfl) ?_
 refine g_val (v:= .agg #[Ix (x12.src),Ix (x12.to),Ix (x12.number),.bool (x12.ack),Ix (x12.id),.slice x12.p (x12.n) x12.c]) rfl rfl rfl rfl rfl (e_load us19.ok rfl (k_flAt 2 (F:=MgF) rfl hx13) rfl) ?_
 refine g_call rfl rfl rfl rfl rfl (cl0 (vs:=[pp G6 0,.agg #[Ix (x12.src),Ix (x12.to),Ix (x12.number),.bool (x12.ack),Ix (x12.id),.slice x12.p (x12.n) x12.c]]) us20.ok rfl rfl) ?_
 intro w hw
 replace hw:=hw.perm (L':=_::_::_::_::_::_::_::[]) (by exact(((((((perm_front 6 rfl).trans (perm_front 6 rfl)).trans (perm_front 5 rfl)).trans (perm_front 5 rfl)).trans (perm_front 5 rfl)).trans (perm_front 5 rfl)).trans (perm_front 6 rfl)))
 obtain⟨β1,sb,kn,hw1,back⟩:=St.frame (L:=[_]) (M:=_::_::_::_::_::_::[]) hw
 refine((gtakeH_ok β1 w (Cs.mono _ _ _ _ sb hG) G6 S5 0 (freshG 2) true hw1 (by decide) x12 awM hm16 (kn _ (k_poolS (zs:=(MPool.e oz9)) (z:=(x12.eh,awM.e)) 3 rfl hp17 hm16.eh))).mono fun _ _ z=>act_yes (N':=300) (Y:=awB1) aw_p3 aw_y3 (Nat.le_refl _) z).mono ?_
 rintro e w' ⟨rfl,hw'⟩
 refine⟨_,rfl,_,back _ _ hw',?_⟩
 clear hw hw1 hw' back kn sb
 refine gE onq (lE okfb (lE omb (gE omp (gE oms ?_))))
 refine g_val (v:= .pointer (some ((ba p7).add (0*6)))) rfl rfl rfl rfl rfl (e_indexFlN 3 (F:=MgF) rfl (List.length_map _).symm rfl us14 (by omega) rfl) ?_
 refine g_val (v:= .agg #[Ix (x12.src),Ix (x12.to),Ix (x12.number),.bool (x12.ack),Ix (x12.id),.slice x12.p (x12.n) x12.c]) rfl rfl rfl rfl rfl (e_load us19.ok rfl (k_flAt 3 (F:=MgF) rfl hx13) rfl) ?_
 refine g_call rfl rfl rfl rfl rfl (cl0 (vs:=[pp G6 0,.agg #[Ix (x12.src),Ix (x12.to),Ix (x12.number),.bool (x12.ack),Ix (x12.id),.slice x12.p (x12.n) x12.c]]) us20.ok rfl rfl) ?_
 intro w hw
 replace hw:=hw.perm (L':=_::_::_::_::_::_::_::[]) (by exact(((((((perm_front 6 rfl).trans (perm_front 6 rfl)).trans (perm_front 6 rfl)).trans (perm_front 6 rfl)).trans (perm_front 6 rfl)).trans (perm_front 6 rfl)).trans (perm_front 6 rfl)))
 obtain⟨β1,sb,kn,hw1,back⟩:=St.frame (L:=[_]) (M:=_::_::_::_::_::_::[]) hw
 refine((gtakeH_ok β1 w (Cs.mono _ _ _ _ sb hG) G6 S5 300 awB1 true hw1 (by decide) x12 awM hm16 (kn _ (k_poolS (zs:=(MPool.e oz9)) (z:=(x12.eh,awM.e)) 3 rfl hp17 hm16.eh))).mono fun _ _ z=>act_no aw_p4 z).mono ?_
 rintro e w' ⟨rfl,hw'⟩
 refine⟨_,rfl,_,back _ _ hw',?_⟩
 clear hw hw1 hw' back kn sb
 refine gE onq (lE okfb (lnf (c_no rfl (csk (csr (lE omp (l_call rfl rfl rfl (cl0 (vs:=[pp G6 0]) us17.ok rfl rfl) ?_)))))))
 intro w hw
 replace hw:=hw.perm (L':=_::_::_::_::_::_::_::[]) (by exact(((((((perm_front 6 rfl).trans (perm_front 6 rfl)).trans (perm_front 6 rfl)).trans (perm_front 6 rfl)).trans (perm_front 6 rfl)).trans (perm_front 6 rfl)).trans (perm_front 6 rfl)))
 obtain⟨β1,sb,kn,hw1,back⟩:=St.frame (L:=[_]) (M:=_::_::_::_::_::_::[]) hw
 refine((hereG_ok β1 w G6 S5 300 awB1 true hw1).mono fun _ _ z=>shownE (L':=[awE]) rfl z).mono ?_
 rintro e w' ⟨p20,c21,rfl,hw'⟩
 refine⟨_,rfl,_,back _ _ hw',?_⟩
 clear hw hw1 hw' back kn sb
 refine lE omp (l_call rfl rfl rfl (cl0 (vs:=[pp G6 0]) us12.ok rfl rfl) ?_)
 intro w hw
 replace hw:=hw.perm (L':=_::_::_::_::_::_::_::_::[]) (by exact((((((((perm_front 7 rfl).trans (perm_front 7 rfl)).trans (perm_front 7 rfl)).trans (perm_front 7 rfl)).trans (perm_front 7 rfl)).trans (perm_front 7 rfl)).trans (perm_front 6 rfl)).trans (perm_front 7 rfl)))
 obtain⟨β1,sb,kn,hw1,back⟩:=St.frame (L:=[_]) (M:=_::_::_::_::_::_::_::[]) hw
 refine((msgsG_ok β1 w G6 S5 300 awB1 true hw1).mono fun _ _ z=>shownM (L':=[awK]) aw_m3 z).mono ?_
 rintro e w' ⟨p22,c23,rfl,hw'⟩
 refine⟨_,rfl,_,back _ _ hw',?_⟩
 clear hw hw1 hw' back kn sb
 refine lE oas (lE oas (lnf (c_seq (c_pi [2,0,1,3,4,5,6,7,8] 9 rfl (by kernel_rfl) (c_openEnts rfl fun ez24 hez25 heh26=> ?_)))))
 have hez25l:ez24.length=[awE].length:=by rw[←hez25,List.length_map]
 have hez25k:(ez24.map Prod.fst).length=ez24.length:=List.length_map _
 have hez25n:ez24.length=1:=hez25l
 refine rbs 7 (v:=sB p20 ez24 c21) (show(sB p20 [awE] c21:Value)=sB p20 ez24 c21 from congrArg (fun z=>Value.slice p20 z c21) hez25l.symm) ?_
 refine c_pi [2,0,1,3,4,5,6,7,8,9] 10 rfl (by kernel_rfl) (c_openMsgs rfl fun oz27 hoz28 hoh29=> ?_)
 have hoz28l:oz27.length=[awK].length:=by rw[←hoz28,List.length_map]
 have hoz28k:(oz27.map Prod.fst).length=oz27.length:=List.length_map _
 have hoz28n:oz27.length=1:=hoz28l
 refine rbs 8 (v:=sB p22 oz27 c23) (show(sB p22 [awK] c23:Value)=sB p22 oz27 c23 from congrArg (fun z=>Value.slice p22 z c23) hoz28l.symm) ?_
 obtain⟨x30,hx31⟩:∃x_,(ez24.map Prod.fst)[0]? =some x_:=⟨_,List.getElem?_eq_getElem (by first|omega|decide)⟩
 obtain⟨e32,hs33,hm34,hp35⟩:=ent_at hez25 heh26 hx31
 injection hs33 with hs33
 subst hs33
 have hei:x30.id=7:=hm34.id
 obtain⟨x36,hx37⟩:∃x_,(oz27.map Prod.fst)[0]? =some x_:=⟨_,List.getElem?_eq_getElem (by first|omega|decide)⟩
 obtain⟨s38,hs39,hm40,hp41⟩:=msg_at hoz28 hoh29 hx37
 injection hs39 with hs39
 subst hs39
 refine cnz [sv 78 (sB p20 ez24 c21) [] [] [0],sv 79 (Nx (ez24.length)) [0] [0] [],sv 80 (.bool true) [0,1] [1] [],sv 81 (.bool true) [0,1,2] [2] [],sv 82 (sB p20 ez24 c21) [0,1,2,3] [3] [0],sv 83 (.pointer (some ((ba p20).add (0*2)))) [0,1,2,3,4] [4,3] [],sv 84 (.agg #[Ix (x30.id),.slice x30.p (x30.n) x30.c]) (List.range 6) [5,3] [],sv 85 (.agg #[.int .i64 (7),.slice (some ⟨b1,0,none⟩) (1) 1]) [0,1,2,3] [3] [1],sv 86 (.bool true) (List.range 8) [6,7,3] [],sv 87 (.bool true) (List.range 9) [3,8] [],sv 88 (.bool true) (List.range 10) [9] [],sv 89 (pp G6 0) (List.range 11) [10] [2],sv 90 (.int .i64 (1)) (List.range 12) [11,10] [],sv 91 (.bool true) (List.range 13) [12,10] [],sv 92 (.bool true) (List.range 14) [10,13] [],sv 93 (.bool true) (List.range 15) [14] [],sv 94 (sB p22 oz27 c23) (List.range 16) [15] [3],sv 95 (Nx (oz27.length)) (List.range 17) [16,15] [],sv 96 (.bool true) (List.range 18) [17,15] [],sv 97 (.bool true) (List.range 19) [15,18] [],sv 98 (.bool true) (List.range 20) [19] [],sv 99 (pp G4 0) (List.range 21) [20] [4],sv 100 (sB p22 oz27 c23) (List.range 21) [20] [3],sv 101 (.pointer (some ((ba p22).add (0*6)))) [0,1,2,3,4,5,6,7,8,9,10,11,12,13,14,15,16,17,18,19,20,22] [22,20] [],sv 102 (.agg #[Ix (x36.src),Ix (x36.to),Ix (x36.number),.bool (x36.ack),Ix (x36.id),.slice x36.p (x36.n) x36.c]) [0,1,2,3,4,5,6,7,8,9,10,11,12,13,14,15,16,17,18,19,20,22,23] [23,20] [],sv 103 (.int .i64 (0)) (List.range 25) [21,24,20] [],sv 104 (.bool true) (List.range 26) [25,20] [],sv 105 (.bool true) (List.range 27) [20,26] [],sv 106 (.bool true) (List.range 28) [27] [],sv 107 (pp G4 0) (List.range 29) [28] [4],⟨(List.range 30),[29,28],[],[108],fun f=>f 108=sB (sla (f 108)) ([]:List KMs) (slc (f 108))⟩,sv 109 (Nx (([]:List KMs).length)) (List.range 31) [30,28] [],sv 110 (.bool true) (List.range 32) [31,28] [],sv 111 (.bool true) (List.range 33) [28,32] [],sv 0 (.bool true) (List.range 34) [33] []] [u1 [23,24],u1 [25],u1 [5,6],u1 [8],u1 [12],u0,(some 25,[25]),u0,u0,u1 [7],u1 [8]] [⟨(some 25),none,[30],[],fun _=>gateR G4 S3 awA3 900 true⟩,⟨(some 30),none,[],[108],fun f=>msgsR (sla (f 108)) (slc (f 108)) ([]:List KMs)⟩] [(7,sB p20 ez24 c21),(1,pp b2 0),(4,pp G6 0),(8,sB p22 oz27 c23),(2,pp G4 0)] [] ⟨rfl,rfl,rfl,rfl,rfl,trivial⟩ ⟨?_,?_,?_,?_,?_,?_,?_,?_,?_,?_,?_,?_,?_,?_,?_,?_,?_,?_,?_,?_,?_,?_,?_,?_,?_,?_,?_,?_,?_,?_,?_,?_,?_,?_,?_,trivial⟩ ?_
 ·rintro f M-⟨i0,-⟩
  exact obE oms
 ·rintro f M ⟨k0,-⟩-
  exact obE oln
 ·rintro f M ⟨k0,-⟩-
  exact ob0 (up_cons (d:=79) rfl k0) rfl ((ev_t (by first|omega|decide) (e_eql (a:=((ez24.length:Nat):Int)) (b:=(1:Int)) rfl rfl))) (.refl _)
 ·rintro f M ⟨k0,-⟩-
  exact obE omb
 ·rintro f M ⟨k0,-⟩ ⟨i0,-⟩
  exact obG oms
 ·rintro f M ⟨k0,k1,-⟩-
  exact obg (L':=rowF EhF 32 p20 c21 (ez24.map Prod.fst)::M) (v:= .pointer (some ((ba p20).add (0*2)))) (up_cons (d:=81) (up_cons (d:=82) rfl k0) k1) (e_indexFlN 0 (F:=EhF) (j:=0) (m:=ez24.length) (xs:=(ez24.map Prod.fst)) rfl (List.length_map _).symm rfl us21 (by omega) rfl) rfl rfl rfl rfl (perm_front 0 rfl) (by rfl)
 ·rintro f M ⟨k0,k1,-⟩-
  exact obg (L':=rowF EhF 32 p20 c21 (ez24.map Prod.fst)::M) (v:= .agg #[Ix (x30.id),.slice x30.p (x30.n) x30.c]) (up_cons (d:=81) (up_cons (d:=83) rfl k0) k1) (e_load us7.ok rfl (k_flAt 0 (F:=EhF) rfl hx31) rfl) rfl rfl rfl rfl (perm_front 0 rfl) (by rfl)
 ·rintro f M ⟨k0,-⟩ ⟨i0,-⟩
  exact obG (olg 0)
 ·rintro f M ⟨k0,k1,k2,-⟩-
  refine obS (up_cons (d:=81) (up_cons (d:=85) (up_cons (d:=84) rfl k0) k1) k2) ?_
  refine g_call rfl rfl rfl rfl rfl (cl0 (vs:=[.agg #[Ix (x30.id),.slice x30.p (x30.n) x30.c],.agg #[.int .i64 (7),.slice (some ⟨b1,0,none⟩) (1) 1]]) us22.ok rfl rfl) ?_
  intro w hw
  obtain⟨β1,sb,kn,hw1,back⟩:=St.frame_all hw
  refine(sameE_ok β1 w hw1 x30.id 7 _ _ awE.comps awE.comps (kn _ (k_poolS (zs:=ez24) (z:=(x30,awE)) 0 rfl hp35 hm34)) (kn _ (k_flN 1 (F:=CpF) (m:=1) rfl (by omega)))).mono ?_
  rintro e w' ⟨rfl,hw'⟩
  refine⟨_,rfl,_,back _ _ hw',?_⟩
  clear hw hw1 hw' back kn sb
  refine l_nil ?_
  exact f_owes_d (up_cons (d:=81) (up_cons (d:=85) (up_cons (d:=84) rfl k0) k1) k2) (congrArg Value.bool (decide_eq_true (congrArg (fun z=>(⟨z,awE.comps⟩:KEnt)) hei))) ((perm_front 1 rfl).trans (perm_front 1 rfl))
 ·rintro f M ⟨k0,k1,-⟩-
  exact obE oktb
 ·rintro f M ⟨k0,-⟩-
  exact obE omb
 ·rintro f M ⟨k0,-⟩ ⟨i0,-⟩
  exact obG omp
 ·rintro f M ⟨k0,k1,-⟩-
  refine obS (up_cons (d:=88) (up_cons (d:=89) rfl k0) k1) ?_
  refine g_call rfl rfl rfl rfl rfl (cl0 (vs:=[pp G6 0,.int .i64 (1)]) us23.ok rfl rfl) ?_
  intro w hw
  replace hw:=hw.perm (L':=_::M) (by exact(perm_front 0 rfl))
  obtain⟨β1,sb,kn,hw1,back⟩:=St.frame (L:=[_]) (M:=M) hw
  refine((lastG_ok β1 w G6 S5 300 awB1 true hw1 1).mono fun _ _ z=>shownL aw_l3 z).mono ?_
  rintro e w' ⟨rfl,hw'⟩
  refine⟨_,rfl,_,back _ _ hw',?_⟩
  clear hw hw1 hw' back kn sb
  refine l_nil ?_
  exact f_owes_d (up_cons (d:=88) (up_cons (d:=89) rfl k0) k1) rfl (perm_front 0 rfl)
 ·rintro f M ⟨k0,k1,-⟩-
  exact obG oeq_
 ·rintro f M ⟨k0,k1,-⟩-
  exact obE oktb
 ·rintro f M ⟨k0,-⟩-
  exact obE omb
 ·rintro f M ⟨k0,-⟩ ⟨i0,-⟩
  exact obG oms
 ·rintro f M ⟨k0,k1,-⟩-
  exact obG oln
 ·rintro f M ⟨k0,k1,-⟩-
  exact obg (L':=M) (v:= .bool true) (up_cons (d:=93) (up_cons (d:=95) rfl k0) k1) ((ev_t (by first|omega|decide) (e_eql (a:=((oz27.length:Nat):Int)) (b:=(1:Int)) rfl rfl))) rfl rfl rfl rfl (.refl _) (by rfl)
 ·rintro f M ⟨k0,k1,-⟩-
  exact obE oktb
 ·rintro f M ⟨k0,-⟩-
  exact obE omb
 ·rintro f M ⟨k0,-⟩ ⟨i0,-⟩
  exact obG omp
 ·rintro f M ⟨k0,-⟩ ⟨i0,-⟩
  exact obG oms
 ·rintro f M ⟨k0,k1,-⟩-
  exact obg (L':=rowF MgF 38 p22 c23 (oz27.map Prod.fst)::M) (v:= .pointer (some ((ba p22).add (0*6)))) (up_cons (d:=98) (up_cons (d:=100) rfl k0) k1) (e_indexFlN 0 (F:=MgF) (j:=0) (m:=oz27.length) (xs:=(oz27.map Prod.fst)) rfl (List.length_map _).symm rfl us14 (by omega) rfl) rfl rfl rfl rfl (perm_front 0 rfl) (by rfl)
 ·rintro f M ⟨k0,k1,-⟩-
  exact obg (L':=rowF MgF 38 p22 c23 (oz27.map Prod.fst)::M) (v:= .agg #[Ix (x36.src),Ix (x36.to),Ix (x36.number),.bool (x36.ack),Ix (x36.id),.slice x36.p (x36.n) x36.c]) (up_cons (d:=98) (up_cons (d:=101) rfl k0) k1) (e_load us19.ok rfl (k_flAt 0 (F:=MgF) rfl hx37) rfl) rfl rfl rfl rfl (perm_front 0 rfl) (by rfl)
 ·rintro f M ⟨k0,k1,k2,-⟩-
  refine obS (up_cons (d:=98) (up_cons (d:=102) (up_cons (d:=99) rfl k0) k1) k2) ?_
  refine g_call rfl rfl rfl rfl rfl (cl0 (vs:=[pp G4 0,.agg #[Ix (x36.src),Ix (x36.to),Ix (x36.number),.bool (x36.ack),Ix (x36.id),.slice x36.p (x36.n) x36.c]]) us20.ok rfl rfl) ?_
  intro w hw
  replace hw:=hw.perm (L':=_::_::M) (by exact((perm_front 0 rfl).trans (perm_front 1 rfl)))
  obtain⟨β1,sb,kn,hw1,back⟩:=St.frame (L:=[_]) (M:=_::M) hw
  refine((gtakeH_ok β1 w (Cs.mono _ _ _ _ sb hG) G4 S3 600 awA2 true hw1 (by decide) x36 awK hm40 (kn _ (k_poolS (zs:=(MPool.e oz27)) (z:=(x36.eh,awK.e)) 0 rfl hp41 hm40.eh))).mono fun _ _ z=>act_yes (N':=900) (Y:=awA3) aw_p5 aw_y5 (Nat.le_refl _) z).mono ?_
  rintro e w' ⟨rfl,hw'⟩
  refine⟨_,rfl,_,back _ _ hw',?_⟩
  clear hw hw1 hw' back kn sb
  refine l_nil ?_
  exact f_owes_d (up_cons (d:=98) (up_cons (d:=102) (up_cons (d:=99) rfl k0) k1) k2) rfl ((perm_front 0 rfl).trans (perm_front 1 rfl))
 ·rintro f M ⟨k0,k1,-⟩-
  exact obG oeq_
 ·rintro f M ⟨k0,k1,-⟩-
  exact obE oktb
 ·rintro f M ⟨k0,-⟩-
  exact obE omb
 ·rintro f M ⟨k0,-⟩ ⟨i0,-⟩
  exact obG omp
 ·rintro f M ⟨k0,k1,-⟩-
  refine obS (up_cons (d:=106) (up_cons (d:=107) rfl k0) k1) ?_
  refine g_call rfl rfl rfl rfl rfl (cl0 (vs:=[pp G4 0]) us24.ok rfl rfl) ?_
  intro w hw
  replace hw:=hw.perm (L':=_::M) (by exact(perm_front 0 rfl))
  obtain⟨β1,sb,kn,hw1,back⟩:=St.frame (L:=[_]) (M:=M) hw
  refine((outG_ok β1 w G4 S3 900 awA3 true hw1).mono fun _ _ z=>shownM (L':=([]:List KMs)) rfl z).mono ?_
  rintro e w' ⟨p44,c45,rfl,hw'⟩
  refine⟨_,rfl,_,back _ _ hw',?_⟩
  clear hw hw1 hw' back kn sb
  refine l_nil ?_
  exact f_owes_d (up_cons (d:=106) (up_cons (d:=107) rfl k0) k1) rfl ((perm_front 0 rfl).trans (perm_front 1 rfl))
 ·rintro f M ⟨k0,k1,-⟩-
  have hs108:f 108=sB (sla (f 108)) ([]:List KMs) (slc (f 108)):=k0
  exact obG oln
 ·rintro f M ⟨k0,k1,-⟩-
  exact obg (L':=M) (v:= .bool true) (up_cons (d:=106) (up_cons (d:=109) rfl k0) k1) ((ev_t (by first|omega|decide) (e_eql (a:=((([]:List KMs).length:Nat):Int)) (b:=(0:Int)) rfl rfl))) rfl rfl rfl rfl (.refl _) (by rfl)
 ·rintro f M ⟨k0,k1,-⟩-
  exact obE oktb
 ·rintro f M ⟨k0,-⟩-
  exact obE oab
 rintro fa46 ⟨-,-,-,-,-,-,-,-,-,-,-,-,-,-,-,-,-,-,-,-,-,-,-,-,-,-,-,-,-,-,-,-,-,-,k34,-⟩-
 refine fre ?_
 refine f_rebase (d:=0) k34 (ftr (ret1 Tryz.results19 rfl ?_))
 intro w hw
 exact⟨rfl,st_mask [false,false,false,false,false,false,false,false,false,false,false,false] rfl hw⟩
end Go.Proofs
