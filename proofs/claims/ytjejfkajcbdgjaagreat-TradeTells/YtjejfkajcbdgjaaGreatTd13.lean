/-
  Own work; plain Lean (Td12, Td13).
-/
import Derived.Test.YtjejfkajcbdgjaaGreatTd11
set_option linter.all false
set_option maxHeartbeats 4000000
namespace Go.Proofs
open Go Go.Sl Go.Td Go.Jn
instance aZu:CfC Tryz.prog 86:={}
theorem aZv:xP Tryz.prog 168 [(0,1)]=true:=by kernel_rfl
instance aZw:ZerC Tryz.prog 168 (.agg #[.pointer none]):={}
instance aZx:CfC Tryz.prog 84:={}
instance tt142:FldC Tryz.prog 104 0 0 1 false:={}
instance aZy:CfC Tryz.prog 87:={}
instance tt144:FldC Tryz.prog 37 1 1 1 false:={}
instance tt145:FldC Tryz.prog 37 2 2 1 false:={}
instance tt146:FldC Tryz.prog 37 0 0 1 false:={}
instance aZz:CfC Tryz.prog 88:={}
theorem aWg(β:Base)(w:World)(hw:St β [] w)(v:Value)(bs:List UInt8)(hs:Sl iK β.heap v bs)(hbl:bs.length≤65536)(X:KHs)(ps:List (Int×KAm))(gs:List (Int×KHo))(ms:List (Int×KMem))(n:Nat)(hb:Wr bs n (gJ X.s.su X.s.last ps gs ms))(hsf:StFit X ps gs ms)(hla:X.s.last≤16000000):Calls Tryz.prog 85 #[v] w fun r w'=>∃mp mh mm LL,mml LL=ms∧(∀z∈LL,HdOf z)∧r= .returned (.tuple #[.agg (uX mp mh mm X.s.last X.s.su),.bool true])∧St β [aZ bW mp ps,aZ bK mh gs,aZ dS mm (tL LL),cV LL] w':=by
 obtain⟨va,vc,rfl,vl,vm,ve⟩:=hs.get
 rw[bCa]at hb
 have hpn:=hsf.pn
 have hgn:=hsf.hn
 have hmn:=hsf.mn
 refine enter (n:=106) Tryz.func85 rfl Tryz.ntmps85 rfl ?_ hw
 refine bE (gB fun b1=>lE dW (eY (lE fN ?_)))
 refine pN (cK (vs:=[sB va bs (vc)]) aZu.ok rfl rfl) rfl fun w β1 sb kn hw1 back=>(aKj β1 w hw1 _ bs (Sl.mono _ _ _ _ _ sb (⟨⟨_,_,rfl,vl,vm,ve⟩⟩:Sl iK _ _ bs)) n _ hb hbl).mono ?_
 rintro e w' ⟨rb,rfl,hw'⟩
 refine⟨_,rfl,_,back _ _ hw',?_⟩
 refine lv (v:= .agg #[pp rb 0]) (cR aZw.ok aZv (vs:=[(0,pp rb 0)]) (cells:= #[pp rb 0]) rfl rfl) (gB fun b2=> ?_)
 refine lu (mS 0 (#[pp rb 0])) (eY (pN (cK (vs:=[]) aZx.ok rfl rfl) rfl fun w β1 sb kn hw1 back=>(aFq β1 w hw1).mono ?_))
 rintro e w' ⟨mp3,mh4,mm5,rfl,hw'⟩
 refine⟨_,rfl,_,back _ _ hw',?_⟩
 refine gB fun b6=> ?_
 refine lu (mS 0 (#[.map (some mp3),.map (some mh4),.int .i64 (0),.int .i64 (0),.int .i64 (0),.int .i64 (0),.int .i64 (0),.map (some mm5)])) (aN ?_)
 refine aL ?_
 refine jH [sv 14 (.agg #[pp rb 0]) [] [] [0],sv 15 (.agg (eI X.s.su)) [0] [0] [],sv 16 (.agg #[pp rb 0]) [] [] [0],sv 17 (Ix (X.s.last)) [0,1,2] [2] [],sv 18 (pp b6 3) [0,1] [] [1],⟨[0,1,2,3,4],[4,1],[],[],fun _=>True⟩,sv 19 (pp b6 2) (List.range 6) [] [1],⟨(List.range 7),[6,3],[],[],fun _=>True⟩] [(some 5,[5]),u0,u0,u0,u1 [0,2],(some 1,[1])] [⟨(some 1),(some 3),[3],[],fun _=>fT rb (aJ (U X.s.last) 48++(aJ (U ((ps.length:Nat):Int)) 9++(psK ps (aJ (U ((gs.length:Nat):Int)) 9++(hsK gs (aJ (U ((ms.length:Nat):Int)) 9++(tM ms [])))))))⟩,⟨(some 3),none,[],[],fun _=>fT rb (aJ (U ((ps.length:Nat):Int)) 9++(psK ps (aJ (U ((gs.length:Nat):Int)) 9++(hsK gs (aJ (U ((ms.length:Nat):Int)) 9++(tM ms []))))))⟩,⟨(some 5),(some 7),[7],[],fun _=>pt b6 (.cells #[.map (some mp3),.map (some mh4),.int .i64 (0),Ix (X.s.su.a0),Ix (X.s.su.a1),Ix (X.s.su.a2),Ix (X.s.su.a3),.map (some mm5)] 88)⟩,⟨(some 7),none,[],[],fun _=>pt b6 (.cells #[.map (some mp3),.map (some mh4),Ix (X.s.last),Ix (X.s.su.a0),Ix (X.s.su.a1),Ix (X.s.su.a2),Ix (X.s.su.a3),.map (some mm5)] 88)⟩] [(4,pp b2 0),(5,pp b6 0),(2,pp b1 0)] [2,0,1] ⟨rfl,rfl,rfl,trivial⟩ ⟨?_,?_,?_,?_,?_,?_,?_,?_,trivial⟩ ?_
 ·rintro f M-⟨i0,-⟩
  exact aU (dD 0)
 ·rintro f M ⟨k0,-⟩-
  refine dU (aB (d:=14) rfl k0) ?_
  refine aW rfl rfl rfl (cK (vs:=[.agg #[pp rb 0],.int .i64 (63)]) aLi.ok rfl rfl) ?_
  intro w hw
  obtain⟨β1,sb,kn,hw1,back⟩:=St.frame (L:=[_]) (M:=M) hw
  refine(xQ β1 w rb _ X.s.su 63 hsf.su hw1).mono ?_
  rintro e w' ⟨rfl,hw'⟩
  refine⟨_,rfl,_,back _ _ hw',?_⟩
  refine aH ?_
  exact aO (aB (d:=14) rfl k0) rfl (aA 0 rfl)
 ·rintro f M-⟨i0,-⟩
  exact aU (dD 0)
 ·rintro f M ⟨k0,-⟩-
  refine dU (aB (d:=16) rfl k0) ?_
  refine aW rfl rfl rfl (cK (vs:=[.agg #[pp rb 0],.int .i64 (48)]) jJ.ok rfl rfl) ?_
  intro w hw
  obtain⟨β1,sb,kn,hw1,back⟩:=St.frame (L:=[_]) (M:=M) hw
  refine(fO β1 w rb _ X.s.last 48 hsf.la hw1).mono ?_
  rintro e w' ⟨rfl,hw'⟩
  refine⟨_,rfl,_,back _ _ hw',?_⟩
  refine aH ?_
  exact aO (aB (d:=16) rfl k0) rfl (aA 0 rfl)
 ·rintro f M-⟨i0,-⟩
  exact aU aY
 ·rintro f M ⟨k0,k1,-⟩-
  refine dU (aB (d:=15) (aB (d:=18) rfl k0) k1) ?_
  refine lu (mS 0 (#[.map (some mp3),.map (some mh4),.int .i64 (0),Ix (X.s.su.a0),Ix (X.s.su.a1),Ix (X.s.su.a2),Ix (X.s.su.a3),.map (some mm5)])) ?_
  refine aH ?_
  exact bB (aB (d:=15) (aB (d:=18) rfl k0) k1) trivial (aA 0 rfl)
 ·rintro f M-⟨i0,-⟩
  exact aU aY
 ·rintro f M ⟨k0,k1,-⟩-
  refine dU (aB (d:=17) (aB (d:=19) rfl k0) k1) ?_
  refine lu (mS 0 (#[.map (some mp3),.map (some mh4),Ix (X.s.last),Ix (X.s.su.a0),Ix (X.s.su.a1),Ix (X.s.su.a2),Ix (X.s.su.a3),.map (some mm5)])) ?_
  refine aH ?_
  exact bB (aB (d:=17) (aB (d:=19) rfl k0) k1) trivial (aA 0 rfl)
 rintro fa7 ⟨-,-,-,-,-,-,-,-,-⟩ ⟨j0,j1,j2,-⟩
 refine jI ?_
 refine aD (d:=2) j0 (aD (d:=4) j1 (aD (d:=5) j2 (rT (bE (lE (dD 3) ?_)))))
 refine aW rfl rfl rfl (cK (vs:=[.agg #[pp rb 0],.int .i64 (9)]) jJ.ok rfl rfl) ?_
 intro w hw
 replace hw:=hw.perm (L':=_::_::_::_::_::_::_::[]) (by exact(((((((aA 6 rfl).trans (aA 5 rfl)).trans (aA 5 rfl)).trans (aA 5 rfl)).trans (aA 5 rfl)).trans (aA 5 rfl)).trans (aA 6 rfl)))
 obtain⟨β1,sb,kn,hw1,back⟩:=St.frame (L:=[_]) (M:=_::_::_::_::_::_::[]) hw
 refine(fO β1 w rb _ ((ps.length:Nat):Int) 9 hsf.pl hw1).mono ?_
 rintro e w' ⟨rfl,hw'⟩
 refine⟨_,rfl,_,back _ _ hw',?_⟩
 refine lE aX (aN (aK ?_))
 refine dB (fun(kps:Nat) f L=>(f 2=pp b1 0∧f 4=pp b2 0∧f 5=pp b6 0∧f 21=Nx (ps.length)∧f 22=Nx (kps))∧L=[fT rb (psK (ps.drop kps) (aJ (U ((gs.length:Nat):Int)) 9++(hsK gs (aJ (U ((ms.length:Nat):Int)) 9++(tM ms []))))),aZ bW mp3 (ps.take kps),aZ bK mh4 [],aZ dS mm5 [],pt b2 (.cells #[pp rb 0] 168),pt b1 (.cells #[.map none,.map none,.int .i64 (0),.int .i64 (0),.int .i64 (0),.int .i64 (0),.int .i64 (0),.map none] 88),pt b6 (.cells #[.map (some mp3),.map (some mh4),Ix (X.s.last),Ix (X.s.su.a0),Ix (X.s.su.a1),Ix (X.s.su.a2),Ix (X.s.su.a3),.map (some mm5)] 88)]∧(kps≤ps.length)) (fun kps=>ps.length-kps) 0 ?_ ?_
 ·exact⟨⟨rfl,rfl,rfl,rfl,rfl⟩,rfl,Nat.zero_le _⟩
 rintro kps f0 L0 ⟨⟨hs2,hs4,hs5,hs21,hs22⟩,hL,hkps⟩
 subst L0
 refine bM 2 hs2 (bM 4 hs4 (bM 5 hs5 (bM 21 hs21 (bM 22 hs22 (bE (lE gH (aN (aL (cG _ rfl (fun hc8=> ?_) (fun hc8=> ?_))))))))))
 ·refine eF (aL (aK (aL ?_)))
  obtain⟨x,hx⟩:∃x,ps[kps]? =some x:=⟨_,List.getElem?_eq_getElem (by omega)⟩
  have hxm:=List.mem_of_getElem? hx
  have hxf:=hsf.pp x hxm
  refine qP (L':=[fT rb (aJ (U x.1) 17++(amK x.2 31 (psK (ps.drop (kps+1)) (aJ (U ((gs.length:Nat):Int)) 9++(hsK gs (aJ (U ((ms.length:Nat):Int)) 9++(tM ms []))))))),aZ bW mp3 (ps.take kps),aZ bK mh4 [],aZ dS mm5 [],pt b2 (.cells #[pp rb 0] 168),pt b1 (.cells #[.map none,.map none,.int .i64 (0),.int .i64 (0),.int .i64 (0),.int .i64 (0),.int .i64 (0),.map none] 88),pt b6 (.cells #[.map (some mp3),.map (some mh4),Ix (X.s.last),Ix (X.s.su.a0),Ix (X.s.su.a1),Ix (X.s.su.a2),Ix (X.s.su.a3),.map (some mm5)] 88)]) (by rw[aSd hx]) ?_
  refine aC (lE (dD 4) (aW rfl rfl rfl (cK (vs:=[.agg #[pp rb 0],.int .i64 (17)]) jJ.ok rfl rfl) ?_))
  intro w hw
  obtain⟨β1,sb,kn,hw1,back⟩:=St.frame (L:=[_]) (M:=_::_::_::_::_::_::[]) hw
  refine(fO β1 w rb _ x.1 17 hxf.1 hw1).mono ?_
  rintro e w' ⟨rfl,hw'⟩
  refine⟨_,rfl,_,back _ _ hw',?_⟩
  refine lE bN (aN ?_)
  refine jH [sv 26 (pp b6 0) [] [] [0],sv 27 (.map (some mp3)) [0] [0] [],sv 28 (Ix (x.1)) [] [] [1],sv 29 (.agg #[pp rb 0]) [] [] [2],sv 30 (.agg (eI x.2)) [3] [3] [],⟨[0,1,2,3,4],[1,2,4],[],[],fun _=>True⟩] [(some 4,[4]),(some 5,[5]),u0,u0,u1 [3],u0,u1 [1]] [⟨(some 4),none,[],[],fun _=>fT rb (psK (ps.drop (kps+1)) (aJ (U ((gs.length:Nat):Int)) 9++(hsK gs (aJ (U ((ms.length:Nat):Int)) 9++(tM ms [])))))⟩,⟨(some 5),none,[],[],fun _=>aZ bW mp3 (bW.put (ps.take kps) (x.1) x.2)⟩] [(5,pp b6 0),(6,Ix (x.1)),(4,pp b2 0),(2,pp b1 0),(21,Nx (ps.length)),(22,Nx (kps))] [3,2,0,4,5] ⟨rfl,rfl,rfl,rfl,rfl,rfl,trivial⟩ ⟨?_,?_,?_,?_,?_,?_,trivial⟩ ?_
  ·rintro f M-⟨i0,-⟩
   exact aU aY
  ·rintro f M ⟨k0,-⟩-
   exact wL (L':=pt b6 (.cells #[.map (some mp3),.map (some mh4),Ix (X.s.last),Ix (X.s.su.a0),Ix (X.s.su.a1),Ix (X.s.su.a2),Ix (X.s.su.a3),.map (some mm5)] 88)::M) (aB (d:=26) rfl k0) rfl (bH rL.ok rfl (bY 0 rfl rfl)) (aA 0 rfl) (by rfl)
  ·rintro f M-⟨i0,-⟩
   exact aU aX
  ·rintro f M-⟨i0,-⟩
   exact aU (dD 0)
  ·rintro f M ⟨k0,-⟩-
   refine dU (aB (d:=29) rfl k0) ?_
   refine aW rfl rfl rfl (cK (vs:=[.agg #[pp rb 0],.int .i64 (31)]) aLi.ok rfl rfl) ?_
   intro w hw
   obtain⟨β1,sb,kn,hw1,back⟩:=St.frame (L:=[_]) (M:=M) hw
   refine(xQ β1 w rb _ x.2 31 hxf.2 hw1).mono ?_
   rintro e w' ⟨rfl,hw'⟩
   refine⟨_,rfl,_,back _ _ hw',?_⟩
   refine aH ?_
   exact aO (aB (d:=29) rfl k0) rfl (aA 0 rfl)
  ·rintro f M ⟨k0,k1,k2,-⟩-
   refine dU (aB (d:=30) (aB (d:=28) (aB (d:=27) rfl k0) k1) k2) ?_
   refine lu (qY (K:=bW) (b:=mp3) (ks:=(ps.take kps)) (k:=(x.1)) (v:=x.2) 0 rfl rfl rfl rfl rfl) (aH ?_)
   exact bB (aB (d:=30) (aB (d:=28) (aB (d:=27) rfl k0) k1) k2) trivial (aA 0 rfl)
  rintro fa9 ⟨-,-,-,-,-,-,-⟩ ⟨j0,j1,j2,j3,j4,-⟩
  refine jI ?_
  refine aD (d:=2) j0 (aD (d:=4) j1 (aD (d:=5) j2 (aD (d:=21) j3 (aD (d:=22) j4 (aR (bD (aC ?_)))))))
  refine lv (v:=Nx (kps+1)) (bX rfl rfl (dA (by omega) (by omega))) (lE aX (aH (vP [5,6,0,1,2,3,4] 7 ?_)))
  exact bI ⟨kps+1,⟨⟨rfl,rfl,rfl,rfl,rfl⟩,by rw[aGe hsf.pd hx rfl],(by omega)⟩,(show ps.length-(kps+1)<ps.length-kps from by omega)⟩
 refine cM (aG (aG (cN (rT (aL ?_)))))
 have hkeps:kps=ps.length:=by omega
 refine qP (L':=[fT rb (aJ (U ((gs.length:Nat):Int)) 9++(hsK gs (aJ (U ((ms.length:Nat):Int)) 9++(tM ms [])))),aZ bW mp3 ps,aZ bK mh4 [],aZ dS mm5 [],pt b2 (.cells #[pp rb 0] 168),pt b1 (.cells #[.map none,.map none,.int .i64 (0),.int .i64 (0),.int .i64 (0),.int .i64 (0),.int .i64 (0),.map none] 88),pt b6 (.cells #[.map (some mp3),.map (some mh4),Ix (X.s.last),Ix (X.s.su.a0),Ix (X.s.su.a1),Ix (X.s.su.a2),Ix (X.s.su.a3),.map (some mm5)] 88)]) (by rw[hkeps,List.take_length,List.drop_length];rfl) ?_
 refine aC (lE (dD 4) (aW rfl rfl rfl (cK (vs:=[.agg #[pp rb 0],.int .i64 (9)]) jJ.ok rfl rfl) ?_))
 intro w hw
 obtain⟨β1,sb,kn,hw1,back⟩:=St.frame (L:=[_]) (M:=_::_::_::_::_::_::[]) hw
 refine(fO β1 w rb _ ((gs.length:Nat):Int) 9 hsf.hl hw1).mono ?_
 rintro e w' ⟨rfl,hw'⟩
 refine⟨_,rfl,_,back _ _ hw',?_⟩
 refine lE aX (aN (aK ?_))
 refine dB (fun(kgs:Nat) f L=>(f 2=pp b1 0∧f 4=pp b2 0∧f 5=pp b6 0∧f 33=Nx (gs.length)∧f 34=Nx (kgs))∧L=[fT rb (hsK (gs.drop kgs) (aJ (U ((ms.length:Nat):Int)) 9++(tM ms []))),aZ bW mp3 ps,aZ bK mh4 (gs.take kgs),aZ dS mm5 [],pt b2 (.cells #[pp rb 0] 168),pt b1 (.cells #[.map none,.map none,.int .i64 (0),.int .i64 (0),.int .i64 (0),.int .i64 (0),.int .i64 (0),.map none] 88),pt b6 (.cells #[.map (some mp3),.map (some mh4),Ix (X.s.last),Ix (X.s.su.a0),Ix (X.s.su.a1),Ix (X.s.su.a2),Ix (X.s.su.a3),.map (some mm5)] 88)]∧(kgs≤gs.length)) (fun kgs=>gs.length-kgs) 0 ?_ ?_
 ·exact⟨⟨rfl,rfl,rfl,rfl,rfl⟩,rfl,Nat.zero_le _⟩
 rintro kgs f0 L0 ⟨⟨hs2,hs4,hs5,hs33,hs34⟩,hL,hkgs⟩
 subst L0
 refine bM 2 hs2 (bM 4 hs4 (bM 5 hs5 (bM 33 hs33 (bM 34 hs34 (bE (lE gH (aN (aL (cG _ rfl (fun hc10=> ?_) (fun hc10=> ?_))))))))))
 ·refine eF (aL (aK (aL ?_)))
  obtain⟨x,hx⟩:∃x,gs[kgs]? =some x:=⟨_,List.getElem?_eq_getElem (by omega)⟩
  have hxm:=List.mem_of_getElem? hx
  have hxf:=hsf.hh x hxm
  refine qP (L':=[fT rb (aJ (U x.1) 48++(aJ (U x.2.owner) 17++(amK x.2.a 31 (hsK (gs.drop (kgs+1)) (aJ (U ((ms.length:Nat):Int)) 9++(tM ms [])))))),aZ bW mp3 ps,aZ bK mh4 (gs.take kgs),aZ dS mm5 [],pt b2 (.cells #[pp rb 0] 168),pt b1 (.cells #[.map none,.map none,.int .i64 (0),.int .i64 (0),.int .i64 (0),.int .i64 (0),.int .i64 (0),.map none] 88),pt b6 (.cells #[.map (some mp3),.map (some mh4),Ix (X.s.last),Ix (X.s.su.a0),Ix (X.s.su.a1),Ix (X.s.su.a2),Ix (X.s.su.a3),.map (some mm5)] 88)]) (by rw[aQt hx]) ?_
  refine jH [sv 36 (.agg #[pp rb 0]) [] [] [0],sv 37 (Ix (x.1)) [0] [0] [],sv 38 (.agg #[pp rb 0]) [] [] [0],sv 39 (Ix (x.2.owner)) [0,1,2] [2] [],sv 40 (.agg #[Ix (x.1),Ix (x.2.owner),.int .i64 (0),.int .i64 (0),.int .i64 (0),.int .i64 (0)]) [0,1,2,3] [1,3] [],⟨[],[],[],[7],fun f=>f 7= .pointer (some ⟨(cU (f 7)),0,none⟩)⟩,⟨(List.range 6),[5,4],[],[],fun _=>True⟩] [(some 1,[1]),u0,u0,u0,u1 [0,2]] [⟨(some 1),(some 3),[3],[],fun _=>fT rb (aJ (U x.2.owner) 17++(amK x.2.a 31 (hsK (gs.drop (kgs+1)) (aJ (U ((ms.length:Nat):Int)) 9++(tM ms [])))))⟩,⟨(some 3),none,[],[],fun _=>fT rb (amK x.2.a 31 (hsK (gs.drop (kgs+1)) (aJ (U ((ms.length:Nat):Int)) 9++(tM ms []))))⟩,⟨(some 5),(some 6),[6],[7],fun f=>pt (cU (f 7)) (.cells #[.int .i64 (0),.int .i64 (0),.int .i64 (0),.int .i64 (0),.int .i64 (0),.int .i64 (0)] 104)⟩,⟨(some 6),none,[],[7],fun f=>pt (cU (f 7)) (.cells #[Ix (x.1),Ix (x.2.owner),.int .i64 (0),.int .i64 (0),.int .i64 (0),.int .i64 (0)] 104)⟩] [(4,pp b2 0),(2,pp b1 0),(5,pp b6 0),(33,Nx (gs.length)),(34,Nx (kgs))] [1,0,2,3,4] ⟨rfl,rfl,rfl,rfl,rfl,trivial⟩ ⟨?_,?_,?_,?_,?_,?_,?_,trivial⟩ ?_
  ·rintro f M-⟨i0,-⟩
   exact aU (dD 0)
  ·rintro f M ⟨k0,-⟩-
   refine dU (aB (d:=36) rfl k0) ?_
   refine aW rfl rfl rfl (cK (vs:=[.agg #[pp rb 0],.int .i64 (48)]) jJ.ok rfl rfl) ?_
   intro w hw
   obtain⟨β1,sb,kn,hw1,back⟩:=St.frame (L:=[_]) (M:=M) hw
   refine(fO β1 w rb _ x.1 48 hxf.1 hw1).mono ?_
   rintro e w' ⟨rfl,hw'⟩
   refine⟨_,rfl,_,back _ _ hw',?_⟩
   refine aH ?_
   exact aO (aB (d:=36) rfl k0) rfl (aA 0 rfl)
  ·rintro f M-⟨i0,-⟩
   exact aU (dD 0)
  ·rintro f M ⟨k0,-⟩-
   refine dU (aB (d:=38) rfl k0) ?_
   refine aW rfl rfl rfl (cK (vs:=[.agg #[pp rb 0],.int .i64 (17)]) jJ.ok rfl rfl) ?_
   intro w hw
   obtain⟨β1,sb,kn,hw1,back⟩:=St.frame (L:=[_]) (M:=M) hw
   refine(fO β1 w rb _ x.2.owner 17 hxf.2.1 hw1).mono ?_
   rintro e w' ⟨rfl,hw'⟩
   refine⟨_,rfl,_,back _ _ hw',?_⟩
   refine aH ?_
   exact aO (aB (d:=38) rfl k0) rfl (aA 0 rfl)
  ·rintro f M ⟨k0,k1,-⟩-
   exact hO (aB (d:=39) (aB (d:=37) rfl k0) k1) rfl (cR aTt.ok aYd (vs:=[(0,Ix (x.1)),(1,Ix (x.2.owner))]) (cells:= #[Ix (x.1),Ix (x.2.owner),.int .i64 (0),.int .i64 (0),.int .i64 (0),.int .i64 (0)]) rfl rfl) (.refl _)
  ·rintro f M- -
   refine dU rfl ?_
   refine gB fun b12=>aH ?_
   exact aO rfl rfl (aA 0 rfl)
  ·rintro f M ⟨k0,k1,-⟩-
   have hs7:f 7= .pointer (some ⟨(cU (f 7)),0,none⟩):=k0
   refine dU (aB (d:=40) (aB rfl hs7) k1) ?_
   refine lu (mS 0 (#[Ix (x.1),Ix (x.2.owner),.int .i64 (0),.int .i64 (0),.int .i64 (0),.int .i64 (0)])) (aH ?_)
   exact bB (aB (d:=40) (aB rfl hs7) k1) trivial (aA 0 rfl)
  rintro fa13 ⟨-,-,-,-,-,k5,-,-⟩ ⟨j0,j1,j2,j3,j4,-⟩
  refine jI ?_
  refine aD (d:=2) j0 (aD (d:=4) j1 (aD (d:=5) j2 (aD (d:=7) k5 (aD (d:=33) j3 (aD (d:=34) j4 (kM ?_))))))
  refine lE (dD 3) (aW rfl rfl rfl (cK (vs:=[.agg #[pp rb 0],.int .i64 (31)]) aLi.ok rfl rfl) ?_)
  intro w hw
  replace hw:=hw.perm (L':=_::_::_::_::_::_::_::_::[]) (by exact((((((((aA 7 rfl).trans (aA 6 rfl)).trans (aA 6 rfl)).trans (aA 6 rfl)).trans (aA 6 rfl)).trans (aA 6 rfl)).trans (aA 6 rfl)).trans (aA 7 rfl)))
  obtain⟨β1,sb,kn,hw1,back⟩:=St.frame (L:=[_]) (M:=_::_::_::_::_::_::_::[]) hw
  refine(xQ β1 w rb _ x.2.a 31 hxf.2.2.1 hw1).mono ?_
  rintro e w' ⟨rfl,hw'⟩
  refine⟨_,rfl,_,back _ _ hw',?_⟩
  refine lE aY (lu (mS 7 (#[Ix (x.1),Ix (x.2.owner),Ix (x.2.a.a0),Ix (x.2.a.a1),Ix (x.2.a.a2),Ix (x.2.a.a3)])) (wU (lE aY ?_)))
  refine lv (v:= .map (some mh4)) (bH uZ.ok rfl (bY 6 rfl rfl)) (lE aY (lE (cQ 7) (lE (dD 7) ?_)))
  refine lu (qY (K:=bK) (b:=mh4) (ks:=(gs.take kgs)) (k:=(x.1)) (v:=(⟨x.1,x.2.owner,x.2.a⟩:KHo)) 2 rfl rfl rfl rfl rfl) (aH ?_)
  refine aR (bD (aC (lv (v:=Nx (kgs+1)) (bX rfl rfl (dA (by omega) (by omega))) (lE aX (aH ?_)))))
  refine dM (L':=[fT rb (hsK (gs.drop (kgs+1)) (aJ (U ((ms.length:Nat):Int)) 9++(tM ms []))),aZ bW mp3 ps,aZ bK mh4 (bK.put (gs.take kgs) (x.1) (⟨x.1,x.2.owner,x.2.a⟩:KHo)),aZ dS mm5 [],pt b2 (.cells #[pp rb 0] 168),pt b1 (.cells #[.map none,.map none,.int .i64 (0),.int .i64 (0),.int .i64 (0),.int .i64 (0),.int .i64 (0),.map none] 88),pt b6 (.cells #[.map (some mp3),.map (some mh4),Ix (X.s.last),Ix (X.s.su.a0),Ix (X.s.su.a1),Ix (X.s.su.a2),Ix (X.s.su.a3),.map (some mm5)] 88)]) [true,true,true,true,true,true,true,false] rfl ?_
  exact bI ⟨kgs+1,⟨⟨rfl,rfl,rfl,rfl,rfl⟩,by rw[bBg hxf.2.2.2,aGe hsf.hd hx rfl],(by omega)⟩,(show gs.length-(kgs+1)<gs.length-kgs from by omega)⟩
 refine cM (aG (aG (cN (rT ?_))))
 have hkegs:kgs=gs.length:=by omega
 refine qP (L':=[fT rb (aJ (U ((ms.length:Nat):Int)) 9++(tM ms [])),aZ bW mp3 ps,aZ bK mh4 gs,aZ dS mm5 [],pt b2 (.cells #[pp rb 0] 168),pt b1 (.cells #[.map none,.map none,.int .i64 (0),.int .i64 (0),.int .i64 (0),.int .i64 (0),.int .i64 (0),.map none] 88),pt b6 (.cells #[.map (some mp3),.map (some mh4),Ix (X.s.last),Ix (X.s.su.a0),Ix (X.s.su.a1),Ix (X.s.su.a2),Ix (X.s.su.a3),.map (some mm5)] 88)]) (by rw[hkegs,List.take_length,List.drop_length];rfl) ?_
 refine aC (lE dW (aN (eS (jN (r:=cV []) yS (aC (lE (dD 5) ?_))))))
 refine aW rfl rfl rfl (cK (vs:=[.agg #[pp rb 0],.int .i64 (9)]) jJ.ok rfl rfl) ?_
 intro w hw
 replace hw:=hw.perm (L':=_::_::_::_::_::_::_::_::[]) (by exact((((((((aA 7 rfl).trans (aA 7 rfl)).trans (aA 7 rfl)).trans (aA 7 rfl)).trans (aA 7 rfl)).trans (aA 7 rfl)).trans (aA 6 rfl)).trans (aA 7 rfl)))
 obtain⟨β1,sb,kn,hw1,back⟩:=St.frame (L:=[_]) (M:=_::_::_::_::_::_::_::[]) hw
 refine(fO β1 w rb _ ((ms.length:Nat):Int) 9 hsf.ml hw1).mono ?_
 rintro e w' ⟨rfl,hw'⟩
 refine⟨_,rfl,_,back _ _ hw',?_⟩
 refine lE aX (aN (aK ?_))
 refine dB (fun(x_:Nat×List (KMh×KMem)) f L=>match x_ with|(kms,LL)=>(f 2=pp b1 0∧f 4=pp b2 0∧f 5=pp b6 0∧f 8= .bool true∧f 51=Nx (ms.length)∧f 52=Nx (kms))∧L=[fT rb (tM (ms.drop kms) []),cV LL,aZ bW mp3 ps,aZ bK mh4 gs,aZ dS mm5 (tL LL),pt b2 (.cells #[pp rb 0] 168),pt b1 (.cells #[.map none,.map none,.int .i64 (0),.int .i64 (0),.int .i64 (0),.int .i64 (0),.int .i64 (0),.map none] 88),pt b6 (.cells #[.map (some mp3),.map (some mh4),Ix (X.s.last),Ix (X.s.su.a0),Ix (X.s.su.a1),Ix (X.s.su.a2),Ix (X.s.su.a3),.map (some mm5)] 88)]∧(kms≤ms.length∧mml LL=ms.take kms∧∀z∈LL,HdOf z)) (fun(kms,LL)=>ms.length-kms) (0,[]) ?_ ?_
 ·exact⟨⟨rfl,rfl,rfl,rfl,rfl,rfl⟩,rfl,⟨Nat.zero_le _,rfl,fun z hz=>by cases hz⟩⟩
 rintro⟨kms,LL⟩ f0 L0 ⟨⟨hs2,hs4,hs5,hs8,hs51,hs52⟩,hL,⟨hkms,hml,hho⟩⟩
 subst L0
 refine bM 2 hs2 (bM 4 hs4 (bM 5 hs5 (bM 8 hs8 (bM 51 hs51 (bM 52 hs52 (bE (lE gH (aN (aL (cG _ rfl (fun hc14=> ?_) (fun hc14=> ?_)))))))))))
 ·refine eF (aL (aK (aL ?_)))
  obtain⟨x,hx⟩:∃x,ms[kms]? =some x:=⟨_,List.getElem?_eq_getElem (by omega)⟩
  have hxm:=List.mem_of_getElem? hx
  have hmk:=hsf.mm x hxm
  have hmf:=xJ hmk hla
  have hdf16:=hmf.d.few
  refine qP (L':=[fT rb (aAw x.2.d.author x.2.d.number x.2.d.acts (aJ (U ((x.2.r.holds.length:Nat):Int)) 9++(nsK x.2.r.holds (aJ (U x.2.r.at_) 9++(aJ (U x.2.r.e) 16++(tM (ms.drop (kms+1)) [])))))),cV LL,aZ bW mp3 ps,aZ bK mh4 gs,aZ dS mm5 (tL LL),pt b2 (.cells #[pp rb 0] 168),pt b1 (.cells #[.map none,.map none,.int .i64 (0),.int .i64 (0),.int .i64 (0),.int .i64 (0),.int .i64 (0),.map none] 88),pt b6 (.cells #[.map (some mp3),.map (some mh4),Ix (X.s.last),Ix (X.s.su.a0),Ix (X.s.su.a1),Ix (X.s.su.a2),Ix (X.s.su.a3),.map (some mm5)] 88)]) (by rw[aRr hx];rfl) ?_
  refine aC (lE (dD 5) (aW rfl rfl rfl (cK (vs:=[.agg #[pp rb 0]]) aZy.ok rfl rfl) ?_))
  intro w hw
  obtain⟨β1,sb,kn,hw1,back⟩:=St.frame (L:=[_]) (M:=_::_::_::_::_::_::_::[]) hw
  refine(aFj β1 w rb x.2.d.author x.2.d.number x.2.d.acts _ hmf.d hw1).mono ?_
  rintro e w' ⟨p15,c16,rfl,hw'⟩
  refine⟨_,rfl,_,back _ _ hw',?_⟩
  refine lv (v:= .agg #[Ix (x.2.d.author),Ix (x.2.d.number),sB p15 x.2.d.acts c16,.bool false,.int .i64 (0),.int .i64 (0),.slice none 0 0]) (cR bFz.ok bFy (vs:=[(0,.agg #[Ix (x.2.d.author),Ix (x.2.d.number),sB p15 x.2.d.acts c16])]) (cells:= #[Ix (x.2.d.author),Ix (x.2.d.number),sB p15 x.2.d.acts c16,.bool false,.int .i64 (0),.int .i64 (0),.slice none 0 0]) rfl (by kernel_rfl)) ?_
  refine gB fun b17=> ?_
  refine lu (mS 0 (#[Ix (x.2.d.author),Ix (x.2.d.number),sB p15 x.2.d.acts c16,.bool false,.int .i64 (0),.int .i64 (0),.slice none 0 0])) (aN (eS ?_))
  refine jN (r:=aM bA 3 none 0 []) (eG _ _ _) (aC (lE (dD 8) ?_))
  refine aW rfl rfl rfl (cK (vs:=[.agg #[pp rb 0],.int .i64 (9)]) jJ.ok rfl rfl) ?_
  intro w hw
  replace hw:=hw.perm (L':=[fT rb (aJ (U ((x.2.r.holds.length:Nat):Int)) 9++(nsK x.2.r.holds (aJ (U x.2.r.at_) 9++(aJ (U x.2.r.e) 16++(tM (ms.drop (kms+1)) []))))),aM bA 3 none 0 [],pt b17 (.cells #[Ix (x.2.d.author),Ix (x.2.d.number),sB p15 x.2.d.acts c16,.bool false,.int .i64 (0),.int .i64 (0),.slice none (0) 0] 82),aM dI 47 p15 c16 x.2.d.acts,cV LL,aZ bW mp3 ps,aZ bK mh4 gs,aZ dS mm5 (tL LL),pt b2 (.cells #[pp rb 0] 168),pt b1 (.cells #[.map none,.map none,.int .i64 (0),.int .i64 (0),.int .i64 (0),.int .i64 (0),.int .i64 (0),.map none] 88),pt b6 (.cells #[.map (some mp3),.map (some mh4),Ix (X.s.last),Ix (X.s.su.a0),Ix (X.s.su.a1),Ix (X.s.su.a2),Ix (X.s.su.a3),.map (some mm5)] 88)]) (by exact(aV [3,0,1,2,4,5,6,7,8,9,10] 11 rfl (by kernel_rfl) (by kernel_rfl)))
  obtain⟨β1,sb,kn,hw1,back⟩:=St.frame (L:=[_]) (M:=_::_::_::_::_::_::_::_::_::_::[]) hw
  refine(fO β1 w rb _ ((x.2.r.holds.length:Nat):Int) 9 hmf.l hw1).mono ?_
  rintro e w' ⟨rfl,hw'⟩
  refine⟨_,rfl,_,back _ _ hw',?_⟩
  refine lE aX (aN (aK ?_))
  refine dB (fun(x_:Nat×List Int×Option Addr×Nat) f L=>match x_ with|(j,hl,q,d)=>(f 2=pp b1 0∧f 4=pp b2 0∧f 5=pp b6 0∧f 8= .bool true∧f 9=pp b17 0∧f 51=Nx (ms.length)∧f 52=Nx (kms)∧f 58=Nx (x.2.r.holds.length)∧f 59=Nx (j))∧L=[fT rb (nsK (x.2.r.holds.drop j) (aJ (U x.2.r.at_) 9++(aJ (U x.2.r.e) 16++(tM (ms.drop (kms+1)) [])))),aM bA 3 q d hl,pt b17 (.cells #[Ix (x.2.d.author),Ix (x.2.d.number),sB p15 x.2.d.acts c16,.bool false,.int .i64 (0),.int .i64 (0),sB q hl d] 82),aM dI 47 p15 c16 x.2.d.acts,cV LL,aZ bW mp3 ps,aZ bK mh4 gs,aZ dS mm5 (tL LL),pt b2 (.cells #[pp rb 0] 168),pt b1 (.cells #[.map none,.map none,.int .i64 (0),.int .i64 (0),.int .i64 (0),.int .i64 (0),.int .i64 (0),.map none] 88),pt b6 (.cells #[.map (some mp3),.map (some mh4),Ix (X.s.last),Ix (X.s.su.a0),Ix (X.s.su.a1),Ix (X.s.su.a2),Ix (X.s.su.a3),.map (some mm5)] 88)]∧(j≤x.2.r.holds.length∧hl=x.2.r.holds.take j)) (fun(j,hl,q,d)=>x.2.r.holds.length-j) (0,[],none,0) ?_ ?_
  ·exact⟨⟨rfl,rfl,rfl,rfl,rfl,rfl,rfl,rfl,rfl⟩,rfl,⟨Nat.zero_le _,rfl⟩⟩
  rintro⟨j,hl,q,d⟩ f0 L0 ⟨⟨hs2,hs4,hs5,hs8,hs9,hs51,hs52,hs58,hs59⟩,hL,⟨hj,hhl⟩⟩
  subst L0
  refine bM 2 hs2 (bM 4 hs4 (bM 5 hs5 (bM 8 hs8 (bM 9 hs9 (bM 51 hs51 (bM 52 hs52 (bM 58 hs58 (bM 59 hs59 ?_))))))))
  have hhn:hl.length=j:=by rw[hhl,List.length_take];omega
  have hf16:=hmf.few
  refine bE (lE gH (aN (aL (cG _ rfl (fun hc18=> ?_) (fun hc18=> ?_)))))
  ·refine eF (aL (aK ?_))
   obtain⟨y,hy⟩:∃y,x.2.r.holds[j]? =some y:=⟨_,List.getElem?_eq_getElem (by omega)⟩
   have hyf:=hmf.h y (List.mem_of_getElem? hy)
   refine qP (L':=[fT rb (aJ (U y) 48++(nsK (x.2.r.holds.drop (j+1)) (aJ (U x.2.r.at_) 9++(aJ (U x.2.r.e) 16++(tM (ms.drop (kms+1)) []))))),aM bA 3 q d hl,pt b17 (.cells #[Ix (x.2.d.author),Ix (x.2.d.number),sB p15 x.2.d.acts c16,.bool false,.int .i64 (0),.int .i64 (0),sB q hl d] 82),aM dI 47 p15 c16 x.2.d.acts,cV LL,aZ bW mp3 ps,aZ bK mh4 gs,aZ dS mm5 (tL LL),pt b2 (.cells #[pp rb 0] 168),pt b1 (.cells #[.map none,.map none,.int .i64 (0),.int .i64 (0),.int .i64 (0),.int .i64 (0),.int .i64 (0),.map none] 88),pt b6 (.cells #[.map (some mp3),.map (some mh4),Ix (X.s.last),Ix (X.s.su.a0),Ix (X.s.su.a1),Ix (X.s.su.a2),Ix (X.s.su.a3),.map (some mm5)] 88)]) (by rw[aRu hy]) ?_
   refine jH [sv 61 (pp b17 3) [] [] [0],sv 62 (pp b17 6) [0] [0] [],sv 63 (sB q hl d) [0,1] [1] [],sv 64 (.agg #[pp rb 0]) [] [] [1],sv 65 (Ix (y)) [3] [3] [],⟨[3,4],[4],[],[66],fun f=>f 66= .slice (some ⟨(cU (f 66)),0,none⟩) 1 1⟩,⟨(List.range 6),[2,5],[],[67],fun f=>f 67=sB (dG (f 67)) (hl++[y]) (dH (f 67))⟩,sv 68 (pp b17 3) (List.range 7) [] [0],sv 69 (pp b17 6) (List.range 8) [7] [],⟨(List.range 9),[8,6],[],[],fun _=>True⟩] [(some 4,[4]),(some 6,[6]),(some 9,[2,9]),u0,u0,u0,u0,u0,u1 [3]] [⟨(some 4),none,[],[],fun _=>fT rb (nsK (x.2.r.holds.drop (j+1)) (aJ (U x.2.r.at_) 9++(aJ (U x.2.r.e) 16++(tM (ms.drop (kms+1)) []))))⟩,⟨(some 5),none,[6],[66],fun f=>pt (cU (f 66)) (.cells #[Ix (y)] 3)⟩,⟨(some 6),none,[],[67],fun f=>aM bA 3 (dG (f 67)) (dH (f 67)) (hl++[y])⟩,⟨(some 9),none,[],[67],fun f=>pt b17 (.cells #[Ix (x.2.d.author),Ix (x.2.d.number),sB p15 x.2.d.acts c16,.bool false,.int .i64 (0),.int .i64 (0),sB (dG (f 67)) (hl++[y]) (dH (f 67))] 82)⟩] [(9,pp b17 0),(4,pp b2 0),(2,pp b1 0),(5,pp b6 0),(8,.bool true),(51,Nx (ms.length)),(52,Nx (kms)),(58,Nx (x.2.r.holds.length)),(59,Nx (j))] [2,1,3,4,0,5,6,7,8] ⟨rfl,rfl,rfl,rfl,rfl,rfl,rfl,rfl,rfl,trivial⟩ ⟨?_,?_,?_,?_,?_,?_,?_,?_,?_,?_,trivial⟩ ?_
   ·rintro f M-⟨i0,-⟩
    exact aU aY
   ·rintro f M ⟨k0,-⟩-
    exact aU aY
   ·rintro f M ⟨k0,-⟩-
    exact aU (fR 0)
   ·rintro f M-⟨i0,-⟩
    exact aU (dD 0)
   ·rintro f M ⟨k0,-⟩-
    refine dU (aB (d:=64) rfl k0) ?_
    refine aW rfl rfl rfl (cK (vs:=[.agg #[pp rb 0],.int .i64 (48)]) jJ.ok rfl rfl) ?_
    intro w hw
    obtain⟨β1,sb,kn,hw1,back⟩:=St.frame (L:=[_]) (M:=M) hw
    refine(fO β1 w rb _ y 48 hyf hw1).mono ?_
    rintro e w' ⟨rfl,hw'⟩
    refine⟨_,rfl,_,back _ _ hw',?_⟩
    refine aH ?_
    exact aO (aB (d:=64) rfl k0) rfl (aA 0 rfl)
   ·rintro f M ⟨k0,-⟩-
    refine dU (aB (d:=65) rfl k0) ?_
    refine dX rfl rfl rfl (dO rK aTu.ok (cells:= #[Ix (y)]) rfl rfl rfl rfl) ?_
    rintro _ _ ⟨b20,rfl,rfl⟩
    refine aH ?_
    exact aO (aB (d:=65) rfl k0) rfl (aA 0 rfl)
   ·rintro f M ⟨k0,k1,-⟩-
    have hs66:f 66= .slice (some ⟨(cU (f 66)),0,none⟩) 1 1:=k1
    refine dU (aB (aB (d:=63) rfl k0) hs66) ?_
    refine dX rfl rfl rfl (dF (F:=bA) 0 rK aYc (p:=q) (m:=hl.length) (xs:=hl) (ys:=[y]) (ao:=(some ⟨(cU (f 66)),0,none⟩)) (k:=1) (c:=1) rfl rfl rfl rfl rfl (jM (z:=y) 1 rfl rfl) (by first|omega|simp only[List.length_nil,List.length_cons,List.length_append,List.length_set];omega) (by first|omega|simp only[List.length_nil,List.length_cons,List.length_append,List.length_set];omega)) ?_
    rintro _ _ ⟨rp23,rc24,rfl,rfl⟩
    refine aH ?_
    exact aO (aB (aB (d:=63) rfl k0) hs66) rfl ((aA 0 rfl).trans (aA 1 rfl))
   ·rintro f M-⟨i0,-⟩
    exact aU aY
   ·rintro f M ⟨k0,-⟩-
    exact aU aY
   ·rintro f M ⟨k0,k1,-⟩-
    have hs67:f 67=sB (dG (f 67)) (hl++[y]) (dH (f 67)):=k1
    refine dU (aB (aB (d:=69) rfl k0) hs67) ?_
    refine lu (mS 0 (#[Ix (x.2.d.author),Ix (x.2.d.number),sB p15 x.2.d.acts c16,.bool false,.int .i64 (0),.int .i64 (0),sB (dG (f 67)) (hl++[y]) (dH (f 67))])) ?_
    refine aH ?_
    exact bB (aB (aB (d:=69) rfl k0) hs67) trivial (aA 0 rfl)
   rintro fa25 ⟨-,-,-,-,-,-,-,-,-,-,-⟩ ⟨j0,j1,j2,j3,j4,j5,j6,j7,j8,-⟩
   refine jI ?_
   refine aD (d:=2) j0 (aD (d:=4) j1 (aD (d:=5) j2 (aD (d:=8) j3 (aD (d:=9) j4 (aD (d:=51) j5 ?_)))))
   refine aD (d:=52) j6 (aD (d:=58) j7 (aD (d:=59) j8 (aR (bD (aC ?_)))))
   refine lv (v:=Nx (j+1)) (bX rfl rfl (dA (by omega) (by omega))) (lE aX (aH (vP [8,10,11,0,1,2,3,4,5,6,7,9] 12 ?_)))
   refine dM [true,true,true,true,true,true,true,true,true,true,true,false] rfl ?_
   exact bI ⟨(j+1,(hl++[y]),(dG (fa25 67)),(dH (fa25 67))),⟨⟨rfl,rfl,rfl,rfl,rfl,rfl,rfl,rfl,rfl⟩,rfl,⟨by omega,by rw[hhl];exact jG hy⟩⟩,(show x.2.r.holds.length-(j+1)<x.2.r.holds.length-j from by omega)⟩
  refine cM (aG (aG (cN (rT ?_))))
  have hje:j=x.2.r.holds.length:=by omega
  replace hhl:hl=x.2.r.holds:=by rw[hhl,hje,List.take_length]
  refine qP (L':=[fT rb (aJ (U x.2.r.at_) 9++(aJ (U x.2.r.e) 16++(tM (ms.drop (kms+1)) []))),aM bA 3 q d hl,pt b17 (.cells #[Ix (x.2.d.author),Ix (x.2.d.number),sB p15 x.2.d.acts c16,.bool false,.int .i64 (0),.int .i64 (0),sB q hl d] 82),aM dI 47 p15 c16 x.2.d.acts,cV LL,aZ bW mp3 ps,aZ bK mh4 gs,aZ dS mm5 (tL LL),pt b2 (.cells #[pp rb 0] 168),pt b1 (.cells #[.map none,.map none,.int .i64 (0),.int .i64 (0),.int .i64 (0),.int .i64 (0),.int .i64 (0),.map none] 88),pt b6 (.cells #[.map (some mp3),.map (some mh4),Ix (X.s.last),Ix (X.s.su.a0),Ix (X.s.su.a1),Ix (X.s.su.a2),Ix (X.s.su.a3),.map (some mm5)] 88)]) (by rw[hje,List.drop_length];rfl) ?_
  refine jH [sv 71 (.agg #[pp rb 0]) [] [] [0],sv 72 (Ix (x.2.r.at_)) [0] [0] [],sv 73 (.agg #[pp rb 0]) [] [] [0],sv 74 (Ix (x.2.r.e)) [0,1,2] [2] [],sv 75 (pp b17 3) [0,1] [] [1],sv 76 (pp b17 4) [0,1,4] [4] [],⟨(List.range 6),[5,1],[],[],fun _=>True⟩,sv 77 (pp b17 3) (List.range 7) [] [1],sv 78 (pp b17 5) (List.range 8) [7] [],⟨(List.range 9),[8,3],[],[],fun _=>True⟩] [(some 1,[1]),u0,(some 6,[6]),u0,u0,u0,u0,u0,u1 [0,2]] [⟨(some 1),(some 3),[3],[],fun _=>fT rb (aJ (U x.2.r.e) 16++(tM (ms.drop (kms+1)) []))⟩,⟨(some 3),none,[],[],fun _=>fT rb (tM (ms.drop (kms+1)) [])⟩,⟨(some 6),(some 9),[9],[],fun _=>pt b17 (.cells #[Ix (x.2.d.author),Ix (x.2.d.number),sB p15 x.2.d.acts c16,.bool false,Ix (x.2.r.at_),.int .i64 (0),sB q hl d] 82)⟩,⟨(some 9),none,[],[],fun _=>pt b17 (.cells #[Ix (x.2.d.author),Ix (x.2.d.number),sB p15 x.2.d.acts c16,.bool false,Ix (x.2.r.at_),Ix (x.2.r.e),sB q hl d] 82)⟩] [(4,pp b2 0),(9,pp b17 0),(2,pp b1 0),(5,pp b6 0),(8,.bool true),(51,Nx (ms.length)),(52,Nx (kms))] [2,0,3,4,1,5,6] ⟨rfl,rfl,rfl,rfl,rfl,rfl,rfl,trivial⟩ ⟨?_,?_,?_,?_,?_,?_,?_,?_,?_,?_,trivial⟩ ?_
  ·rintro f M-⟨i0,-⟩
   exact aU (dD 0)
  ·rintro f M ⟨k0,-⟩-
   refine dU (aB (d:=71) rfl k0) ?_
   refine aW rfl rfl rfl (cK (vs:=[.agg #[pp rb 0],.int .i64 (9)]) jJ.ok rfl rfl) ?_
   intro w hw
   obtain⟨β1,sb,kn,hw1,back⟩:=St.frame (L:=[_]) (M:=M) hw
   refine(fO β1 w rb _ x.2.r.at_ 9 hmf.at_ hw1).mono ?_
   rintro e w' ⟨rfl,hw'⟩
   refine⟨_,rfl,_,back _ _ hw',?_⟩
   refine aH ?_
   exact aO (aB (d:=71) rfl k0) rfl (aA 0 rfl)
  ·rintro f M-⟨i0,-⟩
   exact aU (dD 0)
  ·rintro f M ⟨k0,-⟩-
   refine dU (aB (d:=73) rfl k0) ?_
   refine aW rfl rfl rfl (cK (vs:=[.agg #[pp rb 0],.int .i64 (16)]) jJ.ok rfl rfl) ?_
   intro w hw
   obtain⟨β1,sb,kn,hw1,back⟩:=St.frame (L:=[_]) (M:=M) hw
   refine(fO β1 w rb _ x.2.r.e 16 hmf.e hw1).mono ?_
   rintro e w' ⟨rfl,hw'⟩
   refine⟨_,rfl,_,back _ _ hw',?_⟩
   refine aH ?_
   exact aO (aB (d:=73) rfl k0) rfl (aA 0 rfl)
  ·rintro f M-⟨i0,-⟩
   exact aU aY
  ·rintro f M ⟨k0,-⟩-
   exact aU aY
  ·rintro f M ⟨k0,k1,-⟩-
   refine dU (aB (d:=72) (aB (d:=76) rfl k0) k1) ?_
   refine lu (mS 0 (#[Ix (x.2.d.author),Ix (x.2.d.number),sB p15 x.2.d.acts c16,.bool false,Ix (x.2.r.at_),.int .i64 (0),sB q hl d])) (aH ?_)
   exact bB (aB (d:=72) (aB (d:=76) rfl k0) k1) trivial (aA 0 rfl)
  ·rintro f M-⟨i0,-⟩
   exact aU aY
  ·rintro f M ⟨k0,-⟩-
   exact aU aY
  ·rintro f M ⟨k0,k1,-⟩-
   refine dU (aB (d:=74) (aB (d:=78) rfl k0) k1) ?_
   refine lu (mS 0 (#[Ix (x.2.d.author),Ix (x.2.d.number),sB p15 x.2.d.acts c16,.bool false,Ix (x.2.r.at_),Ix (x.2.r.e),sB q hl d])) (aH ?_)
   exact bB (aB (d:=74) (aB (d:=78) rfl k0) k1) trivial (aA 0 rfl)
  rintro fa26 ⟨-,-,-,-,-,-,-,-,-,-,-⟩ ⟨j0,j1,j2,j3,j4,j5,j6,-⟩
  refine jI ?_
  refine aD (d:=2) j0 (aD (d:=4) j1 (aD (d:=5) j2 (aD (d:=8) j3 (aD (d:=9) j4 (aD (d:=51) j5 ?_)))))
  refine aD (d:=52) j6 (kM (lE aY (lE aY (lE (cQ 10) (lE eZ (lE aY (lE aY ?_)))))))
  refine lu (mS 10 (#[Ix (x.2.d.author),Ix (x.2.d.number),sB p15 x.2.d.acts c16,.bool (decide ((x.2.r.e)=(0:Int))),Ix (x.2.r.at_),Ix (x.2.r.e),sB q hl d])) ?_
  refine eY (lE fJ (lE fJ (gE aY (gE (dD 10) ?_))))
  refine eK rfl rfl rfl rfl rfl (cK (vs:=[.agg #[Ix (x.2.d.author),Ix (x.2.d.number),sB p15 x.2.d.acts c16]]) aZn.ok rfl rfl) ?_
  intro w hw
  obtain⟨β1,sb,kn,hw1,back⟩:=St.frame_all hw
  refine(pS β1 w hw1 x.2.d.author x.2.d.number _ x.2.d.acts (kn _ (kA 1 (F:=dI) (m:=x.2.d.acts.length) rfl rfl))).mono ?_
  rintro e w' ⟨rfl,hw'⟩
  refine⟨_,rfl,_,back _ _ hw',?_⟩
  refine lE eC (lE dW (wU (lE aY (lv (v:= .map (some mm5)) (bH aEc.ok rfl (bY 8 rfl rfl)) (lE aY (lE aY (lE (cQ 10) (lE (dD 10) ?_))))))))
  refine lu (qY (K:=dS) (b:=mm5) (ks:=(tL LL)) (k:=(x.2.d.author)) (v:=(⟨x.2.d.author,x.2.d.number,p15,x.2.d.acts.length,c16,(decide ((x.2.r.e)=(0:Int))),x.2.r.at_,x.2.r.e,q,hl.length,d⟩:KMh)) 5 rfl rfl rfl rfl rfl) ?_
  refine aH (aR (bD (aC (lv (v:=Nx (kms+1)) (bX rfl rfl (dA (by omega) (by omega))) (lE aX (aH ?_))))))
  refine vP [1,0,2,3,4,5,6,7,8,9,10] 11 ?_
  refine aJp (L:=[aM dI 47 p15 c16 x.2.d.acts,aM bA 3 q d hl,cV LL]) (M:=[aZ bW mp3 ps,aZ bK mh4 gs,aZ dS mm5 (dS.put (tL LL) (x.2.d.author) (⟨x.2.d.author,x.2.d.number,p15,x.2.d.acts.length,c16,(decide ((x.2.r.e)=(0:Int))),x.2.r.at_,x.2.r.e,q,hl.length,d⟩:KMh)),pt b2 (.cells #[pp rb 0] 168),pt b1 (.cells #[.map none,.map none,.int .i64 (0),.int .i64 (0),.int .i64 (0),.int .i64 (0),.int .i64 (0),.map none] 88),pt b6 (.cells #[.map (some mp3),.map (some mh4),Ix (X.s.last),Ix (X.s.su.a0),Ix (X.s.su.a1),Ix (X.s.su.a2),Ix (X.s.su.a3),.map (some mm5)] 88),fT rb (tM (ms.drop (kms+1)) []),pt b17 (.cells #[Ix (x.2.d.author),Ix (x.2.d.number),sB p15 x.2.d.acts c16,.bool (decide ((x.2.r.e)=(0:Int))),Ix (x.2.r.at_),Ix (x.2.r.e),sB q hl d] 82)]) (r:=cV (LL++[((⟨x.2.d.author,x.2.d.number,p15,x.2.d.acts.length,c16,(decide ((x.2.r.e)=(0:Int))),x.2.r.at_,x.2.r.e,q,hl.length,d⟩:KMh),(⟨⟨x.2.d.author,x.2.d.number,x.2.d.acts⟩,⟨decide (x.2.r.e=(0:Int)),x.2.r.at_,x.2.r.e,hl⟩⟩:KMem))])) (fun a ha=>uE a ha) ?_
  refine bDr (L':=[cV (LL++[((⟨x.2.d.author,x.2.d.number,p15,x.2.d.acts.length,c16,(decide ((x.2.r.e)=(0:Int))),x.2.r.at_,x.2.r.e,q,hl.length,d⟩:KMh),x.2)]),aZ bW mp3 ps,aZ bK mh4 gs,aZ dS mm5 (dS.put (tL LL) (x.2.d.author) (⟨x.2.d.author,x.2.d.number,p15,x.2.d.acts.length,c16,(decide ((x.2.r.e)=(0:Int))),x.2.r.at_,x.2.r.e,q,hl.length,d⟩:KMh)),pt b2 (.cells #[pp rb 0] 168),pt b1 (.cells #[.map none,.map none,.int .i64 (0),.int .i64 (0),.int .i64 (0),.int .i64 (0),.int .i64 (0),.map none] 88),pt b6 (.cells #[.map (some mp3),.map (some mh4),Ix (X.s.last),Ix (X.s.su.a0),Ix (X.s.su.a1),Ix (X.s.su.a2),Ix (X.s.su.a3),.map (some mm5)] 88),fT rb (tM (ms.drop (kms+1)) []),pt b17 (.cells #[Ix (x.2.d.author),Ix (x.2.d.number),sB p15 x.2.d.acts c16,.bool (decide ((x.2.r.e)=(0:Int))),Ix (x.2.r.at_),Ix (x.2.r.e),sB q hl d] 82)]) (by rw[aWl hmf.dn hhl]) ?_
  refine vP [7,0,1,2,3,4,5,6,8] 9 ?_
  refine dM (L':=[fT rb (tM (ms.drop (kms+1)) []),cV (LL++[((⟨x.2.d.author,x.2.d.number,p15,x.2.d.acts.length,c16,(decide ((x.2.r.e)=(0:Int))),x.2.r.at_,x.2.r.e,q,hl.length,d⟩:KMh),x.2)]),aZ bW mp3 ps,aZ bK mh4 gs,aZ dS mm5 (dS.put (tL LL) (x.2.d.author) (⟨x.2.d.author,x.2.d.number,p15,x.2.d.acts.length,c16,(decide ((x.2.r.e)=(0:Int))),x.2.r.at_,x.2.r.e,q,hl.length,d⟩:KMh)),pt b2 (.cells #[pp rb 0] 168),pt b1 (.cells #[.map none,.map none,.int .i64 (0),.int .i64 (0),.int .i64 (0),.int .i64 (0),.int .i64 (0),.map none] 88),pt b6 (.cells #[.map (some mp3),.map (some mh4),Ix (X.s.last),Ix (X.s.su.a0),Ix (X.s.su.a1),Ix (X.s.su.a2),Ix (X.s.su.a3),.map (some mm5)] 88)]) [true,true,true,true,true,true,true,true,false] rfl ?_
  exact bI ⟨(kms+1,(LL++[((⟨x.2.d.author,x.2.d.number,p15,x.2.d.acts.length,c16,(decide ((x.2.r.e)=(0:Int))),x.2.r.at_,x.2.r.e,q,hl.length,d⟩:KMh),x.2)])),⟨⟨rfl,rfl,rfl,congrArg Value.bool hmf.fm,rfl,rfl⟩,by rw[aQo hsf.md hx hml hmk],⟨by omega,aRo hx hml hmk,bBe hho ⟨rfl,rfl,rfl,hmf.dn.symm,rfl,rfl,by rw[hhl]⟩⟩⟩,(show ms.length-(kms+1)<ms.length-kms from by omega)⟩
 refine cM (aG (aG (cN (rT ?_))))
 have hkem:kms=ms.length:=by omega
 replace hml:mml LL=ms:=by rw[hml,hkem,List.take_length]
 refine qP (L':=[fT rb [],cV LL,aZ bW mp3 ps,aZ bK mh4 gs,aZ dS mm5 (tL LL),pt b2 (.cells #[pp rb 0] 168),pt b1 (.cells #[.map none,.map none,.int .i64 (0),.int .i64 (0),.int .i64 (0),.int .i64 (0),.int .i64 (0),.map none] 88),pt b6 (.cells #[.map (some mp3),.map (some mh4),Ix (X.s.last),Ix (X.s.su.a0),Ix (X.s.su.a1),Ix (X.s.su.a2),Ix (X.s.su.a3),.map (some mm5)] 88)]) (by rw[hkem,List.drop_length];rfl) ?_
 refine jH [sv 98 (.agg #[.map (some mp3),.map (some mh4),Ix (X.s.last),Ix (X.s.su.a0),Ix (X.s.su.a1),Ix (X.s.su.a2),Ix (X.s.su.a3),.map (some mm5)]) [] [] [0],sv 99 (.bool true) [] [] [1],sv 100 (.bool true) [1] [1] [],sv 101 (pp b2 0) [1,2] [2] [2],sv 102 (pp rb 0) [1,2,3] [3,2] [],sv 103 (.int .i64 (0)) [1,2,3,4] [4,2] [],sv 104 (.bool true) [1,2,3,4,5] [5,2] [],sv 105 (.bool true) [1,2,3,4,5,6] [2,6] [],⟨(List.range 6),[0],[3],[],fun _=>True⟩,sv 3 (.bool true) (List.range 9) [7] []] [u1 [5],u0,u0,u0,u0,u1 [4],(some 8,[8]),u1 [0]] [⟨(some 8),none,[],[],fun _=>pt b1 (.cells #[.map (some mp3),.map (some mh4),Ix (X.s.last),Ix (X.s.su.a0),Ix (X.s.su.a1),Ix (X.s.su.a2),Ix (X.s.su.a3),.map (some mm5)] 88)⟩] [(5,pp b6 0),(8,.bool true),(4,pp b2 0),(2,pp b1 0)] [3] ⟨rfl,rfl,rfl,rfl,trivial⟩ ⟨?_,?_,?_,?_,?_,?_,?_,?_,?_,?_,trivial⟩ ?_
 ·rintro f M-⟨i0,-⟩
  exact aU (dD 0)
 ·rintro f M-⟨i0,-⟩
  exact aU fJ
 ·rintro f M ⟨k0,-⟩-
  exact aU fJ
 ·rintro f M ⟨k0,-⟩ ⟨i0,-⟩
  exact obG aY
 ·rintro f M ⟨k0,k1,-⟩-
  exact obG (iI 0)
 ·rintro f M ⟨k0,k1,-⟩-
  refine dU (aB (d:=100) (aB (d:=102) rfl k0) k1) ?_
  refine eK rfl rfl rfl rfl rfl (cK (vs:=[pp rb 0]) aZz.ok rfl rfl) ?_
  intro w hw
  obtain⟨β1,sb,kn,hw1,back⟩:=St.frame (L:=[_]) (M:=M) hw
  refine(aKv β1 w rb hw1).mono ?_
  rintro e w' ⟨rfl,hw'⟩
  refine⟨_,rfl,_,back _ _ hw',?_⟩
  refine aH ?_
  exact aO (aB (d:=100) (aB (d:=102) rfl k0) k1) rfl (aA 0 rfl)
 ·rintro f M ⟨k0,k1,-⟩-
  exact obG eZ
 ·rintro f M ⟨k0,k1,-⟩-
  exact aU eC
 ·rintro f M ⟨k0,-⟩ ⟨i0,-⟩
  refine dU (aB (d:=98) (aB (d:=2) rfl i0) k0) ?_
  refine lu (mS 0 (#[.map (some mp3),.map (some mh4),Ix (X.s.last),Ix (X.s.su.a0),Ix (X.s.su.a1),Ix (X.s.su.a2),Ix (X.s.su.a3),.map (some mm5)])) ?_
  refine aH ?_
  exact bB (aB (d:=98) (aB (d:=2) rfl i0) k0) trivial (aA 0 rfl)
 ·rintro f M ⟨k0,-⟩-
  exact aU dW
 rintro fa27 ⟨-,-,-,-,-,-,-,-,-,k9,-⟩ ⟨j0,-⟩
 refine jI ?_
 refine aD (d:=2) j0 (aD (d:=3) k9 (ftr ?_))
 refine gA (m:=[.agg #[.map (some mp3),.map (some mh4),Ix (X.s.last),Ix (X.s.su.a0),Ix (X.s.su.a1),Ix (X.s.su.a2),Ix (X.s.su.a3),.map (some mm5)],.bool true]) Tryz.results85 ⟨bQ aYe.ok rfl (bY 7 rfl rfl) rfl,eL (v:= .bool true) rfl,trivial⟩ rfl ?_
 intro w hw
 replace hw:=hw.perm (L':=[aZ bW mp3 ps,aZ bK mh4 gs,aZ dS mm5 (tL LL),cV LL,fT rb [],pt b2 (.cells #[pp rb 0] 168),pt b6 (.cells #[.map (some mp3),.map (some mh4),Ix (X.s.last),Ix (X.s.su.a0),Ix (X.s.su.a1),Ix (X.s.su.a2),Ix (X.s.su.a3),.map (some mm5)] 88),pt b1 (.cells #[.map (some mp3),.map (some mh4),Ix (X.s.last),Ix (X.s.su.a0),Ix (X.s.su.a1),Ix (X.s.su.a2),Ix (X.s.su.a3),.map (some mm5)] 88)]) (by exact(aV [2,3,4,1,0,5,6,7] 8 rfl (by kernel_rfl) (by kernel_rfl)))
 replace hw:=aF (L':=[aZ bW mp3 ps,aZ bK mh4 gs,aZ dS mm5 (tL LL),cV LL]) [true,true,true,true,false,false,false,false] rfl hw
 exact⟨mp3,mh4,mm5,LL,hml,hho,rfl,hw⟩
open Go Go.Sl Go.Td Go.Jn
instance bFi:CfC Tryz.prog 85:={}
instance tt149:UndC Tryz.prog 107 27:={}
theorem bFj:mF Tryz.prog 107 27 1=true:=by kernel_rfl
theorem aIk(β:Base)(w:World)(hw:St β [] w)(v vr:Value)(bs:Bs)(hs:Sl iK β.heap v bs)(hbl:bs.length≤65536)(recs:List Bs)(hr:Sl BsR β.heap vr recs)(hrl:recs.length≤1048576)(X X0:KHs)(ds:List KDeal)(hst:(bs=[]∧X0=gM)∨(bs≠[]∧StB X0 bs))(hx0:XOk X0)(hrecs:recs=ds.map aNg)(hds:okD ds)(hX:EqX X (gZ X0 ds))(hl0:X0.s.last≤16000000)(hlast:(gZ X0 ds).s.last≤16000000):Calls Tryz.prog 46 #[v,vr] w fun r w'=>∃mp mh mm s ms zs,EqS s X.s∧MmOk X ms zs∧r= .returned (.tuple #[.agg (uX mp mh mm s.last s.su),.bool true])∧St β [aZ bW mp s.ps,aZ bK mh s.hs,aZ dS mm ms,cV zs] w':=by
 obtain⟨va,vc,rfl,vl,vm,ve⟩:=hs.get
 obtain⟨vra,vrc,rfl,vrl,vrm,vre⟩:=hr.get
 refine enter (n:=55) Tryz.func46 rfl Tryz.ntmps46 rfl ?_ hw
 refine bE (gB fun b1=>lE dW (eY (pN (cK (vs:=[]) aZx.ok rfl rfl) rfl fun w β1 sb kn hw1 back=>(aFq β1 w hw1).mono ?_)))
 rintro e w' ⟨mp2,mh3,mm4,rfl,hw'⟩
 refine⟨_,rfl,_,back _ _ hw',?_⟩
 refine gB fun b5=> ?_
 refine lu (mS 0 (#[.map (some mp2),.map (some mh3),.int .i64 (0),.int .i64 (0),.int .i64 (0),.int .i64 (0),.int .i64 (0),.map (some mm4)])) ?_
 refine lE dW (aN ?_)
 refine gG (fun(f:Fm) (L:List bU)=>∃(mp:Nat) (mh:Nat) (mm:Nat) (s:KSt) (ms:List (Int×KMh)) (zs:List (KMh×KMem)),(f 1=sB vra recs (vrc)∧f 4=pp b1 0∧f 6=pp b5 0∧f 7= .bool true)∧L=[pt b5 (.cells #[.map (some mp),.map (some mh),Ix (s.last),Ix (s.su.a0),Ix (s.su.a1),Ix (s.su.a2),Ix (s.su.a3),.map (some mm)] 88),pt b1 (.cells #[.map none,.map none,.int .i64 (0),.int .i64 (0),.int .i64 (0),.int .i64 (0),.int .i64 (0),.map none] 88),aZ bW mp s.ps,aZ bK mh s.hs,aZ dS mm ms,cV zs]∧(EqS s X0.s∧MmOk X0 ms zs)) ?_ ?_
 ·refine bE (lE fN (lE gO (lE oG (aN (cG _ rfl (fun hc6=> ?_) (fun hc6=> ?_))))))
  ·obtain⟨hne,ps,gs,msl,hps,hgs,hms,nb,hb⟩:=hst.resolve_left (fun q=>by have h0:=hc6;rw[q.1]at h0;exact absurd h0 (by decide))
   have hsf:=aIo hx0 hl0 hps hgs hms
   refine aC (lE fN ?_)
   refine pN (cK (vs:=[sB va bs (vc)]) bFi.ok rfl rfl) rfl fun w β1 sb kn hw1 back=>(aWg β1 w hw1 _ bs (Sl.mono _ _ _ _ _ sb (⟨⟨_,_,rfl,vl,vm,ve⟩⟩:Sl iK _ _ bs)) hbl X0 ps gs msl _ hb hsf hl0).mono ?_
   rintro e w' ⟨mp7,mh8,mm9,LL,hml,hho,rfl,hw'⟩
   refine⟨_,rfl,_,back _ _ hw',?_⟩
   refine lE oE (lE qS (lE xK ?_))
   refine lu (mS 4 (#[.map (some mp7),.map (some mh8),Ix (X0.s.last),Ix (X0.s.su.a0),Ix (X0.s.su.a1),Ix (X0.s.su.a2),Ix (X0.s.su.a3),.map (some mm9)])) ?_
   refine lE dW (aH (vP [4,8,0,1,2,3,5,6,7] 9 ?_))
   refine dM [true,true,true,true,true,true,false,false,false] rfl ?_
   exact bI ⟨mp7,mh8,mm9,(⟨ps,gs,X0.s.last,X0.s.su⟩:KSt),(tL LL),LL,⟨rfl,rfl,rfl,rfl⟩,rfl,⟨⟨hps.symm,hgs.symm,rfl,rfl,hsf.pd,hsf.hd⟩,bEd hms hml hho⟩⟩
  refine cD (aFm (r:=cV []) yS (vP [1,5,2,3,4,0] 6 ?_))
  exact bI ⟨mp2,mh3,mm4,aQj,[],[],⟨rfl,rfl,rfl,rfl⟩,rfl,by rw[hst.resolve_right (fun q=>q.1 (List.eq_nil_of_length_eq_zero (by omega)))|>.2];exact⟨aQk,aQl⟩⟩
 rintro f0 L0 ⟨mp,mh,mm,s,ms,zs,⟨hs1,hs4,hs6,hs7⟩,hL,⟨hes,hmm⟩⟩
 subst L0
 refine bM 1 hs1 (bM 4 hs4 (bM 6 hs6 (bM 7 hs7 (eS (aC (lE fN (lE gO (lE aX (aN (aK ?_))))))))))
 refine dB (fun(x_:Nat×Nat×Nat×Nat×KSt×List (Int×KMh)×List (KMh×KMem)) f L=>match x_ with|(k,mp,mh,mm,s,ms,zs)=>(f 4=pp b1 0∧f 6=pp b5 0∧f 7= .bool true∧f 21=sB vra recs (vrc)∧f 22=Nx (recs.length)∧f 23=Nx (k))∧L=[pt b5 (.cells #[.map (some mp),.map (some mh),Ix (s.last),Ix (s.su.a0),Ix (s.su.a1),Ix (s.su.a2),Ix (s.su.a3),.map (some mm)] 88),pt b1 (.cells #[.map none,.map none,.int .i64 (0),.int .i64 (0),.int .i64 (0),.int .i64 (0),.int .i64 (0),.map none] 88),aZ bW mp s.ps,aZ bK mh s.hs,aZ dS mm ms,cV zs]∧(k≤recs.length∧RsOk X0 ds k s ms zs)) (fun(k,mp,mh,mm,s,ms,zs)=>recs.length-k) (0,mp,mh,mm,s,ms,zs) ?_ ?_
 ·exact⟨⟨rfl,rfl,rfl,rfl,rfl,rfl⟩,rfl,⟨Nat.zero_le _,RsOk.zero hes hmm⟩⟩
 rintro⟨k,mp,mh,mm,s,ms,zs⟩ f0 L0 ⟨⟨hs4,hs6,hs7,hs21,hs22,hs23⟩,hL,⟨hk,hrs⟩⟩
 subst L0
 refine bM 4 hs4 (bM 6 hs6 (bM 7 hs7 (bM 21 hs21 (bM 22 hs22 (bM 23 hs23 (bE (lE gH (aN (aL (cG _ rfl (fun hc10=> ?_) (fun hc10=> ?_)))))))))))
 ·refine eF (aL (aK (bE ?_)))
  obtain⟨x11,hx12⟩:=kO recs k (by omega)
  obtain⟨ha13,cs14,hc15,hr16⟩:=vre _ _ hx12
  obtain⟨v17,rfl,hv18⟩:=hr16
  obtain⟨a19,c20,rfl,hl21,hm22,he23⟩:=(hv18).get
  refine lE (sJ bFj ha13) (lv (v:=sB a19 x11 (c20)) (bH bGa.ok rfl (kB hc15)) (lE iT (aN (aL ?_))))
  obtain⟨d,hdk,hxd⟩:=aXc hrecs hx12
  obtain⟨hfm,vQ⟩:=hds d (List.mem_of_getElem? hdk)
  have hdf:=aFi hfm vQ
  have hd16:=hdf.few
  have hfa:=(fG.1 hfm).2.2.2
  have hxl:x11.length≤65536:=by rw[hxd];exact aXb hfm
  have hxw:Wr x11 _ _:=hxd▸bBw d
  have hgs:=hrs.good hx0 hds hlast
  refine aC (lE fN ?_)
  refine pN (cK (vs:=[sB a19 x11 (c20)]) aZu.ok rfl rfl) rfl fun w β1 sb kn hw1 back=>(aKj β1 w hw1 _ x11 (Sl.mono _ _ _ _ _ sb (⟨⟨_,_,rfl,by omega,by omega,he23⟩⟩:Sl iK _ _ x11)) _ _ hxw hxl).mono ?_
  rintro e w' ⟨rb24,rfl,hw'⟩
  refine⟨_,rfl,_,back _ _ hw',?_⟩
  refine lv (v:= .agg #[pp rb24 0]) (cR aZw.ok aZv (vs:=[(0,pp rb24 0)]) (cells:= #[pp rb24 0]) rfl rfl) (gB fun b25=> ?_)
  refine lu (mS 0 (#[pp rb24 0])) (eY (lE (dD 0) (aW rfl rfl rfl (cK (vs:=[.agg #[pp rb24 0]]) aZy.ok rfl rfl) ?_)))
  intro w hw
  replace hw:=hw.perm (L':=_::_::_::_::_::_::_::_::[]) (by exact((((((((aA 7 rfl).trans (aA 7 rfl)).trans (aA 7 rfl)).trans (aA 7 rfl)).trans (aA 7 rfl)).trans (aA 7 rfl)).trans (aA 6 rfl)).trans (aA 7 rfl)))
  obtain⟨β1,sb,kn,hw1,back⟩:=St.frame (L:=[_]) (M:=_::_::_::_::_::_::_::[]) hw
  refine(aFj β1 w rb24 d.author d.number d.acts _ hdf hw1).mono ?_
  rintro e w' ⟨p26,c27,rfl,hw'⟩
  refine⟨_,rfl,_,back _ _ hw',?_⟩
  refine gB fun b28=>lu (mS 0 (#[Ix (d.author),Ix (d.number),sB p26 d.acts c27])) (aN (eS (aC (lE fJ (lE lX (lE fJ (gE aY (gE (iI 3) ?_))))))))
  refine eK rfl rfl rfl rfl rfl (cK (vs:=[pp rb24 0]) aZz.ok rfl rfl) ?_
  intro w hw
  replace hw:=hw.perm (L':=[fT rb24 [],pt b28 (.cells #[Ix (d.author),Ix (d.number),sB p26 d.acts c27] 80),aM dI 47 p26 c27 d.acts,pt b25 (.cells #[pp rb24 0] 168),pt b5 (.cells #[.map (some mp),.map (some mh),Ix (s.last),Ix (s.su.a0),Ix (s.su.a1),Ix (s.su.a2),Ix (s.su.a3),.map (some mm)] 88),pt b1 (.cells #[.map none,.map none,.int .i64 (0),.int .i64 (0),.int .i64 (0),.int .i64 (0),.int .i64 (0),.map none] 88),aZ bW mp s.ps,aZ bK mh s.hs,aZ dS mm ms,cV zs]) (by exact(aV [2,0,1,3,4,5,6,7,8,9] 10 rfl (by kernel_rfl) (by kernel_rfl)))
  obtain⟨β1,sb,kn,hw1,back⟩:=St.frame (L:=[_]) (M:=_::_::_::_::_::_::_::_::_::[]) hw
  refine(aKv β1 w rb24 hw1).mono ?_
  rintro e w' ⟨rfl,hw'⟩
  refine⟨_,rfl,_,back _ _ hw',?_⟩
  refine gE lC (lE dP (lE fJ (gE (dD 1) ?_)))
  refine eK rfl rfl rfl rfl rfl (cK (vs:=[.agg #[Ix (d.author),Ix (d.number),sB p26 d.acts c27]]) aZn.ok rfl rfl) ?_
  intro w hw
  obtain⟨β1,sb,kn,hw1,back⟩:=St.frame_all hw
  refine(pS β1 w hw1 d.author d.number _ d.acts (kn _ (kA 2 (F:=dI) (m:=d.acts.length) rfl rfl))).mono ?_
  rintro e w' ⟨rfl,hw'⟩
  refine⟨_,rfl,_,back _ _ hw',?_⟩
  refine gE lX (lE dP (aN (fE (!(cE d.author d.number d.acts)) rfl (fun hc29=> ?_) (fun hc29=> ?_))))
  ·rw[(show(!(cE d.author d.number d.acts))=false by rw[hfm];rfl)]at hc29;cases hc29
  refine eF (aC (lE (dD 4) (lE (dD 1) ?_)))
  refine aW rfl rfl rfl (cK (vs:=[.agg #[.map (some mp),.map (some mh),Ix (s.last),Ix (s.su.a0),Ix (s.su.a1),Ix (s.su.a2),Ix (s.su.a3),.map (some mm)],.agg #[Ix (d.author),Ix (d.number),sB p26 d.acts c27]]) aZp.ok rfl rfl) ?_
  intro w hw
  replace hw:=hw.perm (L':=[aZ bW mp s.ps,aZ bK mh s.hs,aZ dS mm ms,fT rb24 [],pt b28 (.cells #[Ix (d.author),Ix (d.number),sB p26 d.acts c27] 80),aM dI 47 p26 c27 d.acts,pt b25 (.cells #[pp rb24 0] 168),pt b5 (.cells #[.map (some mp),.map (some mh),Ix (s.last),Ix (s.su.a0),Ix (s.su.a1),Ix (s.su.a2),Ix (s.su.a3),.map (some mm)] 88),pt b1 (.cells #[.map none,.map none,.int .i64 (0),.int .i64 (0),.int .i64 (0),.int .i64 (0),.int .i64 (0),.map none] 88),cV zs]) (by exact(aV [6,7,8,0,1,2,3,4,5,9] 10 rfl (by kernel_rfl) (by kernel_rfl)))
  obtain⟨β1,sb,kn,hw1,back⟩:=St.frame (L:=[_,_,_]) (M:=_::_::_::_::_::_::_::[]) hw
  refine(aAs β1 w mp mh mm s ms hw1 d.author d.number _ d.acts (kn _ (kA 2 (F:=dI) (m:=d.acts.length) rfl rfl)) hfa (by omega) _ (Int.le_refl _) hgs).mono ?_
  rintro e w' ⟨mq30,hq31,mn32,p33,c34,rfl,hw'⟩
  refine⟨_,rfl,_,back _ _ hw',?_⟩
  refine lE oE (lE qS (lE qS ?_))
  refine lu (mS 8 (#[.map (some mq30),.map (some hq31),Ix ((aE s d.acts).1.last),Ix ((aE s d.acts).1.su.a0),Ix ((aE s d.acts).1.su.a1),Ix ((aE s d.acts).1.su.a2),Ix ((aE s d.acts).1.su.a3),.map (some mn32)])) ?_
  refine aH (aR (bD (aC (lv (v:=Nx (k+1)) (bX rfl rfl (dA (by omega) (by omega))) (lE aX (aH ?_))))))
  refine vP [6,3,10,0,1,2,4,5,7,8,9] 11 ?_
  refine aJp (L:=[aM dI 47 p26 c27 d.acts,aM bA 3 p33 c34 ((aE s d.acts).2.holds),cV zs]) (M:=[aZ bW mq30 ((aE s d.acts).1.ps),aZ bK hq31 ((aE s d.acts).1.hs),aZ dS mn32 (dS.put ms d.author (⟨d.author,d.number,p26,d.acts.length,c27,(aE s d.acts).2.done,(aE s d.acts).2.at_,(aE s d.acts).2.e,p33,(aE s d.acts).2.holds.length,c34⟩:KMh)),fT rb24 [],pt b28 (.cells #[Ix (d.author),Ix (d.number),sB p26 d.acts c27] 80),pt b25 (.cells #[pp rb24 0] 168),pt b5 (.cells #[.map (some mq30),.map (some hq31),Ix ((aE s d.acts).1.last),Ix ((aE s d.acts).1.su.a0),Ix ((aE s d.acts).1.su.a1),Ix ((aE s d.acts).1.su.a2),Ix ((aE s d.acts).1.su.a3),.map (some mn32)] 88),pt b1 (.cells #[.map none,.map none,.int .i64 (0),.int .i64 (0),.int .i64 (0),.int .i64 (0),.int .i64 (0),.map none] 88)]) (r:=cV (zs++[((⟨d.author,d.number,p26,d.acts.length,c27,(aE s d.acts).2.done,(aE s d.acts).2.at_,(aE s d.acts).2.e,p33,(aE s d.acts).2.holds.length,c34⟩:KMh),(⟨⟨d.author,d.number,d.acts⟩,(aE s d.acts).2⟩:KMem))])) (fun a ha=>uE a ha) ?_
  refine vP [7,8,1,2,3,0,4,5,6] 9 ?_
  refine dM [true,true,true,true,true,true,false,false,false] rfl ?_
  exact bI ⟨(k+1,mq30,hq31,mn32,(aE s d.acts).1,(dS.put ms d.author (⟨d.author,d.number,p26,d.acts.length,c27,(aE s d.acts).2.done,(aE s d.acts).2.at_,(aE s d.acts).2.e,p33,(aE s d.acts).2.holds.length,c34⟩:KMh)),(zs++[((⟨d.author,d.number,p26,d.acts.length,c27,(aE s d.acts).2.done,(aE s d.acts).2.at_,(aE s d.acts).2.e,p33,(aE s d.acts).2.holds.length,c34⟩:KMh),(⟨⟨d.author,d.number,d.acts⟩,(aE s d.acts).2⟩:KMem))])),⟨⟨rfl,rfl,rfl,rfl,rfl,rfl⟩,rfl,⟨by omega,hrs.next hdk ⟨rfl,rfl,rfl,rfl,rfl,rfl,rfl⟩⟩⟩,(show recs.length-(k+1)<recs.length-k from by omega)⟩
 refine cM (aG (aG (cN (kM (lE (dD 0) (lE fJ ?_))))))
 refine lu (mS 1 (#[.map (some mp),.map (some mh),Ix (s.last),Ix (s.su.a0),Ix (s.su.a1),Ix (s.su.a2),Ix (s.su.a3),.map (some mm)])) (lE dW (aN ?_))
 refine aT ?_
 refine gA (m:=[.agg #[.map (some mp),.map (some mh),Ix (s.last),Ix (s.su.a0),Ix (s.su.a1),Ix (s.su.a2),Ix (s.su.a3),.map (some mm)],.bool true]) Tryz.results46 ⟨bQ aYe.ok rfl (bY 1 rfl rfl) rfl,eL (v:= .bool true) rfl,trivial⟩ rfl ?_
 intro w hw
 replace hw:=hw.perm (L':=[aZ bW mp s.ps,aZ bK mh s.hs,aZ dS mm ms,cV zs,pt b5 (.cells #[.map (some mp),.map (some mh),Ix (s.last),Ix (s.su.a0),Ix (s.su.a1),Ix (s.su.a2),Ix (s.su.a3),.map (some mm)] 88),pt b1 (.cells #[.map (some mp),.map (some mh),Ix (s.last),Ix (s.su.a0),Ix (s.su.a1),Ix (s.su.a2),Ix (s.su.a3),.map (some mm)] 88)]) (by exact(aV [2,3,4,5,0,1] 6 rfl (by kernel_rfl) (by kernel_rfl)))
 replace hw:=aF (L':=[aZ bW mp s.ps,aZ bK mh s.hs,aZ dS mm ms,cV zs]) [true,true,true,true,false,false] rfl hw
 obtain⟨he1,he2⟩:=hrs.all (by rw[hrecs,List.length_map]at*;omega) hX
 exact⟨_,_,_,s,ms,zs,he1,he2,rfl,hw⟩
end Go.Proofs
