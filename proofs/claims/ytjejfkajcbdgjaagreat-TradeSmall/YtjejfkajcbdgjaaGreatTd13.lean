/-
  Own work; plain Lean (Td12, Td13).
-/
import Derived.Test.YtjejfkajcbdgjaaGreatTd11
set_option linter.all false
set_option maxHeartbeats 4000000
namespace Go.Proofs
open Go Go.Sl Go.Td Go.Jn
instance bAn:CfC Tryz.prog 86:={}
theorem bAo:xC Tryz.prog 168 [(0,1)]=true:=by kernel_rfl
instance bAp:ZerC Tryz.prog 168 (.agg #[.pointer none]):={}
instance bAq:CfC Tryz.prog 84:={}
instance tt142:FldC Tryz.prog 104 0 0 1 false:={}
instance bAr:CfC Tryz.prog 87:={}
instance tt144:FldC Tryz.prog 37 1 1 1 false:={}
instance tt145:FldC Tryz.prog 37 2 2 1 false:={}
instance tt146:FldC Tryz.prog 37 0 0 1 false:={}
instance bAs:CfC Tryz.prog 88:={}
theorem aWv(β:Base)(w:World)(hw:St β [] w)(v:Value)(bs:List UInt8)(hs:Sl iT β.heap v bs)(hbl:bs.length≤65536)(X:KHs)(ps:List (Int×KAm))(gs:List (Int×KHo))(ms:List (Int×KMem))(n:Nat)(hb:Wr bs n (gR X.s.su X.s.last ps gs ms))(hsf:StFit X ps gs ms)(hla:X.s.last≤16000000):Calls Tryz.prog 85 #[v] w fun r w'=>∃mp mh mm LL,mml LL=ms∧(∀z∈LL,HdOf z)∧r= .returned (.tuple #[.agg (vO mp mh mm X.s.last X.s.su),.bool true])∧St β [bB cC mp ps,bB bL mh gs,bB dW mm (uA LL),dG LL] w':=by
 obtain⟨va,vc,rfl,vl,vm,ve⟩:=hs.get
 rw[bCs]at hb
 have hpn:=hsf.pn
 have hgn:=hsf.hn
 have hmn:=hsf.mn
 refine enter (n:=106) Tryz.func85 rfl Tryz.ntmps85 rfl ?_ hw
 refine bD (gB fun b1=>lE dP (eY (lE fL ?_)))
 refine pV (cT (vs:=[sB va bs (vc)]) bAn.ok rfl rfl) rfl fun w β1 sb kn hw1 back=>(aKz β1 w hw1 _ bs (Sl.mono _ _ _ _ _ sb (⟨⟨_,_,rfl,vl,vm,ve⟩⟩:Sl iT _ _ bs)) n _ hb hbl).mono ?_
 rintro e w' ⟨rb,rfl,hw'⟩
 refine⟨_,rfl,_,back _ _ hw',?_⟩
 refine lv (v:= .agg #[pp rb 0]) (bV bAp.ok bAo (vs:=[(0,pp rb 0)]) (cells:= #[pp rb 0]) rfl rfl) (gB fun b2=> ?_)
 refine lu (mS 0 (#[pp rb 0])) (eY (pV (cT (vs:=[]) bAq.ok rfl rfl) rfl fun w β1 sb kn hw1 back=>(aGd β1 w hw1).mono ?_))
 rintro e w' ⟨mp3,mh4,mm5,rfl,hw'⟩
 refine⟨_,rfl,_,back _ _ hw',?_⟩
 refine gB fun b6=> ?_
 refine lu (mS 0 (#[.map (some mp3),.map (some mh4),.int .i64 (0),.int .i64 (0),.int .i64 (0),.int .i64 (0),.int .i64 (0),.map (some mm5)])) (aN ?_)
 refine aL ?_
 refine jS [sv 14 (.agg #[pp rb 0]) [] [] [0],sv 15 (.agg (eK X.s.su)) [0] [0] [],sv 16 (.agg #[pp rb 0]) [] [] [0],sv 17 (Ix (X.s.last)) [0,1,2] [2] [],sv 18 (pp b6 3) [0,1] [] [1],⟨[0,1,2,3,4],[4,1],[],[],fun _=>True⟩,sv 19 (pp b6 2) (List.range 6) [] [1],⟨(List.range 7),[6,3],[],[],fun _=>True⟩] [(some 5,[5]),u0,u0,u0,u1 [0,2],(some 1,[1])] [⟨(some 1),(some 3),[3],[],fun _=>fW rb (aM (U X.s.last) 48++(aM (U ((ps.length:Nat):Int)) 9++(psK ps (aM (U ((gs.length:Nat):Int)) 9++(hsK gs (aM (U ((ms.length:Nat):Int)) 9++(uB ms [])))))))⟩,⟨(some 3),none,[],[],fun _=>fW rb (aM (U ((ps.length:Nat):Int)) 9++(psK ps (aM (U ((gs.length:Nat):Int)) 9++(hsK gs (aM (U ((ms.length:Nat):Int)) 9++(uB ms []))))))⟩,⟨(some 5),(some 7),[7],[],fun _=>pt b6 (.cells #[.map (some mp3),.map (some mh4),.int .i64 (0),Ix (X.s.su.a0),Ix (X.s.su.a1),Ix (X.s.su.a2),Ix (X.s.su.a3),.map (some mm5)] 88)⟩,⟨(some 7),none,[],[],fun _=>pt b6 (.cells #[.map (some mp3),.map (some mh4),Ix (X.s.last),Ix (X.s.su.a0),Ix (X.s.su.a1),Ix (X.s.su.a2),Ix (X.s.su.a3),.map (some mm5)] 88)⟩] [(4,pp b2 0),(5,pp b6 0),(2,pp b1 0)] [2,0,1] ⟨rfl,rfl,rfl,trivial⟩ ⟨?_,?_,?_,?_,?_,?_,?_,?_,trivial⟩ ?_
 ·rintro f M-⟨i0,-⟩
  exact aT (dK 0)
 ·rintro f M ⟨k0,-⟩-
  refine dL (aA (d:=14) rfl k0) ?_
  refine aX rfl rfl rfl (cT (vs:=[.agg #[pp rb 0],.int .i64 (63)]) aLy.ok rfl rfl) ?_
  intro w hw
  obtain⟨β1,sb,kn,hw1,back⟩:=St.frame (L:=[_]) (M:=M) hw
  refine(yF β1 w rb _ X.s.su 63 hsf.su hw1).mono ?_
  rintro e w' ⟨rfl,hw'⟩
  refine⟨_,rfl,_,back _ _ hw',?_⟩
  refine aH ?_
  exact aO (aA (d:=14) rfl k0) rfl (aB 0 rfl)
 ·rintro f M-⟨i0,-⟩
  exact aT (dK 0)
 ·rintro f M ⟨k0,-⟩-
  refine dL (aA (d:=16) rfl k0) ?_
  refine aX rfl rfl rfl (cT (vs:=[.agg #[pp rb 0],.int .i64 (48)]) jT.ok rfl rfl) ?_
  intro w hw
  obtain⟨β1,sb,kn,hw1,back⟩:=St.frame (L:=[_]) (M:=M) hw
  refine(fS β1 w rb _ X.s.last 48 hsf.la hw1).mono ?_
  rintro e w' ⟨rfl,hw'⟩
  refine⟨_,rfl,_,back _ _ hw',?_⟩
  refine aH ?_
  exact aO (aA (d:=16) rfl k0) rfl (aB 0 rfl)
 ·rintro f M-⟨i0,-⟩
  exact aT aY
 ·rintro f M ⟨k0,k1,-⟩-
  refine dL (aA (d:=15) (aA (d:=18) rfl k0) k1) ?_
  refine lu (mS 0 (#[.map (some mp3),.map (some mh4),.int .i64 (0),Ix (X.s.su.a0),Ix (X.s.su.a1),Ix (X.s.su.a2),Ix (X.s.su.a3),.map (some mm5)])) ?_
  refine aH ?_
  exact bC (aA (d:=15) (aA (d:=18) rfl k0) k1) trivial (aB 0 rfl)
 ·rintro f M-⟨i0,-⟩
  exact aT aY
 ·rintro f M ⟨k0,k1,-⟩-
  refine dL (aA (d:=17) (aA (d:=19) rfl k0) k1) ?_
  refine lu (mS 0 (#[.map (some mp3),.map (some mh4),Ix (X.s.last),Ix (X.s.su.a0),Ix (X.s.su.a1),Ix (X.s.su.a2),Ix (X.s.su.a3),.map (some mm5)])) ?_
  refine aH ?_
  exact bC (aA (d:=17) (aA (d:=19) rfl k0) k1) trivial (aB 0 rfl)
 rintro fa7 ⟨-,-,-,-,-,-,-,-,-⟩ ⟨j0,j1,j2,-⟩
 refine jD ?_
 refine aD (d:=2) j0 (aD (d:=4) j1 (aD (d:=5) j2 (qV (bD (lE (dK 3) ?_)))))
 refine aX rfl rfl rfl (cT (vs:=[.agg #[pp rb 0],.int .i64 (9)]) jT.ok rfl rfl) ?_
 intro w hw
 replace hw:=hw.perm (L':=_::_::_::_::_::_::_::[]) (by exact(((((((aB 6 rfl).trans (aB 5 rfl)).trans (aB 5 rfl)).trans (aB 5 rfl)).trans (aB 5 rfl)).trans (aB 5 rfl)).trans (aB 6 rfl)))
 obtain⟨β1,sb,kn,hw1,back⟩:=St.frame (L:=[_]) (M:=_::_::_::_::_::_::[]) hw
 refine(fS β1 w rb _ ((ps.length:Nat):Int) 9 hsf.pl hw1).mono ?_
 rintro e w' ⟨rfl,hw'⟩
 refine⟨_,rfl,_,back _ _ hw',?_⟩
 refine lE aU (aN (aJ ?_))
 refine cZ (fun(kps:Nat) f L=>(f 2=pp b1 0∧f 4=pp b2 0∧f 5=pp b6 0∧f 21=Nx (ps.length)∧f 22=Nx (kps))∧L=[fW rb (psK (ps.drop kps) (aM (U ((gs.length:Nat):Int)) 9++(hsK gs (aM (U ((ms.length:Nat):Int)) 9++(uB ms []))))),bB cC mp3 (ps.take kps),bB bL mh4 [],bB dW mm5 [],pt b2 (.cells #[pp rb 0] 168),pt b1 (.cells #[.map none,.map none,.int .i64 (0),.int .i64 (0),.int .i64 (0),.int .i64 (0),.int .i64 (0),.map none] 88),pt b6 (.cells #[.map (some mp3),.map (some mh4),Ix (X.s.last),Ix (X.s.su.a0),Ix (X.s.su.a1),Ix (X.s.su.a2),Ix (X.s.su.a3),.map (some mm5)] 88)]∧(kps≤ps.length)) (fun kps=>ps.length-kps) 0 ?_ ?_
 ·exact⟨⟨rfl,rfl,rfl,rfl,rfl⟩,rfl,Nat.zero_le _⟩
 rintro kps f0 L0 ⟨⟨hs2,hs4,hs5,hs21,hs22⟩,hL,hkps⟩
 subst L0
 refine bJ 2 hs2 (bJ 4 hs4 (bJ 5 hs5 (bJ 21 hs21 (bJ 22 hs22 (bD (lE gN (aN (aL (cN _ rfl (fun hc8=> ?_) (fun hc8=> ?_))))))))))
 ·refine eB (aL (aJ (aL ?_)))
  obtain⟨x,hx⟩:∃x,ps[kps]? =some x:=⟨_,List.getElem?_eq_getElem (by omega)⟩
  have hxm:=List.mem_of_getElem? hx
  have hxf:=hsf.pp x hxm
  refine rC (L':=[fW rb (aM (U x.1) 17++(amK x.2 31 (psK (ps.drop (kps+1)) (aM (U ((gs.length:Nat):Int)) 9++(hsK gs (aM (U ((ms.length:Nat):Int)) 9++(uB ms []))))))),bB cC mp3 (ps.take kps),bB bL mh4 [],bB dW mm5 [],pt b2 (.cells #[pp rb 0] 168),pt b1 (.cells #[.map none,.map none,.int .i64 (0),.int .i64 (0),.int .i64 (0),.int .i64 (0),.int .i64 (0),.map none] 88),pt b6 (.cells #[.map (some mp3),.map (some mh4),Ix (X.s.last),Ix (X.s.su.a0),Ix (X.s.su.a1),Ix (X.s.su.a2),Ix (X.s.su.a3),.map (some mm5)] 88)]) (by rw[aSs hx]) ?_
  refine aC (lE (dK 4) (aX rfl rfl rfl (cT (vs:=[.agg #[pp rb 0],.int .i64 (17)]) jT.ok rfl rfl) ?_))
  intro w hw
  obtain⟨β1,sb,kn,hw1,back⟩:=St.frame (L:=[_]) (M:=_::_::_::_::_::_::[]) hw
  refine(fS β1 w rb _ x.1 17 hxf.1 hw1).mono ?_
  rintro e w' ⟨rfl,hw'⟩
  refine⟨_,rfl,_,back _ _ hw',?_⟩
  refine lE bN (aN ?_)
  refine jS [sv 26 (pp b6 0) [] [] [0],sv 27 (.map (some mp3)) [0] [0] [],sv 28 (Ix (x.1)) [] [] [1],sv 29 (.agg #[pp rb 0]) [] [] [2],sv 30 (.agg (eK x.2)) [3] [3] [],⟨[0,1,2,3,4],[1,2,4],[],[],fun _=>True⟩] [(some 4,[4]),(some 5,[5]),u0,u0,u1 [3],u0,u1 [1]] [⟨(some 4),none,[],[],fun _=>fW rb (psK (ps.drop (kps+1)) (aM (U ((gs.length:Nat):Int)) 9++(hsK gs (aM (U ((ms.length:Nat):Int)) 9++(uB ms [])))))⟩,⟨(some 5),none,[],[],fun _=>bB cC mp3 (cC.put (ps.take kps) (x.1) x.2)⟩] [(5,pp b6 0),(6,Ix (x.1)),(4,pp b2 0),(2,pp b1 0),(21,Nx (ps.length)),(22,Nx (kps))] [3,2,0,4,5] ⟨rfl,rfl,rfl,rfl,rfl,rfl,trivial⟩ ⟨?_,?_,?_,?_,?_,?_,trivial⟩ ?_
  ·rintro f M-⟨i0,-⟩
   exact aT aY
  ·rintro f M ⟨k0,-⟩-
   exact vS (L':=pt b6 (.cells #[.map (some mp3),.map (some mh4),Ix (X.s.last),Ix (X.s.su.a0),Ix (X.s.su.a1),Ix (X.s.su.a2),Ix (X.s.su.a3),.map (some mm5)] 88)::M) (aA (d:=26) rfl k0) rfl (bI rZ.ok rfl (cD 0 rfl rfl)) (aB 0 rfl) (by rfl)
  ·rintro f M-⟨i0,-⟩
   exact aT aU
  ·rintro f M-⟨i0,-⟩
   exact aT (dK 0)
  ·rintro f M ⟨k0,-⟩-
   refine dL (aA (d:=29) rfl k0) ?_
   refine aX rfl rfl rfl (cT (vs:=[.agg #[pp rb 0],.int .i64 (31)]) aLy.ok rfl rfl) ?_
   intro w hw
   obtain⟨β1,sb,kn,hw1,back⟩:=St.frame (L:=[_]) (M:=M) hw
   refine(yF β1 w rb _ x.2 31 hxf.2 hw1).mono ?_
   rintro e w' ⟨rfl,hw'⟩
   refine⟨_,rfl,_,back _ _ hw',?_⟩
   refine aH ?_
   exact aO (aA (d:=29) rfl k0) rfl (aB 0 rfl)
  ·rintro f M ⟨k0,k1,k2,-⟩-
   refine dL (aA (d:=30) (aA (d:=28) (aA (d:=27) rfl k0) k1) k2) ?_
   refine lu (rM (K:=cC) (b:=mp3) (ks:=(ps.take kps)) (k:=(x.1)) (v:=x.2) 0 rfl rfl rfl rfl rfl) (aH ?_)
   exact bC (aA (d:=30) (aA (d:=28) (aA (d:=27) rfl k0) k1) k2) trivial (aB 0 rfl)
  rintro fa9 ⟨-,-,-,-,-,-,-⟩ ⟨j0,j1,j2,j3,j4,-⟩
  refine jD ?_
  refine aD (d:=2) j0 (aD (d:=4) j1 (aD (d:=5) j2 (aD (d:=21) j3 (aD (d:=22) j4 (aP (bA (aC ?_)))))))
  refine lv (v:=Nx (kps+1)) (bO rfl rfl (cW (by omega) (by omega))) (lE aU (aH (tZ [5,6,0,1,2,3,4] 7 ?_)))
  exact bG ⟨kps+1,⟨⟨rfl,rfl,rfl,rfl,rfl⟩,by rw[aGr hsf.pd hx rfl],(by omega)⟩,(show ps.length-(kps+1)<ps.length-kps from by omega)⟩
 refine cK (aF (aF (cL (qV (aL ?_)))))
 have hkeps:kps=ps.length:=by omega
 refine rC (L':=[fW rb (aM (U ((gs.length:Nat):Int)) 9++(hsK gs (aM (U ((ms.length:Nat):Int)) 9++(uB ms [])))),bB cC mp3 ps,bB bL mh4 [],bB dW mm5 [],pt b2 (.cells #[pp rb 0] 168),pt b1 (.cells #[.map none,.map none,.int .i64 (0),.int .i64 (0),.int .i64 (0),.int .i64 (0),.int .i64 (0),.map none] 88),pt b6 (.cells #[.map (some mp3),.map (some mh4),Ix (X.s.last),Ix (X.s.su.a0),Ix (X.s.su.a1),Ix (X.s.su.a2),Ix (X.s.su.a3),.map (some mm5)] 88)]) (by rw[hkeps,List.take_length,List.drop_length];rfl) ?_
 refine aC (lE (dK 4) (aX rfl rfl rfl (cT (vs:=[.agg #[pp rb 0],.int .i64 (9)]) jT.ok rfl rfl) ?_))
 intro w hw
 obtain⟨β1,sb,kn,hw1,back⟩:=St.frame (L:=[_]) (M:=_::_::_::_::_::_::[]) hw
 refine(fS β1 w rb _ ((gs.length:Nat):Int) 9 hsf.hl hw1).mono ?_
 rintro e w' ⟨rfl,hw'⟩
 refine⟨_,rfl,_,back _ _ hw',?_⟩
 refine lE aU (aN (aJ ?_))
 refine cZ (fun(kgs:Nat) f L=>(f 2=pp b1 0∧f 4=pp b2 0∧f 5=pp b6 0∧f 33=Nx (gs.length)∧f 34=Nx (kgs))∧L=[fW rb (hsK (gs.drop kgs) (aM (U ((ms.length:Nat):Int)) 9++(uB ms []))),bB cC mp3 ps,bB bL mh4 (gs.take kgs),bB dW mm5 [],pt b2 (.cells #[pp rb 0] 168),pt b1 (.cells #[.map none,.map none,.int .i64 (0),.int .i64 (0),.int .i64 (0),.int .i64 (0),.int .i64 (0),.map none] 88),pt b6 (.cells #[.map (some mp3),.map (some mh4),Ix (X.s.last),Ix (X.s.su.a0),Ix (X.s.su.a1),Ix (X.s.su.a2),Ix (X.s.su.a3),.map (some mm5)] 88)]∧(kgs≤gs.length)) (fun kgs=>gs.length-kgs) 0 ?_ ?_
 ·exact⟨⟨rfl,rfl,rfl,rfl,rfl⟩,rfl,Nat.zero_le _⟩
 rintro kgs f0 L0 ⟨⟨hs2,hs4,hs5,hs33,hs34⟩,hL,hkgs⟩
 subst L0
 refine bJ 2 hs2 (bJ 4 hs4 (bJ 5 hs5 (bJ 33 hs33 (bJ 34 hs34 (bD (lE gN (aN (aL (cN _ rfl (fun hc10=> ?_) (fun hc10=> ?_))))))))))
 ·refine eB (aL (aJ (aL ?_)))
  obtain⟨x,hx⟩:∃x,gs[kgs]? =some x:=⟨_,List.getElem?_eq_getElem (by omega)⟩
  have hxm:=List.mem_of_getElem? hx
  have hxf:=hsf.hh x hxm
  refine rC (L':=[fW rb (aM (U x.1) 48++(aM (U x.2.owner) 17++(amK x.2.a 31 (hsK (gs.drop (kgs+1)) (aM (U ((ms.length:Nat):Int)) 9++(uB ms [])))))),bB cC mp3 ps,bB bL mh4 (gs.take kgs),bB dW mm5 [],pt b2 (.cells #[pp rb 0] 168),pt b1 (.cells #[.map none,.map none,.int .i64 (0),.int .i64 (0),.int .i64 (0),.int .i64 (0),.int .i64 (0),.map none] 88),pt b6 (.cells #[.map (some mp3),.map (some mh4),Ix (X.s.last),Ix (X.s.su.a0),Ix (X.s.su.a1),Ix (X.s.su.a2),Ix (X.s.su.a3),.map (some mm5)] 88)]) (by rw[aRe hx]) ?_
  refine jS [sv 36 (.agg #[pp rb 0]) [] [] [0],sv 37 (Ix (x.1)) [0] [0] [],sv 38 (.agg #[pp rb 0]) [] [] [0],sv 39 (Ix (x.2.owner)) [0,1,2] [2] [],sv 40 (.agg #[Ix (x.1),Ix (x.2.owner),.int .i64 (0),.int .i64 (0),.int .i64 (0),.int .i64 (0)]) [0,1,2,3] [1,3] [],⟨[],[],[],[7],fun f=>f 7= .pointer (some ⟨(bY (f 7)),0,none⟩)⟩,⟨(List.range 6),[5,4],[],[],fun _=>True⟩] [(some 1,[1]),u0,u0,u0,u1 [0,2]] [⟨(some 1),(some 3),[3],[],fun _=>fW rb (aM (U x.2.owner) 17++(amK x.2.a 31 (hsK (gs.drop (kgs+1)) (aM (U ((ms.length:Nat):Int)) 9++(uB ms [])))))⟩,⟨(some 3),none,[],[],fun _=>fW rb (amK x.2.a 31 (hsK (gs.drop (kgs+1)) (aM (U ((ms.length:Nat):Int)) 9++(uB ms []))))⟩,⟨(some 5),(some 6),[6],[7],fun f=>pt (bY (f 7)) (.cells #[.int .i64 (0),.int .i64 (0),.int .i64 (0),.int .i64 (0),.int .i64 (0),.int .i64 (0)] 104)⟩,⟨(some 6),none,[],[7],fun f=>pt (bY (f 7)) (.cells #[Ix (x.1),Ix (x.2.owner),.int .i64 (0),.int .i64 (0),.int .i64 (0),.int .i64 (0)] 104)⟩] [(4,pp b2 0),(2,pp b1 0),(5,pp b6 0),(33,Nx (gs.length)),(34,Nx (kgs))] [1,0,2,3,4] ⟨rfl,rfl,rfl,rfl,rfl,trivial⟩ ⟨?_,?_,?_,?_,?_,?_,?_,trivial⟩ ?_
  ·rintro f M-⟨i0,-⟩
   exact aT (dK 0)
  ·rintro f M ⟨k0,-⟩-
   refine dL (aA (d:=36) rfl k0) ?_
   refine aX rfl rfl rfl (cT (vs:=[.agg #[pp rb 0],.int .i64 (48)]) jT.ok rfl rfl) ?_
   intro w hw
   obtain⟨β1,sb,kn,hw1,back⟩:=St.frame (L:=[_]) (M:=M) hw
   refine(fS β1 w rb _ x.1 48 hxf.1 hw1).mono ?_
   rintro e w' ⟨rfl,hw'⟩
   refine⟨_,rfl,_,back _ _ hw',?_⟩
   refine aH ?_
   exact aO (aA (d:=36) rfl k0) rfl (aB 0 rfl)
  ·rintro f M-⟨i0,-⟩
   exact aT (dK 0)
  ·rintro f M ⟨k0,-⟩-
   refine dL (aA (d:=38) rfl k0) ?_
   refine aX rfl rfl rfl (cT (vs:=[.agg #[pp rb 0],.int .i64 (17)]) jT.ok rfl rfl) ?_
   intro w hw
   obtain⟨β1,sb,kn,hw1,back⟩:=St.frame (L:=[_]) (M:=M) hw
   refine(fS β1 w rb _ x.2.owner 17 hxf.2.1 hw1).mono ?_
   rintro e w' ⟨rfl,hw'⟩
   refine⟨_,rfl,_,back _ _ hw',?_⟩
   refine aH ?_
   exact aO (aA (d:=38) rfl k0) rfl (aB 0 rfl)
  ·rintro f M ⟨k0,k1,-⟩-
   exact gO (aA (d:=39) (aA (d:=37) rfl k0) k1) rfl (bV aUj.ok aYt (vs:=[(0,Ix (x.1)),(1,Ix (x.2.owner))]) (cells:= #[Ix (x.1),Ix (x.2.owner),.int .i64 (0),.int .i64 (0),.int .i64 (0),.int .i64 (0)]) rfl rfl) (.refl _)
  ·rintro f M- -
   refine dL rfl ?_
   refine gB fun b12=>aH ?_
   exact aO rfl rfl (aB 0 rfl)
  ·rintro f M ⟨k0,k1,-⟩-
   have hs7:f 7= .pointer (some ⟨(bY (f 7)),0,none⟩):=k0
   refine dL (aA (d:=40) (aA rfl hs7) k1) ?_
   refine lu (mS 0 (#[Ix (x.1),Ix (x.2.owner),.int .i64 (0),.int .i64 (0),.int .i64 (0),.int .i64 (0)])) (aH ?_)
   exact bC (aA (d:=40) (aA rfl hs7) k1) trivial (aB 0 rfl)
  rintro fa13 ⟨-,-,-,-,-,k5,-,-⟩ ⟨j0,j1,j2,j3,j4,-⟩
  refine jD ?_
  refine aD (d:=2) j0 (aD (d:=4) j1 (aD (d:=5) j2 (aD (d:=7) k5 (aD (d:=33) j3 (aD (d:=34) j4 (kM ?_))))))
  refine lE (dK 3) (aX rfl rfl rfl (cT (vs:=[.agg #[pp rb 0],.int .i64 (31)]) aLy.ok rfl rfl) ?_)
  intro w hw
  replace hw:=hw.perm (L':=_::_::_::_::_::_::_::_::[]) (by exact((((((((aB 7 rfl).trans (aB 6 rfl)).trans (aB 6 rfl)).trans (aB 6 rfl)).trans (aB 6 rfl)).trans (aB 6 rfl)).trans (aB 6 rfl)).trans (aB 7 rfl)))
  obtain⟨β1,sb,kn,hw1,back⟩:=St.frame (L:=[_]) (M:=_::_::_::_::_::_::_::[]) hw
  refine(yF β1 w rb _ x.2.a 31 hxf.2.2.1 hw1).mono ?_
  rintro e w' ⟨rfl,hw'⟩
  refine⟨_,rfl,_,back _ _ hw',?_⟩
  refine lE aY (lu (mS 7 (#[Ix (x.1),Ix (x.2.owner),Ix (x.2.a.a0),Ix (x.2.a.a1),Ix (x.2.a.a2),Ix (x.2.a.a3)])) (xJ (lE aY ?_)))
  refine lv (v:= .map (some mh4)) (bI vQ.ok rfl (cD 6 rfl rfl)) (lE aY (lE (cY 7) (lE (dK 7) ?_)))
  refine lu (rM (K:=bL) (b:=mh4) (ks:=(gs.take kgs)) (k:=(x.1)) (v:=(⟨x.1,x.2.owner,x.2.a⟩:KHo)) 2 rfl rfl rfl rfl rfl) (aH ?_)
  refine aP (bA (aC (lv (v:=Nx (kgs+1)) (bO rfl rfl (cW (by omega) (by omega))) (lE aU (aH ?_)))))
  refine dD (L':=[fW rb (hsK (gs.drop (kgs+1)) (aM (U ((ms.length:Nat):Int)) 9++(uB ms []))),bB cC mp3 ps,bB bL mh4 (bL.put (gs.take kgs) (x.1) (⟨x.1,x.2.owner,x.2.a⟩:KHo)),bB dW mm5 [],pt b2 (.cells #[pp rb 0] 168),pt b1 (.cells #[.map none,.map none,.int .i64 (0),.int .i64 (0),.int .i64 (0),.int .i64 (0),.int .i64 (0),.map none] 88),pt b6 (.cells #[.map (some mp3),.map (some mh4),Ix (X.s.last),Ix (X.s.su.a0),Ix (X.s.su.a1),Ix (X.s.su.a2),Ix (X.s.su.a3),.map (some mm5)] 88)]) [true,true,true,true,true,true,true,false] rfl ?_
  exact bG ⟨kgs+1,⟨⟨rfl,rfl,rfl,rfl,rfl⟩,by rw[bBy hxf.2.2.2,aGr hsf.hd hx rfl],(by omega)⟩,(show gs.length-(kgs+1)<gs.length-kgs from by omega)⟩
 refine cK (aF (aF (cL (qV ?_))))
 have hkegs:kgs=gs.length:=by omega
 refine rC (L':=[fW rb (aM (U ((ms.length:Nat):Int)) 9++(uB ms [])),bB cC mp3 ps,bB bL mh4 gs,bB dW mm5 [],pt b2 (.cells #[pp rb 0] 168),pt b1 (.cells #[.map none,.map none,.int .i64 (0),.int .i64 (0),.int .i64 (0),.int .i64 (0),.int .i64 (0),.map none] 88),pt b6 (.cells #[.map (some mp3),.map (some mh4),Ix (X.s.last),Ix (X.s.su.a0),Ix (X.s.su.a1),Ix (X.s.su.a2),Ix (X.s.su.a3),.map (some mm5)] 88)]) (by rw[hkegs,List.take_length,List.drop_length];rfl) ?_
 refine aC (lE dP (aN (eR (iK (r:=dG []) zG (aC (lE (dK 5) ?_))))))
 refine aX rfl rfl rfl (cT (vs:=[.agg #[pp rb 0],.int .i64 (9)]) jT.ok rfl rfl) ?_
 intro w hw
 replace hw:=hw.perm (L':=_::_::_::_::_::_::_::_::[]) (by exact((((((((aB 7 rfl).trans (aB 7 rfl)).trans (aB 7 rfl)).trans (aB 7 rfl)).trans (aB 7 rfl)).trans (aB 7 rfl)).trans (aB 6 rfl)).trans (aB 7 rfl)))
 obtain⟨β1,sb,kn,hw1,back⟩:=St.frame (L:=[_]) (M:=_::_::_::_::_::_::_::[]) hw
 refine(fS β1 w rb _ ((ms.length:Nat):Int) 9 hsf.ml hw1).mono ?_
 rintro e w' ⟨rfl,hw'⟩
 refine⟨_,rfl,_,back _ _ hw',?_⟩
 refine lE aU (aN (aJ ?_))
 refine cZ (fun(x_:Nat×List (KMh×KMem)) f L=>match x_ with|(kms,LL)=>(f 2=pp b1 0∧f 4=pp b2 0∧f 5=pp b6 0∧f 8= .bool true∧f 51=Nx (ms.length)∧f 52=Nx (kms))∧L=[fW rb (uB (ms.drop kms) []),dG LL,bB cC mp3 ps,bB bL mh4 gs,bB dW mm5 (uA LL),pt b2 (.cells #[pp rb 0] 168),pt b1 (.cells #[.map none,.map none,.int .i64 (0),.int .i64 (0),.int .i64 (0),.int .i64 (0),.int .i64 (0),.map none] 88),pt b6 (.cells #[.map (some mp3),.map (some mh4),Ix (X.s.last),Ix (X.s.su.a0),Ix (X.s.su.a1),Ix (X.s.su.a2),Ix (X.s.su.a3),.map (some mm5)] 88)]∧(kms≤ms.length∧mml LL=ms.take kms∧∀z∈LL,HdOf z)) (fun(kms,LL)=>ms.length-kms) (0,[]) ?_ ?_
 ·exact⟨⟨rfl,rfl,rfl,rfl,rfl,rfl⟩,rfl,⟨Nat.zero_le _,rfl,fun z hz=>by cases hz⟩⟩
 rintro⟨kms,LL⟩ f0 L0 ⟨⟨hs2,hs4,hs5,hs8,hs51,hs52⟩,hL,⟨hkms,hml,hho⟩⟩
 subst L0
 refine bJ 2 hs2 (bJ 4 hs4 (bJ 5 hs5 (bJ 8 hs8 (bJ 51 hs51 (bJ 52 hs52 (bD (lE gN (aN (aL (cN _ rfl (fun hc14=> ?_) (fun hc14=> ?_)))))))))))
 ·refine eB (aL (aJ (aL ?_)))
  obtain⟨x,hx⟩:∃x,ms[kms]? =some x:=⟨_,List.getElem?_eq_getElem (by omega)⟩
  have hxm:=List.mem_of_getElem? hx
  have hmk:=hsf.mm x hxm
  have hmf:=xZ hmk hla
  have hdf16:=hmf.d.few
  refine rC (L':=[fW rb (aBh x.2.d.author x.2.d.number x.2.d.acts (aM (U ((x.2.r.holds.length:Nat):Int)) 9++(nsK x.2.r.holds (aM (U x.2.r.at_) 9++(aM (U x.2.r.e) 16++(uB (ms.drop (kms+1)) [])))))),dG LL,bB cC mp3 ps,bB bL mh4 gs,bB dW mm5 (uA LL),pt b2 (.cells #[pp rb 0] 168),pt b1 (.cells #[.map none,.map none,.int .i64 (0),.int .i64 (0),.int .i64 (0),.int .i64 (0),.int .i64 (0),.map none] 88),pt b6 (.cells #[.map (some mp3),.map (some mh4),Ix (X.s.last),Ix (X.s.su.a0),Ix (X.s.su.a1),Ix (X.s.su.a2),Ix (X.s.su.a3),.map (some mm5)] 88)]) (by rw[aSg hx];rfl) ?_
  refine aC (lE (dK 5) (aX rfl rfl rfl (cT (vs:=[.agg #[pp rb 0]]) bAr.ok rfl rfl) ?_))
  intro w hw
  obtain⟨β1,sb,kn,hw1,back⟩:=St.frame (L:=[_]) (M:=_::_::_::_::_::_::_::[]) hw
  refine(aFv β1 w rb x.2.d.author x.2.d.number x.2.d.acts _ hmf.d hw1).mono ?_
  rintro e w' ⟨p15,c16,rfl,hw'⟩
  refine⟨_,rfl,_,back _ _ hw',?_⟩
  refine lv (v:= .agg #[Ix (x.2.d.author),Ix (x.2.d.number),sB p15 x.2.d.acts c16,.bool false,.int .i64 (0),.int .i64 (0),.slice none 0 0]) (bV bGw.ok bGv (vs:=[(0,.agg #[Ix (x.2.d.author),Ix (x.2.d.number),sB p15 x.2.d.acts c16])]) (cells:= #[Ix (x.2.d.author),Ix (x.2.d.number),sB p15 x.2.d.acts c16,.bool false,.int .i64 (0),.int .i64 (0),.slice none 0 0]) rfl (by kernel_rfl)) ?_
  refine gB fun b17=> ?_
  refine lu (mS 0 (#[Ix (x.2.d.author),Ix (x.2.d.number),sB p15 x.2.d.acts c16,.bool false,.int .i64 (0),.int .i64 (0),.slice none 0 0])) (aN (eR ?_))
  refine iK (r:=aK aZ 3 none 0 []) (eA _ _ _) (aC (lE (dK 8) ?_))
  refine aX rfl rfl rfl (cT (vs:=[.agg #[pp rb 0],.int .i64 (9)]) jT.ok rfl rfl) ?_
  intro w hw
  replace hw:=hw.perm (L':=[fW rb (aM (U ((x.2.r.holds.length:Nat):Int)) 9++(nsK x.2.r.holds (aM (U x.2.r.at_) 9++(aM (U x.2.r.e) 16++(uB (ms.drop (kms+1)) []))))),aK aZ 3 none 0 [],pt b17 (.cells #[Ix (x.2.d.author),Ix (x.2.d.number),sB p15 x.2.d.acts c16,.bool false,.int .i64 (0),.int .i64 (0),.slice none (0) 0] 82),aK cJ 47 p15 c16 x.2.d.acts,dG LL,bB cC mp3 ps,bB bL mh4 gs,bB dW mm5 (uA LL),pt b2 (.cells #[pp rb 0] 168),pt b1 (.cells #[.map none,.map none,.int .i64 (0),.int .i64 (0),.int .i64 (0),.int .i64 (0),.int .i64 (0),.map none] 88),pt b6 (.cells #[.map (some mp3),.map (some mh4),Ix (X.s.last),Ix (X.s.su.a0),Ix (X.s.su.a1),Ix (X.s.su.a2),Ix (X.s.su.a3),.map (some mm5)] 88)]) (by exact(aW [3,0,1,2,4,5,6,7,8,9,10] 11 rfl (by kernel_rfl) (by kernel_rfl)))
  obtain⟨β1,sb,kn,hw1,back⟩:=St.frame (L:=[_]) (M:=_::_::_::_::_::_::_::_::_::_::[]) hw
  refine(fS β1 w rb _ ((x.2.r.holds.length:Nat):Int) 9 hmf.l hw1).mono ?_
  rintro e w' ⟨rfl,hw'⟩
  refine⟨_,rfl,_,back _ _ hw',?_⟩
  refine lE aU (aN (aJ ?_))
  refine cZ (fun(x_:Nat×List Int×Option Addr×Nat) f L=>match x_ with|(j,hl,q,d)=>(f 2=pp b1 0∧f 4=pp b2 0∧f 5=pp b6 0∧f 8= .bool true∧f 9=pp b17 0∧f 51=Nx (ms.length)∧f 52=Nx (kms)∧f 58=Nx (x.2.r.holds.length)∧f 59=Nx (j))∧L=[fW rb (nsK (x.2.r.holds.drop j) (aM (U x.2.r.at_) 9++(aM (U x.2.r.e) 16++(uB (ms.drop (kms+1)) [])))),aK aZ 3 q d hl,pt b17 (.cells #[Ix (x.2.d.author),Ix (x.2.d.number),sB p15 x.2.d.acts c16,.bool false,.int .i64 (0),.int .i64 (0),sB q hl d] 82),aK cJ 47 p15 c16 x.2.d.acts,dG LL,bB cC mp3 ps,bB bL mh4 gs,bB dW mm5 (uA LL),pt b2 (.cells #[pp rb 0] 168),pt b1 (.cells #[.map none,.map none,.int .i64 (0),.int .i64 (0),.int .i64 (0),.int .i64 (0),.int .i64 (0),.map none] 88),pt b6 (.cells #[.map (some mp3),.map (some mh4),Ix (X.s.last),Ix (X.s.su.a0),Ix (X.s.su.a1),Ix (X.s.su.a2),Ix (X.s.su.a3),.map (some mm5)] 88)]∧(j≤x.2.r.holds.length∧hl=x.2.r.holds.take j)) (fun(j,hl,q,d)=>x.2.r.holds.length-j) (0,[],none,0) ?_ ?_
  ·exact⟨⟨rfl,rfl,rfl,rfl,rfl,rfl,rfl,rfl,rfl⟩,rfl,⟨Nat.zero_le _,rfl⟩⟩
  rintro⟨j,hl,q,d⟩ f0 L0 ⟨⟨hs2,hs4,hs5,hs8,hs9,hs51,hs52,hs58,hs59⟩,hL,⟨hj,hhl⟩⟩
  subst L0
  refine bJ 2 hs2 (bJ 4 hs4 (bJ 5 hs5 (bJ 8 hs8 (bJ 9 hs9 (bJ 51 hs51 (bJ 52 hs52 (bJ 58 hs58 (bJ 59 hs59 ?_))))))))
  have hhn:hl.length=j:=by rw[hhl,List.length_take];omega
  have hf16:=hmf.few
  refine bD (lE gN (aN (aL (cN _ rfl (fun hc18=> ?_) (fun hc18=> ?_)))))
  ·refine eB (aL (aJ ?_))
   obtain⟨y,hy⟩:∃y,x.2.r.holds[j]? =some y:=⟨_,List.getElem?_eq_getElem (by omega)⟩
   have hyf:=hmf.h y (List.mem_of_getElem? hy)
   refine rC (L':=[fW rb (aM (U y) 48++(nsK (x.2.r.holds.drop (j+1)) (aM (U x.2.r.at_) 9++(aM (U x.2.r.e) 16++(uB (ms.drop (kms+1)) []))))),aK aZ 3 q d hl,pt b17 (.cells #[Ix (x.2.d.author),Ix (x.2.d.number),sB p15 x.2.d.acts c16,.bool false,.int .i64 (0),.int .i64 (0),sB q hl d] 82),aK cJ 47 p15 c16 x.2.d.acts,dG LL,bB cC mp3 ps,bB bL mh4 gs,bB dW mm5 (uA LL),pt b2 (.cells #[pp rb 0] 168),pt b1 (.cells #[.map none,.map none,.int .i64 (0),.int .i64 (0),.int .i64 (0),.int .i64 (0),.int .i64 (0),.map none] 88),pt b6 (.cells #[.map (some mp3),.map (some mh4),Ix (X.s.last),Ix (X.s.su.a0),Ix (X.s.su.a1),Ix (X.s.su.a2),Ix (X.s.su.a3),.map (some mm5)] 88)]) (by rw[aSj hy]) ?_
   refine jS [sv 61 (pp b17 3) [] [] [0],sv 62 (pp b17 6) [0] [0] [],sv 63 (sB q hl d) [0,1] [1] [],sv 64 (.agg #[pp rb 0]) [] [] [1],sv 65 (Ix (y)) [3] [3] [],⟨[3,4],[4],[],[66],fun f=>f 66= .slice (some ⟨(bY (f 66)),0,none⟩) 1 1⟩,⟨(List.range 6),[2,5],[],[67],fun f=>f 67=sB (dC (f 67)) (hl++[y]) (dE (f 67))⟩,sv 68 (pp b17 3) (List.range 7) [] [0],sv 69 (pp b17 6) (List.range 8) [7] [],⟨(List.range 9),[8,6],[],[],fun _=>True⟩] [(some 4,[4]),(some 6,[6]),(some 9,[2,9]),u0,u0,u0,u0,u0,u1 [3]] [⟨(some 4),none,[],[],fun _=>fW rb (nsK (x.2.r.holds.drop (j+1)) (aM (U x.2.r.at_) 9++(aM (U x.2.r.e) 16++(uB (ms.drop (kms+1)) []))))⟩,⟨(some 5),none,[6],[66],fun f=>pt (bY (f 66)) (.cells #[Ix (y)] 3)⟩,⟨(some 6),none,[],[67],fun f=>aK aZ 3 (dC (f 67)) (dE (f 67)) (hl++[y])⟩,⟨(some 9),none,[],[67],fun f=>pt b17 (.cells #[Ix (x.2.d.author),Ix (x.2.d.number),sB p15 x.2.d.acts c16,.bool false,.int .i64 (0),.int .i64 (0),sB (dC (f 67)) (hl++[y]) (dE (f 67))] 82)⟩] [(9,pp b17 0),(4,pp b2 0),(2,pp b1 0),(5,pp b6 0),(8,.bool true),(51,Nx (ms.length)),(52,Nx (kms)),(58,Nx (x.2.r.holds.length)),(59,Nx (j))] [2,1,3,4,0,5,6,7,8] ⟨rfl,rfl,rfl,rfl,rfl,rfl,rfl,rfl,rfl,trivial⟩ ⟨?_,?_,?_,?_,?_,?_,?_,?_,?_,?_,trivial⟩ ?_
   ·rintro f M-⟨i0,-⟩
    exact aT aY
   ·rintro f M ⟨k0,-⟩-
    exact aT aY
   ·rintro f M ⟨k0,-⟩-
    exact aT (fQ 0)
   ·rintro f M-⟨i0,-⟩
    exact aT (dK 0)
   ·rintro f M ⟨k0,-⟩-
    refine dL (aA (d:=64) rfl k0) ?_
    refine aX rfl rfl rfl (cT (vs:=[.agg #[pp rb 0],.int .i64 (48)]) jT.ok rfl rfl) ?_
    intro w hw
    obtain⟨β1,sb,kn,hw1,back⟩:=St.frame (L:=[_]) (M:=M) hw
    refine(fS β1 w rb _ y 48 hyf hw1).mono ?_
    rintro e w' ⟨rfl,hw'⟩
    refine⟨_,rfl,_,back _ _ hw',?_⟩
    refine aH ?_
    exact aO (aA (d:=64) rfl k0) rfl (aB 0 rfl)
   ·rintro f M ⟨k0,-⟩-
    refine dL (aA (d:=65) rfl k0) ?_
    refine dA rfl rfl rfl (bZ rY aUk.ok (cells:= #[Ix (y)]) rfl rfl rfl rfl) ?_
    rintro _ _ ⟨b20,rfl,rfl⟩
    refine aH ?_
    exact aO (aA (d:=65) rfl k0) rfl (aB 0 rfl)
   ·rintro f M ⟨k0,k1,-⟩-
    have hs66:f 66= .slice (some ⟨(bY (f 66)),0,none⟩) 1 1:=k1
    refine dL (aA (aA (d:=63) rfl k0) hs66) ?_
    refine dA rfl rfl rfl (cF (F:=aZ) 0 rY aYs (p:=q) (m:=hl.length) (xs:=hl) (ys:=[y]) (ao:=(some ⟨(bY (f 66)),0,none⟩)) (k:=1) (c:=1) rfl rfl rfl rfl rfl (gX (z:=y) 1 rfl rfl) (by first|omega|simp only[List.length_nil,List.length_cons,List.length_append,List.length_set];omega) (by first|omega|simp only[List.length_nil,List.length_cons,List.length_append,List.length_set];omega)) ?_
    rintro _ _ ⟨rp23,rc24,rfl,rfl⟩
    refine aH ?_
    exact aO (aA (aA (d:=63) rfl k0) hs66) rfl ((aB 0 rfl).trans (aB 1 rfl))
   ·rintro f M-⟨i0,-⟩
    exact aT aY
   ·rintro f M ⟨k0,-⟩-
    exact aT aY
   ·rintro f M ⟨k0,k1,-⟩-
    have hs67:f 67=sB (dC (f 67)) (hl++[y]) (dE (f 67)):=k1
    refine dL (aA (aA (d:=69) rfl k0) hs67) ?_
    refine lu (mS 0 (#[Ix (x.2.d.author),Ix (x.2.d.number),sB p15 x.2.d.acts c16,.bool false,.int .i64 (0),.int .i64 (0),sB (dC (f 67)) (hl++[y]) (dE (f 67))])) ?_
    refine aH ?_
    exact bC (aA (aA (d:=69) rfl k0) hs67) trivial (aB 0 rfl)
   rintro fa25 ⟨-,-,-,-,-,-,-,-,-,-,-⟩ ⟨j0,j1,j2,j3,j4,j5,j6,j7,j8,-⟩
   refine jD ?_
   refine aD (d:=2) j0 (aD (d:=4) j1 (aD (d:=5) j2 (aD (d:=8) j3 (aD (d:=9) j4 (aD (d:=51) j5 ?_)))))
   refine aD (d:=52) j6 (aD (d:=58) j7 (aD (d:=59) j8 (aP (bA (aC ?_)))))
   refine lv (v:=Nx (j+1)) (bO rfl rfl (cW (by omega) (by omega))) (lE aU (aH (tZ [8,10,11,0,1,2,3,4,5,6,7,9] 12 ?_)))
   refine dD [true,true,true,true,true,true,true,true,true,true,true,false] rfl ?_
   exact bG ⟨(j+1,(hl++[y]),(dC (fa25 67)),(dE (fa25 67))),⟨⟨rfl,rfl,rfl,rfl,rfl,rfl,rfl,rfl,rfl⟩,rfl,⟨by omega,by rw[hhl];exact jR hy⟩⟩,(show x.2.r.holds.length-(j+1)<x.2.r.holds.length-j from by omega)⟩
  refine cK (aF (aF (cL (qV ?_))))
  have hje:j=x.2.r.holds.length:=by omega
  replace hhl:hl=x.2.r.holds:=by rw[hhl,hje,List.take_length]
  refine rC (L':=[fW rb (aM (U x.2.r.at_) 9++(aM (U x.2.r.e) 16++(uB (ms.drop (kms+1)) []))),aK aZ 3 q d hl,pt b17 (.cells #[Ix (x.2.d.author),Ix (x.2.d.number),sB p15 x.2.d.acts c16,.bool false,.int .i64 (0),.int .i64 (0),sB q hl d] 82),aK cJ 47 p15 c16 x.2.d.acts,dG LL,bB cC mp3 ps,bB bL mh4 gs,bB dW mm5 (uA LL),pt b2 (.cells #[pp rb 0] 168),pt b1 (.cells #[.map none,.map none,.int .i64 (0),.int .i64 (0),.int .i64 (0),.int .i64 (0),.int .i64 (0),.map none] 88),pt b6 (.cells #[.map (some mp3),.map (some mh4),Ix (X.s.last),Ix (X.s.su.a0),Ix (X.s.su.a1),Ix (X.s.su.a2),Ix (X.s.su.a3),.map (some mm5)] 88)]) (by rw[hje,List.drop_length];rfl) ?_
  refine jS [sv 71 (.agg #[pp rb 0]) [] [] [0],sv 72 (Ix (x.2.r.at_)) [0] [0] [],sv 73 (.agg #[pp rb 0]) [] [] [0],sv 74 (Ix (x.2.r.e)) [0,1,2] [2] [],sv 75 (pp b17 3) [0,1] [] [1],sv 76 (pp b17 4) [0,1,4] [4] [],⟨(List.range 6),[5,1],[],[],fun _=>True⟩,sv 77 (pp b17 3) (List.range 7) [] [1],sv 78 (pp b17 5) (List.range 8) [7] [],⟨(List.range 9),[8,3],[],[],fun _=>True⟩] [(some 1,[1]),u0,(some 6,[6]),u0,u0,u0,u0,u0,u1 [0,2]] [⟨(some 1),(some 3),[3],[],fun _=>fW rb (aM (U x.2.r.e) 16++(uB (ms.drop (kms+1)) []))⟩,⟨(some 3),none,[],[],fun _=>fW rb (uB (ms.drop (kms+1)) [])⟩,⟨(some 6),(some 9),[9],[],fun _=>pt b17 (.cells #[Ix (x.2.d.author),Ix (x.2.d.number),sB p15 x.2.d.acts c16,.bool false,Ix (x.2.r.at_),.int .i64 (0),sB q hl d] 82)⟩,⟨(some 9),none,[],[],fun _=>pt b17 (.cells #[Ix (x.2.d.author),Ix (x.2.d.number),sB p15 x.2.d.acts c16,.bool false,Ix (x.2.r.at_),Ix (x.2.r.e),sB q hl d] 82)⟩] [(4,pp b2 0),(9,pp b17 0),(2,pp b1 0),(5,pp b6 0),(8,.bool true),(51,Nx (ms.length)),(52,Nx (kms))] [2,0,3,4,1,5,6] ⟨rfl,rfl,rfl,rfl,rfl,rfl,rfl,trivial⟩ ⟨?_,?_,?_,?_,?_,?_,?_,?_,?_,?_,trivial⟩ ?_
  ·rintro f M-⟨i0,-⟩
   exact aT (dK 0)
  ·rintro f M ⟨k0,-⟩-
   refine dL (aA (d:=71) rfl k0) ?_
   refine aX rfl rfl rfl (cT (vs:=[.agg #[pp rb 0],.int .i64 (9)]) jT.ok rfl rfl) ?_
   intro w hw
   obtain⟨β1,sb,kn,hw1,back⟩:=St.frame (L:=[_]) (M:=M) hw
   refine(fS β1 w rb _ x.2.r.at_ 9 hmf.at_ hw1).mono ?_
   rintro e w' ⟨rfl,hw'⟩
   refine⟨_,rfl,_,back _ _ hw',?_⟩
   refine aH ?_
   exact aO (aA (d:=71) rfl k0) rfl (aB 0 rfl)
  ·rintro f M-⟨i0,-⟩
   exact aT (dK 0)
  ·rintro f M ⟨k0,-⟩-
   refine dL (aA (d:=73) rfl k0) ?_
   refine aX rfl rfl rfl (cT (vs:=[.agg #[pp rb 0],.int .i64 (16)]) jT.ok rfl rfl) ?_
   intro w hw
   obtain⟨β1,sb,kn,hw1,back⟩:=St.frame (L:=[_]) (M:=M) hw
   refine(fS β1 w rb _ x.2.r.e 16 hmf.e hw1).mono ?_
   rintro e w' ⟨rfl,hw'⟩
   refine⟨_,rfl,_,back _ _ hw',?_⟩
   refine aH ?_
   exact aO (aA (d:=73) rfl k0) rfl (aB 0 rfl)
  ·rintro f M-⟨i0,-⟩
   exact aT aY
  ·rintro f M ⟨k0,-⟩-
   exact aT aY
  ·rintro f M ⟨k0,k1,-⟩-
   refine dL (aA (d:=72) (aA (d:=76) rfl k0) k1) ?_
   refine lu (mS 0 (#[Ix (x.2.d.author),Ix (x.2.d.number),sB p15 x.2.d.acts c16,.bool false,Ix (x.2.r.at_),.int .i64 (0),sB q hl d])) (aH ?_)
   exact bC (aA (d:=72) (aA (d:=76) rfl k0) k1) trivial (aB 0 rfl)
  ·rintro f M-⟨i0,-⟩
   exact aT aY
  ·rintro f M ⟨k0,-⟩-
   exact aT aY
  ·rintro f M ⟨k0,k1,-⟩-
   refine dL (aA (d:=74) (aA (d:=78) rfl k0) k1) ?_
   refine lu (mS 0 (#[Ix (x.2.d.author),Ix (x.2.d.number),sB p15 x.2.d.acts c16,.bool false,Ix (x.2.r.at_),Ix (x.2.r.e),sB q hl d])) (aH ?_)
   exact bC (aA (d:=74) (aA (d:=78) rfl k0) k1) trivial (aB 0 rfl)
  rintro fa26 ⟨-,-,-,-,-,-,-,-,-,-,-⟩ ⟨j0,j1,j2,j3,j4,j5,j6,-⟩
  refine jD ?_
  refine aD (d:=2) j0 (aD (d:=4) j1 (aD (d:=5) j2 (aD (d:=8) j3 (aD (d:=9) j4 (aD (d:=51) j5 ?_)))))
  refine aD (d:=52) j6 (kM (lE aY (lE aY (lE (cY 10) (lE fD (lE aY (lE aY ?_)))))))
  refine lu (mS 10 (#[Ix (x.2.d.author),Ix (x.2.d.number),sB p15 x.2.d.acts c16,.bool (decide ((x.2.r.e)=(0:Int))),Ix (x.2.r.at_),Ix (x.2.r.e),sB q hl d])) ?_
  refine eY (lE fM (lE fM (gE aY (gE (dK 10) ?_))))
  refine eM rfl rfl rfl rfl rfl (cT (vs:=[.agg #[Ix (x.2.d.author),Ix (x.2.d.number),sB p15 x.2.d.acts c16]]) bAg.ok rfl rfl) ?_
  intro w hw
  obtain⟨β1,sb,kn,hw1,back⟩:=St.frame_all hw
  refine(qC β1 w hw1 x.2.d.author x.2.d.number _ x.2.d.acts (kn _ (jK 1 (F:=cJ) (m:=x.2.d.acts.length) rfl rfl))).mono ?_
  rintro e w' ⟨rfl,hw'⟩
  refine⟨_,rfl,_,back _ _ hw',?_⟩
  refine lE eF (lE dP (xJ (lE aY (lv (v:= .map (some mm5)) (bI aEo.ok rfl (cD 8 rfl rfl)) (lE aY (lE aY (lE (cY 10) (lE (dK 10) ?_))))))))
  refine lu (rM (K:=dW) (b:=mm5) (ks:=(uA LL)) (k:=(x.2.d.author)) (v:=(⟨x.2.d.author,x.2.d.number,p15,x.2.d.acts.length,c16,(decide ((x.2.r.e)=(0:Int))),x.2.r.at_,x.2.r.e,q,hl.length,d⟩:KMh)) 5 rfl rfl rfl rfl rfl) ?_
  refine aH (aP (bA (aC (lv (v:=Nx (kms+1)) (bO rfl rfl (cW (by omega) (by omega))) (lE aU (aH ?_))))))
  refine tZ [1,0,2,3,4,5,6,7,8,9,10] 11 ?_
  refine aKf (L:=[aK cJ 47 p15 c16 x.2.d.acts,aK aZ 3 q d hl,dG LL]) (M:=[bB cC mp3 ps,bB bL mh4 gs,bB dW mm5 (dW.put (uA LL) (x.2.d.author) (⟨x.2.d.author,x.2.d.number,p15,x.2.d.acts.length,c16,(decide ((x.2.r.e)=(0:Int))),x.2.r.at_,x.2.r.e,q,hl.length,d⟩:KMh)),pt b2 (.cells #[pp rb 0] 168),pt b1 (.cells #[.map none,.map none,.int .i64 (0),.int .i64 (0),.int .i64 (0),.int .i64 (0),.int .i64 (0),.map none] 88),pt b6 (.cells #[.map (some mp3),.map (some mh4),Ix (X.s.last),Ix (X.s.su.a0),Ix (X.s.su.a1),Ix (X.s.su.a2),Ix (X.s.su.a3),.map (some mm5)] 88),fW rb (uB (ms.drop (kms+1)) []),pt b17 (.cells #[Ix (x.2.d.author),Ix (x.2.d.number),sB p15 x.2.d.acts c16,.bool (decide ((x.2.r.e)=(0:Int))),Ix (x.2.r.at_),Ix (x.2.r.e),sB q hl d] 82)]) (r:=dG (LL++[((⟨x.2.d.author,x.2.d.number,p15,x.2.d.acts.length,c16,(decide ((x.2.r.e)=(0:Int))),x.2.r.at_,x.2.r.e,q,hl.length,d⟩:KMh),(⟨⟨x.2.d.author,x.2.d.number,x.2.d.acts⟩,⟨decide (x.2.r.e=(0:Int)),x.2.r.at_,x.2.r.e,hl⟩⟩:KMem))])) (fun a ha=>uU a ha) ?_
  refine bEm (L':=[dG (LL++[((⟨x.2.d.author,x.2.d.number,p15,x.2.d.acts.length,c16,(decide ((x.2.r.e)=(0:Int))),x.2.r.at_,x.2.r.e,q,hl.length,d⟩:KMh),x.2)]),bB cC mp3 ps,bB bL mh4 gs,bB dW mm5 (dW.put (uA LL) (x.2.d.author) (⟨x.2.d.author,x.2.d.number,p15,x.2.d.acts.length,c16,(decide ((x.2.r.e)=(0:Int))),x.2.r.at_,x.2.r.e,q,hl.length,d⟩:KMh)),pt b2 (.cells #[pp rb 0] 168),pt b1 (.cells #[.map none,.map none,.int .i64 (0),.int .i64 (0),.int .i64 (0),.int .i64 (0),.int .i64 (0),.map none] 88),pt b6 (.cells #[.map (some mp3),.map (some mh4),Ix (X.s.last),Ix (X.s.su.a0),Ix (X.s.su.a1),Ix (X.s.su.a2),Ix (X.s.su.a3),.map (some mm5)] 88),fW rb (uB (ms.drop (kms+1)) []),pt b17 (.cells #[Ix (x.2.d.author),Ix (x.2.d.number),sB p15 x.2.d.acts c16,.bool (decide ((x.2.r.e)=(0:Int))),Ix (x.2.r.at_),Ix (x.2.r.e),sB q hl d] 82)]) (by rw[aWz hmf.dn hhl]) ?_
  refine tZ [7,0,1,2,3,4,5,6,8] 9 ?_
  refine dD (L':=[fW rb (uB (ms.drop (kms+1)) []),dG (LL++[((⟨x.2.d.author,x.2.d.number,p15,x.2.d.acts.length,c16,(decide ((x.2.r.e)=(0:Int))),x.2.r.at_,x.2.r.e,q,hl.length,d⟩:KMh),x.2)]),bB cC mp3 ps,bB bL mh4 gs,bB dW mm5 (dW.put (uA LL) (x.2.d.author) (⟨x.2.d.author,x.2.d.number,p15,x.2.d.acts.length,c16,(decide ((x.2.r.e)=(0:Int))),x.2.r.at_,x.2.r.e,q,hl.length,d⟩:KMh)),pt b2 (.cells #[pp rb 0] 168),pt b1 (.cells #[.map none,.map none,.int .i64 (0),.int .i64 (0),.int .i64 (0),.int .i64 (0),.int .i64 (0),.map none] 88),pt b6 (.cells #[.map (some mp3),.map (some mh4),Ix (X.s.last),Ix (X.s.su.a0),Ix (X.s.su.a1),Ix (X.s.su.a2),Ix (X.s.su.a3),.map (some mm5)] 88)]) [true,true,true,true,true,true,true,true,false] rfl ?_
  exact bG ⟨(kms+1,(LL++[((⟨x.2.d.author,x.2.d.number,p15,x.2.d.acts.length,c16,(decide ((x.2.r.e)=(0:Int))),x.2.r.at_,x.2.r.e,q,hl.length,d⟩:KMh),x.2)])),⟨⟨rfl,rfl,rfl,congrArg Value.bool hmf.fm,rfl,rfl⟩,by rw[aQz hsf.md hx hml hmk],⟨by omega,aSd hx hml hmk,bBw hho ⟨rfl,rfl,rfl,hmf.dn.symm,rfl,rfl,by rw[hhl]⟩⟩⟩,(show ms.length-(kms+1)<ms.length-kms from by omega)⟩
 refine cK (aF (aF (cL (qV ?_))))
 have hkem:kms=ms.length:=by omega
 replace hml:mml LL=ms:=by rw[hml,hkem,List.take_length]
 refine rC (L':=[fW rb [],dG LL,bB cC mp3 ps,bB bL mh4 gs,bB dW mm5 (uA LL),pt b2 (.cells #[pp rb 0] 168),pt b1 (.cells #[.map none,.map none,.int .i64 (0),.int .i64 (0),.int .i64 (0),.int .i64 (0),.int .i64 (0),.map none] 88),pt b6 (.cells #[.map (some mp3),.map (some mh4),Ix (X.s.last),Ix (X.s.su.a0),Ix (X.s.su.a1),Ix (X.s.su.a2),Ix (X.s.su.a3),.map (some mm5)] 88)]) (by rw[hkem,List.drop_length];rfl) ?_
 refine jS [sv 98 (.agg #[.map (some mp3),.map (some mh4),Ix (X.s.last),Ix (X.s.su.a0),Ix (X.s.su.a1),Ix (X.s.su.a2),Ix (X.s.su.a3),.map (some mm5)]) [] [] [0],sv 99 (.bool true) [] [] [1],sv 100 (.bool true) [1] [1] [],sv 101 (pp b2 0) [1,2] [2] [2],sv 102 (pp rb 0) [1,2,3] [3,2] [],sv 103 (.int .i64 (0)) [1,2,3,4] [4,2] [],sv 104 (.bool true) [1,2,3,4,5] [5,2] [],sv 105 (.bool true) [1,2,3,4,5,6] [2,6] [],⟨(List.range 6),[0],[3],[],fun _=>True⟩,sv 3 (.bool true) (List.range 9) [7] []] [u1 [5],u0,u0,u0,u0,u1 [4],(some 8,[8]),u1 [0]] [⟨(some 8),none,[],[],fun _=>pt b1 (.cells #[.map (some mp3),.map (some mh4),Ix (X.s.last),Ix (X.s.su.a0),Ix (X.s.su.a1),Ix (X.s.su.a2),Ix (X.s.su.a3),.map (some mm5)] 88)⟩] [(5,pp b6 0),(8,.bool true),(4,pp b2 0),(2,pp b1 0)] [3] ⟨rfl,rfl,rfl,rfl,trivial⟩ ⟨?_,?_,?_,?_,?_,?_,?_,?_,?_,?_,trivial⟩ ?_
 ·rintro f M-⟨i0,-⟩
  exact aT (dK 0)
 ·rintro f M-⟨i0,-⟩
  exact aT fM
 ·rintro f M ⟨k0,-⟩-
  exact aT fM
 ·rintro f M ⟨k0,-⟩ ⟨i0,-⟩
  exact obG aY
 ·rintro f M ⟨k0,k1,-⟩-
  exact obG (iR 0)
 ·rintro f M ⟨k0,k1,-⟩-
  refine dL (aA (d:=100) (aA (d:=102) rfl k0) k1) ?_
  refine eM rfl rfl rfl rfl rfl (cT (vs:=[pp rb 0]) bAs.ok rfl rfl) ?_
  intro w hw
  obtain⟨β1,sb,kn,hw1,back⟩:=St.frame (L:=[_]) (M:=M) hw
  refine(aLl β1 w rb hw1).mono ?_
  rintro e w' ⟨rfl,hw'⟩
  refine⟨_,rfl,_,back _ _ hw',?_⟩
  refine aH ?_
  exact aO (aA (d:=100) (aA (d:=102) rfl k0) k1) rfl (aB 0 rfl)
 ·rintro f M ⟨k0,k1,-⟩-
  exact obG fD
 ·rintro f M ⟨k0,k1,-⟩-
  exact aT eF
 ·rintro f M ⟨k0,-⟩ ⟨i0,-⟩
  refine dL (aA (d:=98) (aA (d:=2) rfl i0) k0) ?_
  refine lu (mS 0 (#[.map (some mp3),.map (some mh4),Ix (X.s.last),Ix (X.s.su.a0),Ix (X.s.su.a1),Ix (X.s.su.a2),Ix (X.s.su.a3),.map (some mm5)])) ?_
  refine aH ?_
  exact bC (aA (d:=98) (aA (d:=2) rfl i0) k0) trivial (aB 0 rfl)
 ·rintro f M ⟨k0,-⟩-
  exact aT dP
 rintro fa27 ⟨-,-,-,-,-,-,-,-,-,k9,-⟩ ⟨j0,-⟩
 refine jD ?_
 refine aD (d:=2) j0 (aD (d:=3) k9 (ftr ?_))
 refine gK (m:=[.agg #[.map (some mp3),.map (some mh4),Ix (X.s.last),Ix (X.s.su.a0),Ix (X.s.su.a1),Ix (X.s.su.a2),Ix (X.s.su.a3),.map (some mm5)],.bool true]) Tryz.results85 ⟨bS aYu.ok rfl (cD 7 rfl rfl) rfl,eP (v:= .bool true) rfl,trivial⟩ rfl ?_
 intro w hw
 replace hw:=hw.perm (L':=[bB cC mp3 ps,bB bL mh4 gs,bB dW mm5 (uA LL),dG LL,fW rb [],pt b2 (.cells #[pp rb 0] 168),pt b6 (.cells #[.map (some mp3),.map (some mh4),Ix (X.s.last),Ix (X.s.su.a0),Ix (X.s.su.a1),Ix (X.s.su.a2),Ix (X.s.su.a3),.map (some mm5)] 88),pt b1 (.cells #[.map (some mp3),.map (some mh4),Ix (X.s.last),Ix (X.s.su.a0),Ix (X.s.su.a1),Ix (X.s.su.a2),Ix (X.s.su.a3),.map (some mm5)] 88)]) (by exact(aW [2,3,4,1,0,5,6,7] 8 rfl (by kernel_rfl) (by kernel_rfl)))
 replace hw:=aG (L':=[bB cC mp3 ps,bB bL mh4 gs,bB dW mm5 (uA LL),dG LL]) [true,true,true,true,false,false,false,false] rfl hw
 exact⟨mp3,mh4,mm5,LL,hml,hho,rfl,hw⟩
open Go Go.Sl Go.Td Go.Jn
instance bGf:CfC Tryz.prog 85:={}
instance tt149:UndC Tryz.prog 107 27:={}
theorem bGg:lY Tryz.prog 107 27 1=true:=by kernel_rfl
theorem aIy(β:Base)(w:World)(hw:St β [] w)(v vr:Value)(bs:Bs)(hs:Sl iT β.heap v bs)(hbl:bs.length≤65536)(recs:List Bs)(hr:Sl BsR β.heap vr recs)(hrl:recs.length≤1048576)(X X0:KHs)(ds:List KDeal)(hst:(bs=[]∧X0=gV)∨(bs≠[]∧StB X0 bs))(hx0:XOk X0)(hrecs:recs=ds.map aNu)(hds:okD ds)(hX:EqX X (iH X0 ds))(hl0:X0.s.last≤16000000)(hlast:(iH X0 ds).s.last≤16000000):Calls Tryz.prog 46 #[v,vr] w fun r w'=>∃mp mh mm s ms zs,EqS s X.s∧MmOk X ms zs∧r= .returned (.tuple #[.agg (vO mp mh mm s.last s.su),.bool true])∧St β [bB cC mp s.ps,bB bL mh s.hs,bB dW mm ms,dG zs] w':=by
 obtain⟨va,vc,rfl,vl,vm,ve⟩:=hs.get
 obtain⟨vra,vrc,rfl,vrl,vrm,vre⟩:=hr.get
 refine enter (n:=55) Tryz.func46 rfl Tryz.ntmps46 rfl ?_ hw
 refine bD (gB fun b1=>lE dP (eY (pV (cT (vs:=[]) bAq.ok rfl rfl) rfl fun w β1 sb kn hw1 back=>(aGd β1 w hw1).mono ?_)))
 rintro e w' ⟨mp2,mh3,mm4,rfl,hw'⟩
 refine⟨_,rfl,_,back _ _ hw',?_⟩
 refine gB fun b5=> ?_
 refine lu (mS 0 (#[.map (some mp2),.map (some mh3),.int .i64 (0),.int .i64 (0),.int .i64 (0),.int .i64 (0),.int .i64 (0),.map (some mm4)])) ?_
 refine lE dP (aN ?_)
 refine gL (fun(f:Fm) (L:List bU)=>∃(mp:Nat) (mh:Nat) (mm:Nat) (s:KSt) (ms:List (Int×KMh)) (zs:List (KMh×KMem)),(f 1=sB vra recs (vrc)∧f 4=pp b1 0∧f 6=pp b5 0∧f 7= .bool true)∧L=[pt b5 (.cells #[.map (some mp),.map (some mh),Ix (s.last),Ix (s.su.a0),Ix (s.su.a1),Ix (s.su.a2),Ix (s.su.a3),.map (some mm)] 88),pt b1 (.cells #[.map none,.map none,.int .i64 (0),.int .i64 (0),.int .i64 (0),.int .i64 (0),.int .i64 (0),.map none] 88),bB cC mp s.ps,bB bL mh s.hs,bB dW mm ms,dG zs]∧(EqS s X0.s∧MmOk X0 ms zs)) ?_ ?_
 ·refine bD (lE fL (lE gY (lE oQ (aN (cN _ rfl (fun hc6=> ?_) (fun hc6=> ?_))))))
  ·obtain⟨hne,ps,gs,msl,hps,hgs,hms,nb,hb⟩:=hst.resolve_left (fun q=>by have h0:=hc6;rw[q.1]at h0;exact absurd h0 (by decide))
   have hsf:=aJc hx0 hl0 hps hgs hms
   refine aC (lE fL ?_)
   refine pV (cT (vs:=[sB va bs (vc)]) bGf.ok rfl rfl) rfl fun w β1 sb kn hw1 back=>(aWv β1 w hw1 _ bs (Sl.mono _ _ _ _ _ sb (⟨⟨_,_,rfl,vl,vm,ve⟩⟩:Sl iT _ _ bs)) hbl X0 ps gs msl _ hb hsf hl0).mono ?_
   rintro e w' ⟨mp7,mh8,mm9,LL,hml,hho,rfl,hw'⟩
   refine⟨_,rfl,_,back _ _ hw',?_⟩
   refine lE oM (lE rG (lE yA ?_))
   refine lu (mS 4 (#[.map (some mp7),.map (some mh8),Ix (X0.s.last),Ix (X0.s.su.a0),Ix (X0.s.su.a1),Ix (X0.s.su.a2),Ix (X0.s.su.a3),.map (some mm9)])) ?_
   refine lE dP (aH (tZ [4,8,0,1,2,3,5,6,7] 9 ?_))
   refine dD [true,true,true,true,true,true,false,false,false] rfl ?_
   exact bG ⟨mp7,mh8,mm9,(⟨ps,gs,X0.s.last,X0.s.su⟩:KSt),(uA LL),LL,⟨rfl,rfl,rfl,rfl⟩,rfl,⟨⟨hps.symm,hgs.symm,rfl,rfl,hsf.pd,hsf.hd⟩,bEy hms hml hho⟩⟩
  refine cG (aFy (r:=dG []) zG (tZ [1,5,2,3,4,0] 6 ?_))
  exact bG ⟨mp2,mh3,mm4,aQu,[],[],⟨rfl,rfl,rfl,rfl⟩,rfl,by rw[hst.resolve_right (fun q=>q.1 (List.eq_nil_of_length_eq_zero (by omega)))|>.2];exact⟨aQv,aQw⟩⟩
 rintro f0 L0 ⟨mp,mh,mm,s,ms,zs,⟨hs1,hs4,hs6,hs7⟩,hL,⟨hes,hmm⟩⟩
 subst L0
 refine bJ 1 hs1 (bJ 4 hs4 (bJ 6 hs6 (bJ 7 hs7 (eR (aC (lE fL (lE gY (lE aU (aN (aJ ?_))))))))))
 refine cZ (fun(x_:Nat×Nat×Nat×Nat×KSt×List (Int×KMh)×List (KMh×KMem)) f L=>match x_ with|(k,mp,mh,mm,s,ms,zs)=>(f 4=pp b1 0∧f 6=pp b5 0∧f 7= .bool true∧f 21=sB vra recs (vrc)∧f 22=Nx (recs.length)∧f 23=Nx (k))∧L=[pt b5 (.cells #[.map (some mp),.map (some mh),Ix (s.last),Ix (s.su.a0),Ix (s.su.a1),Ix (s.su.a2),Ix (s.su.a3),.map (some mm)] 88),pt b1 (.cells #[.map none,.map none,.int .i64 (0),.int .i64 (0),.int .i64 (0),.int .i64 (0),.int .i64 (0),.map none] 88),bB cC mp s.ps,bB bL mh s.hs,bB dW mm ms,dG zs]∧(k≤recs.length∧RsOk X0 ds k s ms zs)) (fun(k,mp,mh,mm,s,ms,zs)=>recs.length-k) (0,mp,mh,mm,s,ms,zs) ?_ ?_
 ·exact⟨⟨rfl,rfl,rfl,rfl,rfl,rfl⟩,rfl,⟨Nat.zero_le _,RsOk.zero hes hmm⟩⟩
 rintro⟨k,mp,mh,mm,s,ms,zs⟩ f0 L0 ⟨⟨hs4,hs6,hs7,hs21,hs22,hs23⟩,hL,⟨hk,hrs⟩⟩
 subst L0
 refine bJ 4 hs4 (bJ 6 hs6 (bJ 7 hs7 (bJ 21 hs21 (bJ 22 hs22 (bJ 23 hs23 (bD (lE gN (aN (aL (cN _ rfl (fun hc10=> ?_) (fun hc10=> ?_)))))))))))
 ·refine eB (aL (aJ (bD ?_)))
  obtain⟨x11,hx12⟩:=kX recs k (by omega)
  obtain⟨ha13,cs14,hc15,hr16⟩:=vre _ _ hx12
  obtain⟨v17,rfl,hv18⟩:=hr16
  obtain⟨a19,c20,rfl,hl21,hm22,he23⟩:=(hv18).get
  refine lE (sW bGg ha13) (lv (v:=sB a19 x11 (c20)) (bI bGx.ok rfl (kB hc15)) (lE iO (aN (aL ?_))))
  obtain⟨d,hdk,hxd⟩:=aXs hrecs hx12
  obtain⟨hfm,wF⟩:=hds d (List.mem_of_getElem? hdk)
  have hdf:=aFu hfm wF
  have hd16:=hdf.few
  have hfa:=(fJ.1 hfm).2.2.2
  have hxl:x11.length≤65536:=by rw[hxd];exact aXr hfm
  have hxw:Wr x11 _ _:=hxd▸bCo d
  have hgs:=hrs.good hx0 hds hlast
  refine aC (lE fL ?_)
  refine pV (cT (vs:=[sB a19 x11 (c20)]) bAn.ok rfl rfl) rfl fun w β1 sb kn hw1 back=>(aKz β1 w hw1 _ x11 (Sl.mono _ _ _ _ _ sb (⟨⟨_,_,rfl,by omega,by omega,he23⟩⟩:Sl iT _ _ x11)) _ _ hxw hxl).mono ?_
  rintro e w' ⟨rb24,rfl,hw'⟩
  refine⟨_,rfl,_,back _ _ hw',?_⟩
  refine lv (v:= .agg #[pp rb24 0]) (bV bAp.ok bAo (vs:=[(0,pp rb24 0)]) (cells:= #[pp rb24 0]) rfl rfl) (gB fun b25=> ?_)
  refine lu (mS 0 (#[pp rb24 0])) (eY (lE (dK 0) (aX rfl rfl rfl (cT (vs:=[.agg #[pp rb24 0]]) bAr.ok rfl rfl) ?_)))
  intro w hw
  replace hw:=hw.perm (L':=_::_::_::_::_::_::_::_::[]) (by exact((((((((aB 7 rfl).trans (aB 7 rfl)).trans (aB 7 rfl)).trans (aB 7 rfl)).trans (aB 7 rfl)).trans (aB 7 rfl)).trans (aB 6 rfl)).trans (aB 7 rfl)))
  obtain⟨β1,sb,kn,hw1,back⟩:=St.frame (L:=[_]) (M:=_::_::_::_::_::_::_::[]) hw
  refine(aFv β1 w rb24 d.author d.number d.acts _ hdf hw1).mono ?_
  rintro e w' ⟨p26,c27,rfl,hw'⟩
  refine⟨_,rfl,_,back _ _ hw',?_⟩
  refine gB fun b28=>lu (mS 0 (#[Ix (d.author),Ix (d.number),sB p26 d.acts c27])) (aN (eR (aC (lE fM (lE mB (lE fM (gE aY (gE (iR 3) ?_))))))))
  refine eM rfl rfl rfl rfl rfl (cT (vs:=[pp rb24 0]) bAs.ok rfl rfl) ?_
  intro w hw
  replace hw:=hw.perm (L':=[fW rb24 [],pt b28 (.cells #[Ix (d.author),Ix (d.number),sB p26 d.acts c27] 80),aK cJ 47 p26 c27 d.acts,pt b25 (.cells #[pp rb24 0] 168),pt b5 (.cells #[.map (some mp),.map (some mh),Ix (s.last),Ix (s.su.a0),Ix (s.su.a1),Ix (s.su.a2),Ix (s.su.a3),.map (some mm)] 88),pt b1 (.cells #[.map none,.map none,.int .i64 (0),.int .i64 (0),.int .i64 (0),.int .i64 (0),.int .i64 (0),.map none] 88),bB cC mp s.ps,bB bL mh s.hs,bB dW mm ms,dG zs]) (by exact(aW [2,0,1,3,4,5,6,7,8,9] 10 rfl (by kernel_rfl) (by kernel_rfl)))
  obtain⟨β1,sb,kn,hw1,back⟩:=St.frame (L:=[_]) (M:=_::_::_::_::_::_::_::_::_::[]) hw
  refine(aLl β1 w rb24 hw1).mono ?_
  rintro e w' ⟨rfl,hw'⟩
  refine⟨_,rfl,_,back _ _ hw',?_⟩
  refine gE lO (lE dT (lE fM (gE (dK 1) ?_)))
  refine eM rfl rfl rfl rfl rfl (cT (vs:=[.agg #[Ix (d.author),Ix (d.number),sB p26 d.acts c27]]) bAg.ok rfl rfl) ?_
  intro w hw
  obtain⟨β1,sb,kn,hw1,back⟩:=St.frame_all hw
  refine(qC β1 w hw1 d.author d.number _ d.acts (kn _ (jK 2 (F:=cJ) (m:=d.acts.length) rfl rfl))).mono ?_
  rintro e w' ⟨rfl,hw'⟩
  refine⟨_,rfl,_,back _ _ hw',?_⟩
  refine gE mB (lE dT (aN (fH (!(cO d.author d.number d.acts)) rfl (fun hc29=> ?_) (fun hc29=> ?_))))
  ·rw[(show(!(cO d.author d.number d.acts))=false by rw[hfm];rfl)]at hc29;cases hc29
  refine eB (aC (lE (dK 4) (lE (dK 1) ?_)))
  refine aX rfl rfl rfl (cT (vs:=[.agg #[.map (some mp),.map (some mh),Ix (s.last),Ix (s.su.a0),Ix (s.su.a1),Ix (s.su.a2),Ix (s.su.a3),.map (some mm)],.agg #[Ix (d.author),Ix (d.number),sB p26 d.acts c27]]) bAi.ok rfl rfl) ?_
  intro w hw
  replace hw:=hw.perm (L':=[bB cC mp s.ps,bB bL mh s.hs,bB dW mm ms,fW rb24 [],pt b28 (.cells #[Ix (d.author),Ix (d.number),sB p26 d.acts c27] 80),aK cJ 47 p26 c27 d.acts,pt b25 (.cells #[pp rb24 0] 168),pt b5 (.cells #[.map (some mp),.map (some mh),Ix (s.last),Ix (s.su.a0),Ix (s.su.a1),Ix (s.su.a2),Ix (s.su.a3),.map (some mm)] 88),pt b1 (.cells #[.map none,.map none,.int .i64 (0),.int .i64 (0),.int .i64 (0),.int .i64 (0),.int .i64 (0),.map none] 88),dG zs]) (by exact(aW [6,7,8,0,1,2,3,4,5,9] 10 rfl (by kernel_rfl) (by kernel_rfl)))
  obtain⟨β1,sb,kn,hw1,back⟩:=St.frame (L:=[_,_,_]) (M:=_::_::_::_::_::_::_::[]) hw
  refine(aBd β1 w mp mh mm s ms hw1 d.author d.number _ d.acts (kn _ (jK 2 (F:=cJ) (m:=d.acts.length) rfl rfl)) hfa (by omega) _ (Int.le_refl _) hgs).mono ?_
  rintro e w' ⟨mq30,hq31,mn32,p33,c34,rfl,hw'⟩
  refine⟨_,rfl,_,back _ _ hw',?_⟩
  refine lE oM (lE rG (lE rG ?_))
  refine lu (mS 8 (#[.map (some mq30),.map (some hq31),Ix ((aE s d.acts).1.last),Ix ((aE s d.acts).1.su.a0),Ix ((aE s d.acts).1.su.a1),Ix ((aE s d.acts).1.su.a2),Ix ((aE s d.acts).1.su.a3),.map (some mn32)])) ?_
  refine aH (aP (bA (aC (lv (v:=Nx (k+1)) (bO rfl rfl (cW (by omega) (by omega))) (lE aU (aH ?_))))))
  refine tZ [6,3,10,0,1,2,4,5,7,8,9] 11 ?_
  refine aKf (L:=[aK cJ 47 p26 c27 d.acts,aK aZ 3 p33 c34 ((aE s d.acts).2.holds),dG zs]) (M:=[bB cC mq30 ((aE s d.acts).1.ps),bB bL hq31 ((aE s d.acts).1.hs),bB dW mn32 (dW.put ms d.author (⟨d.author,d.number,p26,d.acts.length,c27,(aE s d.acts).2.done,(aE s d.acts).2.at_,(aE s d.acts).2.e,p33,(aE s d.acts).2.holds.length,c34⟩:KMh)),fW rb24 [],pt b28 (.cells #[Ix (d.author),Ix (d.number),sB p26 d.acts c27] 80),pt b25 (.cells #[pp rb24 0] 168),pt b5 (.cells #[.map (some mq30),.map (some hq31),Ix ((aE s d.acts).1.last),Ix ((aE s d.acts).1.su.a0),Ix ((aE s d.acts).1.su.a1),Ix ((aE s d.acts).1.su.a2),Ix ((aE s d.acts).1.su.a3),.map (some mn32)] 88),pt b1 (.cells #[.map none,.map none,.int .i64 (0),.int .i64 (0),.int .i64 (0),.int .i64 (0),.int .i64 (0),.map none] 88)]) (r:=dG (zs++[((⟨d.author,d.number,p26,d.acts.length,c27,(aE s d.acts).2.done,(aE s d.acts).2.at_,(aE s d.acts).2.e,p33,(aE s d.acts).2.holds.length,c34⟩:KMh),(⟨⟨d.author,d.number,d.acts⟩,(aE s d.acts).2⟩:KMem))])) (fun a ha=>uU a ha) ?_
  refine tZ [7,8,1,2,3,0,4,5,6] 9 ?_
  refine dD [true,true,true,true,true,true,false,false,false] rfl ?_
  exact bG ⟨(k+1,mq30,hq31,mn32,(aE s d.acts).1,(dW.put ms d.author (⟨d.author,d.number,p26,d.acts.length,c27,(aE s d.acts).2.done,(aE s d.acts).2.at_,(aE s d.acts).2.e,p33,(aE s d.acts).2.holds.length,c34⟩:KMh)),(zs++[((⟨d.author,d.number,p26,d.acts.length,c27,(aE s d.acts).2.done,(aE s d.acts).2.at_,(aE s d.acts).2.e,p33,(aE s d.acts).2.holds.length,c34⟩:KMh),(⟨⟨d.author,d.number,d.acts⟩,(aE s d.acts).2⟩:KMem))])),⟨⟨rfl,rfl,rfl,rfl,rfl,rfl⟩,rfl,⟨by omega,hrs.next hdk ⟨rfl,rfl,rfl,rfl,rfl,rfl,rfl⟩⟩⟩,(show recs.length-(k+1)<recs.length-k from by omega)⟩
 refine cK (aF (aF (cL (kM (lE (dK 0) (lE fM ?_))))))
 refine lu (mS 1 (#[.map (some mp),.map (some mh),Ix (s.last),Ix (s.su.a0),Ix (s.su.a1),Ix (s.su.a2),Ix (s.su.a3),.map (some mm)])) (lE dP (aN ?_))
 refine aV ?_
 refine gK (m:=[.agg #[.map (some mp),.map (some mh),Ix (s.last),Ix (s.su.a0),Ix (s.su.a1),Ix (s.su.a2),Ix (s.su.a3),.map (some mm)],.bool true]) Tryz.results46 ⟨bS aYu.ok rfl (cD 1 rfl rfl) rfl,eP (v:= .bool true) rfl,trivial⟩ rfl ?_
 intro w hw
 replace hw:=hw.perm (L':=[bB cC mp s.ps,bB bL mh s.hs,bB dW mm ms,dG zs,pt b5 (.cells #[.map (some mp),.map (some mh),Ix (s.last),Ix (s.su.a0),Ix (s.su.a1),Ix (s.su.a2),Ix (s.su.a3),.map (some mm)] 88),pt b1 (.cells #[.map (some mp),.map (some mh),Ix (s.last),Ix (s.su.a0),Ix (s.su.a1),Ix (s.su.a2),Ix (s.su.a3),.map (some mm)] 88)]) (by exact(aW [2,3,4,5,0,1] 6 rfl (by kernel_rfl) (by kernel_rfl)))
 replace hw:=aG (L':=[bB cC mp s.ps,bB bL mh s.hs,bB dW mm ms,dG zs]) [true,true,true,true,false,false] rfl hw
 obtain⟨he1,he2⟩:=hrs.all (by rw[hrecs,List.length_map]at*;omega) hX
 exact⟨_,_,_,s,ms,zs,he1,he2,rfl,hw⟩
end Go.Proofs
