/-
 Read,walked. Printed by a program of my own.
-/
import Derived.Test.YtjejfkajcbdgjaaGreatJn4
set_option linter.all false
set_option maxHeartbeats 4000000
namespace Go.Proofs
open Go Go.Sl Go.Jn
theorem tH(l:List Bs)(b:Bs):bJ (l++[b])=bJ l+(24+b.length):=by
 induction l with
 |nil=>simp[bJ]
 |cons a l ih=>simp only[List.cons_append,bJ,ih];omega
theorem aGo(l:List Bs):24*l.length≤bJ l:=by
 induction l with
 |nil=>simp[bJ]
 |cons a l ih=>simp only[List.length_cons,bJ];omega
theorem aBn{e:Int}{n0 s0 f:Nat}{ar:Bs}{rs R:List Bs}(_:(ar.drop (s0+bJ rs)).length<f+1)(hle:s0+bJ rs≤ar.length)(hrs:rs++nR e (f+1) (n0+rs.length) (ar.drop (s0+bJ rs))=R)
 (hrb:jU e (ar.drop (s0+bJ rs))=true)(hn:gW (ar.drop (s0+bJ rs))=n0+rs.length)(h1:n0+rs.length≠4611686018427387904)(hl:24+(bO (ar.drop (s0+bJ rs))).length≤(ar.drop (s0+bJ rs)).length):
  (ar.drop (s0+bJ (rs++[bO (ar.drop (s0+bJ rs))]))).length<f∧s0+bJ (rs++[bO (ar.drop (s0+bJ rs))])≤ar.length∧
  (rs++[bO (ar.drop (s0+bJ rs))])++nR e f (n0+(rs++[bO (ar.drop (s0+bJ rs))]).length) (ar.drop (s0+bJ (rs++[bO (ar.drop (s0+bJ rs))])))=R:=by
 rw[tH]
 simp only[List.length_drop]at*
 refine⟨by omega,by omega,?_⟩
 rw[←hrs]
 conv=>rhs;rw[nR]
 rw[if_pos ⟨hrb,hn,h1⟩,List.drop_drop]
 simp[Nat.add_assoc]
theorem pC{e:Int}{n f:Nat}{xs:Bs}{rs R:List Bs}(hrs:rs++nR e (f+1) n xs=R)(h:¬(jU e xs=true∧gW xs=n∧n≠4611686018427387904)):rs=R:=by
 rw[nR,if_neg h]at hrs
 simpa using hrs
theorem aNc{k:KS}{ar:Bs}(h:k.area (bL k.head)=ar)(he:bL k.head≠0)(hb:jU ((bL k.head:Nat):Int) ar=false):oZ k=none:=by
 unfold oZ
 simp only[sB,rB,h,if_neg he,hb]
 rfl
theorem vV{k:KS}{ar:Bs}(h:k.area (bL k.head)=ar)(he:bL k.head≠0)(hb:jU ((bL k.head:Nat):Int) ar=true):
  oZ k=some ⟨bL k.head,gW ar+(mW (bL k.head) (gW ar) (ar.drop (24+(bO ar).length))).length,bO ar,mW (bL k.head) (gW ar) (ar.drop (24+(bO ar).length)),(24+(bO ar).length)+bJ (mW (bL k.head) (gW ar) (ar.drop (24+(bO ar).length)))⟩:=by
 unfold oZ
 simp only[sB,rB,h,if_neg he,hb]
 rfl
theorem vW{k:KS}{ar:Bs}(h:k.area (bL k.head)=ar)(he:bL k.head=0):oZ k=some ⟨0,(mW 0 0 (ar.drop 0)).length,[],mW 0 0 (ar.drop 0),bJ (mW 0 0 (ar.drop 0))⟩:=by
 unfold oZ
 rw[he]at h
 simp only[sB,rB,he,h]
 rfl
instance aTn:ZerC Tryz.prog 109 (.agg #[.int .i64 (0),.int .i64 (0),.slice none 0 0,.slice none 0 0,.int .i64 (0)]):={}
instance tf56:TyC Tryz.prog 29 true 4:={}
instance tf57:CfC Tryz.prog 81:={}
theorem aTo:xP Tryz.prog 109 [(0,1),(1,1),(2,1),(3,1),(4,1)]=true:=by kernel_rfl
instance aGs:TyC Tryz.prog 109 true 5:={}
instance tf60:CfC Tryz.prog 82:={}
instance bEq:CfC Tryz.prog 83:={}
instance aOa:CfC Tryz.prog 66:={}
instance tf63:FldC Tryz.prog 109 2 2 1 false:={}
instance tf64:FldC Tryz.prog 109 3 3 1 false:={}
instance tf65:TyC Tryz.prog 107 false 1:={}
theorem aOb:mF Tryz.prog 107 27 1=true:=by kernel_rfl
instance bCd:ZerC Tryz.prog 27 (.slice none 0 0):={}
theorem bCe:wS Tryz.prog 27 1 24=true:=by kernel_rfl
theorem aWz(β:Base)(w:World)(hw:St β [] w)(k:KS)(vh va vb:Value)(hH:Sl iK β.heap vh k.head)(hA:Sl iK β.heap va k.a)(hB:Sl iK β.heap vb k.b):Calls Tryz.prog 45 #[.agg #[vh,va,vb,Ix k.power]] w fun r w'=>(r= .returned (.tuple #[.agg #[.int .i64 0,.int .i64 0,.slice none 0 0,.slice none 0 0,.int .i64 0],.int .i64 2])∧¬k.okP∧St β [] w')∨(r= .returned (.tuple #[.agg #[.int .i64 0,.int .i64 0,.slice none 0 0,.slice none 0 0,.int .i64 0],.int .i64 311])∧k.okP∧oZ k=none∧St β [] w')∨
  (∃i,k.okP∧oZ k=some i∧∃ps pr cs cr,r= .returned (.tuple #[.agg #[Nx i.epoch,Nx i.next,sB ps i.state cs,sB pr i.recs cr,Nx i.size],.int .i64 0])∧St β [rB ps i.state cs,gI 27 pr cr i.recs] w'):=by
 obtain⟨vha,vhc,rfl,vhl,vhm,vhe⟩:=hH.get
 obtain⟨vaa,vac,rfl,val,vam,vae⟩:=hA.get
 obtain⟨vba,vbc,rfl,vbl,vbm,vbe⟩:=hB.get
 refine enter (n:=92) Tryz.func45 rfl Tryz.ntmps45 rfl ?_ hw
 refine bE (mA fun b1=> ?_)
 refine gB fun b2=>lE bN (aN (eS (aC (lE (dD 1) ?_))))
 refine iF iE (fun w β1 sb kn hw1=>aUc β1 w hw1 k _ _ _ (Sl.mono _ _ _ _ _ sb (⟨⟨_,_,rfl,vhl,vhm,vhe⟩⟩:Sl iK _ _ k.head)) (Sl.mono _ _ _ _ _ sb (⟨⟨_,_,rfl,val,vam,vae⟩⟩:Sl iK _ _ k.a)) (Sl.mono _ _ _ _ _ sb (⟨⟨_,_,rfl,vbl,vbm,vbe⟩⟩:Sl iK _ _ k.b))) ?_
 refine lE ond (aN (cG _ rfl (fun hc3=> ?_) (fun hc3=> ?_)))
 ·refine bE ?_
  refine lv (v:= .agg #[.int .i64 (0),.int .i64 (0),.slice none 0 0,.slice none 0 0,.int .i64 (0)]) (cR aTn.ok aTo (vs:=[]) (cells:= #[.int .i64 (0),.int .i64 (0),.slice none 0 0,.slice none 0 0,.int .i64 (0)]) rfl rfl) ?_
  refine lu (mS 0 (#[.int .i64 (0),.int .i64 (0),.slice none 0 0,.slice none 0 0,.int .i64 (0)])) (lE bN (aN (aT (aI ?_))))
  refine gA (m:=[.agg #[.int .i64 (0),.int .i64 (0),.slice none 0 0,.slice none 0 0,.int .i64 (0)],.int .i64 (2)]) Tryz.results45 ⟨bQ aGs.ok rfl (bY 0 rfl rfl) rfl,eL (v:= .int .i64 (2)) rfl,trivial⟩ rfl ?_
  intro w hw
  exact .inl ⟨rfl,by simpa using hc3,aF [false,false] rfl hw⟩
 have hok:k.okP:=Decidable.not_not.1 hc3
 refine eF (aL ?_)
 have hhd:k.head.length≤32:=by unfold KS.okP at hok;omega
 refine aC (lE aY (lE (fR 1) ?_))
 refine iF iE (fun w β1 sb kn hw1=>aQe β1 w hw1 k.head _ (by omega) (Sl.mono _ _ _ _ _ sb (⟨⟨_,_,rfl,vhl,vhm,vhe⟩⟩:Sl iK _ _ k.head))) ?_
 refine lv (v:= .agg #[Nx (bL k.head),.int .i64 (0),.slice none 0 0,.slice none 0 0,.int .i64 (0)]) (cR aTn.ok aTo (vs:=[(0,Nx (bL k.head))]) (cells:= #[Nx (bL k.head),.int .i64 (0),.slice none 0 0,.slice none 0 0,.int .i64 (0)]) rfl rfl) ?_
 refine gB fun b4=>lu (mS 0 (#[Nx (bL k.head),.int .i64 (0),.slice none 0 0,.slice none 0 0,.int .i64 (0)])) (aN ?_)
 refine gG (fun(f:Fm) (L:List bU)=>∃ar a c,k.area (bL k.head)=ar∧ar.length≤262144∧Sl iK β.heap (sB a ar c) ar∧(f 2=pp b2 0∧f 4=pp b4 0∧f 5=sB a ar c)∧L=[pt b4 (.cells #[Nx (bL k.head),.int .i64 (0),.slice none 0 0,.slice none 0 0,.int .i64 (0)] 109),pt b2 (.cells #[.int .i64 (0),.int .i64 (0),.slice none 0 0,.slice none 0 0,.int .i64 (0)] 109),pt b1 (.cells #[sB vha k.head (vhc),sB vaa k.a (vac),sB vba k.b (vbc),Ix (k.power)] 29)]) ?_ ?_
 ·rcases Nat.mod_two_eq_zero_or_one (bL k.head)with hpar|hpar
  ·refine gK (by kernel_rfl) (by kernel_rfl) ?_
   refine kX (v:= .agg #[pp b1 1,pp b1 2]) rfl rfl rfl (cK (vs:=[pp b1 0]) aXt.ok rfl rfl) (fun w hw=> ?_) ?_
   ·obtain⟨β1,sb,kn,hw1,back⟩:=St.frame_all hw
    exact(lD β1 w hw1 b1).mono (fun e w' ⟨he,hw'⟩=>⟨he,aF [true,true,true] rfl (back _ _ hw')⟩)
   refine qE aY (qE (cQ 0) ?_)
   refine dQ (v:= .int .i64 (0)) rfl rfl rfl (fI (by rw[hpar];rfl) (lR (a:=((bL k.head:Nat):Int)) (b:=(2:Int)) rfl rfl (by decide) (gD _ 2))) ?_
   refine dQ (v:=pp b1 1) rfl rfl rfl (fM (cs:= #[pp b1 1,pp b1 2]) (k:=0) rfl rfl aEa.ok rfl (by decide) aGr.ok) (qE eM ?_)
   refine qE (fR 2) (qE iT (kS ?_))
   exact bI ⟨_,_,_,aAp (k:=k) hpar,by unfold KS.okP at hok;omega,(⟨⟨_,_,rfl,val,vam,vae⟩⟩:Sl iK _ _ k.a),⟨rfl,rfl,rfl⟩,rfl⟩
  refine gK (by kernel_rfl) (by kernel_rfl) ?_
  refine kX (v:= .agg #[pp b1 1,pp b1 2]) rfl rfl rfl (cK (vs:=[pp b1 0]) aXt.ok rfl rfl) (fun w hw=> ?_) ?_
  ·obtain⟨β1,sb,kn,hw1,back⟩:=St.frame_all hw
   exact(lD β1 w hw1 b1).mono (fun e w' ⟨he,hw'⟩=>⟨he,aF [true,true,true] rfl (back _ _ hw')⟩)
  refine qE aY (qE (cQ 0) ?_)
  refine dQ (v:= .int .i64 (1)) rfl rfl rfl (fI (by rw[hpar];rfl) (lR (a:=((bL k.head:Nat):Int)) (b:=(2:Int)) rfl rfl (by decide) (gD _ 2))) ?_
  refine dQ (v:=pp b1 2) rfl rfl rfl (fM (cs:= #[pp b1 1,pp b1 2]) (k:=1) rfl rfl aEa.ok rfl (by decide) aGr.ok) (qE eM ?_)
  refine qE (fR 2) (qE iT (kS ?_))
  exact bI ⟨_,_,_,aEp (k:=k) hpar,by unfold KS.okP at hok;omega,(⟨⟨_,_,rfl,vbl,vbm,vbe⟩⟩:Sl iK _ _ k.b),⟨rfl,rfl,rfl⟩,rfl⟩
 rintro f0 L0 ⟨ar,aa,ac,har,hl4,hasl,⟨hs2,hs4,hs5⟩,hL⟩
 subst L0
 refine bM 2 hs2 (bM 4 hs4 (bM 5 hs5 ?_))
 obtain⟨_,hal,ham,hae⟩:=hasl.parts
 refine eS (aC (lE aY (lE (cQ 0) (lE oG (aN (cG _ rfl (fun hc5=> ?_) (fun hc5=> ?_)))))))
 ·refine bE (lE aY (lE (cQ 0) (lE fN ?_)))
  refine iF iE (fun w β1 sb kn hw1=>vX β1 w hw1 ((bL k.head:Nat):Int) ar aa ac (by omega) (by omega) (cX.mono _ _ _ _ _ sb hae)) ?_
  refine lE oE (lE pO (lE oxs (lE xK (lE bN (lE iT (lE dW (aN (eS (aC (lE fJ (lE lX (aN ?_))))))))))))
  refine fE (!(jU ((bL k.head:Nat):Int) ar)) rfl (fun hc6=> ?_) (fun hc6=> ?_)
  ·refine bE ?_
   refine lv (v:= .agg #[.int .i64 (0),.int .i64 (0),.slice none 0 0,.slice none 0 0,.int .i64 (0)]) (cR aTn.ok aTo (vs:=[]) (cells:= #[.int .i64 (0),.int .i64 (0),.slice none 0 0,.slice none 0 0,.int .i64 (0)]) rfl rfl) ?_
   refine lu (mS 1 (#[.int .i64 (0),.int .i64 (0),.slice none 0 0,.slice none 0 0,.int .i64 (0)])) (lE bN (aN (aT (aI (aI ?_)))))
   refine gA (m:=[.agg #[.int .i64 (0),.int .i64 (0),.slice none 0 0,.slice none 0 0,.int .i64 (0)],.int .i64 (311)]) Tryz.results45 ⟨bQ aGs.ok rfl (bY 1 rfl rfl) rfl,eL (v:= .int .i64 (311)) rfl,trivial⟩ rfl ?_
   intro w hw
   exact .inr (.inl ⟨rfl,hok,aNc har (by omega) (by simpa using hc6),aF [false,false,false] rfl hw⟩)
  refine eF ?_
  have hrb0:jU ((bL k.head:Nat):Int) ar=true:=by simpa using hc6
  have hrl0:=zD hrb0
  have hrN0:=tF (xs:=ar)
  have hrP0:=tG (xs:=ar)
  refine aC (lE aX (lE fN ?_))
  refine pN (cK (vs:=[sB (rE aa ac ar) (bO ar) ((qQ ac ar))]) aOa.ok rfl rfl) rfl fun w β1 sb kn hw1 back=>(lF β1 w hw1 (bO ar) _ (by omega) (Sl.mono _ _ _ _ _ sb (aIi (by omega) (by omega) hae))).mono ?_
  rintro e w' ⟨p7,c8,rfl,hw'⟩
  refine⟨_,rfl,_,back _ _ hw',?_⟩
  refine lE fN (lE gO (lv (v:=Nx (24+((bO ar).length))) (bX rfl rfl (dA (by omega) (by omega))) (lE aY ?_)))
  refine lu (mS 1 (#[Nx (bL k.head),Nx (gW ar),.slice none 0 0,.slice none 0 0,.int .i64 (0)])) (lE aY ?_)
  refine lu (mS 1 (#[Nx (bL k.head),Nx (gW ar),sB p7 ((bO ar)) c8,.slice none 0 0,.int .i64 (0)])) (lE aY ?_)
  refine lu (mS 1 (#[Nx (bL k.head),Nx (gW ar),sB p7 ((bO ar)) c8,.slice none 0 0,Nx (24+((bO ar).length))])) (aN (aK ?_))
  refine jN (r:=gI 27 none 0 []) (zE _ _) ?_
  refine dB (fun(x_:Nat×List Bs×Option Addr×Nat) f L=>match x_ with|(fu,rs,pr,cr)=>(f 2=pp b2 0∧f 4=pp b4 0∧f 5=sB aa ar (ac))∧L=[gI 27 pr cr rs,rB p7 ((bO ar)) c8,pt b4 (.cells #[Nx (bL k.head),Nx ((gW ar)+rs.length),sB p7 ((bO ar)) c8,sB pr rs cr,Nx ((24+(bO ar).length)+bJ rs)] 109),pt b2 (.cells #[.int .i64 (0),.int .i64 (0),.slice none 0 0,.slice none 0 0,.int .i64 (0)] 109),pt b1 (.cells #[sB vha k.head (vhc),sB vaa k.a (vac),sB vba k.b (vbc),Ix (k.power)] 29)]∧(((ar.drop ((24+(bO ar).length)+bJ rs)).length<fu)∧(24+(bO ar).length)+bJ rs≤ar.length∧rs++nR ((bL k.head:Nat):Int) fu ((gW ar)+rs.length) (ar.drop ((24+(bO ar).length)+bJ rs))=(mW (bL k.head) (gW ar) (ar.drop (24+(bO ar).length))))) (fun(fu,rs,pr,cr)=>fu) (((ar.drop (24+(bO ar).length)).length+1),[],none,0) ?_ ?_
  ·exact⟨⟨rfl,rfl,rfl⟩,(by show [gI 27 none 0 [],rB p7 ((bO ar)) c8,pt b4 (.cells #[Nx (bL k.head),Nx (gW ar),sB p7 ((bO ar)) c8,.slice none 0 0,Nx (24+((bO ar).length))] 109),pt b2 (.cells #[.int .i64 (0),.int .i64 (0),.slice none 0 0,.slice none 0 0,.int .i64 (0)] 109),pt b1 (.cells #[sB vha k.head (vhc),sB vaa k.a (vac),sB vba k.b (vbc),Ix (k.power)] 29)]=_;simp only[sB,rB,bJ,List.length_nil,Nat.add_zero,Nat.zero_add];try rfl),⟨by simp[bJ],by simp only[sB,rB,bJ];omega,by simp[bJ,mW]⟩⟩
  rintro⟨fu,rs,pr,cr⟩ f0 L0 ⟨⟨hs2,hs4,hs5⟩,hL,⟨hfu,hle,hrs⟩⟩
  subst L0
  refine bM 2 hs2 (bM 4 hs4 (bM 5 hs5 ?_))
  obtain⟨f,rfl⟩:∃f,fu=f+1:=⟨fu-1,by omega⟩
  have hsg:=aGo rs
  refine aK (aL (gK (by kernel_rfl) (by kernel_rfl) (qE aY (qE (cQ 2) (qE fN (qE aY (qE (cQ 2) ?_)))))))
  obtain⟨zs9,hz10⟩:∃zs,zs=(ar.drop ((24+(bO ar).length)+bJ rs)):=⟨_,rfl⟩
  have zl11:zs9.length=(ar).length-((24+(bO ar).length)+bJ rs):=by rw[hz10];simp;try omega
  have ze12:=(cX.drop (cap:=ac) ((24+(bO ar).length)+bJ rs) (by first|omega|(simp;omega)) hae)
  rw[←hz10]at ze12
  refine dQ (v:= .slice (rO aa ac ((24+(bO ar).length)+bJ rs) 1) (zs9.length) ((ac-((24+(bO ar).length)+bJ rs)))) rfl rfl rfl (fI (by rw[show zs9.length=ar.length-((24+(bO ar).length)+bJ rs) by omega]) (yE (a:=aa) (len:=ar.length) (cap:=ac) (l:=(24+(bO ar).length)+bJ rs) jV rfl rfl (by omega))) ?_
  refine kX (v:= .tuple #[Nx (gW zs9),sB (rE (rO aa ac ((24+(bO ar).length)+bJ rs) 1) (ac-((24+(bO ar).length)+bJ rs)) zs9) (bO zs9) ((qQ (ac-((24+(bO ar).length)+bJ rs)) zs9)),.bool (jU ((bL k.head:Nat):Int) zs9)]) rfl rfl rfl (cK (vs:=[Nx (bL k.head),sB (rO aa ac ((24+(bO ar).length)+bJ rs) 1) zs9 ((ac-((24+(bO ar).length)+bJ rs)))]) bEq.ok rfl rfl) (fun w hw=> ?_) ?_
  ·obtain⟨β1,sb,kn,hw1,back⟩:=St.frame_all hw
   exact(vX β1 w hw1 ((bL k.head:Nat):Int) zs9 (rO aa ac ((24+(bO ar).length)+bJ rs) 1) (ac-((24+(bO ar).length)+bJ rs)) (by omega) (by omega) (cX.mono _ _ _ _ _ sb ze12)).mono (fun e w' ⟨he,hw'⟩=>⟨he,aF [true,true,true,true,true] rfl (back _ _ hw')⟩)
  refine qE oE (qE pO (qE oxs (qE xK (qE bN (qE iT (qE dW (kS (rT (aL ?_)))))))))
  have hrN:=tF (xs:=zs9)
  have hrP:=tG (xs:=zs9)
  refine aC (lE fJ (lE lX (lE fJ (yN (s:=63) (b:= !(jU ((bL k.head:Nat):Int) zs9)) rfl (fun hg13=> ?_) (fun hg13=> ?_)))))
  ·refine iG (iG (iG (iG (lE eC (lE fJ (iG (iG (lE eC (aN (dL rfl (bE (lE (dD 2) ?_))))))))))))
   refine lu (mS 3 (#[Nx (bL k.head),Nx ((gW ar)+rs.length),sB p7 ((bO ar)) c8,sB pr rs cr,Nx ((24+(bO ar).length)+bJ rs)])) ?_
   refine lE bN (aN (aT (aI (aQ (aI (aQ ?_))))))
   refine gA (m:=[.agg #[Nx (bL k.head),Nx ((gW ar)+rs.length),sB p7 ((bO ar)) c8,sB pr rs cr,Nx ((24+(bO ar).length)+bJ rs)],.int .i64 (0)]) Tryz.results45 ⟨bQ aGs.ok rfl (bY 3 rfl rfl) rfl,eL (v:= .int .i64 (0)) rfl,trivial⟩ rfl ?_
   intro w hw
   have hend:=pC hrs (by rw[←hz10];rintro⟨q1,q2,q3⟩;simp[q1]at hg13)
   have hw2:=aF [true,true,false,false,false] rfl (hw.perm (L':=[rB p7 ((bO ar)) c8,gI 27 pr cr rs,pt b4 (.cells #[Nx (bL k.head),Nx ((gW ar)+rs.length),sB p7 ((bO ar)) c8,sB pr rs cr,Nx ((24+(bO ar).length)+bJ rs)] 109),pt b2 (.cells #[Nx (bL k.head),Nx ((gW ar)+rs.length),sB p7 ((bO ar)) c8,sB pr rs cr,Nx ((24+(bO ar).length)+bJ rs)] 109),pt b1 (.cells #[sB vha k.head (vhc),sB vaa k.a (vac),sB vba k.b (vbc),Ix (k.power)] 29)]) (by exact(aV [1,0,2,3,4] 5 rfl (by kernel_rfl) (by kernel_rfl))))
   rw[hend]at hw2⊢
   exact .inr (.inr ⟨_,hok,vV har (by omega) hrb0,_,_,_,_,rfl,hw2⟩)
  refine gE aX (gE aY (gE (cQ 2) (gE lC (lE dP (lE fJ (eJ (s:=69) rfl (fun hg14=> ?_) (fun hg14=> ?_)))))))
  ·refine iG (iG (lE eC (aN (dL rfl (bE (lE (dD 2) ?_))))))
   refine lu (mS 3 (#[Nx (bL k.head),Nx ((gW ar)+rs.length),sB p7 ((bO ar)) c8,sB pr rs cr,Nx ((24+(bO ar).length)+bJ rs)])) ?_
   refine lE bN (aN (aT (aI (aQ (aI (aQ ?_))))))
   refine gA (m:=[.agg #[Nx (bL k.head),Nx ((gW ar)+rs.length),sB p7 ((bO ar)) c8,sB pr rs cr,Nx ((24+(bO ar).length)+bJ rs)],.int .i64 (0)]) Tryz.results45 ⟨bQ aGs.ok rfl (bY 3 rfl rfl) rfl,eL (v:= .int .i64 (0)) rfl,trivial⟩ rfl ?_
   intro w hw
   have hend:=pC hrs (by rw[←hz10];rintro⟨q1,q2,q3⟩;exact hg14 (by rw[q2]))
   have hw2:=aF [true,true,false,false,false] rfl (hw.perm (L':=[rB p7 ((bO ar)) c8,gI 27 pr cr rs,pt b4 (.cells #[Nx (bL k.head),Nx ((gW ar)+rs.length),sB p7 ((bO ar)) c8,sB pr rs cr,Nx ((24+(bO ar).length)+bJ rs)] 109),pt b2 (.cells #[Nx (bL k.head),Nx ((gW ar)+rs.length),sB p7 ((bO ar)) c8,sB pr rs cr,Nx ((24+(bO ar).length)+bJ rs)] 109),pt b1 (.cells #[sB vha k.head (vhc),sB vaa k.a (vac),sB vba k.b (vbc),Ix (k.power)] 29)]) (by exact(aV [1,0,2,3,4] 5 rfl (by kernel_rfl) (by kernel_rfl))))
   rw[hend]at hw2⊢
   exact .inr (.inr ⟨_,hok,vV har (by omega) hrb0,_,_,_,_,rfl,hw2⟩)
  refine gE aX (gE eZ (lE dP (aN (cG _ rfl (fun hc15=> ?_) (fun hc15=> ?_)))))
  ·refine bE (lE (dD 2) ?_)
   refine lu (mS 3 (#[Nx (bL k.head),Nx ((gW ar)+rs.length),sB p7 ((bO ar)) c8,sB pr rs cr,Nx ((24+(bO ar).length)+bJ rs)])) ?_
   refine lE bN (aN (aT (aI (aQ (aI (aQ ?_))))))
   refine gA (m:=[.agg #[Nx (bL k.head),Nx ((gW ar)+rs.length),sB p7 ((bO ar)) c8,sB pr rs cr,Nx ((24+(bO ar).length)+bJ rs)],.int .i64 (0)]) Tryz.results45 ⟨bQ aGs.ok rfl (bY 3 rfl rfl) rfl,eL (v:= .int .i64 (0)) rfl,trivial⟩ rfl ?_
   intro w hw
   have hend:=pC hrs (by rw[←hz10];rintro⟨q1,q2,q3⟩;omega)
   have hw2:=aF [true,true,false,false,false] rfl (hw.perm (L':=[rB p7 ((bO ar)) c8,gI 27 pr cr rs,pt b4 (.cells #[Nx (bL k.head),Nx ((gW ar)+rs.length),sB p7 ((bO ar)) c8,sB pr rs cr,Nx ((24+(bO ar).length)+bJ rs)] 109),pt b2 (.cells #[Nx (bL k.head),Nx ((gW ar)+rs.length),sB p7 ((bO ar)) c8,sB pr rs cr,Nx ((24+(bO ar).length)+bJ rs)] 109),pt b1 (.cells #[sB vha k.head (vhc),sB vaa k.a (vac),sB vba k.b (vbc),Ix (k.power)] 29)]) (by exact(aV [1,0,2,3,4] 5 rfl (by kernel_rfl) (by kernel_rfl))))
   rw[hend]at hw2⊢
   exact .inr (.inr ⟨_,hok,vV har (by omega) hrb0,_,_,_,_,rfl,hw2⟩)
  refine eF (aL ?_)
  have hrb:jU ((bL k.head:Nat):Int) zs9=true:=by simpa using hg13
  have hrl:=zD hrb
  refine jH [sv 74 (pp b4 3) [] [] [0],sv 75 (sB pr rs cr) [0] [0] [],sv 76 (sB (rE (rO aa ac ((24+(bO ar).length)+bJ rs) 1) (ac-((24+(bO ar).length)+bJ rs)) zs9) (bO zs9) ((qQ (ac-((24+(bO ar).length)+bJ rs)) zs9))) [] [] [1],⟨[2],[2],[],[77],fun f=>f 77=sB (dG (f 77)) ((bO zs9)) (dH (f 77))⟩,⟨[2,3],[3],[],[78],fun f=>f 78= .slice (some ⟨(cU (f 78)),0,none⟩) 1 1⟩,⟨[0,1,2,3,4],[1,4],[],[79],fun f=>f 79=sB (dG (f 79)) ((rs++[(bO zs9)])) (dH (f 79))⟩,sv 80 (pp b4 3) (List.range 6) [] [0],⟨(List.range 7),[6,5],[],[],fun _=>True⟩] [(some 5,[5]),u0,(some 7,[1,7])] [⟨(some 3),(some 5),[5],[77],fun f=>rB (dG (f 77)) ((bO zs9)) (dH (f 77))⟩,⟨(some 4),none,[5],[77,78],fun f=>pt (cU (f 78)) (.cells #[sB (dG (f 77)) ((bO zs9)) (dH (f 77))] 27)⟩,⟨(some 5),none,[],[79],fun f=>gI 27 (dG (f 79)) (dH (f 79)) (rs++[(bO zs9)])⟩,⟨(some 7),none,[],[79],fun f=>pt b4 (.cells #[Nx (bL k.head),Nx ((gW ar)+rs.length),sB p7 ((bO ar)) c8,sB (dG (f 79)) ((rs++[(bO zs9)])) (dH (f 79)),Nx ((24+(bO ar).length)+bJ rs)] 109)⟩] [(4,pp b4 0),(10,sB (rE (rO aa ac ((24+(bO ar).length)+bJ rs) 1) (ac-((24+(bO ar).length)+bJ rs)) zs9) (bO zs9) ((qQ (ac-((24+(bO ar).length)+bJ rs)) zs9))),(2,pp b2 0),(5,sB aa ar (ac))] [2,0,3,1] ⟨rfl,rfl,rfl,rfl,trivial⟩ ⟨?_,?_,?_,?_,?_,?_,?_,?_,trivial⟩ ?_
  ·rintro f M-⟨i0,-⟩
   exact aU aY
  ·rintro f M ⟨k0,-⟩-
   exact aU (fR 0)
  ·rintro f M-⟨i0,-⟩
   exact aU fN
  ·rintro f M ⟨k0,-⟩-
   refine dU (aB (d:=76) rfl k0) ?_
   refine pN (cK (vs:=[sB (rE (rO aa ac ((24+(bO ar).length)+bJ rs) 1) (ac-((24+(bO ar).length)+bJ rs)) zs9) (bO zs9) ((qQ (ac-((24+(bO ar).length)+bJ rs)) zs9))]) aOa.ok rfl rfl) rfl fun w β1 sb kn hw1 back=>(lF β1 w hw1 (bO zs9) _ (by omega) (Sl.mono _ _ _ _ _ sb (aIi (by omega) (by omega) ze12))).mono ?_
   rintro e w' ⟨p18,c19,rfl,hw'⟩
   refine⟨_,rfl,_,back _ _ hw',?_⟩
   refine aH ?_
   exact aO (aB (d:=76) rfl k0) rfl (aA 0 rfl)
  ·rintro f M ⟨k0,-⟩-
   have hs77:f 77=sB (dG (f 77)) ((bO zs9)) (dH (f 77)):=k0
   refine dU (aB rfl hs77) ?_
   refine dX rfl rfl rfl (dO aOb bCd.ok (cells:= #[sB (dG (f 77)) ((bO zs9)) (dH (f 77))]) rfl rfl rfl rfl) ?_
   rintro _ _ ⟨b21,rfl,rfl⟩
   refine aH ?_
   exact aO (aB rfl hs77) rfl (aA 0 rfl)
  ·rintro f M ⟨k0,k1,-⟩-
   have hs78:f 78= .slice (some ⟨(cU (f 78)),0,none⟩) 1 1:=k1
   refine dU (aB (aB (d:=75) rfl k0) hs78) ?_
   refine aDa (L':=(gI 27 pr cr rs::rB (dG (f 77)) ((bO zs9)) (dH (f 77))::pt (cU (f 78)) (.cells #[sB (dG (f 77)) ((bO zs9)) (dH (f 77))] 27)::M)) (List.Perm.refl _) ?_
   refine dX rfl rfl rfl (qX (xs:=rs) (bs:=(bO zs9)) (b:=(cU (f 78))) rfl aOb bCe rfl rfl (by omega) (by omega)) ?_
   rintro _ _ ⟨rp24,rc25,rfl,rfl⟩
   refine aH ?_
   exact aO (aB (aB (d:=75) rfl k0) hs78) rfl ((aA 0 rfl).trans (aA 1 rfl))
  ·rintro f M-⟨i0,-⟩
   exact aU aY
  ·rintro f M ⟨k0,k1,-⟩-
   have hs79:f 79=sB (dG (f 79)) ((rs++[(bO zs9)])) (dH (f 79)):=k1
   refine dU (aB (aB (d:=80) rfl k0) hs79) ?_
   refine lu (mS 0 (#[Nx (bL k.head),Nx ((gW ar)+rs.length),sB p7 ((bO ar)) c8,sB (dG (f 79)) ((rs++[(bO zs9)])) (dH (f 79)),Nx ((24+(bO ar).length)+bJ rs)])) ?_
   refine aH ?_
   exact bB (aB (aB (d:=80) rfl k0) hs79) trivial (aA 0 rfl)
  rintro fa26 ⟨-,-,-,-,-,-,-,-,-⟩ ⟨j0,j1,j2,j3,-⟩
  refine jI ?_
  refine aD (d:=2) j0 (aD (d:=4) j1 (aD (d:=5) j2 (aD (d:=10) j3 (kM (lE aY (lE (cQ 5) ?_))))))
  refine lv (v:=Nx (((gW ar)+rs.length)+1)) (bX rfl rfl (dA (by omega) (by omega))) (lE aY ?_)
  refine lu (mS 5 (#[Nx (bL k.head),Nx (((gW ar)+rs.length)+1),sB p7 ((bO ar)) c8,sB (dG (fa26 79)) ((rs++[(bO zs9)])) (dH (fa26 79)),Nx ((24+(bO ar).length)+bJ rs)])) ?_
  refine wU (lE aY (lE (cQ 5) (lE fN (lE gO (lv (v:=Nx (24+((bO zs9).length))) (bX rfl rfl (dA (by omega) (by omega))) ?_)))))
  refine lv (v:=Nx (((24+(bO ar).length)+bJ rs)+(24+((bO zs9).length)))) (bX rfl rfl (dA (by omega) (by omega))) (lE aY ?_)
  refine lu (mS 5 (#[Nx (bL k.head),Nx (((gW ar)+rs.length)+1),sB p7 ((bO ar)) c8,sB (dG (fa26 79)) ((rs++[(bO zs9)])) (dH (fa26 79)),Nx (((24+(bO ar).length)+bJ rs)+(24+((bO zs9).length)))])) ?_
  refine aH (aR ?_)
  have hnx:=aBn hfu hle hrs (by rw[←hz10];exact hrb) (by rw[←hz10];omega) (by omega) (by rw[←hz10];omega)
  rw[←hz10]at hnx
  refine vP [4,0,5,1,2,3] 6 ?_
  refine dM [true,true,true,true,true,false] rfl ?_
  exact bI ⟨(f,(rs++[(bO zs9)]),(dG (fa26 79)),(dH (fa26 79))),⟨⟨rfl,rfl,rfl⟩,(by simp only[sB,rB,tH,List.length_append,List.length_cons,List.length_nil,Nat.add_assoc];try rfl),hnx⟩,(show f<f+1 from Nat.lt_succ_self f)⟩
 refine eF (aK (jN (r:=gI 27 none 0 []) (zE _ _) ?_))
 refine dB (fun(x_:Nat×List Bs×Option Addr×Nat) f L=>match x_ with|(fu,rs,pr,cr)=>(f 2=pp b2 0∧f 4=pp b4 0∧f 5=sB aa ar (ac))∧L=[gI 27 pr cr rs,pt b4 (.cells #[Nx (bL k.head),Nx (0+rs.length),.slice none 0 0,sB pr rs cr,Nx (0+bJ rs)] 109),pt b2 (.cells #[.int .i64 (0),.int .i64 (0),.slice none 0 0,.slice none 0 0,.int .i64 (0)] 109),pt b1 (.cells #[sB vha k.head (vhc),sB vaa k.a (vac),sB vba k.b (vbc),Ix (k.power)] 29)]∧(((ar.drop (0+bJ rs)).length<fu)∧0+bJ rs≤ar.length∧rs++nR ((bL k.head:Nat):Int) fu (0+rs.length) (ar.drop (0+bJ rs))=(mW (bL k.head) 0 (ar.drop 0)))) (fun(fu,rs,pr,cr)=>fu) (((ar.drop 0).length+1),[],none,0) ?_ ?_
 ·exact⟨⟨rfl,rfl,rfl⟩,(by show [gI 27 none 0 [],pt b4 (.cells #[Nx (bL k.head),.int .i64 (0),.slice none 0 0,.slice none 0 0,.int .i64 (0)] 109),pt b2 (.cells #[.int .i64 (0),.int .i64 (0),.slice none 0 0,.slice none 0 0,.int .i64 (0)] 109),pt b1 (.cells #[sB vha k.head (vhc),sB vaa k.a (vac),sB vba k.b (vbc),Ix (k.power)] 29)]=_;simp only[sB,rB,bJ,List.length_nil,Nat.add_zero,Nat.zero_add];try rfl),⟨by simp[bJ],by simp only[sB,rB,bJ];omega,by simp[bJ,mW]⟩⟩
 rintro⟨fu,rs,pr,cr⟩ f0 L0 ⟨⟨hs2,hs4,hs5⟩,hL,⟨hfu,hle,hrs⟩⟩
 subst L0
 refine bM 2 hs2 (bM 4 hs4 (bM 5 hs5 ?_))
 obtain⟨f,rfl⟩:∃f,fu=f+1:=⟨fu-1,by omega⟩
 have hsg:=aGo rs
 refine aK (aL (gK (by kernel_rfl) (by kernel_rfl) (qE aY (qE (cQ 1) (qE fN (qE aY (qE (cQ 1) ?_)))))))
 obtain⟨zs27,hz28⟩:∃zs,zs=(ar.drop (0+bJ rs)):=⟨_,rfl⟩
 have zl29:zs27.length=(ar).length-(0+bJ rs):=by rw[hz28];simp;try omega
 have ze30:=(cX.drop (cap:=ac) (0+bJ rs) (by first|omega|(simp;omega)) hae)
 rw[←hz28]at ze30
 refine dQ (v:= .slice (rO aa ac (0+bJ rs) 1) (zs27.length) ((ac-(0+bJ rs)))) rfl rfl rfl (fI (by rw[show zs27.length=ar.length-(0+bJ rs) by omega]) (yE (a:=aa) (len:=ar.length) (cap:=ac) (l:=0+bJ rs) jV rfl rfl (by omega))) ?_
 refine kX (v:= .tuple #[Nx (gW zs27),sB (rE (rO aa ac (0+bJ rs) 1) (ac-(0+bJ rs)) zs27) (bO zs27) ((qQ (ac-(0+bJ rs)) zs27)),.bool (jU ((bL k.head:Nat):Int) zs27)]) rfl rfl rfl (cK (vs:=[Nx (bL k.head),sB (rO aa ac (0+bJ rs) 1) zs27 ((ac-(0+bJ rs)))]) bEq.ok rfl rfl) (fun w hw=> ?_) ?_
 ·obtain⟨β1,sb,kn,hw1,back⟩:=St.frame_all hw
  exact(vX β1 w hw1 ((bL k.head:Nat):Int) zs27 (rO aa ac (0+bJ rs) 1) (ac-(0+bJ rs)) (by omega) (by omega) (cX.mono _ _ _ _ _ sb ze30)).mono (fun e w' ⟨he,hw'⟩=>⟨he,aF [true,true,true,true] rfl (back _ _ hw')⟩)
 refine qE oE (qE pO (qE oxs (qE xK (qE bN (qE iT (qE dW (kS (rT (aL ?_)))))))))
 have hrN:=tF (xs:=zs27)
 have hrP:=tG (xs:=zs27)
 refine aC (lE fJ (lE lX (lE fJ (yN (s:=63) (b:= !(jU ((bL k.head:Nat):Int) zs27)) rfl (fun hg31=> ?_) (fun hg31=> ?_)))))
 ·refine iG (iG (iG (iG (lE eC (lE fJ (iG (iG (lE eC (aN (dL rfl (bE (lE (dD 1) ?_))))))))))))
  refine lu (mS 2 (#[Nx (bL k.head),Nx (0+rs.length),.slice none 0 0,sB pr rs cr,Nx (0+bJ rs)])) (lE bN (aN (aT (aI ?_))))
  refine aQ (aI (aQ ?_))
  refine gA (m:=[.agg #[Nx (bL k.head),Nx (0+rs.length),.slice none 0 0,sB pr rs cr,Nx (0+bJ rs)],.int .i64 (0)]) Tryz.results45 ⟨bQ aGs.ok rfl (bY 2 rfl rfl) rfl,eL (v:= .int .i64 (0)) rfl,trivial⟩ rfl ?_
  intro w hw
  have hend:=pC hrs (by rw[←hz28];rintro⟨q1,q2,q3⟩;simp[q1]at hg31)
  have hw2:=aF [true,false,false,false] rfl hw
  rw[hend]at hw2⊢
  refine .inr (.inr ⟨_,hok,vW har (by omega),none,_,0,_,(by rw[show bL k.head=0 by omega];simp only[Nat.zero_add,Nat.add_zero];rfl),?_⟩)
  have hw3:=hw2.emp (eG 5 1 _)
  rw[show bL k.head=0 by omega]at hw3
  exact hw3
 refine gE aX (gE aY (gE (cQ 1) (gE lC (lE dP (lE fJ (eJ (s:=69) rfl (fun hg32=> ?_) (fun hg32=> ?_)))))))
 ·refine iG (iG (lE eC (aN (dL rfl (bE (lE (dD 1) ?_))))))
  refine lu (mS 2 (#[Nx (bL k.head),Nx (0+rs.length),.slice none 0 0,sB pr rs cr,Nx (0+bJ rs)])) (lE bN (aN (aT (aI ?_))))
  refine aQ (aI (aQ ?_))
  refine gA (m:=[.agg #[Nx (bL k.head),Nx (0+rs.length),.slice none 0 0,sB pr rs cr,Nx (0+bJ rs)],.int .i64 (0)]) Tryz.results45 ⟨bQ aGs.ok rfl (bY 2 rfl rfl) rfl,eL (v:= .int .i64 (0)) rfl,trivial⟩ rfl ?_
  intro w hw
  have hend:=pC hrs (by rw[←hz28];rintro⟨q1,q2,q3⟩;exact hg32 (by rw[q2]))
  have hw2:=aF [true,false,false,false] rfl hw
  rw[hend]at hw2⊢
  refine .inr (.inr ⟨_,hok,vW har (by omega),none,_,0,_,(by rw[show bL k.head=0 by omega];simp only[Nat.zero_add,Nat.add_zero];rfl),?_⟩)
  have hw3:=hw2.emp (eG 5 1 _)
  rw[show bL k.head=0 by omega]at hw3
  exact hw3
 refine gE aX (gE eZ (lE dP (aN (cG _ rfl (fun hc33=> ?_) (fun hc33=> ?_)))))
 ·refine bE (lE (dD 1) (lu (mS 2 (#[Nx (bL k.head),Nx (0+rs.length),.slice none 0 0,sB pr rs cr,Nx (0+bJ rs)])) (lE bN (aN (aT ?_)))))
  refine aI (aQ (aI (aQ ?_)))
  refine gA (m:=[.agg #[Nx (bL k.head),Nx (0+rs.length),.slice none 0 0,sB pr rs cr,Nx (0+bJ rs)],.int .i64 (0)]) Tryz.results45 ⟨bQ aGs.ok rfl (bY 2 rfl rfl) rfl,eL (v:= .int .i64 (0)) rfl,trivial⟩ rfl ?_
  intro w hw
  have hend:=pC hrs (by rw[←hz28];rintro⟨q1,q2,q3⟩;omega)
  have hw2:=aF [true,false,false,false] rfl hw
  rw[hend]at hw2⊢
  refine .inr (.inr ⟨_,hok,vW har (by omega),none,_,0,_,(by rw[show bL k.head=0 by omega];simp only[Nat.zero_add,Nat.add_zero];rfl),?_⟩)
  have hw3:=hw2.emp (eG 5 1 _)
  rw[show bL k.head=0 by omega]at hw3
  exact hw3
 refine eF (aL ?_)
 have hrb:jU ((bL k.head:Nat):Int) zs27=true:=by simpa using hg31
 have hrl:=zD hrb
 refine jH [sv 74 (pp b4 3) [] [] [0],sv 75 (sB pr rs cr) [0] [0] [],sv 76 (sB (rE (rO aa ac (0+bJ rs) 1) (ac-(0+bJ rs)) zs27) (bO zs27) ((qQ (ac-(0+bJ rs)) zs27))) [] [] [1],⟨[2],[2],[],[77],fun f=>f 77=sB (dG (f 77)) ((bO zs27)) (dH (f 77))⟩,⟨[2,3],[3],[],[78],fun f=>f 78= .slice (some ⟨(cU (f 78)),0,none⟩) 1 1⟩,⟨[0,1,2,3,4],[1,4],[],[79],fun f=>f 79=sB (dG (f 79)) ((rs++[(bO zs27)])) (dH (f 79))⟩,sv 80 (pp b4 3) (List.range 6) [] [0],⟨(List.range 7),[6,5],[],[],fun _=>True⟩] [(some 5,[5]),(some 7,[1,7])] [⟨(some 3),(some 5),[5],[77],fun f=>rB (dG (f 77)) ((bO zs27)) (dH (f 77))⟩,⟨(some 4),none,[5],[77,78],fun f=>pt (cU (f 78)) (.cells #[sB (dG (f 77)) ((bO zs27)) (dH (f 77))] 27)⟩,⟨(some 5),none,[],[79],fun f=>gI 27 (dG (f 79)) (dH (f 79)) (rs++[(bO zs27)])⟩,⟨(some 7),none,[],[79],fun f=>pt b4 (.cells #[Nx (bL k.head),Nx (0+rs.length),.slice none 0 0,sB (dG (f 79)) ((rs++[(bO zs27)])) (dH (f 79)),Nx (0+bJ rs)] 109)⟩] [(4,pp b4 0),(10,sB (rE (rO aa ac (0+bJ rs) 1) (ac-(0+bJ rs)) zs27) (bO zs27) ((qQ (ac-(0+bJ rs)) zs27))),(2,pp b2 0),(5,sB aa ar (ac))] [2,0,3,1] ⟨rfl,rfl,rfl,rfl,trivial⟩ ⟨?_,?_,?_,?_,?_,?_,?_,?_,trivial⟩ ?_
 ·rintro f M-⟨i0,-⟩
  exact aU aY
 ·rintro f M ⟨k0,-⟩-
  exact aU (fR 0)
 ·rintro f M-⟨i0,-⟩
  exact aU fN
 ·rintro f M ⟨k0,-⟩-
  refine dU (aB (d:=76) rfl k0) ?_
  refine pN (cK (vs:=[sB (rE (rO aa ac (0+bJ rs) 1) (ac-(0+bJ rs)) zs27) (bO zs27) ((qQ (ac-(0+bJ rs)) zs27))]) aOa.ok rfl rfl) rfl fun w β1 sb kn hw1 back=>(lF β1 w hw1 (bO zs27) _ (by omega) (Sl.mono _ _ _ _ _ sb (aIi (by omega) (by omega) ze30))).mono ?_
  rintro e w' ⟨p36,c37,rfl,hw'⟩
  refine⟨_,rfl,_,back _ _ hw',?_⟩
  refine aH ?_
  exact aO (aB (d:=76) rfl k0) rfl (aA 0 rfl)
 ·rintro f M ⟨k0,-⟩-
  have hs77:f 77=sB (dG (f 77)) ((bO zs27)) (dH (f 77)):=k0
  refine dU (aB rfl hs77) ?_
  refine dX rfl rfl rfl (dO aOb bCd.ok (cells:= #[sB (dG (f 77)) ((bO zs27)) (dH (f 77))]) rfl rfl rfl rfl) ?_
  rintro _ _ ⟨b39,rfl,rfl⟩
  refine aH ?_
  exact aO (aB rfl hs77) rfl (aA 0 rfl)
 ·rintro f M ⟨k0,k1,-⟩-
  have hs78:f 78= .slice (some ⟨(cU (f 78)),0,none⟩) 1 1:=k1
  refine dU (aB (aB (d:=75) rfl k0) hs78) ?_
  refine aDa (L':=(gI 27 pr cr rs::rB (dG (f 77)) ((bO zs27)) (dH (f 77))::pt (cU (f 78)) (.cells #[sB (dG (f 77)) ((bO zs27)) (dH (f 77))] 27)::M)) (List.Perm.refl _) ?_
  refine dX rfl rfl rfl (qX (xs:=rs) (bs:=(bO zs27)) (b:=(cU (f 78))) rfl aOb bCe rfl rfl (by omega) (by omega)) ?_
  rintro _ _ ⟨rp42,rc43,rfl,rfl⟩
  refine aH ?_
  exact aO (aB (aB (d:=75) rfl k0) hs78) rfl ((aA 0 rfl).trans (aA 1 rfl))
 ·rintro f M-⟨i0,-⟩
  exact aU aY
 ·rintro f M ⟨k0,k1,-⟩-
  have hs79:f 79=sB (dG (f 79)) ((rs++[(bO zs27)])) (dH (f 79)):=k1
  refine dU (aB (aB (d:=80) rfl k0) hs79) ?_
  refine lu (mS 0 (#[Nx (bL k.head),Nx (0+rs.length),.slice none 0 0,sB (dG (f 79)) ((rs++[(bO zs27)])) (dH (f 79)),Nx (0+bJ rs)])) ?_
  refine aH ?_
  exact bB (aB (aB (d:=80) rfl k0) hs79) trivial (aA 0 rfl)
 rintro fa44 ⟨-,-,-,-,-,-,-,-,-⟩ ⟨j0,j1,j2,j3,-⟩
 refine jI ?_
 refine aD (d:=2) j0 (aD (d:=4) j1 (aD (d:=5) j2 (aD (d:=10) j3 (kM (lE aY (lE (cQ 4) ?_))))))
 refine lv (v:=Nx ((0+rs.length)+1)) (bX rfl rfl (dA (by omega) (by omega))) (lE aY ?_)
 refine lu (mS 4 (#[Nx (bL k.head),Nx ((0+rs.length)+1),.slice none 0 0,sB (dG (fa44 79)) ((rs++[(bO zs27)])) (dH (fa44 79)),Nx (0+bJ rs)])) ?_
 refine wU (lE aY (lE (cQ 4) (lE fN (lE gO (lv (v:=Nx (24+((bO zs27).length))) (bX rfl rfl (dA (by omega) (by omega))) ?_)))))
 refine lv (v:=Nx ((0+bJ rs)+(24+((bO zs27).length)))) (bX rfl rfl (dA (by omega) (by omega))) (lE aY ?_)
 refine lu (mS 4 (#[Nx (bL k.head),Nx ((0+rs.length)+1),.slice none 0 0,sB (dG (fa44 79)) ((rs++[(bO zs27)])) (dH (fa44 79)),Nx ((0+bJ rs)+(24+((bO zs27).length)))])) ?_
 refine aH (aR ?_)
 have hnx:=aBn hfu hle hrs (by rw[←hz28];exact hrb) (by rw[←hz28];omega) (by omega) (by rw[←hz28];omega)
 rw[←hz28]at hnx
 refine vP [3,4,0,1,2] 5 ?_
 refine dM [true,true,true,true,false] rfl ?_
 exact bI ⟨(f,(rs++[(bO zs27)]),(dG (fa44 79)),(dH (fa44 79))),⟨⟨rfl,rfl,rfl⟩,(by simp only[sB,rB,tH,List.length_append,List.length_cons,List.length_nil,Nat.add_assoc];try rfl),hnx⟩,(show f<f+1 from Nat.lt_succ_self f)⟩
end Go.Proofs
