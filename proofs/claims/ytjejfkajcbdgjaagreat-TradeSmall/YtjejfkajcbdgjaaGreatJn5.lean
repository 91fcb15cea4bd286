/-
 Read,walked. Printed by a program of my own.
-/
import Derived.Test.YtjejfkajcbdgjaaGreatJn4
set_option linter.all false
set_option maxHeartbeats 4000000
namespace Go.Proofs
open Go Go.Sl Go.Jn
theorem tU(l:List Bs)(b:Bs):bK (l++[b])=bK l+(24+b.length):=by
 induction l with
 |nil=>simp[bK]
 |cons a l ih=>simp only[List.cons_append,bK,ih];omega
theorem aHb(l:List Bs):24*l.length≤bK l:=by
 induction l with
 |nil=>simp[bK]
 |cons a l ih=>simp only[List.length_cons,bK];omega
theorem aBy{e:Int}{n0 s0 f:Nat}{ar:Bs}{rs R:List Bs}(_:(ar.drop (s0+bK rs)).length<f+1)(hle:s0+bK rs≤ar.length)(hrs:rs++oB e (f+1) (n0+rs.length) (ar.drop (s0+bK rs))=R)
 (hrb:kD e (ar.drop (s0+bK rs))=true)(hn:iE (ar.drop (s0+bK rs))=n0+rs.length)(h1:n0+rs.length≠4611686018427387904)(hl:24+(bP (ar.drop (s0+bK rs))).length≤(ar.drop (s0+bK rs)).length):
  (ar.drop (s0+bK (rs++[bP (ar.drop (s0+bK rs))]))).length<f∧s0+bK (rs++[bP (ar.drop (s0+bK rs))])≤ar.length∧
  (rs++[bP (ar.drop (s0+bK rs))])++oB e f (n0+(rs++[bP (ar.drop (s0+bK rs))]).length) (ar.drop (s0+bK (rs++[bP (ar.drop (s0+bK rs))])))=R:=by
 rw[tU]
 simp only[List.length_drop]at*
 refine⟨by omega,by omega,?_⟩
 rw[←hrs]
 conv=>rhs;rw[oB]
 rw[if_pos ⟨hrb,hn,h1⟩,List.drop_drop]
 simp[Nat.add_assoc]
theorem pL{e:Int}{n f:Nat}{xs:Bs}{rs R:List Bs}(hrs:rs++oB e (f+1) n xs=R)(h:¬(kD e xs=true∧iE xs=n∧n≠4611686018427387904)):rs=R:=by
 rw[oB,if_neg h]at hrs
 simpa using hrs
theorem aNs{k:KS}{ar:Bs}(h:k.area (bM k.head)=ar)(he:bM k.head≠0)(hb:kD ((bM k.head:Nat):Int) ar=false):pK k=none:=by
 unfold pK
 simp only[sB,rB,h,if_neg he,hb]
 rfl
theorem wM{k:KS}{ar:Bs}(h:k.area (bM k.head)=ar)(he:bM k.head≠0)(hb:kD ((bM k.head:Nat):Int) ar=true):
  pK k=some ⟨bM k.head,iE ar+(nE (bM k.head) (iE ar) (ar.drop (24+(bP ar).length))).length,bP ar,nE (bM k.head) (iE ar) (ar.drop (24+(bP ar).length)),(24+(bP ar).length)+bK (nE (bM k.head) (iE ar) (ar.drop (24+(bP ar).length)))⟩:=by
 unfold pK
 simp only[sB,rB,h,if_neg he,hb]
 rfl
theorem wN{k:KS}{ar:Bs}(h:k.area (bM k.head)=ar)(he:bM k.head=0):pK k=some ⟨0,(nE 0 0 (ar.drop 0)).length,[],nE 0 0 (ar.drop 0),bK (nE 0 0 (ar.drop 0))⟩:=by
 unfold pK
 rw[he]at h
 simp only[sB,rB,he,h]
 rfl
instance aUd:ZerC Tryz.prog 109 (.agg #[.int .i64 (0),.int .i64 (0),.slice none 0 0,.slice none 0 0,.int .i64 (0)]):={}
instance tf56:TyC Tryz.prog 29 true 4:={}
instance tf57:CfC Tryz.prog 81:={}
theorem aUe:xC Tryz.prog 109 [(0,1),(1,1),(2,1),(3,1),(4,1)]=true:=by kernel_rfl
instance aHf:TyC Tryz.prog 109 true 5:={}
instance tf60:CfC Tryz.prog 82:={}
instance bFn:CfC Tryz.prog 83:={}
instance aOo:CfC Tryz.prog 66:={}
instance tf63:FldC Tryz.prog 109 2 2 1 false:={}
instance tf64:FldC Tryz.prog 109 3 3 1 false:={}
instance tf65:TyC Tryz.prog 107 false 1:={}
theorem aOp:lY Tryz.prog 107 27 1=true:=by kernel_rfl
instance bCv:ZerC Tryz.prog 27 (.slice none 0 0):={}
theorem bCw:vR Tryz.prog 27 1 24=true:=by kernel_rfl
theorem aXp(β:Base)(w:World)(hw:St β [] w)(k:KS)(vh va vb:Value)(hH:Sl iT β.heap vh k.head)(hA:Sl iT β.heap va k.a)(hB:Sl iT β.heap vb k.b):Calls Tryz.prog 45 #[.agg #[vh,va,vb,Ix k.power]] w fun r w'=>(r= .returned (.tuple #[.agg #[.int .i64 0,.int .i64 0,.slice none 0 0,.slice none 0 0,.int .i64 0],.int .i64 2])∧¬k.okP∧St β [] w')∨(r= .returned (.tuple #[.agg #[.int .i64 0,.int .i64 0,.slice none 0 0,.slice none 0 0,.int .i64 0],.int .i64 311])∧k.okP∧pK k=none∧St β [] w')∨
  (∃i,k.okP∧pK k=some i∧∃ps pr cs cr,r= .returned (.tuple #[.agg #[Nx i.epoch,Nx i.next,sB ps i.state cs,sB pr i.recs cr,Nx i.size],.int .i64 0])∧St β [rB ps i.state cs,gQ 27 pr cr i.recs] w'):=by
 obtain⟨vha,vhc,rfl,vhl,vhm,vhe⟩:=hH.get
 obtain⟨vaa,vac,rfl,val,vam,vae⟩:=hA.get
 obtain⟨vba,vbc,rfl,vbl,vbm,vbe⟩:=hB.get
 refine enter (n:=92) Tryz.func45 rfl Tryz.ntmps45 rfl ?_ hw
 refine bD (mL fun b1=> ?_)
 refine gB fun b2=>lE bN (aN (eR (aC (lE (dK 1) ?_))))
 refine gI gH (fun w β1 sb kn hw1=>aUr β1 w hw1 k _ _ _ (Sl.mono _ _ _ _ _ sb (⟨⟨_,_,rfl,vhl,vhm,vhe⟩⟩:Sl iT _ _ k.head)) (Sl.mono _ _ _ _ _ sb (⟨⟨_,_,rfl,val,vam,vae⟩⟩:Sl iT _ _ k.a)) (Sl.mono _ _ _ _ _ sb (⟨⟨_,_,rfl,vbl,vbm,vbe⟩⟩:Sl iT _ _ k.b))) ?_
 refine lE ond (aN (cN _ rfl (fun hc3=> ?_) (fun hc3=> ?_)))
 ·refine bD ?_
  refine lv (v:= .agg #[.int .i64 (0),.int .i64 (0),.slice none 0 0,.slice none 0 0,.int .i64 (0)]) (bV aUd.ok aUe (vs:=[]) (cells:= #[.int .i64 (0),.int .i64 (0),.slice none 0 0,.slice none 0 0,.int .i64 (0)]) rfl rfl) ?_
  refine lu (mS 0 (#[.int .i64 (0),.int .i64 (0),.slice none 0 0,.slice none 0 0,.int .i64 (0)])) (lE bN (aN (aV (aI ?_))))
  refine gK (m:=[.agg #[.int .i64 (0),.int .i64 (0),.slice none 0 0,.slice none 0 0,.int .i64 (0)],.int .i64 (2)]) Tryz.results45 ⟨bS aHf.ok rfl (cD 0 rfl rfl) rfl,eP (v:= .int .i64 (2)) rfl,trivial⟩ rfl ?_
  intro w hw
  exact .inl ⟨rfl,by simpa using hc3,aG [false,false] rfl hw⟩
 have hok:k.okP:=Decidable.not_not.1 hc3
 refine eB (aL ?_)
 have hhd:k.head.length≤32:=by unfold KS.okP at hok;omega
 refine aC (lE aY (lE (fQ 1) ?_))
 refine gI gH (fun w β1 sb kn hw1=>aQq β1 w hw1 k.head _ (by omega) (Sl.mono _ _ _ _ _ sb (⟨⟨_,_,rfl,vhl,vhm,vhe⟩⟩:Sl iT _ _ k.head))) ?_
 refine lv (v:= .agg #[Nx (bM k.head),.int .i64 (0),.slice none 0 0,.slice none 0 0,.int .i64 (0)]) (bV aUd.ok aUe (vs:=[(0,Nx (bM k.head))]) (cells:= #[Nx (bM k.head),.int .i64 (0),.slice none 0 0,.slice none 0 0,.int .i64 (0)]) rfl rfl) ?_
 refine gB fun b4=>lu (mS 0 (#[Nx (bM k.head),.int .i64 (0),.slice none 0 0,.slice none 0 0,.int .i64 (0)])) (aN ?_)
 refine gL (fun(f:Fm) (L:List bU)=>∃ar a c,k.area (bM k.head)=ar∧ar.length≤262144∧Sl iT β.heap (sB a ar c) ar∧(f 2=pp b2 0∧f 4=pp b4 0∧f 5=sB a ar c)∧L=[pt b4 (.cells #[Nx (bM k.head),.int .i64 (0),.slice none 0 0,.slice none 0 0,.int .i64 (0)] 109),pt b2 (.cells #[.int .i64 (0),.int .i64 (0),.slice none 0 0,.slice none 0 0,.int .i64 (0)] 109),pt b1 (.cells #[sB vha k.head (vhc),sB vaa k.a (vac),sB vba k.b (vbc),Ix (k.power)] 29)]) ?_ ?_
 ·rcases Nat.mod_two_eq_zero_or_one (bM k.head)with hpar|hpar
  ·refine gS (by kernel_rfl) (by kernel_rfl) ?_
   refine lH (v:= .agg #[pp b1 1,pp b1 2]) rfl rfl rfl (cT (vs:=[pp b1 0]) aYj.ok rfl rfl) (fun w hw=> ?_) ?_
   ·obtain⟨β1,sb,kn,hw1,back⟩:=St.frame_all hw
    exact(lP β1 w hw1 b1).mono (fun e w' ⟨he,hw'⟩=>⟨he,aG [true,true,true] rfl (back _ _ hw')⟩)
   refine qE aY (qE (cY 0) ?_)
   refine dU (v:= .int .i64 (0)) rfl rfl rfl (eZ (by rw[hpar];rfl) (lR (a:=((bM k.head:Nat):Int)) (b:=(2:Int)) rfl rfl (by decide) (gG _ 2))) ?_
   refine dU (v:=pp b1 1) rfl rfl rfl (fP (cs:= #[pp b1 1,pp b1 2]) (k:=0) rfl rfl aEm.ok rfl (by decide) aHe.ok) (qE eS ?_)
   refine qE (fQ 2) (qE iO (lB ?_))
   exact bG ⟨_,_,_,aBa (k:=k) hpar,by unfold KS.okP at hok;omega,(⟨⟨_,_,rfl,val,vam,vae⟩⟩:Sl iT _ _ k.a),⟨rfl,rfl,rfl⟩,rfl⟩
  refine gS (by kernel_rfl) (by kernel_rfl) ?_
  refine lH (v:= .agg #[pp b1 1,pp b1 2]) rfl rfl rfl (cT (vs:=[pp b1 0]) aYj.ok rfl rfl) (fun w hw=> ?_) ?_
  ·obtain⟨β1,sb,kn,hw1,back⟩:=St.frame_all hw
   exact(lP β1 w hw1 b1).mono (fun e w' ⟨he,hw'⟩=>⟨he,aG [true,true,true] rfl (back _ _ hw')⟩)
  refine qE aY (qE (cY 0) ?_)
  refine dU (v:= .int .i64 (1)) rfl rfl rfl (eZ (by rw[hpar];rfl) (lR (a:=((bM k.head:Nat):Int)) (b:=(2:Int)) rfl rfl (by decide) (gG _ 2))) ?_
  refine dU (v:=pp b1 2) rfl rfl rfl (fP (cs:= #[pp b1 1,pp b1 2]) (k:=1) rfl rfl aEm.ok rfl (by decide) aHe.ok) (qE eS ?_)
  refine qE (fQ 2) (qE iO (lB ?_))
  exact bG ⟨_,_,_,aFb (k:=k) hpar,by unfold KS.okP at hok;omega,(⟨⟨_,_,rfl,vbl,vbm,vbe⟩⟩:Sl iT _ _ k.b),⟨rfl,rfl,rfl⟩,rfl⟩
 rintro f0 L0 ⟨ar,aa,ac,har,hl4,hasl,⟨hs2,hs4,hs5⟩,hL⟩
 subst L0
 refine bJ 2 hs2 (bJ 4 hs4 (bJ 5 hs5 ?_))
 obtain⟨_,hal,ham,hae⟩:=hasl.parts
 refine eR (aC (lE aY (lE (cY 0) (lE oQ (aN (cN _ rfl (fun hc5=> ?_) (fun hc5=> ?_)))))))
 ·refine bD (lE aY (lE (cY 0) (lE fL ?_)))
  refine gI gH (fun w β1 sb kn hw1=>wO β1 w hw1 ((bM k.head:Nat):Int) ar aa ac (by omega) (by omega) (dH.mono _ _ _ _ _ sb hae)) ?_
  refine lE oM (lE pW (lE oxs (lE yA (lE bN (lE iO (lE dP (aN (eR (aC (lE fM (lE mB (aN ?_))))))))))))
  refine fH (!(kD ((bM k.head:Nat):Int) ar)) rfl (fun hc6=> ?_) (fun hc6=> ?_)
  ·refine bD ?_
   refine lv (v:= .agg #[.int .i64 (0),.int .i64 (0),.slice none 0 0,.slice none 0 0,.int .i64 (0)]) (bV aUd.ok aUe (vs:=[]) (cells:= #[.int .i64 (0),.int .i64 (0),.slice none 0 0,.slice none 0 0,.int .i64 (0)]) rfl rfl) ?_
   refine lu (mS 1 (#[.int .i64 (0),.int .i64 (0),.slice none 0 0,.slice none 0 0,.int .i64 (0)])) (lE bN (aN (aV (aI (aI ?_)))))
   refine gK (m:=[.agg #[.int .i64 (0),.int .i64 (0),.slice none 0 0,.slice none 0 0,.int .i64 (0)],.int .i64 (311)]) Tryz.results45 ⟨bS aHf.ok rfl (cD 1 rfl rfl) rfl,eP (v:= .int .i64 (311)) rfl,trivial⟩ rfl ?_
   intro w hw
   exact .inr (.inl ⟨rfl,hok,aNs har (by omega) (by simpa using hc6),aG [false,false,false] rfl hw⟩)
  refine eB ?_
  have hrb0:kD ((bM k.head:Nat):Int) ar=true:=by simpa using hc6
  have hrl0:=zT hrb0
  have hrN0:=tS (xs:=ar)
  have hrP0:=tT (xs:=ar)
  refine aC (lE aU (lE fL ?_))
  refine pV (cT (vs:=[sB (rR aa ac ar) (bP ar) ((rE ac ar))]) aOo.ok rfl rfl) rfl fun w β1 sb kn hw1 back=>(lQ β1 w hw1 (bP ar) _ (by omega) (Sl.mono _ _ _ _ _ sb (aIw (by omega) (by omega) hae))).mono ?_
  rintro e w' ⟨p7,c8,rfl,hw'⟩
  refine⟨_,rfl,_,back _ _ hw',?_⟩
  refine lE fL (lE gY (lv (v:=Nx (24+((bP ar).length))) (bO rfl rfl (cW (by omega) (by omega))) (lE aY ?_)))
  refine lu (mS 1 (#[Nx (bM k.head),Nx (iE ar),.slice none 0 0,.slice none 0 0,.int .i64 (0)])) (lE aY ?_)
  refine lu (mS 1 (#[Nx (bM k.head),Nx (iE ar),sB p7 ((bP ar)) c8,.slice none 0 0,.int .i64 (0)])) (lE aY ?_)
  refine lu (mS 1 (#[Nx (bM k.head),Nx (iE ar),sB p7 ((bP ar)) c8,.slice none 0 0,Nx (24+((bP ar).length))])) (aN (aJ ?_))
  refine iK (r:=gQ 27 none 0 []) (zU _ _) ?_
  refine cZ (fun(x_:Nat×List Bs×Option Addr×Nat) f L=>match x_ with|(fu,rs,pr,cr)=>(f 2=pp b2 0∧f 4=pp b4 0∧f 5=sB aa ar (ac))∧L=[gQ 27 pr cr rs,rB p7 ((bP ar)) c8,pt b4 (.cells #[Nx (bM k.head),Nx ((iE ar)+rs.length),sB p7 ((bP ar)) c8,sB pr rs cr,Nx ((24+(bP ar).length)+bK rs)] 109),pt b2 (.cells #[.int .i64 (0),.int .i64 (0),.slice none 0 0,.slice none 0 0,.int .i64 (0)] 109),pt b1 (.cells #[sB vha k.head (vhc),sB vaa k.a (vac),sB vba k.b (vbc),Ix (k.power)] 29)]∧(((ar.drop ((24+(bP ar).length)+bK rs)).length<fu)∧(24+(bP ar).length)+bK rs≤ar.length∧rs++oB ((bM k.head:Nat):Int) fu ((iE ar)+rs.length) (ar.drop ((24+(bP ar).length)+bK rs))=(nE (bM k.head) (iE ar) (ar.drop (24+(bP ar).length))))) (fun(fu,rs,pr,cr)=>fu) (((ar.drop (24+(bP ar).length)).length+1),[],none,0) ?_ ?_
  ·exact⟨⟨rfl,rfl,rfl⟩,(by show [gQ 27 none 0 [],rB p7 ((bP ar)) c8,pt b4 (.cells #[Nx (bM k.head),Nx (iE ar),sB p7 ((bP ar)) c8,.slice none 0 0,Nx (24+((bP ar).length))] 109),pt b2 (.cells #[.int .i64 (0),.int .i64 (0),.slice none 0 0,.slice none 0 0,.int .i64 (0)] 109),pt b1 (.cells #[sB vha k.head (vhc),sB vaa k.a (vac),sB vba k.b (vbc),Ix (k.power)] 29)]=_;simp only[sB,rB,bK,List.length_nil,Nat.add_zero,Nat.zero_add];try rfl),⟨by simp[bK],by simp only[sB,rB,bK];omega,by simp[bK,nE]⟩⟩
  rintro⟨fu,rs,pr,cr⟩ f0 L0 ⟨⟨hs2,hs4,hs5⟩,hL,⟨hfu,hle,hrs⟩⟩
  subst L0
  refine bJ 2 hs2 (bJ 4 hs4 (bJ 5 hs5 ?_))
  obtain⟨f,rfl⟩:∃f,fu=f+1:=⟨fu-1,by omega⟩
  have hsg:=aHb rs
  refine aJ (aL (gS (by kernel_rfl) (by kernel_rfl) (qE aY (qE (cY 2) (qE fL (qE aY (qE (cY 2) ?_)))))))
  obtain⟨zs9,hz10⟩:∃zs,zs=(ar.drop ((24+(bP ar).length)+bK rs)):=⟨_,rfl⟩
  have zl11:zs9.length=(ar).length-((24+(bP ar).length)+bK rs):=by rw[hz10];simp;try omega
  have ze12:=(dH.drop (cap:=ac) ((24+(bP ar).length)+bK rs) (by first|omega|(simp;omega)) hae)
  rw[←hz10]at ze12
  refine dU (v:= .slice (sD aa ac ((24+(bP ar).length)+bK rs) 1) (zs9.length) ((ac-((24+(bP ar).length)+bK rs)))) rfl rfl rfl (eZ (by rw[show zs9.length=ar.length-((24+(bP ar).length)+bK rs) by omega]) (yT (a:=aa) (len:=ar.length) (cap:=ac) (l:=(24+(bP ar).length)+bK rs) kE rfl rfl (by omega))) ?_
  refine lH (v:= .tuple #[Nx (iE zs9),sB (rR (sD aa ac ((24+(bP ar).length)+bK rs) 1) (ac-((24+(bP ar).length)+bK rs)) zs9) (bP zs9) ((rE (ac-((24+(bP ar).length)+bK rs)) zs9)),.bool (kD ((bM k.head:Nat):Int) zs9)]) rfl rfl rfl (cT (vs:=[Nx (bM k.head),sB (sD aa ac ((24+(bP ar).length)+bK rs) 1) zs9 ((ac-((24+(bP ar).length)+bK rs)))]) bFn.ok rfl rfl) (fun w hw=> ?_) ?_
  ·obtain⟨β1,sb,kn,hw1,back⟩:=St.frame_all hw
   exact(wO β1 w hw1 ((bM k.head:Nat):Int) zs9 (sD aa ac ((24+(bP ar).length)+bK rs) 1) (ac-((24+(bP ar).length)+bK rs)) (by omega) (by omega) (dH.mono _ _ _ _ _ sb ze12)).mono (fun e w' ⟨he,hw'⟩=>⟨he,aG [true,true,true,true,true] rfl (back _ _ hw')⟩)
  refine qE oM (qE pW (qE oxs (qE yA (qE bN (qE iO (qE dP (lB (qV (aL ?_)))))))))
  have hrN:=tS (xs:=zs9)
  have hrP:=tT (xs:=zs9)
  refine aC (lE fM (lE mB (lE fM (zB (s:=63) (b:= !(kD ((bM k.head:Nat):Int) zs9)) rfl (fun hg13=> ?_) (fun hg13=> ?_)))))
  ·refine iP (iP (iP (iP (lE eF (lE fM (iP (iP (lE eF (aN (dN rfl (bD (lE (dK 2) ?_))))))))))))
   refine lu (mS 3 (#[Nx (bM k.head),Nx ((iE ar)+rs.length),sB p7 ((bP ar)) c8,sB pr rs cr,Nx ((24+(bP ar).length)+bK rs)])) ?_
   refine lE bN (aN (aV (aI (aR (aI (aR ?_))))))
   refine gK (m:=[.agg #[Nx (bM k.head),Nx ((iE ar)+rs.length),sB p7 ((bP ar)) c8,sB pr rs cr,Nx ((24+(bP ar).length)+bK rs)],.int .i64 (0)]) Tryz.results45 ⟨bS aHf.ok rfl (cD 3 rfl rfl) rfl,eP (v:= .int .i64 (0)) rfl,trivial⟩ rfl ?_
   intro w hw
   have hend:=pL hrs (by rw[←hz10];rintro⟨q1,q2,q3⟩;simp[q1]at hg13)
   have hw2:=aG [true,true,false,false,false] rfl (hw.perm (L':=[rB p7 ((bP ar)) c8,gQ 27 pr cr rs,pt b4 (.cells #[Nx (bM k.head),Nx ((iE ar)+rs.length),sB p7 ((bP ar)) c8,sB pr rs cr,Nx ((24+(bP ar).length)+bK rs)] 109),pt b2 (.cells #[Nx (bM k.head),Nx ((iE ar)+rs.length),sB p7 ((bP ar)) c8,sB pr rs cr,Nx ((24+(bP ar).length)+bK rs)] 109),pt b1 (.cells #[sB vha k.head (vhc),sB vaa k.a (vac),sB vba k.b (vbc),Ix (k.power)] 29)]) (by exact(aW [1,0,2,3,4] 5 rfl (by kernel_rfl) (by kernel_rfl))))
   rw[hend]at hw2⊢
   exact .inr (.inr ⟨_,hok,wM har (by omega) hrb0,_,_,_,_,rfl,hw2⟩)
  refine gE aU (gE aY (gE (cY 2) (gE lO (lE dT (lE fM (eO (s:=69) rfl (fun hg14=> ?_) (fun hg14=> ?_)))))))
  ·refine iP (iP (lE eF (aN (dN rfl (bD (lE (dK 2) ?_))))))
   refine lu (mS 3 (#[Nx (bM k.head),Nx ((iE ar)+rs.length),sB p7 ((bP ar)) c8,sB pr rs cr,Nx ((24+(bP ar).length)+bK rs)])) ?_
   refine lE bN (aN (aV (aI (aR (aI (aR ?_))))))
   refine gK (m:=[.agg #[Nx (bM k.head),Nx ((iE ar)+rs.length),sB p7 ((bP ar)) c8,sB pr rs cr,Nx ((24+(bP ar).length)+bK rs)],.int .i64 (0)]) Tryz.results45 ⟨bS aHf.ok rfl (cD 3 rfl rfl) rfl,eP (v:= .int .i64 (0)) rfl,trivial⟩ rfl ?_
   intro w hw
   have hend:=pL hrs (by rw[←hz10];rintro⟨q1,q2,q3⟩;exact hg14 (by rw[q2]))
   have hw2:=aG [true,true,false,false,false] rfl (hw.perm (L':=[rB p7 ((bP ar)) c8,gQ 27 pr cr rs,pt b4 (.cells #[Nx (bM k.head),Nx ((iE ar)+rs.length),sB p7 ((bP ar)) c8,sB pr rs cr,Nx ((24+(bP ar).length)+bK rs)] 109),pt b2 (.cells #[Nx (bM k.head),Nx ((iE ar)+rs.length),sB p7 ((bP ar)) c8,sB pr rs cr,Nx ((24+(bP ar).length)+bK rs)] 109),pt b1 (.cells #[sB vha k.head (vhc),sB vaa k.a (vac),sB vba k.b (vbc),Ix (k.power)] 29)]) (by exact(aW [1,0,2,3,4] 5 rfl (by kernel_rfl) (by kernel_rfl))))
   rw[hend]at hw2⊢
   exact .inr (.inr ⟨_,hok,wM har (by omega) hrb0,_,_,_,_,rfl,hw2⟩)
  refine gE aU (gE fD (lE dT (aN (cN _ rfl (fun hc15=> ?_) (fun hc15=> ?_)))))
  ·refine bD (lE (dK 2) ?_)
   refine lu (mS 3 (#[Nx (bM k.head),Nx ((iE ar)+rs.length),sB p7 ((bP ar)) c8,sB pr rs cr,Nx ((24+(bP ar).length)+bK rs)])) ?_
   refine lE bN (aN (aV (aI (aR (aI (aR ?_))))))
   refine gK (m:=[.agg #[Nx (bM k.head),Nx ((iE ar)+rs.length),sB p7 ((bP ar)) c8,sB pr rs cr,Nx ((24+(bP ar).length)+bK rs)],.int .i64 (0)]) Tryz.results45 ⟨bS aHf.ok rfl (cD 3 rfl rfl) rfl,eP (v:= .int .i64 (0)) rfl,trivial⟩ rfl ?_
   intro w hw
   have hend:=pL hrs (by rw[←hz10];rintro⟨q1,q2,q3⟩;omega)
   have hw2:=aG [true,true,false,false,false] rfl (hw.perm (L':=[rB p7 ((bP ar)) c8,gQ 27 pr cr rs,pt b4 (.cells #[Nx (bM k.head),Nx ((iE ar)+rs.length),sB p7 ((bP ar)) c8,sB pr rs cr,Nx ((24+(bP ar).length)+bK rs)] 109),pt b2 (.cells #[Nx (bM k.head),Nx ((iE ar)+rs.length),sB p7 ((bP ar)) c8,sB pr rs cr,Nx ((24+(bP ar).length)+bK rs)] 109),pt b1 (.cells #[sB vha k.head (vhc),sB vaa k.a (vac),sB vba k.b (vbc),Ix (k.power)] 29)]) (by exact(aW [1,0,2,3,4] 5 rfl (by kernel_rfl) (by kernel_rfl))))
   rw[hend]at hw2⊢
   exact .inr (.inr ⟨_,hok,wM har (by omega) hrb0,_,_,_,_,rfl,hw2⟩)
  refine eB (aL ?_)
  have hrb:kD ((bM k.head:Nat):Int) zs9=true:=by simpa using hg13
  have hrl:=zT hrb
  refine jS [sv 74 (pp b4 3) [] [] [0],sv 75 (sB pr rs cr) [0] [0] [],sv 76 (sB (rR (sD aa ac ((24+(bP ar).length)+bK rs) 1) (ac-((24+(bP ar).length)+bK rs)) zs9) (bP zs9) ((rE (ac-((24+(bP ar).length)+bK rs)) zs9))) [] [] [1],⟨[2],[2],[],[77],fun f=>f 77=sB (dC (f 77)) ((bP zs9)) (dE (f 77))⟩,⟨[2,3],[3],[],[78],fun f=>f 78= .slice (some ⟨(bY (f 78)),0,none⟩) 1 1⟩,⟨[0,1,2,3,4],[1,4],[],[79],fun f=>f 79=sB (dC (f 79)) ((rs++[(bP zs9)])) (dE (f 79))⟩,sv 80 (pp b4 3) (List.range 6) [] [0],⟨(List.range 7),[6,5],[],[],fun _=>True⟩] [(some 5,[5]),u0,(some 7,[1,7])] [⟨(some 3),(some 5),[5],[77],fun f=>rB (dC (f 77)) ((bP zs9)) (dE (f 77))⟩,⟨(some 4),none,[5],[77,78],fun f=>pt (bY (f 78)) (.cells #[sB (dC (f 77)) ((bP zs9)) (dE (f 77))] 27)⟩,⟨(some 5),none,[],[79],fun f=>gQ 27 (dC (f 79)) (dE (f 79)) (rs++[(bP zs9)])⟩,⟨(some 7),none,[],[79],fun f=>pt b4 (.cells #[Nx (bM k.head),Nx ((iE ar)+rs.length),sB p7 ((bP ar)) c8,sB (dC (f 79)) ((rs++[(bP zs9)])) (dE (f 79)),Nx ((24+(bP ar).length)+bK rs)] 109)⟩] [(4,pp b4 0),(10,sB (rR (sD aa ac ((24+(bP ar).length)+bK rs) 1) (ac-((24+(bP ar).length)+bK rs)) zs9) (bP zs9) ((rE (ac-((24+(bP ar).length)+bK rs)) zs9))),(2,pp b2 0),(5,sB aa ar (ac))] [2,0,3,1] ⟨rfl,rfl,rfl,rfl,trivial⟩ ⟨?_,?_,?_,?_,?_,?_,?_,?_,trivial⟩ ?_
  ·rintro f M-⟨i0,-⟩
   exact aT aY
  ·rintro f M ⟨k0,-⟩-
   exact aT (fQ 0)
  ·rintro f M-⟨i0,-⟩
   exact aT fL
  ·rintro f M ⟨k0,-⟩-
   refine dL (aA (d:=76) rfl k0) ?_
   refine pV (cT (vs:=[sB (rR (sD aa ac ((24+(bP ar).length)+bK rs) 1) (ac-((24+(bP ar).length)+bK rs)) zs9) (bP zs9) ((rE (ac-((24+(bP ar).length)+bK rs)) zs9))]) aOo.ok rfl rfl) rfl fun w β1 sb kn hw1 back=>(lQ β1 w hw1 (bP zs9) _ (by omega) (Sl.mono _ _ _ _ _ sb (aIw (by omega) (by omega) ze12))).mono ?_
   rintro e w' ⟨p18,c19,rfl,hw'⟩
   refine⟨_,rfl,_,back _ _ hw',?_⟩
   refine aH ?_
   exact aO (aA (d:=76) rfl k0) rfl (aB 0 rfl)
  ·rintro f M ⟨k0,-⟩-
   have hs77:f 77=sB (dC (f 77)) ((bP zs9)) (dE (f 77)):=k0
   refine dL (aA rfl hs77) ?_
   refine dA rfl rfl rfl (bZ aOp bCv.ok (cells:= #[sB (dC (f 77)) ((bP zs9)) (dE (f 77))]) rfl rfl rfl rfl) ?_
   rintro _ _ ⟨b21,rfl,rfl⟩
   refine aH ?_
   exact aO (aA rfl hs77) rfl (aB 0 rfl)
  ·rintro f M ⟨k0,k1,-⟩-
   have hs78:f 78= .slice (some ⟨(bY (f 78)),0,none⟩) 1 1:=k1
   refine dL (aA (aA (d:=75) rfl k0) hs78) ?_
   refine aDl (L':=(gQ 27 pr cr rs::rB (dC (f 77)) ((bP zs9)) (dE (f 77))::pt (bY (f 78)) (.cells #[sB (dC (f 77)) ((bP zs9)) (dE (f 77))] 27)::M)) (List.Perm.refl _) ?_
   refine dA rfl rfl rfl (rL (xs:=rs) (bs:=(bP zs9)) (b:=(bY (f 78))) rfl aOp bCw rfl rfl (by omega) (by omega)) ?_
   rintro _ _ ⟨rp24,rc25,rfl,rfl⟩
   refine aH ?_
   exact aO (aA (aA (d:=75) rfl k0) hs78) rfl ((aB 0 rfl).trans (aB 1 rfl))
  ·rintro f M-⟨i0,-⟩
   exact aT aY
  ·rintro f M ⟨k0,k1,-⟩-
   have hs79:f 79=sB (dC (f 79)) ((rs++[(bP zs9)])) (dE (f 79)):=k1
   refine dL (aA (aA (d:=80) rfl k0) hs79) ?_
   refine lu (mS 0 (#[Nx (bM k.head),Nx ((iE ar)+rs.length),sB p7 ((bP ar)) c8,sB (dC (f 79)) ((rs++[(bP zs9)])) (dE (f 79)),Nx ((24+(bP ar).length)+bK rs)])) ?_
   refine aH ?_
   exact bC (aA (aA (d:=80) rfl k0) hs79) trivial (aB 0 rfl)
  rintro fa26 ⟨-,-,-,-,-,-,-,-,-⟩ ⟨j0,j1,j2,j3,-⟩
  refine jD ?_
  refine aD (d:=2) j0 (aD (d:=4) j1 (aD (d:=5) j2 (aD (d:=10) j3 (kM (lE aY (lE (cY 5) ?_))))))
  refine lv (v:=Nx (((iE ar)+rs.length)+1)) (bO rfl rfl (cW (by omega) (by omega))) (lE aY ?_)
  refine lu (mS 5 (#[Nx (bM k.head),Nx (((iE ar)+rs.length)+1),sB p7 ((bP ar)) c8,sB (dC (fa26 79)) ((rs++[(bP zs9)])) (dE (fa26 79)),Nx ((24+(bP ar).length)+bK rs)])) ?_
  refine xJ (lE aY (lE (cY 5) (lE fL (lE gY (lv (v:=Nx (24+((bP zs9).length))) (bO rfl rfl (cW (by omega) (by omega))) ?_)))))
  refine lv (v:=Nx (((24+(bP ar).length)+bK rs)+(24+((bP zs9).length)))) (bO rfl rfl (cW (by omega) (by omega))) (lE aY ?_)
  refine lu (mS 5 (#[Nx (bM k.head),Nx (((iE ar)+rs.length)+1),sB p7 ((bP ar)) c8,sB (dC (fa26 79)) ((rs++[(bP zs9)])) (dE (fa26 79)),Nx (((24+(bP ar).length)+bK rs)+(24+((bP zs9).length)))])) ?_
  refine aH (aP ?_)
  have hnx:=aBy hfu hle hrs (by rw[←hz10];exact hrb) (by rw[←hz10];omega) (by omega) (by rw[←hz10];omega)
  rw[←hz10]at hnx
  refine tZ [4,0,5,1,2,3] 6 ?_
  refine dD [true,true,true,true,true,false] rfl ?_
  exact bG ⟨(f,(rs++[(bP zs9)]),(dC (fa26 79)),(dE (fa26 79))),⟨⟨rfl,rfl,rfl⟩,(by simp only[sB,rB,tU,List.length_append,List.length_cons,List.length_nil,Nat.add_assoc];try rfl),hnx⟩,(show f<f+1 from Nat.lt_succ_self f)⟩
 refine eB (aJ (iK (r:=gQ 27 none 0 []) (zU _ _) ?_))
 refine cZ (fun(x_:Nat×List Bs×Option Addr×Nat) f L=>match x_ with|(fu,rs,pr,cr)=>(f 2=pp b2 0∧f 4=pp b4 0∧f 5=sB aa ar (ac))∧L=[gQ 27 pr cr rs,pt b4 (.cells #[Nx (bM k.head),Nx (0+rs.length),.slice none 0 0,sB pr rs cr,Nx (0+bK rs)] 109),pt b2 (.cells #[.int .i64 (0),.int .i64 (0),.slice none 0 0,.slice none 0 0,.int .i64 (0)] 109),pt b1 (.cells #[sB vha k.head (vhc),sB vaa k.a (vac),sB vba k.b (vbc),Ix (k.power)] 29)]∧(((ar.drop (0+bK rs)).length<fu)∧0+bK rs≤ar.length∧rs++oB ((bM k.head:Nat):Int) fu (0+rs.length) (ar.drop (0+bK rs))=(nE (bM k.head) 0 (ar.drop 0)))) (fun(fu,rs,pr,cr)=>fu) (((ar.drop 0).length+1),[],none,0) ?_ ?_
 ·exact⟨⟨rfl,rfl,rfl⟩,(by show [gQ 27 none 0 [],pt b4 (.cells #[Nx (bM k.head),.int .i64 (0),.slice none 0 0,.slice none 0 0,.int .i64 (0)] 109),pt b2 (.cells #[.int .i64 (0),.int .i64 (0),.slice none 0 0,.slice none 0 0,.int .i64 (0)] 109),pt b1 (.cells #[sB vha k.head (vhc),sB vaa k.a (vac),sB vba k.b (vbc),Ix (k.power)] 29)]=_;simp only[sB,rB,bK,List.length_nil,Nat.add_zero,Nat.zero_add];try rfl),⟨by simp[bK],by simp only[sB,rB,bK];omega,by simp[bK,nE]⟩⟩
 rintro⟨fu,rs,pr,cr⟩ f0 L0 ⟨⟨hs2,hs4,hs5⟩,hL,⟨hfu,hle,hrs⟩⟩
 subst L0
 refine bJ 2 hs2 (bJ 4 hs4 (bJ 5 hs5 ?_))
 obtain⟨f,rfl⟩:∃f,fu=f+1:=⟨fu-1,by omega⟩
 have hsg:=aHb rs
 refine aJ (aL (gS (by kernel_rfl) (by kernel_rfl) (qE aY (qE (cY 1) (qE fL (qE aY (qE (cY 1) ?_)))))))
 obtain⟨zs27,hz28⟩:∃zs,zs=(ar.drop (0+bK rs)):=⟨_,rfl⟩
 have zl29:zs27.length=(ar).length-(0+bK rs):=by rw[hz28];simp;try omega
 have ze30:=(dH.drop (cap:=ac) (0+bK rs) (by first|omega|(simp;omega)) hae)
 rw[←hz28]at ze30
 refine dU (v:= .slice (sD aa ac (0+bK rs) 1) (zs27.length) ((ac-(0+bK rs)))) rfl rfl rfl (eZ (by rw[show zs27.length=ar.length-(0+bK rs) by omega]) (yT (a:=aa) (len:=ar.length) (cap:=ac) (l:=0+bK rs) kE rfl rfl (by omega))) ?_
 refine lH (v:= .tuple #[Nx (iE zs27),sB (rR (sD aa ac (0+bK rs) 1) (ac-(0+bK rs)) zs27) (bP zs27) ((rE (ac-(0+bK rs)) zs27)),.bool (kD ((bM k.head:Nat):Int) zs27)]) rfl rfl rfl (cT (vs:=[Nx (bM k.head),sB (sD aa ac (0+bK rs) 1) zs27 ((ac-(0+bK rs)))]) bFn.ok rfl rfl) (fun w hw=> ?_) ?_
 ·obtain⟨β1,sb,kn,hw1,back⟩:=St.frame_all hw
  exact(wO β1 w hw1 ((bM k.head:Nat):Int) zs27 (sD aa ac (0+bK rs) 1) (ac-(0+bK rs)) (by omega) (by omega) (dH.mono _ _ _ _ _ sb ze30)).mono (fun e w' ⟨he,hw'⟩=>⟨he,aG [true,true,true,true] rfl (back _ _ hw')⟩)
 refine qE oM (qE pW (qE oxs (qE yA (qE bN (qE iO (qE dP (lB (qV (aL ?_)))))))))
 have hrN:=tS (xs:=zs27)
 have hrP:=tT (xs:=zs27)
 refine aC (lE fM (lE mB (lE fM (zB (s:=63) (b:= !(kD ((bM k.head:Nat):Int) zs27)) rfl (fun hg31=> ?_) (fun hg31=> ?_)))))
 ·refine iP (iP (iP (iP (lE eF (lE fM (iP (iP (lE eF (aN (dN rfl (bD (lE (dK 1) ?_))))))))))))
  refine lu (mS 2 (#[Nx (bM k.head),Nx (0+rs.length),.slice none 0 0,sB pr rs cr,Nx (0+bK rs)])) (lE bN (aN (aV (aI ?_))))
  refine aR (aI (aR ?_))
  refine gK (m:=[.agg #[Nx (bM k.head),Nx (0+rs.length),.slice none 0 0,sB pr rs cr,Nx (0+bK rs)],.int .i64 (0)]) Tryz.results45 ⟨bS aHf.ok rfl (cD 2 rfl rfl) rfl,eP (v:= .int .i64 (0)) rfl,trivial⟩ rfl ?_
  intro w hw
  have hend:=pL hrs (by rw[←hz28];rintro⟨q1,q2,q3⟩;simp[q1]at hg31)
  have hw2:=aG [true,false,false,false] rfl hw
  rw[hend]at hw2⊢
  refine .inr (.inr ⟨_,hok,wN har (by omega),none,_,0,_,(by rw[show bM k.head=0 by omega];simp only[Nat.zero_add,Nat.add_zero];rfl),?_⟩)
  have hw3:=hw2.emp (eA 5 1 _)
  rw[show bM k.head=0 by omega]at hw3
  exact hw3
 refine gE aU (gE aY (gE (cY 1) (gE lO (lE dT (lE fM (eO (s:=69) rfl (fun hg32=> ?_) (fun hg32=> ?_)))))))
 ·refine iP (iP (lE eF (aN (dN rfl (bD (lE (dK 1) ?_))))))
  refine lu (mS 2 (#[Nx (bM k.head),Nx (0+rs.length),.slice none 0 0,sB pr rs cr,Nx (0+bK rs)])) (lE bN (aN (aV (aI ?_))))
  refine aR (aI (aR ?_))
  refine gK (m:=[.agg #[Nx (bM k.head),Nx (0+rs.length),.slice none 0 0,sB pr rs cr,Nx (0+bK rs)],.int .i64 (0)]) Tryz.results45 ⟨bS aHf.ok rfl (cD 2 rfl rfl) rfl,eP (v:= .int .i64 (0)) rfl,trivial⟩ rfl ?_
  intro w hw
  have hend:=pL hrs (by rw[←hz28];rintro⟨q1,q2,q3⟩;exact hg32 (by rw[q2]))
  have hw2:=aG [true,false,false,false] rfl hw
  rw[hend]at hw2⊢
  refine .inr (.inr ⟨_,hok,wN har (by omega),none,_,0,_,(by rw[show bM k.head=0 by omega];simp only[Nat.zero_add,Nat.add_zero];rfl),?_⟩)
  have hw3:=hw2.emp (eA 5 1 _)
  rw[show bM k.head=0 by omega]at hw3
  exact hw3
 refine gE aU (gE fD (lE dT (aN (cN _ rfl (fun hc33=> ?_) (fun hc33=> ?_)))))
 ·refine bD (lE (dK 1) (lu (mS 2 (#[Nx (bM k.head),Nx (0+rs.length),.slice none 0 0,sB pr rs cr,Nx (0+bK rs)])) (lE bN (aN (aV ?_)))))
  refine aI (aR (aI (aR ?_)))
  refine gK (m:=[.agg #[Nx (bM k.head),Nx (0+rs.length),.slice none 0 0,sB pr rs cr,Nx (0+bK rs)],.int .i64 (0)]) Tryz.results45 ⟨bS aHf.ok rfl (cD 2 rfl rfl) rfl,eP (v:= .int .i64 (0)) rfl,trivial⟩ rfl ?_
  intro w hw
  have hend:=pL hrs (by rw[←hz28];rintro⟨q1,q2,q3⟩;omega)
  have hw2:=aG [true,false,false,false] rfl hw
  rw[hend]at hw2⊢
  refine .inr (.inr ⟨_,hok,wN har (by omega),none,_,0,_,(by rw[show bM k.head=0 by omega];simp only[Nat.zero_add,Nat.add_zero];rfl),?_⟩)
  have hw3:=hw2.emp (eA 5 1 _)
  rw[show bM k.head=0 by omega]at hw3
  exact hw3
 refine eB (aL ?_)
 have hrb:kD ((bM k.head:Nat):Int) zs27=true:=by simpa using hg31
 have hrl:=zT hrb
 refine jS [sv 74 (pp b4 3) [] [] [0],sv 75 (sB pr rs cr) [0] [0] [],sv 76 (sB (rR (sD aa ac (0+bK rs) 1) (ac-(0+bK rs)) zs27) (bP zs27) ((rE (ac-(0+bK rs)) zs27))) [] [] [1],⟨[2],[2],[],[77],fun f=>f 77=sB (dC (f 77)) ((bP zs27)) (dE (f 77))⟩,⟨[2,3],[3],[],[78],fun f=>f 78= .slice (some ⟨(bY (f 78)),0,none⟩) 1 1⟩,⟨[0,1,2,3,4],[1,4],[],[79],fun f=>f 79=sB (dC (f 79)) ((rs++[(bP zs27)])) (dE (f 79))⟩,sv 80 (pp b4 3) (List.range 6) [] [0],⟨(List.range 7),[6,5],[],[],fun _=>True⟩] [(some 5,[5]),(some 7,[1,7])] [⟨(some 3),(some 5),[5],[77],fun f=>rB (dC (f 77)) ((bP zs27)) (dE (f 77))⟩,⟨(some 4),none,[5],[77,78],fun f=>pt (bY (f 78)) (.cells #[sB (dC (f 77)) ((bP zs27)) (dE (f 77))] 27)⟩,⟨(some 5),none,[],[79],fun f=>gQ 27 (dC (f 79)) (dE (f 79)) (rs++[(bP zs27)])⟩,⟨(some 7),none,[],[79],fun f=>pt b4 (.cells #[Nx (bM k.head),Nx (0+rs.length),.slice none 0 0,sB (dC (f 79)) ((rs++[(bP zs27)])) (dE (f 79)),Nx (0+bK rs)] 109)⟩] [(4,pp b4 0),(10,sB (rR (sD aa ac (0+bK rs) 1) (ac-(0+bK rs)) zs27) (bP zs27) ((rE (ac-(0+bK rs)) zs27))),(2,pp b2 0),(5,sB aa ar (ac))] [2,0,3,1] ⟨rfl,rfl,rfl,rfl,trivial⟩ ⟨?_,?_,?_,?_,?_,?_,?_,?_,trivial⟩ ?_
 ·rintro f M-⟨i0,-⟩
  exact aT aY
 ·rintro f M ⟨k0,-⟩-
  exact aT (fQ 0)
 ·rintro f M-⟨i0,-⟩
  exact aT fL
 ·rintro f M ⟨k0,-⟩-
  refine dL (aA (d:=76) rfl k0) ?_
  refine pV (cT (vs:=[sB (rR (sD aa ac (0+bK rs) 1) (ac-(0+bK rs)) zs27) (bP zs27) ((rE (ac-(0+bK rs)) zs27))]) aOo.ok rfl rfl) rfl fun w β1 sb kn hw1 back=>(lQ β1 w hw1 (bP zs27) _ (by omega) (Sl.mono _ _ _ _ _ sb (aIw (by omega) (by omega) ze30))).mono ?_
  rintro e w' ⟨p36,c37,rfl,hw'⟩
  refine⟨_,rfl,_,back _ _ hw',?_⟩
  refine aH ?_
  exact aO (aA (d:=76) rfl k0) rfl (aB 0 rfl)
 ·rintro f M ⟨k0,-⟩-
  have hs77:f 77=sB (dC (f 77)) ((bP zs27)) (dE (f 77)):=k0
  refine dL (aA rfl hs77) ?_
  refine dA rfl rfl rfl (bZ aOp bCv.ok (cells:= #[sB (dC (f 77)) ((bP zs27)) (dE (f 77))]) rfl rfl rfl rfl) ?_
  rintro _ _ ⟨b39,rfl,rfl⟩
  refine aH ?_
  exact aO (aA rfl hs77) rfl (aB 0 rfl)
 ·rintro f M ⟨k0,k1,-⟩-
  have hs78:f 78= .slice (some ⟨(bY (f 78)),0,none⟩) 1 1:=k1
  refine dL (aA (aA (d:=75) rfl k0) hs78) ?_
  refine aDl (L':=(gQ 27 pr cr rs::rB (dC (f 77)) ((bP zs27)) (dE (f 77))::pt (bY (f 78)) (.cells #[sB (dC (f 77)) ((bP zs27)) (dE (f 77))] 27)::M)) (List.Perm.refl _) ?_
  refine dA rfl rfl rfl (rL (xs:=rs) (bs:=(bP zs27)) (b:=(bY (f 78))) rfl aOp bCw rfl rfl (by omega) (by omega)) ?_
  rintro _ _ ⟨rp42,rc43,rfl,rfl⟩
  refine aH ?_
  exact aO (aA (aA (d:=75) rfl k0) hs78) rfl ((aB 0 rfl).trans (aB 1 rfl))
 ·rintro f M-⟨i0,-⟩
  exact aT aY
 ·rintro f M ⟨k0,k1,-⟩-
  have hs79:f 79=sB (dC (f 79)) ((rs++[(bP zs27)])) (dE (f 79)):=k1
  refine dL (aA (aA (d:=80) rfl k0) hs79) ?_
  refine lu (mS 0 (#[Nx (bM k.head),Nx (0+rs.length),.slice none 0 0,sB (dC (f 79)) ((rs++[(bP zs27)])) (dE (f 79)),Nx (0+bK rs)])) ?_
  refine aH ?_
  exact bC (aA (aA (d:=80) rfl k0) hs79) trivial (aB 0 rfl)
 rintro fa44 ⟨-,-,-,-,-,-,-,-,-⟩ ⟨j0,j1,j2,j3,-⟩
 refine jD ?_
 refine aD (d:=2) j0 (aD (d:=4) j1 (aD (d:=5) j2 (aD (d:=10) j3 (kM (lE aY (lE (cY 4) ?_))))))
 refine lv (v:=Nx ((0+rs.length)+1)) (bO rfl rfl (cW (by omega) (by omega))) (lE aY ?_)
 refine lu (mS 4 (#[Nx (bM k.head),Nx ((0+rs.length)+1),.slice none 0 0,sB (dC (fa44 79)) ((rs++[(bP zs27)])) (dE (fa44 79)),Nx (0+bK rs)])) ?_
 refine xJ (lE aY (lE (cY 4) (lE fL (lE gY (lv (v:=Nx (24+((bP zs27).length))) (bO rfl rfl (cW (by omega) (by omega))) ?_)))))
 refine lv (v:=Nx ((0+bK rs)+(24+((bP zs27).length)))) (bO rfl rfl (cW (by omega) (by omega))) (lE aY ?_)
 refine lu (mS 4 (#[Nx (bM k.head),Nx ((0+rs.length)+1),.slice none 0 0,sB (dC (fa44 79)) ((rs++[(bP zs27)])) (dE (fa44 79)),Nx ((0+bK rs)+(24+((bP zs27).length)))])) ?_
 refine aH (aP ?_)
 have hnx:=aBy hfu hle hrs (by rw[←hz28];exact hrb) (by rw[←hz28];omega) (by omega) (by rw[←hz28];omega)
 rw[←hz28]at hnx
 refine tZ [3,4,0,1,2] 5 ?_
 refine dD [true,true,true,true,false] rfl ?_
 exact bG ⟨(f,(rs++[(bP zs27)]),(dC (fa44 79)),(dE (fa44 79))),⟨⟨rfl,rfl,rfl⟩,(by simp only[sB,rB,tU,List.length_append,List.length_cons,List.length_nil,Nat.add_assoc];try rfl),hnx⟩,(show f<f+1 from Nat.lt_succ_self f)⟩
end Go.Proofs
