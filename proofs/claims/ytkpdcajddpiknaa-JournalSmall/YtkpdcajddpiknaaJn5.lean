/-
 Read,walked. Printed by a program of my own.
-/
import Derived.Test.YtkpdcajddpiknaaJn4
set_option linter.all false
set_option maxHeartbeats 4000000
namespace Go.Proofs
open Go Go.Sl Go.Jn
theorem lH(l:List Bs)(b:Bs):aR (l++[b])=aR l+(24+b.length):=by
 induction l with
 |nil=>simp[aR]
 |cons a l ih=>simp only[List.cons_append,aR,ih];omega
theorem qV(l:List Bs):24*l.length≤aR l:=by
 induction l with
 |nil=>simp[aR]
 |cons a l ih=>simp only[List.length_cons,aR];omega
theorem oT{e:Int}{n0 s0 f:Nat}{ar:Bs}{rs R:List Bs}(_:(ar.drop (s0+aR rs)).length<f+1)(hle:s0+aR rs≤ar.length)(hrs:rs++gI e (f+1) (n0+rs.length) (ar.drop (s0+aR rs))=R)
 (hrb:fK e (ar.drop (s0+aR rs))=true)(hn:eD (ar.drop (s0+aR rs))=n0+rs.length)(h1:n0+rs.length≠4611686018427387904)(hl:24+(aZ (ar.drop (s0+aR rs))).length≤(ar.drop (s0+aR rs)).length):
  (ar.drop (s0+aR (rs++[aZ (ar.drop (s0+aR rs))]))).length<f∧s0+aR (rs++[aZ (ar.drop (s0+aR rs))])≤ar.length∧
  (rs++[aZ (ar.drop (s0+aR rs))])++gI e f (n0+(rs++[aZ (ar.drop (s0+aR rs))]).length) (ar.drop (s0+aR (rs++[aZ (ar.drop (s0+aR rs))])))=R:=by
 rw[lH]
 simp only[List.length_drop]at*
 refine⟨by omega,by omega,?_⟩
 rw[←hrs]
 conv=>rhs;rw[gI]
 rw[if_pos ⟨hrb,hn,h1⟩,List.drop_drop]
 simp[Nat.add_assoc]
theorem gM{e:Int}{n f:Nat}{xs:Bs}{rs R:List Bs}(hrs:rs++gI e (f+1) n xs=R)(h:¬(fK e xs=true∧eD xs=n∧n≠4611686018427387904)):rs=R:=by
 rw[gI,if_neg h]at hrs
 simpa using hrs
theorem vX{k:KS}{ar:Bs}(h:k.area (aT k.head)=ar)(he:aT k.head≠0)(hb:fK ((aT k.head:Nat):Int) ar=false):eW k=none:=by
 unfold eW
 simp only[sB,rB,h,if_neg he,hb]
 rfl
theorem kT{k:KS}{ar:Bs}(h:k.area (aT k.head)=ar)(he:aT k.head≠0)(hb:fK ((aT k.head:Nat):Int) ar=true):
  eW k=some ⟨aT k.head,eD ar+(fG (aT k.head) (eD ar) (ar.drop (24+(aZ ar).length))).length,aZ ar,fG (aT k.head) (eD ar) (ar.drop (24+(aZ ar).length)),(24+(aZ ar).length)+aR (fG (aT k.head) (eD ar) (ar.drop (24+(aZ ar).length)))⟩:=by
 unfold eW
 simp only[sB,rB,h,if_neg he,hb]
 rfl
theorem kV{k:KS}{ar:Bs}(h:k.area (aT k.head)=ar)(he:aT k.head=0):eW k=some ⟨0,(fG 0 0 (ar.drop 0)).length,[],fG 0 0 (ar.drop 0),aR (fG 0 0 (ar.drop 0))⟩:=by
 unfold eW
 rw[he]at h
 simp only[sB,rB,he,h]
 rfl
instance aGi:ZerC Try.prog 36 (.agg #[.int .i64 (0),.int .i64 (0),.slice none 0 0,.slice none 0 0,.int .i64 (0)]):={}
instance fX:TyC Try.prog 32 true 4:={}
instance tf57:CfC Try.prog 44:={}
theorem aGj:stB Try.prog 36 [(0,1),(1,1),(2,1),(3,1),(4,1)]=true:=by kernel_rfl
instance zO:TyC Try.prog 36 true 5:={}
instance tf60:CfC Try.prog 45:={}
instance aLi:CfC Try.prog 47:={}
instance aAo:CfC Try.prog 48:={}
instance tf63:FldC Try.prog 36 2 2 1 false:={}
instance tf64:FldC Try.prog 36 3 3 1 false:={}
instance aLj:TyC Try.prog 34 false 1:={}
theorem mY:nB Try.prog 34 30 1=true:=by kernel_rfl
instance aAp:ZerC Try.prog 30 (.slice none 0 0):={}
theorem zP:zS Try.prog 30 1 24=true:=by kernel_rfl
theorem xC(β:Base)(w:World)(hw:St β [] w)(k:KS)(vh va vb:Value)(hH:Sl bE β.heap vh k.head)(hA:Sl bE β.heap va k.a)(hB:Sl bE β.heap vb k.b):Calls Try.prog 13 #[.agg #[vh,va,vb,Ix k.power]] w fun r w'=>(r= .returned (.tuple #[.agg #[.int .i64 0,.int .i64 0,.slice none 0 0,.slice none 0 0,.int .i64 0],.int .i64 2])∧¬k.okP∧St β [] w')∨(r= .returned (.tuple #[.agg #[.int .i64 0,.int .i64 0,.slice none 0 0,.slice none 0 0,.int .i64 0],.int .i64 311])∧k.okP∧eW k=none∧St β [] w')∨
  (∃i,k.okP∧eW k=some i∧∃ps pr cs cr,r= .returned (.tuple #[.agg #[Nx i.epoch,Nx i.next,sB ps i.state cs,sB pr i.recs cr,Nx i.size],.int .i64 0])∧St β [rB ps i.state cs,dP 30 pr cr i.recs] w'):=by
 obtain⟨vha,vhc,rfl,vhl,vhm,vhe⟩:=hH.get
 obtain⟨vaa,vac,rfl,val,vam,vae⟩:=hA.get
 obtain⟨vba,vbc,rfl,vbl,vbm,vbe⟩:=hB.get
 refine enter (n:=92) Try.func13 rfl Try.ntmps13 rfl ?_ hw
 refine cC ?_
 refine pD fun b1=> ?_
 refine fZ fun b2=> ?_
 refine lE bV ?_
 refine aW ?_
 refine dX ?_
 refine aC ?_
 refine lE (dO 1) ?_
 refine gW gU (fun w β1 sb kn hw1=>aGn β1 w hw1 k _ _ _ (Sl.mono _ _ _ _ _ sb (⟨⟨_,_,rfl,vhl,vhm,vhe⟩⟩:Sl bE _ _ k.head)) (Sl.mono _ _ _ _ _ sb (⟨⟨_,_,rfl,val,vam,vae⟩⟩:Sl bE _ _ k.a)) (Sl.mono _ _ _ _ _ sb (⟨⟨_,_,rfl,vbl,vbm,vbe⟩⟩:Sl bE _ _ k.b))) ?_
 refine lE ond ?_
 refine aW ?_
 refine cK _ rfl (fun hc3=> ?_) (fun hc3=> ?_)
 ·refine cC ?_
  refine lv (v:= .agg #[.int .i64 (0),.int .i64 (0),.slice none 0 0,.slice none 0 0,.int .i64 (0)]) (dW aGi.ok aGj (vs:=[]) (cells:= #[.int .i64 (0),.int .i64 (0),.slice none 0 0,.slice none 0 0,.int .i64 (0)]) rfl rfl) ?_
  refine lu (mS 0 (#[.int .i64 (0),.int .i64 (0),.slice none 0 0,.slice none 0 0,.int .i64 (0)])) ?_
  refine lE bV ?_
  refine aW ?_
  refine bB ?_
  refine aK ?_
  refine fH (m:=[.agg #[.int .i64 (0),.int .i64 (0),.slice none 0 0,.slice none 0 0,.int .i64 (0)],.int .i64 (2)]) Try.results13 ⟨bY zO.ok rfl (dM 0 rfl rfl) rfl,cN (v:= .int .i64 (2)) rfl,trivial⟩ rfl ?_
  intro w hw
  exact .inl ⟨rfl,by simpa using hc3,aF [false,false] rfl hw⟩
 have hok:k.okP:=Decidable.not_not.1 hc3
 refine eT ?_
 refine aO ?_
 have hhd:k.head.length≤32:=by unfold KS.okP at hok;omega
 refine aC ?_
 refine lE bM ?_
 refine lE (fA 1) ?_
 refine gW gU (fun w β1 sb kn hw1=>aEe β1 w hw1 k.head _ (by omega) (Sl.mono _ _ _ _ _ sb (⟨⟨_,_,rfl,vhl,vhm,vhe⟩⟩:Sl bE _ _ k.head))) ?_
 refine lv (v:= .agg #[Nx (aT k.head),.int .i64 (0),.slice none 0 0,.slice none 0 0,.int .i64 (0)]) (dW aGi.ok aGj (vs:=[(0,Nx (aT k.head))]) (cells:= #[Nx (aT k.head),.int .i64 (0),.slice none 0 0,.slice none 0 0,.int .i64 (0)]) rfl rfl) ?_
 refine fZ fun b4=> ?_
 refine lu (mS 0 (#[Nx (aT k.head),.int .i64 (0),.slice none 0 0,.slice none 0 0,.int .i64 (0)])) ?_
 refine aW ?_
 refine hO (fun(f:Fm) (L:List cE)=>∃ar a c,k.area (aT k.head)=ar∧ar.length≤262144∧Sl bE β.heap (sB a ar c) ar∧(f 2=pp b2 0∧f 4=pp b4 0∧f 5=sB a ar c)∧L=[pt b4 (.cells #[Nx (aT k.head),.int .i64 (0),.slice none 0 0,.slice none 0 0,.int .i64 (0)] 36),pt b2 (.cells #[.int .i64 (0),.int .i64 (0),.slice none 0 0,.slice none 0 0,.int .i64 (0)] 36),pt b1 (.cells #[sB vha k.head (vhc),sB vaa k.a (vac),sB vba k.b (vbc),Ix (k.power)] 32)]) ?_ ?_
 ·rcases Nat.mod_two_eq_zero_or_one (aT k.head)with hpar|hpar
  ·refine eF (by kernel_rfl) (by kernel_rfl) ?_
   refine iL (v:= .agg #[pp b1 1,pp b1 2]) rfl rfl rfl (cY (vs:=[pp b1 0]) aIj.ok rfl rfl) (fun w hw=> ?_) ?_
   ·obtain⟨β1,sb,kn,hw1,back⟩:=St.frame_all hw
    exact(jY β1 w hw1 b1).mono (fun e w' ⟨he,hw'⟩=>⟨he,aF [true,true,true] rfl (back _ _ hw')⟩)
   refine qE bM ?_
   refine qE (eU 0) ?_
   refine eV (v:= .int .i64 (0)) rfl rfl rfl (fE (by rw[hpar];rfl) (gJ (a:=((aT k.head:Nat):Int)) (b:=(2:Int)) rfl rfl (by decide) (eC _ 2))) ?_
   refine eV (v:=pp b1 1) rfl rfl rfl (iR (cs:= #[pp b1 1,pp b1 2]) (k:=0) rfl rfl xM.ok rfl (by decide) zN.ok) ?_
   refine qE eY ?_
   refine qE (fA 2) ?_
   refine qE fR ?_
   refine fW ?_
   exact bT ⟨_,_,_,iP (k:=k) hpar,by unfold KS.okP at hok;omega,(⟨⟨_,_,rfl,val,vam,vae⟩⟩:Sl bE _ _ k.a),⟨rfl,rfl,rfl⟩,rfl⟩
  refine eF (by kernel_rfl) (by kernel_rfl) ?_
  refine iL (v:= .agg #[pp b1 1,pp b1 2]) rfl rfl rfl (cY (vs:=[pp b1 0]) aIj.ok rfl rfl) (fun w hw=> ?_) ?_
  ·obtain⟨β1,sb,kn,hw1,back⟩:=St.frame_all hw
   exact(jY β1 w hw1 b1).mono (fun e w' ⟨he,hw'⟩=>⟨he,aF [true,true,true] rfl (back _ _ hw')⟩)
  refine qE bM ?_
  refine qE (eU 0) ?_
  refine eV (v:= .int .i64 (1)) rfl rfl rfl (fE (by rw[hpar];rfl) (gJ (a:=((aT k.head:Nat):Int)) (b:=(2:Int)) rfl rfl (by decide) (eC _ 2))) ?_
  refine eV (v:=pp b1 2) rfl rfl rfl (iR (cs:= #[pp b1 1,pp b1 2]) (k:=1) rfl rfl xM.ok rfl (by decide) zN.ok) ?_
  refine qE eY ?_
  refine qE (fA 2) ?_
  refine qE fR ?_
  refine fW ?_
  exact bT ⟨_,_,_,jW (k:=k) hpar,by unfold KS.okP at hok;omega,(⟨⟨_,_,rfl,vbl,vbm,vbe⟩⟩:Sl bE _ _ k.b),⟨rfl,rfl,rfl⟩,rfl⟩
 rintro f0 L0 ⟨ar,aa,ac,har,hl4,hasl,⟨hs2,hs4,hs5⟩,hL⟩
 subst L0
 refine dG 2 hs2 ?_
 refine dG 4 hs4 ?_
 refine dG 5 hs5 ?_
 obtain⟨_,hal,ham,hae⟩:=hasl.parts
 refine dX ?_
 refine aC ?_
 refine lE bM ?_
 refine lE (eU 0) ?_
 refine lE qZ ?_
 refine aW ?_
 refine cK _ rfl (fun hc5=> ?_) (fun hc5=> ?_)
 ·refine cC ?_
  refine lE bM ?_
  refine lE (eU 0) ?_
  refine lE cX ?_
  refine gW gU (fun w β1 sb kn hw1=>rU β1 w hw1 ((aT k.head:Nat):Int) ar aa ac (by omega) (by omega) (bO.mono _ _ _ _ _ sb hae)) ?_
  refine lE iK ?_
  refine lE kK ?_
  refine lE oxs ?_
  refine lE xT ?_
  refine lE bV ?_
  refine lE fR ?_
  refine lE eE ?_
  refine aW ?_
  refine dX ?_
  refine aC ?_
  refine lE dQ ?_
  refine lE lI ?_
  refine aW ?_
  refine yD (!(fK ((aT k.head:Nat):Int) ar)) rfl (fun hc6=> ?_) (fun hc6=> ?_)
  ·refine cC ?_
   refine lv (v:= .agg #[.int .i64 (0),.int .i64 (0),.slice none 0 0,.slice none 0 0,.int .i64 (0)]) (dW aGi.ok aGj (vs:=[]) (cells:= #[.int .i64 (0),.int .i64 (0),.slice none 0 0,.slice none 0 0,.int .i64 (0)]) rfl rfl) ?_
   refine lu (mS 1 (#[.int .i64 (0),.int .i64 (0),.slice none 0 0,.slice none 0 0,.int .i64 (0)])) ?_
   refine lE bV ?_
   refine aW ?_
   refine bB ?_
   refine aK ?_
   refine aK ?_
   refine fH (m:=[.agg #[.int .i64 (0),.int .i64 (0),.slice none 0 0,.slice none 0 0,.int .i64 (0)],.int .i64 (311)]) Try.results13 ⟨bY zO.ok rfl (dM 1 rfl rfl) rfl,cN (v:= .int .i64 (311)) rfl,trivial⟩ rfl ?_
   intro w hw
   exact .inr (.inl ⟨rfl,hok,vX har (by omega) (by simpa using hc6),aF [false,false,false] rfl hw⟩)
  refine eT ?_
  have hrb0:fK ((aT k.head:Nat):Int) ar=true:=by simpa using hc6
  have hrl0:=kF hrb0
  have hrN0:=lD (xs:=ar)
  have hrP0:=jT (xs:=ar)
  refine aC ?_
  refine lE bG ?_
  refine lE cX ?_
  refine jH (cY (vs:=[sB (nY aa ac ar) (aZ ar) ((nD ac ar))]) aAo.ok rfl rfl) rfl fun w β1 sb kn hw1 back=>(lA β1 w hw1 (aZ ar) _ (by omega) (Sl.mono _ _ _ _ _ sb (aAj (by omega) (by omega) hae))).mono ?_
  rintro e w' ⟨p7,c8,rfl,hw'⟩
  refine⟨_,rfl,_,back _ _ hw',?_⟩
  refine lE cX ?_
  refine lE fC ?_
  refine lv (v:=Nx (24+((aZ ar).length))) (bJ rfl rfl (bU (by omega) (by omega))) ?_
  refine lE bM ?_
  refine lu (mS 1 (#[Nx (aT k.head),Nx (eD ar),.slice none 0 0,.slice none 0 0,.int .i64 (0)])) ?_
  refine lE bM ?_
  refine lu (mS 1 (#[Nx (aT k.head),Nx (eD ar),sB p7 ((aZ ar)) c8,.slice none 0 0,.int .i64 (0)])) ?_
  refine lE bM ?_
  refine lu (mS 1 (#[Nx (aT k.head),Nx (eD ar),sB p7 ((aZ ar)) c8,.slice none 0 0,Nx (24+((aZ ar).length))])) ?_
  refine aW ?_
  refine aY ?_
  refine iW (r:=dP 30 none 0 []) (qQ _ _) ?_
  refine dV (fun(x_:Nat×List Bs×Option Addr×Nat) f L=>match x_ with|(fu,rs,pr,cr)=>(f 2=pp b2 0∧f 4=pp b4 0∧f 5=sB aa ar (ac))∧L=[dP 30 pr cr rs,rB p7 ((aZ ar)) c8,pt b4 (.cells #[Nx (aT k.head),Nx ((eD ar)+rs.length),sB p7 ((aZ ar)) c8,sB pr rs cr,Nx ((24+(aZ ar).length)+aR rs)] 36),pt b2 (.cells #[.int .i64 (0),.int .i64 (0),.slice none 0 0,.slice none 0 0,.int .i64 (0)] 36),pt b1 (.cells #[sB vha k.head (vhc),sB vaa k.a (vac),sB vba k.b (vbc),Ix (k.power)] 32)]∧(((ar.drop ((24+(aZ ar).length)+aR rs)).length<fu)∧(24+(aZ ar).length)+aR rs≤ar.length∧rs++gI ((aT k.head:Nat):Int) fu ((eD ar)+rs.length) (ar.drop ((24+(aZ ar).length)+aR rs))=(fG (aT k.head) (eD ar) (ar.drop (24+(aZ ar).length))))) (fun(fu,rs,pr,cr)=>fu) (((ar.drop (24+(aZ ar).length)).length+1),[],none,0) ?_ ?_
  ·exact⟨⟨rfl,rfl,rfl⟩,(by show [dP 30 none 0 [],rB p7 ((aZ ar)) c8,pt b4 (.cells #[Nx (aT k.head),Nx (eD ar),sB p7 ((aZ ar)) c8,.slice none 0 0,Nx (24+((aZ ar).length))] 36),pt b2 (.cells #[.int .i64 (0),.int .i64 (0),.slice none 0 0,.slice none 0 0,.int .i64 (0)] 36),pt b1 (.cells #[sB vha k.head (vhc),sB vaa k.a (vac),sB vba k.b (vbc),Ix (k.power)] 32)]=_;simp only[sB,rB,aR,List.length_nil,Nat.add_zero,Nat.zero_add];try rfl),⟨by simp[aR],by simp only[sB,rB,aR];omega,by simp[aR,fG]⟩⟩
  rintro⟨fu,rs,pr,cr⟩ f0 L0 ⟨⟨hs2,hs4,hs5⟩,hL,⟨hfu,hle,hrs⟩⟩
  subst L0
  refine dG 2 hs2 ?_
  refine dG 4 hs4 ?_
  refine dG 5 hs5 ?_
  obtain⟨f,rfl⟩:∃f,fu=f+1:=⟨fu-1,by omega⟩
  have hsg:=qV rs
  refine aY ?_
  refine aO ?_
  refine eF (by kernel_rfl) (by kernel_rfl) ?_
  refine qE bM ?_
  refine qE (eU 2) ?_
  refine qE cX ?_
  refine qE bM ?_
  refine qE (eU 2) ?_
  obtain⟨zs9,hz10⟩:∃zs,zs=(ar.drop ((24+(aZ ar).length)+aR rs)):=⟨_,rfl⟩
  have zl11:zs9.length=(ar).length-((24+(aZ ar).length)+aR rs):=by rw[hz10];simp;try omega
  have ze12:=(bO.drop (cap:=ac) ((24+(aZ ar).length)+aR rs) (by first|omega|(simp;omega)) hae)
  rw[←hz10]at ze12
  refine eV (v:= .slice (gL aa ac ((24+(aZ ar).length)+aR rs) 1) (zs9.length) ((ac-((24+(aZ ar).length)+aR rs)))) rfl rfl rfl (fE (by rw[show zs9.length=ar.length-((24+(aZ ar).length)+aR rs) by omega]) (jQ (a:=aa) (len:=ar.length) (cap:=ac) (l:=(24+(aZ ar).length)+aR rs) bQ rfl rfl (by omega))) ?_
  refine iL (v:= .tuple #[Nx (eD zs9),sB (nY (gL aa ac ((24+(aZ ar).length)+aR rs) 1) (ac-((24+(aZ ar).length)+aR rs)) zs9) (aZ zs9) ((nD (ac-((24+(aZ ar).length)+aR rs)) zs9)),.bool (fK ((aT k.head:Nat):Int) zs9)]) rfl rfl rfl (cY (vs:=[Nx (aT k.head),sB (gL aa ac ((24+(aZ ar).length)+aR rs) 1) zs9 ((ac-((24+(aZ ar).length)+aR rs)))]) aLi.ok rfl rfl) (fun w hw=> ?_) ?_
  ·obtain⟨β1,sb,kn,hw1,back⟩:=St.frame_all hw
   exact(rU β1 w hw1 ((aT k.head:Nat):Int) zs9 (gL aa ac ((24+(aZ ar).length)+aR rs) 1) (ac-((24+(aZ ar).length)+aR rs)) (by omega) (by omega) (bO.mono _ _ _ _ _ sb ze12)).mono (fun e w' ⟨he,hw'⟩=>⟨he,aF [true,true,true,true,true] rfl (back _ _ hw')⟩)
  refine qE iK ?_
  refine qE kK ?_
  refine qE oxs ?_
  refine qE xT ?_
  refine qE bV ?_
  refine qE fR ?_
  refine qE eE ?_
  refine fW ?_
  refine zT ?_
  refine aO ?_
  have hrN:=lD (xs:=zs9)
  have hrP:=jT (xs:=zs9)
  refine aC ?_
  refine lE dQ ?_
  refine lE lI ?_
  refine lE dQ ?_
  refine qI (s:=63) (b:= !(fK ((aT k.head:Nat):Int) zs9)) rfl (fun hg13=> ?_) (fun hg13=> ?_)
  ·iterate 4 refine iU ?_
   refine lE dY ?_
   refine lE dQ ?_
   iterate 2 refine iU ?_
   refine lE dY ?_
   refine aW ?_
   refine dU rfl ?_
   refine cC ?_
   refine lE (dO 2) ?_
   refine lu (mS 3 (#[Nx (aT k.head),Nx ((eD ar)+rs.length),sB p7 ((aZ ar)) c8,sB pr rs cr,Nx ((24+(aZ ar).length)+aR rs)])) ?_
   refine lE bV ?_
   refine aW ?_
   refine bB ?_
   refine aK ?_
   refine bH ?_
   refine aK ?_
   refine bH ?_
   refine fH (m:=[.agg #[Nx (aT k.head),Nx ((eD ar)+rs.length),sB p7 ((aZ ar)) c8,sB pr rs cr,Nx ((24+(aZ ar).length)+aR rs)],.int .i64 (0)]) Try.results13 ⟨bY zO.ok rfl (dM 3 rfl rfl) rfl,cN (v:= .int .i64 (0)) rfl,trivial⟩ rfl ?_
   intro w hw
   have hend:=gM hrs (by rw[←hz10];rintro⟨q1,q2,q3⟩;simp[q1]at hg13)
   have hw2:=aF [true,true,false,false,false] rfl (hw.perm (L':=[rB p7 ((aZ ar)) c8,dP 30 pr cr rs,pt b4 (.cells #[Nx (aT k.head),Nx ((eD ar)+rs.length),sB p7 ((aZ ar)) c8,sB pr rs cr,Nx ((24+(aZ ar).length)+aR rs)] 36),pt b2 (.cells #[Nx (aT k.head),Nx ((eD ar)+rs.length),sB p7 ((aZ ar)) c8,sB pr rs cr,Nx ((24+(aZ ar).length)+aR rs)] 36),pt b1 (.cells #[sB vha k.head (vhc),sB vaa k.a (vac),sB vba k.b (vbc),Ix (k.power)] 32)]) (by exact(bN [1,0,2,3,4] 5 rfl (by kernel_rfl) (by kernel_rfl))))
   rw[hend]at hw2⊢
   exact .inr (.inr ⟨_,hok,kT har (by omega) hrb0,_,_,_,_,rfl,hw2⟩)
  refine gE bG ?_
  refine gE bM ?_
  refine gE (eU 2) ?_
  refine gE gO ?_
  refine lE cR ?_
  refine lE dQ ?_
  refine cD (s:=69) rfl (fun hg14=> ?_) (fun hg14=> ?_)
  ·iterate 2 refine iU ?_
   refine lE dY ?_
   refine aW ?_
   refine dU rfl ?_
   refine cC ?_
   refine lE (dO 2) ?_
   refine lu (mS 3 (#[Nx (aT k.head),Nx ((eD ar)+rs.length),sB p7 ((aZ ar)) c8,sB pr rs cr,Nx ((24+(aZ ar).length)+aR rs)])) ?_
   refine lE bV ?_
   refine aW ?_
   refine bB ?_
   refine aK ?_
   refine bH ?_
   refine aK ?_
   refine bH ?_
   refine fH (m:=[.agg #[Nx (aT k.head),Nx ((eD ar)+rs.length),sB p7 ((aZ ar)) c8,sB pr rs cr,Nx ((24+(aZ ar).length)+aR rs)],.int .i64 (0)]) Try.results13 ⟨bY zO.ok rfl (dM 3 rfl rfl) rfl,cN (v:= .int .i64 (0)) rfl,trivial⟩ rfl ?_
   intro w hw
   have hend:=gM hrs (by rw[←hz10];rintro⟨q1,q2,q3⟩;exact hg14 (by rw[q2]))
   have hw2:=aF [true,true,false,false,false] rfl (hw.perm (L':=[rB p7 ((aZ ar)) c8,dP 30 pr cr rs,pt b4 (.cells #[Nx (aT k.head),Nx ((eD ar)+rs.length),sB p7 ((aZ ar)) c8,sB pr rs cr,Nx ((24+(aZ ar).length)+aR rs)] 36),pt b2 (.cells #[Nx (aT k.head),Nx ((eD ar)+rs.length),sB p7 ((aZ ar)) c8,sB pr rs cr,Nx ((24+(aZ ar).length)+aR rs)] 36),pt b1 (.cells #[sB vha k.head (vhc),sB vaa k.a (vac),sB vba k.b (vbc),Ix (k.power)] 32)]) (by exact(bN [1,0,2,3,4] 5 rfl (by kernel_rfl) (by kernel_rfl))))
   rw[hend]at hw2⊢
   exact .inr (.inr ⟨_,hok,kT har (by omega) hrb0,_,_,_,_,rfl,hw2⟩)
  refine gE bG ?_
  refine gE dR ?_
  refine lE cR ?_
  refine aW ?_
  refine cK _ rfl (fun hc15=> ?_) (fun hc15=> ?_)
  ·refine cC ?_
   refine lE (dO 2) ?_
   refine lu (mS 3 (#[Nx (aT k.head),Nx ((eD ar)+rs.length),sB p7 ((aZ ar)) c8,sB pr rs cr,Nx ((24+(aZ ar).length)+aR rs)])) ?_
   refine lE bV ?_
   refine aW ?_
   refine bB ?_
   refine aK ?_
   refine bH ?_
   refine aK ?_
   refine bH ?_
   refine fH (m:=[.agg #[Nx (aT k.head),Nx ((eD ar)+rs.length),sB p7 ((aZ ar)) c8,sB pr rs cr,Nx ((24+(aZ ar).length)+aR rs)],.int .i64 (0)]) Try.results13 ⟨bY zO.ok rfl (dM 3 rfl rfl) rfl,cN (v:= .int .i64 (0)) rfl,trivial⟩ rfl ?_
   intro w hw
   have hend:=gM hrs (by rw[←hz10];rintro⟨q1,q2,q3⟩;omega)
   have hw2:=aF [true,true,false,false,false] rfl (hw.perm (L':=[rB p7 ((aZ ar)) c8,dP 30 pr cr rs,pt b4 (.cells #[Nx (aT k.head),Nx ((eD ar)+rs.length),sB p7 ((aZ ar)) c8,sB pr rs cr,Nx ((24+(aZ ar).length)+aR rs)] 36),pt b2 (.cells #[Nx (aT k.head),Nx ((eD ar)+rs.length),sB p7 ((aZ ar)) c8,sB pr rs cr,Nx ((24+(aZ ar).length)+aR rs)] 36),pt b1 (.cells #[sB vha k.head (vhc),sB vaa k.a (vac),sB vba k.b (vbc),Ix (k.power)] 32)]) (by exact(bN [1,0,2,3,4] 5 rfl (by kernel_rfl) (by kernel_rfl))))
   rw[hend]at hw2⊢
   exact .inr (.inr ⟨_,hok,kT har (by omega) hrb0,_,_,_,_,rfl,hw2⟩)
  refine eT ?_
  refine aO ?_
  have hrb:fK ((aT k.head:Nat):Int) zs9=true:=by simpa using hg13
  have hrl:=kF hrb
  refine rF [sv 74 (pp b4 3) [] [] [0],sv 75 (sB pr rs cr) [0] [0] [],sv 76 (sB (nY (gL aa ac ((24+(aZ ar).length)+aR rs) 1) (ac-((24+(aZ ar).length)+aR rs)) zs9) (aZ zs9) ((nD (ac-((24+(aZ ar).length)+aR rs)) zs9))) [] [] [1],⟨[2],[2],[],[77],fun f=>f 77=sB (aM (f 77)) ((aZ zs9)) (aN (f 77))⟩,⟨[2,3],[3],[],[78],fun f=>f 78= .slice (some ⟨(bI (f 78)),0,none⟩) 1 1⟩,⟨[0,1,2,3,4],[1,4],[],[79],fun f=>f 79=sB (aM (f 79)) ((rs++[(aZ zs9)])) (aN (f 79))⟩,sv 80 (pp b4 3) (List.range 6) [] [0],⟨(List.range 7),[6,5],[],[],fun _=>True⟩] [(some 5,[5]),u0,(some 7,[1,7])] [⟨(some 3),(some 5),[5],[77],fun f=>rB (aM (f 77)) ((aZ zs9)) (aN (f 77))⟩,⟨(some 4),none,[5],[77,78],fun f=>pt (bI (f 78)) (.cells #[sB (aM (f 77)) ((aZ zs9)) (aN (f 77))] 30)⟩,⟨(some 5),none,[],[79],fun f=>dP 30 (aM (f 79)) (aN (f 79)) (rs++[(aZ zs9)])⟩,⟨(some 7),none,[],[79],fun f=>pt b4 (.cells #[Nx (aT k.head),Nx ((eD ar)+rs.length),sB p7 ((aZ ar)) c8,sB (aM (f 79)) ((rs++[(aZ zs9)])) (aN (f 79)),Nx ((24+(aZ ar).length)+aR rs)] 36)⟩] [(4,pp b4 0),(10,sB (nY (gL aa ac ((24+(aZ ar).length)+aR rs) 1) (ac-((24+(aZ ar).length)+aR rs)) zs9) (aZ zs9) ((nD (ac-((24+(aZ ar).length)+aR rs)) zs9))),(2,pp b2 0),(5,sB aa ar (ac))] [2,0,3,1] ⟨rfl,rfl,rfl,rfl,trivial⟩ ⟨?_,?_,?_,?_,?_,?_,?_,?_,trivial⟩ ?_
  ·rintro f M-⟨i0,-⟩
   exact bK bM
  ·rintro f M ⟨k0,-⟩-
   exact bK (fA 0)
  ·rintro f M-⟨i0,-⟩
   exact bK cX
  ·rintro f M ⟨k0,-⟩-
   refine fF (aA (d:=76) rfl k0) ?_
   refine jH (cY (vs:=[sB (nY (gL aa ac ((24+(aZ ar).length)+aR rs) 1) (ac-((24+(aZ ar).length)+aR rs)) zs9) (aZ zs9) ((nD (ac-((24+(aZ ar).length)+aR rs)) zs9))]) aAo.ok rfl rfl) rfl fun w β1 sb kn hw1 back=>(lA β1 w hw1 (aZ zs9) _ (by omega) (Sl.mono _ _ _ _ _ sb (aAj (by omega) (by omega) ze12))).mono ?_
   rintro e w' ⟨p18,c19,rfl,hw'⟩
   refine⟨_,rfl,_,back _ _ hw',?_⟩
   refine aG ?_
   exact aI (aA (d:=76) rfl k0) rfl (aB 0 rfl)
  ·rintro f M ⟨k0,-⟩-
   have hs77:f 77=sB (aM (f 77)) ((aZ zs9)) (aN (f 77)):=k0
   refine fF (aA rfl hs77) ?_
   refine cF rfl rfl rfl (cO mY aAp.ok (cells:= #[sB (aM (f 77)) ((aZ zs9)) (aN (f 77))]) rfl rfl rfl rfl) ?_
   rintro _ _ ⟨b21,rfl,rfl⟩
   refine aG ?_
   exact aI (aA rfl hs77) rfl (aB 0 rfl)
  ·rintro f M ⟨k0,k1,-⟩-
   have hs78:f 78= .slice (some ⟨(bI (f 78)),0,none⟩) 1 1:=k1
   refine fF (aA (aA (d:=75) rfl k0) hs78) ?_
   refine pQ (L':=(dP 30 pr cr rs::rB (aM (f 77)) ((aZ zs9)) (aN (f 77))::pt (bI (f 78)) (.cells #[sB (aM (f 77)) ((aZ zs9)) (aN (f 77))] 30)::M)) (by exact(((aB 2 rfl).trans (aB 2 rfl)).trans (aB 2 rfl))) ?_
   refine cF rfl rfl rfl (lM (xs:=rs) (bs:=(aZ zs9)) (b:=(bI (f 78))) rfl mY zP rfl rfl (by omega) (by omega)) ?_
   rintro _ _ ⟨rp24,rc25,rfl,rfl⟩
   refine aG ?_
   exact aI (aA (aA (d:=75) rfl k0) hs78) rfl ((aB 0 rfl).trans (aB 1 rfl))
  ·rintro f M-⟨i0,-⟩
   exact bK bM
  ·rintro f M ⟨k0,k1,-⟩-
   have hs79:f 79=sB (aM (f 79)) ((rs++[(aZ zs9)])) (aN (f 79)):=k1
   refine fF (aA (aA (d:=80) rfl k0) hs79) ?_
   refine lu (mS 0 (#[Nx (aT k.head),Nx ((eD ar)+rs.length),sB p7 ((aZ ar)) c8,sB (aM (f 79)) ((rs++[(aZ zs9)])) (aN (f 79)),Nx ((24+(aZ ar).length)+aR rs)])) ?_
   refine aG ?_
   exact cT (aA (aA (d:=80) rfl k0) hs79) trivial (aB 0 rfl)
  rintro fa26 ⟨-,-,-,-,-,-,-,-,-⟩ ⟨j0,j1,j2,j3,-⟩
  refine rL ?_
  refine aJ (d:=2) j0 ?_
  refine aJ (d:=4) j1 ?_
  refine aJ (d:=5) j2 ?_
  refine aJ (d:=10) j3 ?_
  refine qF ?_
  refine lE bM ?_
  refine lE (eU 5) ?_
  refine lv (v:=Nx (((eD ar)+rs.length)+1)) (bJ rfl rfl (bU (by omega) (by omega))) ?_
  refine lE bM ?_
  refine lu (mS 5 (#[Nx (aT k.head),Nx (((eD ar)+rs.length)+1),sB p7 ((aZ ar)) c8,sB (aM (fa26 79)) ((rs++[(aZ zs9)])) (aN (fa26 79)),Nx ((24+(aZ ar).length)+aR rs)])) ?_
  refine lnr ?_
  refine lE bM ?_
  refine lE (eU 5) ?_
  refine lE cX ?_
  refine lE fC ?_
  refine lv (v:=Nx (24+((aZ zs9).length))) (bJ rfl rfl (bU (by omega) (by omega))) ?_
  refine lv (v:=Nx (((24+(aZ ar).length)+aR rs)+(24+((aZ zs9).length)))) (bJ rfl rfl (bU (by omega) (by omega))) ?_
  refine lE bM ?_
  refine lu (mS 5 (#[Nx (aT k.head),Nx (((eD ar)+rs.length)+1),sB p7 ((aZ ar)) c8,sB (aM (fa26 79)) ((rs++[(aZ zs9)])) (aN (fa26 79)),Nx (((24+(aZ ar).length)+aR rs)+(24+((aZ zs9).length)))])) ?_
  refine aG ?_
  refine bD ?_
  have hnx:=oT hfu hle hrs (by rw[←hz10];exact hrb) (by rw[←hz10];omega) (by omega) (by rw[←hz10];omega)
  rw[←hz10]at hnx
  refine fpn [4,0,5,1,2,3] 6 ?_
  refine dL [true,true,true,true,true,false] rfl ?_
  exact bT ⟨(f,(rs++[(aZ zs9)]),(aM (fa26 79)),(aN (fa26 79))),⟨⟨rfl,rfl,rfl⟩,(by simp only[sB,rB,lH,List.length_append,List.length_cons,List.length_nil,Nat.add_assoc];try rfl),hnx⟩,(show f<f+1 from Nat.lt_succ_self f)⟩
 refine eT ?_
 refine aY ?_
 refine iW (r:=dP 30 none 0 []) (qQ _ _) ?_
 refine dV (fun(x_:Nat×List Bs×Option Addr×Nat) f L=>match x_ with|(fu,rs,pr,cr)=>(f 2=pp b2 0∧f 4=pp b4 0∧f 5=sB aa ar (ac))∧L=[dP 30 pr cr rs,pt b4 (.cells #[Nx (aT k.head),Nx (0+rs.length),.slice none 0 0,sB pr rs cr,Nx (0+aR rs)] 36),pt b2 (.cells #[.int .i64 (0),.int .i64 (0),.slice none 0 0,.slice none 0 0,.int .i64 (0)] 36),pt b1 (.cells #[sB vha k.head (vhc),sB vaa k.a (vac),sB vba k.b (vbc),Ix (k.power)] 32)]∧(((ar.drop (0+aR rs)).length<fu)∧0+aR rs≤ar.length∧rs++gI ((aT k.head:Nat):Int) fu (0+rs.length) (ar.drop (0+aR rs))=(fG (aT k.head) 0 (ar.drop 0)))) (fun(fu,rs,pr,cr)=>fu) (((ar.drop 0).length+1),[],none,0) ?_ ?_
 ·exact⟨⟨rfl,rfl,rfl⟩,(by show [dP 30 none 0 [],pt b4 (.cells #[Nx (aT k.head),.int .i64 (0),.slice none 0 0,.slice none 0 0,.int .i64 (0)] 36),pt b2 (.cells #[.int .i64 (0),.int .i64 (0),.slice none 0 0,.slice none 0 0,.int .i64 (0)] 36),pt b1 (.cells #[sB vha k.head (vhc),sB vaa k.a (vac),sB vba k.b (vbc),Ix (k.power)] 32)]=_;simp only[sB,rB,aR,List.length_nil,Nat.add_zero,Nat.zero_add];try rfl),⟨by simp[aR],by simp only[sB,rB,aR];omega,by simp[aR,fG]⟩⟩
 rintro⟨fu,rs,pr,cr⟩ f0 L0 ⟨⟨hs2,hs4,hs5⟩,hL,⟨hfu,hle,hrs⟩⟩
 subst L0
 refine dG 2 hs2 ?_
 refine dG 4 hs4 ?_
 refine dG 5 hs5 ?_
 obtain⟨f,rfl⟩:∃f,fu=f+1:=⟨fu-1,by omega⟩
 have hsg:=qV rs
 refine aY ?_
 refine aO ?_
 refine eF (by kernel_rfl) (by kernel_rfl) ?_
 refine qE bM ?_
 refine qE (eU 1) ?_
 refine qE cX ?_
 refine qE bM ?_
 refine qE (eU 1) ?_
 obtain⟨zs27,hz28⟩:∃zs,zs=(ar.drop (0+aR rs)):=⟨_,rfl⟩
 have zl29:zs27.length=(ar).length-(0+aR rs):=by rw[hz28];simp;try omega
 have ze30:=(bO.drop (cap:=ac) (0+aR rs) (by first|omega|(simp;omega)) hae)
 rw[←hz28]at ze30
 refine eV (v:= .slice (gL aa ac (0+aR rs) 1) (zs27.length) ((ac-(0+aR rs)))) rfl rfl rfl (fE (by rw[show zs27.length=ar.length-(0+aR rs) by omega]) (jQ (a:=aa) (len:=ar.length) (cap:=ac) (l:=0+aR rs) bQ rfl rfl (by omega))) ?_
 refine iL (v:= .tuple #[Nx (eD zs27),sB (nY (gL aa ac (0+aR rs) 1) (ac-(0+aR rs)) zs27) (aZ zs27) ((nD (ac-(0+aR rs)) zs27)),.bool (fK ((aT k.head:Nat):Int) zs27)]) rfl rfl rfl (cY (vs:=[Nx (aT k.head),sB (gL aa ac (0+aR rs) 1) zs27 ((ac-(0+aR rs)))]) aLi.ok rfl rfl) (fun w hw=> ?_) ?_
 ·obtain⟨β1,sb,kn,hw1,back⟩:=St.frame_all hw
  exact(rU β1 w hw1 ((aT k.head:Nat):Int) zs27 (gL aa ac (0+aR rs) 1) (ac-(0+aR rs)) (by omega) (by omega) (bO.mono _ _ _ _ _ sb ze30)).mono (fun e w' ⟨he,hw'⟩=>⟨he,aF [true,true,true,true] rfl (back _ _ hw')⟩)
 refine qE iK ?_
 refine qE kK ?_
 refine qE oxs ?_
 refine qE xT ?_
 refine qE bV ?_
 refine qE fR ?_
 refine qE eE ?_
 refine fW ?_
 refine zT ?_
 refine aO ?_
 have hrN:=lD (xs:=zs27)
 have hrP:=jT (xs:=zs27)
 refine aC ?_
 refine lE dQ ?_
 refine lE lI ?_
 refine lE dQ ?_
 refine qI (s:=63) (b:= !(fK ((aT k.head:Nat):Int) zs27)) rfl (fun hg31=> ?_) (fun hg31=> ?_)
 ·iterate 4 refine iU ?_
  refine lE dY ?_
  refine lE dQ ?_
  iterate 2 refine iU ?_
  refine lE dY ?_
  refine aW ?_
  refine dU rfl ?_
  refine cC ?_
  refine lE (dO 1) ?_
  refine lu (mS 2 (#[Nx (aT k.head),Nx (0+rs.length),.slice none 0 0,sB pr rs cr,Nx (0+aR rs)])) ?_
  refine lE bV ?_
  refine aW ?_
  refine bB ?_
  refine aK ?_
  refine bH ?_
  refine aK ?_
  refine bH ?_
  refine fH (m:=[.agg #[Nx (aT k.head),Nx (0+rs.length),.slice none 0 0,sB pr rs cr,Nx (0+aR rs)],.int .i64 (0)]) Try.results13 ⟨bY zO.ok rfl (dM 2 rfl rfl) rfl,cN (v:= .int .i64 (0)) rfl,trivial⟩ rfl ?_
  intro w hw
  have hend:=gM hrs (by rw[←hz28];rintro⟨q1,q2,q3⟩;simp[q1]at hg31)
  have hw2:=aF [true,false,false,false] rfl hw
  rw[hend]at hw2⊢
  refine .inr (.inr ⟨_,hok,kV har (by omega),none,_,0,_,(by rw[show aT k.head=0 by omega];simp only[Nat.zero_add,Nat.add_zero];rfl),?_⟩)
  have hw3:=hw2.emp (eS 5 1 _)
  rw[show aT k.head=0 by omega]at hw3
  exact hw3
 refine gE bG ?_
 refine gE bM ?_
 refine gE (eU 1) ?_
 refine gE gO ?_
 refine lE cR ?_
 refine lE dQ ?_
 refine cD (s:=69) rfl (fun hg32=> ?_) (fun hg32=> ?_)
 ·iterate 2 refine iU ?_
  refine lE dY ?_
  refine aW ?_
  refine dU rfl ?_
  refine cC ?_
  refine lE (dO 1) ?_
  refine lu (mS 2 (#[Nx (aT k.head),Nx (0+rs.length),.slice none 0 0,sB pr rs cr,Nx (0+aR rs)])) ?_
  refine lE bV ?_
  refine aW ?_
  refine bB ?_
  refine aK ?_
  refine bH ?_
  refine aK ?_
  refine bH ?_
  refine fH (m:=[.agg #[Nx (aT k.head),Nx (0+rs.length),.slice none 0 0,sB pr rs cr,Nx (0+aR rs)],.int .i64 (0)]) Try.results13 ⟨bY zO.ok rfl (dM 2 rfl rfl) rfl,cN (v:= .int .i64 (0)) rfl,trivial⟩ rfl ?_
  intro w hw
  have hend:=gM hrs (by rw[←hz28];rintro⟨q1,q2,q3⟩;exact hg32 (by rw[q2]))
  have hw2:=aF [true,false,false,false] rfl hw
  rw[hend]at hw2⊢
  refine .inr (.inr ⟨_,hok,kV har (by omega),none,_,0,_,(by rw[show aT k.head=0 by omega];simp only[Nat.zero_add,Nat.add_zero];rfl),?_⟩)
  have hw3:=hw2.emp (eS 5 1 _)
  rw[show aT k.head=0 by omega]at hw3
  exact hw3
 refine gE bG ?_
 refine gE dR ?_
 refine lE cR ?_
 refine aW ?_
 refine cK _ rfl (fun hc33=> ?_) (fun hc33=> ?_)
 ·refine cC ?_
  refine lE (dO 1) ?_
  refine lu (mS 2 (#[Nx (aT k.head),Nx (0+rs.length),.slice none 0 0,sB pr rs cr,Nx (0+aR rs)])) ?_
  refine lE bV ?_
  refine aW ?_
  refine bB ?_
  refine aK ?_
  refine bH ?_
  refine aK ?_
  refine bH ?_
  refine fH (m:=[.agg #[Nx (aT k.head),Nx (0+rs.length),.slice none 0 0,sB pr rs cr,Nx (0+aR rs)],.int .i64 (0)]) Try.results13 ⟨bY zO.ok rfl (dM 2 rfl rfl) rfl,cN (v:= .int .i64 (0)) rfl,trivial⟩ rfl ?_
  intro w hw
  have hend:=gM hrs (by rw[←hz28];rintro⟨q1,q2,q3⟩;omega)
  have hw2:=aF [true,false,false,false] rfl hw
  rw[hend]at hw2⊢
  refine .inr (.inr ⟨_,hok,kV har (by omega),none,_,0,_,(by rw[show aT k.head=0 by omega];simp only[Nat.zero_add,Nat.add_zero];rfl),?_⟩)
  have hw3:=hw2.emp (eS 5 1 _)
  rw[show aT k.head=0 by omega]at hw3
  exact hw3
 refine eT ?_
 refine aO ?_
 have hrb:fK ((aT k.head:Nat):Int) zs27=true:=by simpa using hg31
 have hrl:=kF hrb
 refine rF [sv 74 (pp b4 3) [] [] [0],sv 75 (sB pr rs cr) [0] [0] [],sv 76 (sB (nY (gL aa ac (0+aR rs) 1) (ac-(0+aR rs)) zs27) (aZ zs27) ((nD (ac-(0+aR rs)) zs27))) [] [] [1],⟨[2],[2],[],[77],fun f=>f 77=sB (aM (f 77)) ((aZ zs27)) (aN (f 77))⟩,⟨[2,3],[3],[],[78],fun f=>f 78= .slice (some ⟨(bI (f 78)),0,none⟩) 1 1⟩,⟨[0,1,2,3,4],[1,4],[],[79],fun f=>f 79=sB (aM (f 79)) ((rs++[(aZ zs27)])) (aN (f 79))⟩,sv 80 (pp b4 3) (List.range 6) [] [0],⟨(List.range 7),[6,5],[],[],fun _=>True⟩] [(some 5,[5]),(some 7,[1,7])] [⟨(some 3),(some 5),[5],[77],fun f=>rB (aM (f 77)) ((aZ zs27)) (aN (f 77))⟩,⟨(some 4),none,[5],[77,78],fun f=>pt (bI (f 78)) (.cells #[sB (aM (f 77)) ((aZ zs27)) (aN (f 77))] 30)⟩,⟨(some 5),none,[],[79],fun f=>dP 30 (aM (f 79)) (aN (f 79)) (rs++[(aZ zs27)])⟩,⟨(some 7),none,[],[79],fun f=>pt b4 (.cells #[Nx (aT k.head),Nx (0+rs.length),.slice none 0 0,sB (aM (f 79)) ((rs++[(aZ zs27)])) (aN (f 79)),Nx (0+aR rs)] 36)⟩] [(4,pp b4 0),(10,sB (nY (gL aa ac (0+aR rs) 1) (ac-(0+aR rs)) zs27) (aZ zs27) ((nD (ac-(0+aR rs)) zs27))),(2,pp b2 0),(5,sB aa ar (ac))] [2,0,3,1] ⟨rfl,rfl,rfl,rfl,trivial⟩ ⟨?_,?_,?_,?_,?_,?_,?_,?_,trivial⟩ ?_
 ·rintro f M-⟨i0,-⟩
  exact bK bM
 ·rintro f M ⟨k0,-⟩-
  exact bK (fA 0)
 ·rintro f M-⟨i0,-⟩
  exact bK cX
 ·rintro f M ⟨k0,-⟩-
  refine fF (aA (d:=76) rfl k0) ?_
  refine jH (cY (vs:=[sB (nY (gL aa ac (0+aR rs) 1) (ac-(0+aR rs)) zs27) (aZ zs27) ((nD (ac-(0+aR rs)) zs27))]) aAo.ok rfl rfl) rfl fun w β1 sb kn hw1 back=>(lA β1 w hw1 (aZ zs27) _ (by omega) (Sl.mono _ _ _ _ _ sb (aAj (by omega) (by omega) ze30))).mono ?_
  rintro e w' ⟨p36,c37,rfl,hw'⟩
  refine⟨_,rfl,_,back _ _ hw',?_⟩
  refine aG ?_
  exact aI (aA (d:=76) rfl k0) rfl (aB 0 rfl)
 ·rintro f M ⟨k0,-⟩-
  have hs77:f 77=sB (aM (f 77)) ((aZ zs27)) (aN (f 77)):=k0
  refine fF (aA rfl hs77) ?_
  refine cF rfl rfl rfl (cO mY aAp.ok (cells:= #[sB (aM (f 77)) ((aZ zs27)) (aN (f 77))]) rfl rfl rfl rfl) ?_
  rintro _ _ ⟨b39,rfl,rfl⟩
  refine aG ?_
  exact aI (aA rfl hs77) rfl (aB 0 rfl)
 ·rintro f M ⟨k0,k1,-⟩-
  have hs78:f 78= .slice (some ⟨(bI (f 78)),0,none⟩) 1 1:=k1
  refine fF (aA (aA (d:=75) rfl k0) hs78) ?_
  refine pQ (L':=(dP 30 pr cr rs::rB (aM (f 77)) ((aZ zs27)) (aN (f 77))::pt (bI (f 78)) (.cells #[sB (aM (f 77)) ((aZ zs27)) (aN (f 77))] 30)::M)) (by exact(((aB 2 rfl).trans (aB 2 rfl)).trans (aB 2 rfl))) ?_
  refine cF rfl rfl rfl (lM (xs:=rs) (bs:=(aZ zs27)) (b:=(bI (f 78))) rfl mY zP rfl rfl (by omega) (by omega)) ?_
  rintro _ _ ⟨rp42,rc43,rfl,rfl⟩
  refine aG ?_
  exact aI (aA (aA (d:=75) rfl k0) hs78) rfl ((aB 0 rfl).trans (aB 1 rfl))
 ·rintro f M-⟨i0,-⟩
  exact bK bM
 ·rintro f M ⟨k0,k1,-⟩-
  have hs79:f 79=sB (aM (f 79)) ((rs++[(aZ zs27)])) (aN (f 79)):=k1
  refine fF (aA (aA (d:=80) rfl k0) hs79) ?_
  refine lu (mS 0 (#[Nx (aT k.head),Nx (0+rs.length),.slice none 0 0,sB (aM (f 79)) ((rs++[(aZ zs27)])) (aN (f 79)),Nx (0+aR rs)])) ?_
  refine aG ?_
  exact cT (aA (aA (d:=80) rfl k0) hs79) trivial (aB 0 rfl)
 rintro fa44 ⟨-,-,-,-,-,-,-,-,-⟩ ⟨j0,j1,j2,j3,-⟩
 refine rL ?_
 refine aJ (d:=2) j0 ?_
 refine aJ (d:=4) j1 ?_
 refine aJ (d:=5) j2 ?_
 refine aJ (d:=10) j3 ?_
 refine qF ?_
 refine lE bM ?_
 refine lE (eU 4) ?_
 refine lv (v:=Nx ((0+rs.length)+1)) (bJ rfl rfl (bU (by omega) (by omega))) ?_
 refine lE bM ?_
 refine lu (mS 4 (#[Nx (aT k.head),Nx ((0+rs.length)+1),.slice none 0 0,sB (aM (fa44 79)) ((rs++[(aZ zs27)])) (aN (fa44 79)),Nx (0+aR rs)])) ?_
 refine lnr ?_
 refine lE bM ?_
 refine lE (eU 4) ?_
 refine lE cX ?_
 refine lE fC ?_
 refine lv (v:=Nx (24+((aZ zs27).length))) (bJ rfl rfl (bU (by omega) (by omega))) ?_
 refine lv (v:=Nx ((0+aR rs)+(24+((aZ zs27).length)))) (bJ rfl rfl (bU (by omega) (by omega))) ?_
 refine lE bM ?_
 refine lu (mS 4 (#[Nx (aT k.head),Nx ((0+rs.length)+1),.slice none 0 0,sB (aM (fa44 79)) ((rs++[(aZ zs27)])) (aN (fa44 79)),Nx ((0+aR rs)+(24+((aZ zs27).length)))])) ?_
 refine aG ?_
 refine bD ?_
 have hnx:=oT hfu hle hrs (by rw[←hz28];exact hrb) (by rw[←hz28];omega) (by omega) (by rw[←hz28];omega)
 rw[←hz28]at hnx
 refine fpn [3,4,0,1,2] 5 ?_
 refine dL [true,true,true,true,false] rfl ?_
 exact bT ⟨(f,(rs++[(aZ zs27)]),(aM (fa44 79)),(aN (fa44 79))),⟨⟨rfl,rfl,rfl⟩,(by simp only[sB,rB,lH,List.length_append,List.length_cons,List.length_nil,Nat.add_assoc];try rfl),hnx⟩,(show f<f+1 from Nat.lt_succ_self f)⟩
end Go.Proofs
