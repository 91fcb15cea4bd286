/-
 JournalSmall, walked. Printed by a program of my own.
-/
import Derived.Test.YtkpdcajddpiknaaJn26
set_option linter.all false
set_option maxHeartbeats 4000000
namespace Go.Proofs
open Go Go.Sl Go.Jn
theorem mF(β:Base)(w:World)(hw:St β [] w)(e:Int):Calls Try.prog 30 #[Ix e] w fun r w'=>∃p c,r= .returned (.slice p (cL e).length c)∧St β [row (.slice p (cL e).length c) 5 1 (cL e).length (BX (cL e))] w':=qL β w hw e
theorem rG(β:Base)(w:World)(hw:St β [] w)(xh xa xb:Bs)(pw:Int)(vh va vb:Value)(hH:Sl bE β.heap vh xh)(hA:Sl bE β.heap va xa)(hB:Sl bE β.heap vb xb)(h1:xh.length≤1048576)(h2:xa.length≤1048576)(h3:xb.length≤1048576):Calls Try.prog 32 #[.agg #[vh,va,vb,Ix pw]] w fun r w'=>∃pH pA pB cH cA cB,r= .returned (.agg #[.slice pH xh.length cH,.slice pA xa.length cA,.slice pB xb.length cB,Ix pw])∧St β [row (.slice pH xh.length cH) 5 1 xh.length (BX xh),row (.slice pA xa.length cA) 5 1 xa.length (BX xa),row (.slice pB xb.length cB) 5 1 xb.length (BX xb)] w':=
 lB β w hw ⟨xh,xa,xb,pw⟩ _ _ _ hH hA hB h1 h2 h3
instance oF:CfC Try.prog 33:={}
theorem sQ:nB Try.prog 72 3 1=true:=by kernel_rfl
instance aBr:ZerC Try.prog 3 (.int .i64 (0)):={}
instance tf175:UndC Try.prog 72 3:={}
instance aLd:CfC Try.prog 34:={}
theorem sR:nB Try.prog 73 32 4=true:=by kernel_rfl
instance tf178:UndC Try.prog 73 32:={}
instance aLe:CfC Try.prog 35:={}
theorem aFx(β:Base)(w:World)(hw:St β [] w):Calls Try.prog 6 #[] w fun r w'=>r= .returned (.bool true)∧St β [] w':=by
 refine enter (n:=241) Try.func6 rfl Try.ntmps6 rfl ?_ hw
 refine aO ?_
 refine aC ?_
 refine lE eE ?_
 refine aG ?_
 refine aQ ?_
 refine aO ?_
 refine aC ?_
 refine fZ fun b1=> ?_
 refine aG ?_
 refine aQ ?_
 refine aO ?_
 refine mZ [⟨[],[],[],[20],fun f=>f 20= .slice (some ⟨(bI (f 20)),0,none⟩) (dT).length 32⟩,⟨[],[],[0],[21],fun f=>f 21= .pointer (some ⟨b1,3,none⟩)⟩,⟨[1],[1],[],[],fun _=>True⟩,⟨[0,1,2],[],[0],[22],fun f=>f 22= .pointer (some ⟨b1,0,none⟩)⟩,⟨[0,1,2,3],[3,0],[],[],fun _=>True⟩] [⟨none,(some 2),[2],[],fun _=>pt b1 (.cells #[.slice none 0 0,.slice none 0 0,.slice none 0 0,.int .i64 (0)] 32)⟩,⟨(some 0),none,[],[20],fun f=>row (.slice (some ⟨(bI (f 20)),0,none⟩) (dT).length 32) 5 1 ((dT).length) (BX dT)⟩,⟨(some 2),(some 4),[4],[],fun _=>pt b1 (.cells #[.slice none 0 0,.slice none 0 0,.slice none 0 0,.int .i64 (-1)] 32)⟩,⟨(some 4),none,[],[20],fun f=>pt b1 (.cells #[.slice (some ⟨(bI (f 20)),0,none⟩) (dT).length 32,.slice none 0 0,.slice none 0 0,.int .i64 (-1)] 32)⟩] [(1,.pointer (some ⟨b1,0,none⟩))] [0] [] (by kernel_rfl) (by kernel_rfl) (by kernel_rfl) (by kernel_rfl) rfl ⟨rfl,trivial⟩ ⟨?_,?_,?_,?_,?_,trivial⟩ ?_
 ·rintro f M- -
  refine bC (L':=M) (by rfl) rfl ?_
  refine cF rfl rfl rfl (mU (c:=32) aKu bQ fV iG.ok rfl rfl (by omega) (by omega)) ?_
  rintro _ _ ⟨b3,rfl,rfl⟩
  refine aG ?_
  exact aI rfl rfl (aB 0 rfl)
 ·rintro f M-⟨i0,-⟩
  have hs1:f 1= .pointer (some ⟨b1,0,none⟩):=i0
  exact bK bM
 ·rintro f M ⟨k0,-⟩-
  have hs21:f 21= .pointer (some ⟨b1,3,none⟩):=k0
  refine bC (L':=pt b1 (.cells #[.slice none 0 0,.slice none 0 0,.slice none 0 0,.int .i64 (0)] 32)::M) (by rfl) (aA rfl hs21) ?_
  refine kD rfl rfl (bS 0 sY.ok (b:=b1) (o:=3) (T:=32) (cs:= #[.slice none 0 0,.slice none 0 0,.slice none 0 0,.int .i64 (0)]) (cs':= #[.slice none 0 0,.slice none 0 0,.slice none 0 0,.int .i64 (-1)]) (v:= .int .i64 (-1)) rfl rfl rfl rfl rfl rfl rfl) ?_
  refine aG ?_
  exact cT (aA rfl hs21) trivial (aB 0 rfl)
 ·rintro f M-⟨i0,-⟩
  have hs1:f 1= .pointer (some ⟨b1,0,none⟩):=i0
  exact bK bM
 ·rintro f M ⟨k0,k1,-⟩-
  have hs22:f 22= .pointer (some ⟨b1,0,none⟩):=k0
  have hs20:f 20= .slice (some ⟨(bI (f 20)),0,none⟩) (dT).length 32:=k1
  refine bC (L':=pt b1 (.cells #[.slice none 0 0,.slice none 0 0,.slice none 0 0,.int .i64 (-1)] 32)::M) (by rfl) (aA (aA rfl hs22) hs20) ?_
  refine kD rfl rfl (bS 0 lV.ok (b:=b1) (o:=0) (T:=32) (cs:= #[.slice none 0 0,.slice none 0 0,.slice none 0 0,.int .i64 (-1)]) (cs':= #[.slice (some ⟨(bI (f 20)),0,none⟩) (dT).length 32,.slice none 0 0,.slice none 0 0,.int .i64 (-1)]) (v:= .slice (some ⟨(bI (f 20)),0,none⟩) (dT).length 32) rfl rfl rfl rfl rfl rfl rfl) ?_
  refine aG ?_
  exact cT (aA (aA rfl hs22) hs20) trivial (aB 0 rfl)
 rintro fa4 ⟨-,-,-,-,-,-⟩ ⟨j0,-⟩
 refine qD (L':=[row (.slice (some ⟨(bI (fa4 20)),0,none⟩) (dT).length 32) 5 1 ((dT).length) (BX dT),pt b1 (.cells #[.slice (some ⟨(bI (fa4 20)),0,none⟩) (dT).length 32,.slice none 0 0,.slice none 0 0,.int .i64 (-1)] 32)]) (by rfl) ?_
 refine aJ (d:=1) (v:= .pointer (some ⟨b1,0,none⟩)) j0 ?_
 refine aQ ?_
 refine aO ?_
 have hk3:16+(cL (3:Int)).length≤dT.length:=by rw[bL,lP];decide
 have hz32l:=lP
 have hcx7:=bL (3:Int)
 have hcx10:=bL (3:Int)
 refine mZ [⟨[],[],[0],[23],fun f=>f 23= .pointer (some ⟨b1,0,none⟩)⟩,⟨[0],[0],[],[24],fun f=>f 24= .slice (some ⟨(bI (fa4 20)),0,none⟩) (dT).length 32⟩,⟨[0,1],[1],[],[25],fun f=>f 25= .slice (gL (some ⟨(bI (fa4 20)),0,none⟩) 32 16 1) (((dT).length)-16) (32-16)⟩,⟨[],[],[],[26],fun f=>f 26= .slice (aM (f 26)) (cL (3:Int)).length (aN (f 26))⟩,⟨[0,1,2,3],[2,3],[],[27],fun f=>f 27=Nx ((cL (3:Int)).length)⟩] [⟨none,(some 4),[4],[],fun _=>row (.slice (some ⟨(bI (fa4 20)),0,none⟩) (dT).length 32) 5 1 ((dT).length) (BX dT)⟩,⟨none,(some 4),[1,4],[],fun _=>pt b1 (.cells #[.slice (some ⟨(bI (fa4 20)),0,none⟩) (dT).length 32,.slice none 0 0,.slice none 0 0,.int .i64 (-1)] 32)⟩,⟨(some 3),none,[4],[26],fun f=>row (.slice (aM (f 26)) (cL (3:Int)).length (aN (f 26))) 5 1 ((cL (3:Int)).length) (BX (cL (3:Int)))⟩,⟨(some 4),none,[],[],fun _=>row (.slice (some ⟨(bI (fa4 20)),0,none⟩) ((eM dT 16 (cL (3:Int)))).length 32) 5 1 (((eM dT 16 (cL (3:Int)))).length) (BX (eM dT 16 (cL (3:Int))))⟩,⟨(some 4),none,[],[],fun _=>pt b1 (.cells #[.slice (some ⟨(bI (fa4 20)),0,none⟩) ((eM dT 16 (cL (3:Int)))).length 32,.slice none 0 0,.slice none 0 0,.int .i64 (-1)] 32)⟩] [(1,.pointer (some ⟨b1,0,none⟩))] [0] [] (by kernel_rfl) (by kernel_rfl) (by kernel_rfl) (by kernel_rfl) rfl ⟨rfl,trivial⟩ ⟨?_,?_,?_,?_,?_,trivial⟩ ?_
 ·rintro f M-⟨i0,-⟩
  have hs1:f 1= .pointer (some ⟨b1,0,none⟩):=i0
  exact bK bM
 ·rintro f M ⟨k0,-⟩-
  have hs23:f 23= .pointer (some ⟨b1,0,none⟩):=k0
  exact bK (fA 0)
 ·rintro f M ⟨k0,-⟩-
  have hs24:f 24= .slice (some ⟨(bI (fa4 20)),0,none⟩) (dT).length 32:=k0
  refine bC (L':=M) (by rfl) (aA rfl hs24) ?_
  refine cW (v:= .slice (gL (some ⟨(bI (fa4 20)),0,none⟩) 32 16 1) (((dT).length)-16) (32-16)) rfl rfl rfl (jQ (a:=(some ⟨(bI (fa4 20)),0,none⟩)) (len:=(dT).length) (cap:=32) (l:=16) bQ rfl rfl (by omega)) ?_
  refine aG ?_
  exact aI (aA rfl hs24) rfl (List.Perm.refl _)
 ·rintro f M- -
  refine bC (L':=M) (by rfl) rfl ?_
  refine bP rfl rfl rfl (cS (fst:=[]) (cap:=[]) (vs:=[.int .i64 (3)]) (all:=[.int .i64 (3)]) sO.ok rfl rfl rfl) ?_
  intro w hw
  obtain⟨β1,sb,kn,hw1,back⟩:=St.frame_all hw
  refine(mF β1 w hw1 (3:Int)).mono ?_
  rintro e w' ⟨p8,c9,rfl,hw'⟩
  refine⟨_,rfl,_,back _ _ hw',?_⟩
  refine aG ?_
  exact aI rfl rfl (aB 0 rfl)
 ·rintro f M ⟨k0,k1,-⟩-
  have hs25:f 25= .slice (gL (some ⟨(bI (fa4 20)),0,none⟩) 32 16 1) (((dT).length)-16) (32-16):=k0
  have hs26:f 26= .slice (aM (f 26)) (cL (3:Int)).length (aN (f 26)):=k1
  refine bC (L':=row (.slice (some ⟨(bI (fa4 20)),0,none⟩) (dT).length 32) 5 1 ((dT).length) (BX dT)::pt b1 (.cells #[.slice (some ⟨(bI (fa4 20)),0,none⟩) (dT).length 32,.slice none 0 0,.slice none 0 0,.int .i64 (-1)] 32)::row (.slice (aM (f 26)) (cL (3:Int)).length (aN (f 26))) 5 1 ((cL (3:Int)).length) (BX (cL (3:Int)))::M) (by rfl) (aA (aA rfl hs25) hs26) ?_
  refine cF rfl rfl rfl (aBa (xs:=dT) (ys:=cL (3:Int)) (k:=16) (c:=32) (p:=(some ⟨(bI (fa4 20)),0,none⟩)) 0 bQ rfl rfl hk3 (by rw[lP];decide) (by rw[bL];decide) rfl (iF 2 rfl)) ?_
  rintro _ _ ⟨rfl,rfl⟩
  refine pR (L':=(row (.slice (some ⟨(bI (fa4 20)),0,none⟩) ((eM dT 16 (cL (3:Int)))).length 32) 5 1 (((eM dT 16 (cL (3:Int)))).length) (BX (eM dT 16 (cL (3:Int))))::pt b1 (.cells #[.slice (some ⟨(bI (fa4 20)),0,none⟩) ((eM dT 16 (cL (3:Int)))).length 32,.slice none 0 0,.slice none 0 0,.int .i64 (-1)] 32)::row (.slice (aM (f 26)) (cL (3:Int)).length (aN (f 26))) 5 1 ((cL (3:Int)).length) (BX (cL (3:Int)))::M)) (by show(row (.slice (some ⟨(bI (fa4 20)),0,none⟩) ((eM dT 16 (cL (3:Int)))).length 32) 5 1 (((eM dT 16 (cL (3:Int)))).length) (BX (eM dT 16 (cL (3:Int))))::pt b1 (.cells #[.slice (some ⟨(bI (fa4 20)),0,none⟩) (dT).length 32,.slice none 0 0,.slice none 0 0,.int .i64 (-1)] 32)::row (.slice (aM (f 26)) (cL (3:Int)).length (aN (f 26))) 5 1 ((cL (3:Int)).length) (BX (cL (3:Int)))::M)=_;rw[mR hk3]) ?_
  refine aG ?_
  exact aI (aA (aA rfl hs25) hs26) rfl (((aB 1 rfl).trans (aB 1 rfl)).trans (aB 2 rfl))
 rintro fa11 ⟨-,-,-,-,-,-⟩ ⟨j0,-⟩
 refine qD (L':=[row (.slice (aM (fa11 26)) (cL (3:Int)).length (aN (fa11 26))) 5 1 ((cL (3:Int)).length) (BX (cL (3:Int))),row (.slice (some ⟨(bI (fa4 20)),0,none⟩) ((eM dT 16 (cL (3:Int)))).length 32) 5 1 (((eM dT 16 (cL (3:Int)))).length) (BX (eM dT 16 (cL (3:Int)))),pt b1 (.cells #[.slice (some ⟨(bI (fa4 20)),0,none⟩) ((eM dT 16 (cL (3:Int)))).length 32,.slice none 0 0,.slice none 0 0,.int .i64 (-1)] 32)]) (by rfl) ?_
 refine aJ (d:=1) (v:= .pointer (some ⟨b1,0,none⟩)) j0 ?_
 refine aQ ?_
 refine aO ?_
 have hk4:(cL (2:Int)).length≤(eM dT 16 (cL (3:Int))).length:=by rw[bL,mR hk3,lP];decide
 have hk4z:0+(cL (2:Int)).length≤(eM dT 16 (cL (3:Int))).length:=by omega
 have hcx14:=bL (2:Int)
 have hcx17:=bL (2:Int)
 refine mZ [⟨[],[],[0],[28],fun f=>f 28= .pointer (some ⟨b1,0,none⟩)⟩,⟨[0],[0],[],[29],fun f=>f 29= .slice (some ⟨(bI (fa4 20)),0,none⟩) ((eM dT 16 (cL (3:Int)))).length 32⟩,⟨[],[],[],[30],fun f=>f 30= .slice (aM (f 30)) (cL (2:Int)).length (aN (f 30))⟩,⟨[0,1,2],[1,2],[],[31],fun f=>f 31=Nx ((cL (2:Int)).length)⟩] [⟨none,none,[],[],fun _=>row (.slice (aM (fa11 26)) (cL (3:Int)).length (aN (fa11 26))) 5 1 ((cL (3:Int)).length) (BX (cL (3:Int)))⟩,⟨none,(some 3),[3],[],fun _=>row (.slice (some ⟨(bI (fa4 20)),0,none⟩) ((eM dT 16 (cL (3:Int)))).length 32) 5 1 (((eM dT 16 (cL (3:Int)))).length) (BX (eM dT 16 (cL (3:Int))))⟩,⟨none,(some 3),[1,3],[],fun _=>pt b1 (.cells #[.slice (some ⟨(bI (fa4 20)),0,none⟩) ((eM dT 16 (cL (3:Int)))).length 32,.slice none 0 0,.slice none 0 0,.int .i64 (-1)] 32)⟩,⟨(some 2),none,[3],[30],fun f=>row (.slice (aM (f 30)) (cL (2:Int)).length (aN (f 30))) 5 1 ((cL (2:Int)).length) (BX (cL (2:Int)))⟩,⟨(some 3),none,[],[],fun _=>row (.slice (some ⟨(bI (fa4 20)),0,none⟩) ((eM (eM dT 16 (cL (3:Int))) 0 (cL (2:Int)))).length 32) 5 1 (((eM (eM dT 16 (cL (3:Int))) 0 (cL (2:Int)))).length) (BX (eM (eM dT 16 (cL (3:Int))) 0 (cL (2:Int))))⟩,⟨(some 3),none,[],[],fun _=>pt b1 (.cells #[.slice (some ⟨(bI (fa4 20)),0,none⟩) ((eM (eM dT 16 (cL (3:Int))) 0 (cL (2:Int)))).length 32,.slice none 0 0,.slice none 0 0,.int .i64 (-1)] 32)⟩] [(1,.pointer (some ⟨b1,0,none⟩))] [0] [] (by kernel_rfl) (by kernel_rfl) (by kernel_rfl) (by kernel_rfl) rfl ⟨rfl,trivial⟩ ⟨?_,?_,?_,?_,trivial⟩ ?_
 ·rintro f M-⟨i0,-⟩
  have hs1:f 1= .pointer (some ⟨b1,0,none⟩):=i0
  exact bK bM
 ·rintro f M ⟨k0,-⟩-
  have hs28:f 28= .pointer (some ⟨b1,0,none⟩):=k0
  exact bK (fA 0)
 ·rintro f M- -
  refine bC (L':=M) (by rfl) rfl ?_
  refine bP rfl rfl rfl (cS (fst:=[]) (cap:=[]) (vs:=[.int .i64 (2)]) (all:=[.int .i64 (2)]) sO.ok rfl rfl rfl) ?_
  intro w hw
  obtain⟨β1,sb,kn,hw1,back⟩:=St.frame_all hw
  refine(mF β1 w hw1 (2:Int)).mono ?_
  rintro e w' ⟨p15,c16,rfl,hw'⟩
  refine⟨_,rfl,_,back _ _ hw',?_⟩
  refine aG ?_
  exact aI rfl rfl (aB 0 rfl)
 ·rintro f M ⟨k0,k1,-⟩-
  have hs29:f 29= .slice (some ⟨(bI (fa4 20)),0,none⟩) ((eM dT 16 (cL (3:Int)))).length 32:=k0
  have hs30:f 30= .slice (aM (f 30)) (cL (2:Int)).length (aN (f 30)):=k1
  refine bC (L':=row (.slice (some ⟨(bI (fa4 20)),0,none⟩) ((eM dT 16 (cL (3:Int)))).length 32) 5 1 (((eM dT 16 (cL (3:Int)))).length) (BX (eM dT 16 (cL (3:Int))))::pt b1 (.cells #[.slice (some ⟨(bI (fa4 20)),0,none⟩) ((eM dT 16 (cL (3:Int)))).length 32,.slice none 0 0,.slice none 0 0,.int .i64 (-1)] 32)::row (.slice (aM (f 30)) (cL (2:Int)).length (aN (f 30))) 5 1 ((cL (2:Int)).length) (BX (cL (2:Int)))::M) (by rfl) (aA (aA rfl hs29) hs30) ?_
  refine cF rfl rfl rfl (aHs (xs:=(eM dT 16 (cL (3:Int)))) (ys:=cL (2:Int)) (c:=32) (p:=(some ⟨(bI (fa4 20)),0,none⟩)) 0 bQ rfl rfl hk4 (by rw[bL];decide) rfl (iF 2 rfl)) ?_
  rintro _ _ ⟨rfl,rfl⟩
  refine pR (L':=(row (.slice (some ⟨(bI (fa4 20)),0,none⟩) ((eM (eM dT 16 (cL (3:Int))) 0 (cL (2:Int)))).length 32) 5 1 (((eM (eM dT 16 (cL (3:Int))) 0 (cL (2:Int)))).length) (BX (eM (eM dT 16 (cL (3:Int))) 0 (cL (2:Int))))::pt b1 (.cells #[.slice (some ⟨(bI (fa4 20)),0,none⟩) ((eM (eM dT 16 (cL (3:Int))) 0 (cL (2:Int)))).length 32,.slice none 0 0,.slice none 0 0,.int .i64 (-1)] 32)::row (.slice (aM (f 30)) (cL (2:Int)).length (aN (f 30))) 5 1 ((cL (2:Int)).length) (BX (cL (2:Int)))::M)) (by show(row (.slice (some ⟨(bI (fa4 20)),0,none⟩) ((eM (eM dT 16 (cL (3:Int))) 0 (cL (2:Int)))).length 32) 5 1 (((eM (eM dT 16 (cL (3:Int))) 0 (cL (2:Int)))).length) (BX (eM (eM dT 16 (cL (3:Int))) 0 (cL (2:Int))))::pt b1 (.cells #[.slice (some ⟨(bI (fa4 20)),0,none⟩) ((eM dT 16 (cL (3:Int)))).length 32,.slice none 0 0,.slice none 0 0,.int .i64 (-1)] 32)::row (.slice (aM (f 30)) (cL (2:Int)).length (aN (f 30))) 5 1 ((cL (2:Int)).length) (BX (cL (2:Int)))::M)=_;rw[mR hk4z]) ?_
  refine aG ?_
  exact aI (aA (aA rfl hs29) hs30) rfl (((aB 1 rfl).trans (aB 1 rfl)).trans (aB 2 rfl))
 rintro fa18 ⟨-,-,-,-,-⟩ ⟨j0,-⟩
 refine qD (L':=[row (.slice (aM (fa11 26)) (cL (3:Int)).length (aN (fa11 26))) 5 1 ((cL (3:Int)).length) (BX (cL (3:Int))),row (.slice (aM (fa18 30)) (cL (2:Int)).length (aN (fa18 30))) 5 1 ((cL (2:Int)).length) (BX (cL (2:Int))),row (.slice (some ⟨(bI (fa4 20)),0,none⟩) ((eM (eM dT 16 (cL (3:Int))) 0 (cL (2:Int)))).length 32) 5 1 (((eM (eM dT 16 (cL (3:Int))) 0 (cL (2:Int)))).length) (BX (eM (eM dT 16 (cL (3:Int))) 0 (cL (2:Int)))),pt b1 (.cells #[.slice (some ⟨(bI (fa4 20)),0,none⟩) ((eM (eM dT 16 (cL (3:Int))) 0 (cL (2:Int)))).length 32,.slice none 0 0,.slice none 0 0,.int .i64 (-1)] 32)]) (by rfl) ?_
 refine aJ (d:=1) (v:= .pointer (some ⟨b1,0,none⟩)) j0 ?_
 refine aQ ?_
 refine aO ?_
 refine aC ?_
 refine cF rfl rfl rfl (cO bQ iG.ok (vs:=[(0,.int .u8 (120)),(1,.int .u8 (121)),(2,.int .u8 (122))]) (cells:= #[.int .u8 (120),.int .u8 (121),.int .u8 (122)]) rfl rfl rfl rfl) ?_
 rintro _ _ ⟨b19,rfl,rfl⟩
 refine cF rfl rfl rfl (lU 0 rfl rfl mM.ok tM) ?_
 rintro _ _ ⟨rfl,rfl⟩
 have hfo22:=aH (3:Int) (7:Int) [(120:UInt8),(121:UInt8),(122:UInt8)]
 refine bP rfl rfl rfl (cS (fst:=[]) (cap:=[]) (vs:=[.int .i64 (3),.int .i64 (7),.slice (some ⟨b19,0,none⟩) 3 3]) (all:=[.int .i64 (3),.int .i64 (7),.slice (some ⟨b19,0,none⟩) 3 3]) oE.ok rfl rfl rfl) ?_
 intro w hw
 obtain⟨β1,sb,kn,hw1,back⟩:=St.frame_all hw
 refine(gZ β1 w hw1 (3:Int) (7:Int) [(120:UInt8),(121:UInt8),(122:UInt8)] _ (by first|omega|(simp only[List.length_append,List.length_nil,List.length_cons,List.length_take,List.length_replicate,List.length_set,aH,bL];omega)) (⟨⟨_,_,rfl,by simp,by simp,kn _ (fO 0 (xs:=[(120:UInt8),(121:UInt8),(122:UInt8)]) rfl)⟩⟩:Sl bE _ _ _)).mono ?_
 rintro e w' ⟨p20,c21,rfl,hw'⟩
 refine⟨_,rfl,_,back _ _ hw',?_⟩
 refine lE bM ?_
 refine kD rfl rfl (bS 5 lV.ok (b:=b1) (o:=2) (T:=32) (cs:= #[.slice (some ⟨(bI (fa4 20)),0,none⟩) ((eM (eM dT 16 (cL (3:Int))) 0 (cL (2:Int)))).length 32,.slice none 0 0,.slice none 0 0,.int .i64 (-1)]) (cs':= #[.slice (some ⟨(bI (fa4 20)),0,none⟩) ((eM (eM dT 16 (cL (3:Int))) 0 (cL (2:Int)))).length 32,.slice none 0 0,.slice p20 (aD (3:Int) (7:Int) [(120:UInt8),(121:UInt8),(122:UInt8)]).length c21,.int .i64 (-1)]) (v:= .slice p20 (aD (3:Int) (7:Int) [(120:UInt8),(121:UInt8),(122:UInt8)]).length c21) rfl rfl rfl rfl rfl rfl rfl) ?_
 refine aG ?_
 refine aQ ?_
 refine aO ?_
 refine aO ?_
 refine iW (r:=row (.slice none 0 0) 5 1 0 (BX [])) (eS _ _ _) ?_
 have hK0h:((eM (eM dT 16 (cL (3:Int))) 0 (cL (2:Int)))).length=32:=by rw[mR hk4z,mR hk3,lP]
 have hK0b:(aD (3:Int) (7:Int) [(120:UInt8),(121:UInt8),(122:UInt8)]).length≤40:=by rw[aH];decide
 refine tP (L':=[pt b1 (.cells #[.slice (some ⟨(bI (fa4 20)),0,none⟩) ((eM (eM dT 16 (cL (3:Int))) 0 (cL (2:Int)))).length 32,.slice none 0 0,.slice p20 (aD (3:Int) (7:Int) [(120:UInt8),(121:UInt8),(122:UInt8)]).length c21,.int .i64 (-1)] 32),row (.slice (some ⟨(bI (fa4 20)),0,none⟩) ((eM (eM dT 16 (cL (3:Int))) 0 (cL (2:Int)))).length 32) 5 1 (((eM (eM dT 16 (cL (3:Int))) 0 (cL (2:Int)))).length) (BX (eM (eM dT 16 (cL (3:Int))) 0 (cL (2:Int)))),row (.slice none 0 0) 5 1 (0) (BX []),row (.slice p20 (aD (3:Int) (7:Int) [(120:UInt8),(121:UInt8),(122:UInt8)]).length c21) 5 1 ((aD (3:Int) (7:Int) [(120:UInt8),(121:UInt8),(122:UInt8)]).length) (BX (aD (3:Int) (7:Int) [(120:UInt8),(121:UInt8),(122:UInt8)])),pt b19 (.cells #[.int .u8 (120),.int .u8 (121),.int .u8 (122)] 5 (3,3+1)),row (.slice (aM (fa11 26)) (cL (3:Int)).length (aN (fa11 26))) 5 1 ((cL (3:Int)).length) (BX (cL (3:Int))),row (.slice (aM (fa18 30)) (cL (2:Int)).length (aN (fa18 30))) 5 1 ((cL (2:Int)).length) (BX (cL (2:Int)))]) (by exact(bN [6,5,0,1,2,3,4] 7 rfl (by kernel_rfl) (by kernel_rfl))) ?_
 refine bW (S:=b1) (k:=(⟨(eM (eM dT 16 (cL (3:Int))) 0 (cL (2:Int))),[],aD (3:Int) (7:Int) [(120:UInt8),(121:UInt8),(122:UInt8)],(-1:Int)⟩:KS)) (pH:=(some ⟨(bI (fa4 20)),0,none⟩)) (pA:=none) (pB:=p20) (cH:=32) (cA:=0) (cB:=c21) (M:=(pt b19 (.cells #[.int .u8 (120),.int .u8 (121),.int .u8 (122)] 5 (3,3+1))::row (.slice (aM (fa11 26)) (cL (3:Int)).length (aN (fa11 26))) 5 1 ((cL (3:Int)).length) (BX (cL (3:Int)))::row (.slice (aM (fa18 30)) (cL (2:Int)).length (aN (fa18 30))) 5 1 ((cL (2:Int)).length) (BX (cL (2:Int)))::[])) rfl ?_
 refine aC ?_
 refine lE bG ?_
 refine aG ?_
 refine aQ ?_
 refine aY ?_
 refine kY [true,false,false,false] rfl ?_
 refine dV (fun(x_:Nat×KS) (f:Fm) (L:List cE)=>match x_ with|(k,K)=>(f 1= .pointer (some ⟨b1,0,none⟩)∧f 36=Nx (k))∧L=[aS b1 K]∧(k≤4∧K.head.length=32∧K.a.length≤40*k∧K.b.length≤40+40*k∧K.power= -1)) (fun(x_:Nat×KS)=>match x_ with|(k,K)=>4-k) (0,(⟨(eM (eM dT 16 (cL (3:Int))) 0 (cL (2:Int))),[],aD (3:Int) (7:Int) [(120:UInt8),(121:UInt8),(122:UInt8)],(-1:Int)⟩:KS)) ?_ ?_
 ·exact⟨⟨rfl,rfl⟩,rfl,⟨by omega,hK0h,Nat.le_refl _,hK0b,rfl⟩⟩
 rintro⟨k,K⟩ f0 L0 ⟨⟨hs1,hs36⟩,hL,⟨hk,hKh,hKa,hKb,hKp⟩⟩
 subst L0
 refine eZ (d:=1) hs1 ?_
 refine eZ (d:=36) hs36 ?_
 clear hs1 hs36
 refine aO ?_
 refine aC ?_
 refine lE jI ?_
 refine aG ?_
 refine aQ ?_
 refine aO ?_
 refine cK (((k:Nat):Int)<(4:Int)) rfl (fun hc23=> ?_) (fun hc23=> ?_)
 ·
  refine cM ?_
  refine aQ ?_
  refine aO ?_
  refine aY ?_
  refine aO ?_
  refine aC ?_
  refine lE bG ?_
  refine lE bV ?_
  refine aG ?_
  refine aQ ?_
  refine aO ?_
  refine tP (L':=[aS b1 K]) (by exact(bN [0] 1 rfl (by kernel_rfl) (by kernel_rfl))) ?_
  refine cI rfl (fun pH24 pA25 pB26 cH27 cA28 cB29=> ?_)
  refine bA 1 rfl (fun hcl30 hcm31=> ?_)
  refine bA 2 rfl (fun hcl32 hcm33=> ?_)
  refine bA 3 rfl (fun hcl34 hcm35=> ?_)
  have hre37:(List.replicate k (0:UInt8)).length=k:=List.length_replicate
  have hre39:(List.replicate k (0:UInt8)).length=k:=List.length_replicate
  have hfo42:=aH (3:Int) ((7+k:Nat):Int) (List.replicate k (0:UInt8))
  have hfo45:=aH (3:Int) ((7+k:Nat):Int) (List.replicate k (0:UInt8))
  refine mZ [⟨[],[],[0],[39],fun f=>f 39= .pointer (some ⟨b1,2,none⟩)⟩,⟨[0],[0],[],[40],fun f=>f 40= .slice pB26 (K.b).length cB29⟩,⟨[],[],[1],[41],fun f=>f 41=Nx (k)⟩,⟨[2],[2],[],[42],fun f=>f 42=Nx (7+k)⟩,⟨[],[],[1],[43],fun f=>f 43=Nx (k)⟩,⟨[4],[4],[],[44],fun f=>f 44= .slice (some ⟨(bI (f 44)),0,none⟩) (List.replicate k (0:UInt8)).length k⟩,⟨[2,3,4,5],[3,5],[],[45],fun f=>f 45= .slice (aM (f 45)) (aD (3:Int) ((7+k:Nat):Int) (List.replicate k (0:UInt8))).length (aN (f 45))⟩,⟨[0,1,2,3,4,5,6],[1,6],[],[46],fun f=>f 46= .slice (aM (f 46)) (K.b++(aD (3:Int) ((7+k:Nat):Int) (List.replicate k (0:UInt8)))).length (aN (f 46))⟩,⟨[0,1,2,3,4,5,6,7],[],[0],[47],fun f=>f 47= .pointer (some ⟨b1,2,none⟩)⟩,⟨[0,1,2,3,4,5,6,7,8],[8,7],[],[],fun _=>True⟩] [⟨none,(some 9),[1,9],[],fun _=>pt b1 (.cells #[.slice pH24 (K.head).length cH27,.slice pA25 (K.a).length cA28,.slice pB26 (K.b).length cB29,Ix (K.power)] 32)⟩,⟨none,none,[],[],fun _=>row (.slice pH24 (K.head).length cH27) 5 1 ((K.head).length) (BX K.head)⟩,⟨none,none,[],[],fun _=>row (.slice pA25 (K.a).length cA28) 5 1 ((K.a).length) (BX K.a)⟩,⟨none,(some 7),[7],[],fun _=>row (.slice pB26 (K.b).length cB29) 5 1 ((K.b).length) (BX K.b)⟩,⟨(some 5),none,[6],[44],fun f=>row (.slice (some ⟨(bI (f 44)),0,none⟩) (List.replicate k (0:UInt8)).length k) 5 1 ((List.replicate k (0:UInt8)).length) (BX (List.replicate k (0:UInt8)))⟩,⟨(some 6),none,[7],[45],fun f=>row (.slice (aM (f 45)) (aD (3:Int) ((7+k:Nat):Int) (List.replicate k (0:UInt8))).length (aN (f 45))) 5 1 ((aD (3:Int) ((7+k:Nat):Int) (List.replicate k (0:UInt8))).length) (BX (aD (3:Int) ((7+k:Nat):Int) (List.replicate k (0:UInt8))))⟩,⟨(some 7),none,[],[46],fun f=>row (.slice (aM (f 46)) (K.b++(aD (3:Int) ((7+k:Nat):Int) (List.replicate k (0:UInt8)))).length (aN (f 46))) 5 1 ((K.b++(aD (3:Int) ((7+k:Nat):Int) (List.replicate k (0:UInt8)))).length) (BX (K.b++(aD (3:Int) ((7+k:Nat):Int) (List.replicate k (0:UInt8)))))⟩,⟨(some 9),none,[],[46],fun f=>pt b1 (.cells #[.slice pH24 (K.head).length cH27,.slice pA25 (K.a).length cA28,.slice (aM (f 46)) (K.b++(aD (3:Int) ((7+k:Nat):Int) (List.replicate k (0:UInt8)))).length (aN (f 46)),Ix (K.power)] 32)⟩] [(1,.pointer (some ⟨b1,0,none⟩)),(2,Nx (k)),(36,Nx (k))] [0,1,2] [] (by kernel_rfl) (by kernel_rfl) (by kernel_rfl) (by kernel_rfl) rfl ⟨rfl,rfl,rfl,trivial⟩ ⟨?_,?_,?_,?_,?_,?_,?_,?_,?_,?_,trivial⟩ ?_
  ·rintro f M-⟨i0,-⟩
   have hs1:f 1= .pointer (some ⟨b1,0,none⟩):=i0
   exact bK bM
  ·rintro f M ⟨k0,-⟩-
   have hs39:f 39= .pointer (some ⟨b1,2,none⟩):=k0
   exact bK (fA 0)
  ·rintro f M-⟨i0,-⟩
   have hs2:f 2=Nx (k):=i0
   exact bK bG
  ·rintro f M ⟨k0,-⟩-
   have hs41:f 41=Nx (k):=k0
   refine bC (L':=M) (by rfl) (aA rfl hs41) ?_
   refine cW (v:=Nx (7+k)) rfl rfl rfl (bJ (a:=(7:Int)) (b:=((k:Nat):Int)) rfl rfl (bU (by omega) (by omega))) ?_
   refine aG ?_
   exact aI (aA rfl hs41) rfl (List.Perm.refl _)
  ·rintro f M-⟨i0,-⟩
   have hs2:f 2=Nx (k):=i0
   exact bK bG
  ·rintro f M ⟨k0,-⟩-
   have hs43:f 43=Nx (k):=k0
   refine bC (L':=M) (by rfl) (aA rfl hs43) ?_
   refine cF rfl rfl rfl (aHt (c:=k) bQ fV iG.ok rfl rfl (by omega)) ?_
   rintro _ _ ⟨b38,rfl,rfl⟩
   refine aG ?_
   exact aI (aA rfl hs43) rfl (aB 0 rfl)
  ·rintro f M ⟨k0,k1,-⟩-
   have hs42:f 42=Nx (7+k):=k0
   have hs44:f 44= .slice (some ⟨(bI (f 44)),0,none⟩) (List.replicate k (0:UInt8)).length k:=k1
   refine bC (L':=row (.slice (some ⟨(bI (f 44)),0,none⟩) (List.replicate k (0:UInt8)).length k) 5 1 ((List.replicate k (0:UInt8)).length) (BX (List.replicate k (0:UInt8)))::M) (by rfl) (aA (aA rfl hs42) hs44) ?_
   refine bP rfl rfl rfl (cS (fst:=[]) (cap:=[]) (vs:=[.int .i64 (3),Nx (7+k),.slice (some ⟨(bI (f 44)),0,none⟩) (List.replicate k (0:UInt8)).length k]) (all:=[.int .i64 (3),Nx (7+k),.slice (some ⟨(bI (f 44)),0,none⟩) (List.replicate k (0:UInt8)).length k]) oE.ok rfl rfl rfl) ?_
   intro w hw
   obtain⟨β1,sb,kn,hw1,back⟩:=St.frame_all hw
   refine(gZ β1 w hw1 (3:Int) ((7+k:Nat):Int) (List.replicate k (0:UInt8)) _ (by first|omega|(simp only[List.length_append,List.length_nil,List.length_cons,List.length_take,List.length_replicate,List.length_set,aH,bL];omega)) (kn _ (aX.of_res 0 rfl (Sl.mono bE _ _) fun _ h=>fB h))).mono ?_
   rintro e w' ⟨p43,c44,rfl,hw'⟩
   refine⟨_,rfl,_,back _ _ hw',?_⟩
   refine aG ?_
   exact aI (aA (aA rfl hs42) hs44) rfl ((aB 0 rfl).trans (aB 1 rfl))
  ·rintro f M ⟨k0,k1,-⟩-
   have hs40:f 40= .slice pB26 (K.b).length cB29:=k0
   have hs45:f 45= .slice (aM (f 45)) (aD (3:Int) ((7+k:Nat):Int) (List.replicate k (0:UInt8))).length (aN (f 45)):=k1
   refine bC (L':=row (.slice pB26 (K.b).length cB29) 5 1 ((K.b).length) (BX K.b)::row (.slice (aM (f 45)) (aD (3:Int) ((7+k:Nat):Int) (List.replicate k (0:UInt8))).length (aN (f 45))) 5 1 ((aD (3:Int) ((7+k:Nat):Int) (List.replicate k (0:UInt8))).length) (BX (aD (3:Int) ((7+k:Nat):Int) (List.replicate k (0:UInt8))))::M) (by rfl) (aA (aA rfl hs40) hs45) ?_
   refine cF rfl rfl rfl (cG (enc:=fun c:UInt8=>Bx c) 0 dJ bQ fV (v:= .slice pB26 (K.b).length cB29) (xs:=K.b) (ys:=aD (3:Int) ((7+k:Nat):Int) (List.replicate k (0:UInt8))) (ao:=(aM (f 45))) (c:=(aN (f 45))) rfl rfl (by first|rfl|simp) rfl (by first|rfl|simp) (iF 1 rfl) (by first|omega|(simp only[List.length_append,List.length_nil,List.length_cons,aL]at*;omega)) (by first|omega|(simp only[List.length_append,List.length_nil,List.length_cons,aL]at*;omega))) ?_
   rintro _ _ ⟨rp48,rc49,rfl,rfl⟩
   refine aG ?_
   exact aI (aA (aA rfl hs40) hs45) rfl ((aB 0 rfl).trans (aB 1 rfl))
  ·rintro f M-⟨i0,-⟩
   have hs1:f 1= .pointer (some ⟨b1,0,none⟩):=i0
   exact bK bM
  ·rintro f M ⟨k0,k1,-⟩-
   have hs47:f 47= .pointer (some ⟨b1,2,none⟩):=k0
   have hs46:f 46= .slice (aM (f 46)) (K.b++(aD (3:Int) ((7+k:Nat):Int) (List.replicate k (0:UInt8)))).length (aN (f 46)):=k1
   refine bC (L':=pt b1 (.cells #[.slice pH24 (K.head).length cH27,.slice pA25 (K.a).length cA28,.slice pB26 (K.b).length cB29,Ix (K.power)] 32)::M) (by rfl) (aA (aA rfl hs47) hs46) ?_
   refine kD rfl rfl (bS 0 lV.ok (b:=b1) (o:=2) (T:=32) (cs:= #[.slice pH24 (K.head).length cH27,.slice pA25 (K.a).length cA28,.slice pB26 (K.b).length cB29,Ix (K.power)]) (cs':= #[.slice pH24 (K.head).length cH27,.slice pA25 (K.a).length cA28,.slice (aM (f 46)) (K.b++(aD (3:Int) ((7+k:Nat):Int) (List.replicate k (0:UInt8)))).length (aN (f 46)),Ix (K.power)]) (v:= .slice (aM (f 46)) (K.b++(aD (3:Int) ((7+k:Nat):Int) (List.replicate k (0:UInt8)))).length (aN (f 46))) rfl rfl rfl rfl rfl rfl rfl) ?_
   refine aG ?_
   exact cT (aA (aA rfl hs47) hs46) trivial (aB 0 rfl)
  rintro fa50 ⟨-,-,-,-,-,-,-,-,-,-,-⟩ ⟨j0,j1,j2,-⟩
  refine qD (L':=[row (.slice pH24 (K.head).length cH27) 5 1 ((K.head).length) (BX K.head),row (.slice pA25 (K.a).length cA28) 5 1 ((K.a).length) (BX K.a),row (.slice (some ⟨(bI (fa50 44)),0,none⟩) (List.replicate k (0:UInt8)).length k) 5 1 ((List.replicate k (0:UInt8)).length) (BX (List.replicate k (0:UInt8))),row (.slice (aM (fa50 45)) (aD (3:Int) ((7+k:Nat):Int) (List.replicate k (0:UInt8))).length (aN (fa50 45))) 5 1 ((aD (3:Int) ((7+k:Nat):Int) (List.replicate k (0:UInt8))).length) (BX (aD (3:Int) ((7+k:Nat):Int) (List.replicate k (0:UInt8)))),row (.slice (aM (fa50 46)) (K.b++(aD (3:Int) ((7+k:Nat):Int) (List.replicate k (0:UInt8)))).length (aN (fa50 46))) 5 1 ((K.b++(aD (3:Int) ((7+k:Nat):Int) (List.replicate k (0:UInt8)))).length) (BX (K.b++(aD (3:Int) ((7+k:Nat):Int) (List.replicate k (0:UInt8))))),pt b1 (.cells #[.slice pH24 (K.head).length cH27,.slice pA25 (K.a).length cA28,.slice (aM (fa50 46)) (K.b++(aD (3:Int) ((7+k:Nat):Int) (List.replicate k (0:UInt8)))).length (aN (fa50 46)),Ix (K.power)] 32)]) (by rfl) ?_
  refine aJ (d:=1) (v:= .pointer (some ⟨b1,0,none⟩)) j0 ?_
  refine aJ (d:=2) (v:=Nx (k)) j1 ?_
  refine aJ (d:=36) (v:=Nx (k)) j2 ?_
  refine aQ ?_
  have hta53:(([(97:UInt8),(98:UInt8)]:Bs).take (k%3)).length≤2:=by rw[List.length_take];exact Nat.min_le_right _ _
  have hfo56:=aH (2:Int) ((5+(k/2):Nat):Int) (([(97:UInt8),(98:UInt8)]:Bs).take (k%3))
  have hta57:(([(97:UInt8),(98:UInt8)]:Bs).take (k%3)).length≤2:=by rw[List.length_take];exact Nat.min_le_right _ _
  have hfo60:=aH (2:Int) ((5+(k/2):Nat):Int) (([(97:UInt8),(98:UInt8)]:Bs).take (k%3))
  refine mZ [⟨[],[],[0],[48],fun f=>f 48= .pointer (some ⟨b1,1,none⟩)⟩,⟨[0],[0],[],[49],fun f=>f 49= .slice pA25 (K.a).length cA28⟩,⟨[],[],[1],[50],fun f=>f 50=Nx (k)⟩,⟨[2],[2],[],[51],fun f=>f 51=Nx (k/2)⟩,⟨[2,3],[3],[],[52],fun f=>f 52=Nx (5+(k/2))⟩,⟨[],[],[],[53],fun f=>f 53= .slice (some ⟨(bI (f 53)),0,none⟩) 2 2⟩,⟨[5],[5],[],[53,54],fun f=>f 54= .slice (some ⟨(bI (f 53)),0,none⟩) 2 2⟩,⟨[],[],[1],[55],fun f=>f 55=Nx (k)⟩,⟨[7],[7],[],[56],fun f=>f 56=Nx (k%3)⟩,⟨[5,6,7,8],[6,8],[],[53,57],fun f=>f 57= .slice (some ⟨(bI (f 53)),0,none⟩) (k%3) 2⟩,⟨[2,3,4,5,6,7,8,9],[4,9],[],[58],fun f=>f 58= .slice (aM (f 58)) (aD (2:Int) ((5+(k/2):Nat):Int) (([(97:UInt8),(98:UInt8)]:Bs).take (k%3))).length (aN (f 58))⟩,⟨[0,1,2,3,4,5,6,7,8,9,10],[1,10],[],[59],fun f=>f 59= .slice (aM (f 59)) (K.a++(aD (2:Int) ((5+(k/2):Nat):Int) (([(97:UInt8),(98:UInt8)]:Bs).take (k%3)))).length (aN (f 59))⟩,⟨[0,1,2,3,4,5,6,7,8,9,10,11],[],[0],[60],fun f=>f 60= .pointer (some ⟨b1,1,none⟩)⟩,⟨[0,1,2,3,4,5,6,7,8,9,10,11,12],[12,11],[],[],fun _=>True⟩] [⟨none,none,[],[],fun _=>row (.slice pH24 (K.head).length cH27) 5 1 ((K.head).length) (BX K.head)⟩,⟨none,(some 11),[11],[],fun _=>row (.slice pA25 (K.a).length cA28) 5 1 ((K.a).length) (BX K.a)⟩,⟨none,none,[],[],fun _=>row (.slice (some ⟨(bI (fa50 44)),0,none⟩) (List.replicate k (0:UInt8)).length k) 5 1 ((List.replicate k (0:UInt8)).length) (BX (List.replicate k (0:UInt8)))⟩,⟨none,none,[],[],fun _=>row (.slice (aM (fa50 45)) (aD (3:Int) ((7+k:Nat):Int) (List.replicate k (0:UInt8))).length (aN (fa50 45))) 5 1 ((aD (3:Int) ((7+k:Nat):Int) (List.replicate k (0:UInt8))).length) (BX (aD (3:Int) ((7+k:Nat):Int) (List.replicate k (0:UInt8))))⟩,⟨none,none,[],[],fun _=>row (.slice (aM (fa50 46)) (K.b++(aD (3:Int) ((7+k:Nat):Int) (List.replicate k (0:UInt8)))).length (aN (fa50 46))) 5 1 ((K.b++(aD (3:Int) ((7+k:Nat):Int) (List.replicate k (0:UInt8)))).length) (BX (K.b++(aD (3:Int) ((7+k:Nat):Int) (List.replicate k (0:UInt8)))))⟩,⟨none,(some 13),[1,13],[],fun _=>pt b1 (.cells #[.slice pH24 (K.head).length cH27,.slice pA25 (K.a).length cA28,.slice (aM (fa50 46)) (K.b++(aD (3:Int) ((7+k:Nat):Int) (List.replicate k (0:UInt8)))).length (aN (fa50 46)),Ix (K.power)] 32)⟩,⟨(some 5),(some 6),[6],[53],fun f=>pt (bI (f 53)) (.cells #[.int .u8 (97),.int .u8 (98)] 5)⟩,⟨(some 6),none,[10],[53],fun f=>pt (bI (f 53)) (.cells #[.int .u8 (97),.int .u8 (98)] 5 (2,2+1))⟩,⟨(some 10),none,[11],[58],fun f=>row (.slice (aM (f 58)) (aD (2:Int) ((5+(k/2):Nat):Int) (([(97:UInt8),(98:UInt8)]:Bs).take (k%3))).length (aN (f 58))) 5 1 ((aD (2:Int) ((5+(k/2):Nat):Int) (([(97:UInt8),(98:UInt8)]:Bs).take (k%3))).length) (BX (aD (2:Int) ((5+(k/2):Nat):Int) (([(97:UInt8),(98:UInt8)]:Bs).take (k%3))))⟩,⟨(some 11),none,[],[59],fun f=>row (.slice (aM (f 59)) (K.a++(aD (2:Int) ((5+(k/2):Nat):Int) (([(97:UInt8),(98:UInt8)]:Bs).take (k%3)))).length (aN (f 59))) 5 1 ((K.a++(aD (2:Int) ((5+(k/2):Nat):Int) (([(97:UInt8),(98:UInt8)]:Bs).take (k%3)))).length) (BX (K.a++(aD (2:Int) ((5+(k/2):Nat):Int) (([(97:UInt8),(98:UInt8)]:Bs).take (k%3)))))⟩,⟨(some 13),none,[],[59],fun f=>pt b1 (.cells #[.slice pH24 (K.head).length cH27,.slice (aM (f 59)) (K.a++(aD (2:Int) ((5+(k/2):Nat):Int) (([(97:UInt8),(98:UInt8)]:Bs).take (k%3)))).length (aN (f 59)),.slice (aM (fa50 46)) (K.b++(aD (3:Int) ((7+k:Nat):Int) (List.replicate k (0:UInt8)))).length (aN (fa50 46)),Ix (K.power)] 32)⟩] [(1,.pointer (some ⟨b1,0,none⟩)),(2,Nx (k)),(36,Nx (k))] [0,2] [] (by kernel_rfl) (by kernel_rfl) (by kernel_rfl) (by kernel_rfl) rfl ⟨rfl,rfl,rfl,trivial⟩ ⟨?_,?_,?_,?_,?_,?_,?_,?_,?_,?_,?_,?_,?_,?_,trivial⟩ ?_
  ·rintro f M-⟨i0,-⟩
   have hs1:f 1= .pointer (some ⟨b1,0,none⟩):=i0
   exact bK bM
  ·rintro f M ⟨k0,-⟩-
   have hs48:f 48= .pointer (some ⟨b1,1,none⟩):=k0
   exact bK (fA 0)
  ·rintro f M-⟨i0,-⟩
   have hs2:f 2=Nx (k):=i0
   exact bK bG
  ·rintro f M ⟨k0,-⟩-
   have hs50:f 50=Nx (k):=k0
   refine bC (L':=M) (by rfl) (aA rfl hs50) ?_
   refine cW (v:=Nx (k/2)) rfl rfl rfl (aEb (a:=((k:Nat):Int)) (b:=(2:Int)) rfl rfl (by decide) (bU (yR _ 2) (by omega))) ?_
   refine aG ?_
   exact aI (aA rfl hs50) rfl (List.Perm.refl _)
  ·rintro f M ⟨k0,-⟩-
   have hs51:f 51=Nx (k/2):=k0
   refine bC (L':=M) (by rfl) (aA rfl hs51) ?_
   refine cW (v:=Nx (5+(k/2))) rfl rfl rfl (bJ (a:=(5:Int)) (b:=((k/2:Nat):Int)) rfl rfl (bU (by omega) (by omega))) ?_
   refine aG ?_
   exact aI (aA rfl hs51) rfl (List.Perm.refl _)
  ·rintro f M- -
   refine bC (L':=M) (by rfl) rfl ?_
   refine cF rfl rfl rfl (cO bQ iG.ok (vs:=[(0,.int .u8 (97)),(1,.int .u8 (98))]) (cells:= #[.int .u8 (97),.int .u8 (98)]) rfl rfl rfl rfl) ?_
   rintro _ _ ⟨b52,rfl,rfl⟩
   refine aG ?_
   exact aI rfl rfl (aB 0 rfl)
  ·rintro f M ⟨k0,-⟩-
   have hs53:f 53= .slice (some ⟨(bI (f 53)),0,none⟩) 2 2:=k0
   refine bC (L':=pt (bI (f 53)) (.cells #[.int .u8 (97),.int .u8 (98)] 5)::M) (by rfl) (aA rfl hs53) ?_
   refine cF rfl rfl rfl (lU 0 rfl rfl mM.ok tM) ?_
   rintro _ _ ⟨rfl,rfl⟩
   refine aG ?_
   exact aI (aA rfl hs53) rfl (aB 0 rfl)
  ·rintro f M-⟨i0,-⟩
   have hs2:f 2=Nx (k):=i0
   exact bK bG
  ·rintro f M ⟨k0,-⟩-
   have hs55:f 55=Nx (k):=k0
   refine bC (L':=M) (by rfl) (aA rfl hs55) ?_
   refine cW (v:=Nx (k%3)) rfl rfl rfl (gJ (a:=((k:Nat):Int)) (b:=(3:Int)) rfl rfl (by decide) (eC _ 3)) ?_
   refine aG ?_
   exact aI (aA rfl hs55) rfl (List.Perm.refl _)
  ·rintro f M ⟨k0,k1,-⟩-
   have hs54:f 54= .slice (some ⟨(bI (f 53)),0,none⟩) 2 2:=k0
   have hs56:f 56=Nx (k%3):=k1
   refine bC (L':=M) (by rfl) (aA (aA rfl hs54) hs56) ?_
   refine cW (v:= .slice (some ⟨(bI (f 53)),0,none⟩) (k%3) 2) rfl rfl rfl (dF (a:=some ⟨(bI (f 53)),0,none⟩) (len:=2) (cap:=2) (h:=k%3) bQ rfl rfl (by omega)) ?_
   refine aG ?_
   exact aI (aA (aA rfl hs54) hs56) rfl (List.Perm.refl _)
  ·rintro f M ⟨k0,k1,-⟩-
   have hs52:f 52=Nx (5+(k/2)):=k0
   have hs57:f 57= .slice (some ⟨(bI (f 53)),0,none⟩) (k%3) 2:=k1
   refine bC (L':=pt (bI (f 53)) (.cells #[.int .u8 (97),.int .u8 (98)] 5 (2,2+1))::M) (by rfl) (aA (aA rfl hs52) hs57) ?_
   refine bP rfl rfl rfl (cS (fst:=[]) (cap:=[]) (vs:=[.int .i64 (2),Nx (5+(k/2)),.slice (some ⟨(bI (f 53)),0,none⟩) (k%3) 2]) (all:=[.int .i64 (2),Nx (5+(k/2)),.slice (some ⟨(bI (f 53)),0,none⟩) (k%3) 2]) oE.ok rfl rfl rfl) ?_
   intro w hw
   obtain⟨β1,sb,kn,hw1,back⟩:=St.frame_all hw
   refine(gZ β1 w hw1 (2:Int) ((5+(k/2):Nat):Int) (([(97:UInt8),(98:UInt8)]:Bs).take (k%3)) _ (by first|omega|(simp only[List.length_append,List.length_nil,List.length_cons,List.length_take,List.length_replicate,List.length_set,aH,bL];omega)) (aFd (kn _ (fO 0 (xs:=[(97:UInt8),(98:UInt8)]) rfl)) (by show k%3≤2;omega) (by decide) (by decide))).mono ?_
   rintro e w' ⟨p58,c59,rfl,hw'⟩
   refine⟨_,rfl,_,back _ _ hw',?_⟩
   refine aG ?_
   exact aI (aA (aA rfl hs52) hs57) rfl ((aB 0 rfl).trans (aB 1 rfl))
  ·rintro f M ⟨k0,k1,-⟩-
   have hs49:f 49= .slice pA25 (K.a).length cA28:=k0
   have hs58:f 58= .slice (aM (f 58)) (aD (2:Int) ((5+(k/2):Nat):Int) (([(97:UInt8),(98:UInt8)]:Bs).take (k%3))).length (aN (f 58)):=k1
   refine bC (L':=row (.slice pA25 (K.a).length cA28) 5 1 ((K.a).length) (BX K.a)::row (.slice (aM (f 58)) (aD (2:Int) ((5+(k/2):Nat):Int) (([(97:UInt8),(98:UInt8)]:Bs).take (k%3))).length (aN (f 58))) 5 1 ((aD (2:Int) ((5+(k/2):Nat):Int) (([(97:UInt8),(98:UInt8)]:Bs).take (k%3))).length) (BX (aD (2:Int) ((5+(k/2):Nat):Int) (([(97:UInt8),(98:UInt8)]:Bs).take (k%3))))::M) (by rfl) (aA (aA rfl hs49) hs58) ?_
   refine cF rfl rfl rfl (cG (enc:=fun c:UInt8=>Bx c) 0 dJ bQ fV (v:= .slice pA25 (K.a).length cA28) (xs:=K.a) (ys:=aD (2:Int) ((5+(k/2):Nat):Int) (([(97:UInt8),(98:UInt8)]:Bs).take (k%3))) (ao:=(aM (f 58))) (c:=(aN (f 58))) rfl rfl (by first|rfl|simp) rfl (by first|rfl|simp) (iF 1 rfl) (by first|omega|(simp only[List.length_append,List.length_nil,List.length_cons,aL]at*;omega)) (by first|omega|(simp only[List.length_append,List.length_nil,List.length_cons,aL]at*;omega))) ?_
   rintro _ _ ⟨rp63,rc64,rfl,rfl⟩
   refine aG ?_
   exact aI (aA (aA rfl hs49) hs58) rfl ((aB 0 rfl).trans (aB 1 rfl))
  ·rintro f M-⟨i0,-⟩
   have hs1:f 1= .pointer (some ⟨b1,0,none⟩):=i0
   exact bK bM
  ·rintro f M ⟨k0,k1,-⟩-
   have hs60:f 60= .pointer (some ⟨b1,1,none⟩):=k0
   have hs59:f 59= .slice (aM (f 59)) (K.a++(aD (2:Int) ((5+(k/2):Nat):Int) (([(97:UInt8),(98:UInt8)]:Bs).take (k%3)))).length (aN (f 59)):=k1
   refine bC (L':=pt b1 (.cells #[.slice pH24 (K.head).length cH27,.slice pA25 (K.a).length cA28,.slice (aM (fa50 46)) (K.b++(aD (3:Int) ((7+k:Nat):Int) (List.replicate k (0:UInt8)))).length (aN (fa50 46)),Ix (K.power)] 32)::M) (by rfl) (aA (aA rfl hs60) hs59) ?_
   refine kD rfl rfl (bS 0 lV.ok (b:=b1) (o:=1) (T:=32) (cs:= #[.slice pH24 (K.head).length cH27,.slice pA25 (K.a).length cA28,.slice (aM (fa50 46)) (K.b++(aD (3:Int) ((7+k:Nat):Int) (List.replicate k (0:UInt8)))).length (aN (fa50 46)),Ix (K.power)]) (cs':= #[.slice pH24 (K.head).length cH27,.slice (aM (f 59)) (K.a++(aD (2:Int) ((5+(k/2):Nat):Int) (([(97:UInt8),(98:UInt8)]:Bs).take (k%3)))).length (aN (f 59)),.slice (aM (fa50 46)) (K.b++(aD (3:Int) ((7+k:Nat):Int) (List.replicate k (0:UInt8)))).length (aN (fa50 46)),Ix (K.power)]) (v:= .slice (aM (f 59)) (K.a++(aD (2:Int) ((5+(k/2):Nat):Int) (([(97:UInt8),(98:UInt8)]:Bs).take (k%3)))).length (aN (f 59))) rfl rfl rfl rfl rfl rfl rfl) ?_
   refine aG ?_
   exact cT (aA (aA rfl hs60) hs59) trivial (aB 0 rfl)
  rintro fa65 ⟨-,-,-,-,-,-,-,-,-,-,-,-,-,-,-⟩ ⟨j0,j1,-⟩
  refine qD (L':=[row (.slice pH24 (K.head).length cH27) 5 1 ((K.head).length) (BX K.head),row (.slice (some ⟨(bI (fa50 44)),0,none⟩) (List.replicate k (0:UInt8)).length k) 5 1 ((List.replicate k (0:UInt8)).length) (BX (List.replicate k (0:UInt8))),row (.slice (aM (fa50 45)) (aD (3:Int) ((7+k:Nat):Int) (List.replicate k (0:UInt8))).length (aN (fa50 45))) 5 1 ((aD (3:Int) ((7+k:Nat):Int) (List.replicate k (0:UInt8))).length) (BX (aD (3:Int) ((7+k:Nat):Int) (List.replicate k (0:UInt8)))),row (.slice (aM (fa50 46)) (K.b++(aD (3:Int) ((7+k:Nat):Int) (List.replicate k (0:UInt8)))).length (aN (fa50 46))) 5 1 ((K.b++(aD (3:Int) ((7+k:Nat):Int) (List.replicate k (0:UInt8)))).length) (BX (K.b++(aD (3:Int) ((7+k:Nat):Int) (List.replicate k (0:UInt8))))),pt (bI (fa65 53)) (.cells #[.int .u8 (97),.int .u8 (98)] 5 (2,2+1)),row (.slice (aM (fa65 58)) (aD (2:Int) ((5+(k/2):Nat):Int) (([(97:UInt8),(98:UInt8)]:Bs).take (k%3))).length (aN (fa65 58))) 5 1 ((aD (2:Int) ((5+(k/2):Nat):Int) (([(97:UInt8),(98:UInt8)]:Bs).take (k%3))).length) (BX (aD (2:Int) ((5+(k/2):Nat):Int) (([(97:UInt8),(98:UInt8)]:Bs).take (k%3)))),row (.slice (aM (fa65 59)) (K.a++(aD (2:Int) ((5+(k/2):Nat):Int) (([(97:UInt8),(98:UInt8)]:Bs).take (k%3)))).length (aN (fa65 59))) 5 1 ((K.a++(aD (2:Int) ((5+(k/2):Nat):Int) (([(97:UInt8),(98:UInt8)]:Bs).take (k%3)))).length) (BX (K.a++(aD (2:Int) ((5+(k/2):Nat):Int) (([(97:UInt8),(98:UInt8)]:Bs).take (k%3))))),pt b1 (.cells #[.slice pH24 (K.head).length cH27,.slice (aM (fa65 59)) (K.a++(aD (2:Int) ((5+(k/2):Nat):Int) (([(97:UInt8),(98:UInt8)]:Bs).take (k%3)))).length (aN (fa65 59)),.slice (aM (fa50 46)) (K.b++(aD (3:Int) ((7+k:Nat):Int) (List.replicate k (0:UInt8)))).length (aN (fa50 46)),Ix (K.power)] 32)]) (by rfl) ?_
  refine aJ (d:=1) (v:= .pointer (some ⟨b1,0,none⟩)) j0 ?_
  refine aJ (d:=36) (v:=Nx (k)) j1 ?_
  refine bD ?_
  refine aQ ?_
  have hKa2:(K.a++(aD (2:Int) ((5+(k/2):Nat):Int) (([(97:UInt8),(98:UInt8)]:Bs).take (k%3)))).length≤40*(k+1):=by simp only[List.length_append,aH,List.length_take,List.length_cons,List.length_nil,List.length_replicate];omega
  have hKb2:(K.b++(aD (3:Int) ((7+k:Nat):Int) (List.replicate k (0:UInt8)))).length≤40+40*(k+1):=by simp only[List.length_append,aH,List.length_take,List.length_cons,List.length_nil,List.length_replicate];omega
  refine tP (L':=[pt b1 (.cells #[.slice pH24 (K.head).length cH27,.slice (aM (fa65 59)) (K.a++(aD (2:Int) ((5+(k/2):Nat):Int) (([(97:UInt8),(98:UInt8)]:Bs).take (k%3)))).length (aN (fa65 59)),.slice (aM (fa50 46)) (K.b++(aD (3:Int) ((7+k:Nat):Int) (List.replicate k (0:UInt8)))).length (aN (fa50 46)),Ix (K.power)] 32),row (.slice pH24 (K.head).length cH27) 5 1 ((K.head).length) (BX K.head),row (.slice (aM (fa65 59)) (K.a++(aD (2:Int) ((5+(k/2):Nat):Int) (([(97:UInt8),(98:UInt8)]:Bs).take (k%3)))).length (aN (fa65 59))) 5 1 ((K.a++(aD (2:Int) ((5+(k/2):Nat):Int) (([(97:UInt8),(98:UInt8)]:Bs).take (k%3)))).length) (BX (K.a++(aD (2:Int) ((5+(k/2):Nat):Int) (([(97:UInt8),(98:UInt8)]:Bs).take (k%3))))),row (.slice (aM (fa50 46)) (K.b++(aD (3:Int) ((7+k:Nat):Int) (List.replicate k (0:UInt8)))).length (aN (fa50 46))) 5 1 ((K.b++(aD (3:Int) ((7+k:Nat):Int) (List.replicate k (0:UInt8)))).length) (BX (K.b++(aD (3:Int) ((7+k:Nat):Int) (List.replicate k (0:UInt8))))),row (.slice (some ⟨(bI (fa50 44)),0,none⟩) (List.replicate k (0:UInt8)).length k) 5 1 ((List.replicate k (0:UInt8)).length) (BX (List.replicate k (0:UInt8))),row (.slice (aM (fa50 45)) (aD (3:Int) ((7+k:Nat):Int) (List.replicate k (0:UInt8))).length (aN (fa50 45))) 5 1 ((aD (3:Int) ((7+k:Nat):Int) (List.replicate k (0:UInt8))).length) (BX (aD (3:Int) ((7+k:Nat):Int) (List.replicate k (0:UInt8)))),pt (bI (fa65 53)) (.cells #[.int .u8 (97),.int .u8 (98)] 5 (2,2+1)),row (.slice (aM (fa65 58)) (aD (2:Int) ((5+(k/2):Nat):Int) (([(97:UInt8),(98:UInt8)]:Bs).take (k%3))).length (aN (fa65 58))) 5 1 ((aD (2:Int) ((5+(k/2):Nat):Int) (([(97:UInt8),(98:UInt8)]:Bs).take (k%3))).length) (BX (aD (2:Int) ((5+(k/2):Nat):Int) (([(97:UInt8),(98:UInt8)]:Bs).take (k%3))))]) (by exact(bN [7,0,6,3,1,2,4,5] 8 rfl (by kernel_rfl) (by kernel_rfl))) ?_
  refine bW (S:=b1) (k:=(⟨K.head,K.a++(aD (2:Int) ((5+(k/2):Nat):Int) (([(97:UInt8),(98:UInt8)]:Bs).take (k%3))),K.b++(aD (3:Int) ((7+k:Nat):Int) (List.replicate k (0:UInt8))),(K.power)⟩:KS)) (pH:=pH24) (pA:=(aM (fa65 59))) (pB:=(aM (fa50 46))) (cH:=cH27) (cA:=(aN (fa65 59))) (cB:=(aN (fa50 46))) (M:=(row (.slice (some ⟨(bI (fa50 44)),0,none⟩) (List.replicate k (0:UInt8)).length k) 5 1 ((List.replicate k (0:UInt8)).length) (BX (List.replicate k (0:UInt8)))::row (.slice (aM (fa50 45)) (aD (3:Int) ((7+k:Nat):Int) (List.replicate k (0:UInt8))).length (aN (fa50 45))) 5 1 ((aD (3:Int) ((7+k:Nat):Int) (List.replicate k (0:UInt8))).length) (BX (aD (3:Int) ((7+k:Nat):Int) (List.replicate k (0:UInt8))))::pt (bI (fa65 53)) (.cells #[.int .u8 (97),.int .u8 (98)] 5 (2,2+1))::row (.slice (aM (fa65 58)) (aD (2:Int) ((5+(k/2):Nat):Int) (([(97:UInt8),(98:UInt8)]:Bs).take (k%3))).length (aN (fa65 58))) 5 1 ((aD (2:Int) ((5+(k/2):Nat):Int) (([(97:UInt8),(98:UInt8)]:Bs).take (k%3))).length) (BX (aD (2:Int) ((5+(k/2):Nat):Int) (([(97:UInt8),(98:UInt8)]:Bs).take (k%3))))::[])) rfl ?_
  refine aC ?_
  refine cW (v:=Nx (k+1)) rfl rfl rfl (bJ (a:=((k:Nat):Int)) (b:=(1:Int)) rfl rfl (bU (by omega) (by omega))) ?_
  refine lE bG ?_
  refine aG ?_
  refine dL (L':=[aS b1 (⟨K.head,K.a++(aD (2:Int) ((5+(k/2):Nat):Int) (([(97:UInt8),(98:UInt8)]:Bs).take (k%3))),K.b++(aD (3:Int) ((7+k:Nat):Int) (List.replicate k (0:UInt8))),(K.power)⟩:KS)]) [true,false,false,false,false] rfl ?_
  exact bT ⟨(k+1,(⟨K.head,K.a++(aD (2:Int) ((5+(k/2):Nat):Int) (([(97:UInt8),(98:UInt8)]:Bs).take (k%3))),K.b++(aD (3:Int) ((7+k:Nat):Int) (List.replicate k (0:UInt8))),(K.power)⟩:KS)),⟨⟨rfl,rfl⟩,rfl,⟨by omega,hKh,hKa2,hKb2,hKp⟩⟩,(show 4-(k+1)<4-k from by omega)⟩
 ·
  refine dZ ?_
  refine aU ?_
  refine aU ?_
  refine eA ?_
  refine aQ ?_
  refine aO ?_
  refine aO ?_
  refine tP (L':=[aS b1 K]) (by exact(bN [0] 1 rfl (by kernel_rfl) (by kernel_rfl))) ?_
  refine cI rfl (fun pH66 pA67 pB68 cH69 cA70 cB71=> ?_)
  refine bA 1 rfl (fun hcl72 hcm73=> ?_)
  refine bA 2 rfl (fun hcl74 hcm75=> ?_)
  refine bA 3 rfl (fun hcl76 hcm77=> ?_)
  refine aC ?_
  refine lE bM ?_
  refine lE (fA 0) ?_
  refine lE fC ?_
  refine cW (v:=Nx (((K.b).length)+1)) rfl rfl rfl (bJ (a:=(((K.b).length:Nat):Int)) (b:=(1:Int)) rfl rfl (bU (by omega) (by omega))) ?_
  refine lE bG ?_
  refine aG ?_
  refine aQ ?_
  refine aY ?_
  refine kY [true,true,true,true] rfl ?_
  refine dV (fun(n:Nat) (f:Fm) (L:List cE)=>(f 1= .pointer (some ⟨b1,0,none⟩)∧f 65=Nx (((K.b).length)+1)∧f 66=Nx (n))∧L=[pt b1 (.cells #[.slice pH66 (K.head).length cH69,.slice pA67 (K.a).length cA70,.slice pB68 (K.b).length cB71,Ix (K.power)] 32),row (.slice pH66 (K.head).length cH69) 5 1 ((K.head).length) (BX K.head),row (.slice pA67 (K.a).length cA70) 5 1 ((K.a).length) (BX K.a),row (.slice pB68 (K.b).length cB71) 5 1 ((K.b).length) (BX K.b)]∧(n≤K.b.length+1)) (fun(n:Nat)=>K.b.length+1-n) 0 ?_ ?_
  ·exact⟨⟨rfl,rfl,rfl⟩,rfl,(by omega)⟩
  rintro n f0 L0 ⟨⟨hs1,hs65,hs66⟩,hL,hn⟩
  subst L0
  refine eZ (d:=1) hs1 ?_
  refine eZ (d:=65) hs65 ?_
  refine eZ (d:=66) hs66 ?_
  clear hs1 hs65 hs66
  refine aO ?_
  refine aC ?_
  refine lE jI ?_
  refine aG ?_
  refine aQ ?_
  refine aO ?_
  refine cK (((n:Nat):Int)<((((K.b).length)+1:Nat):Int)) rfl (fun hc78=> ?_) (fun hc78=> ?_)
  ·
   refine cM ?_
   refine aQ ?_
   refine aO ?_
   refine aY ?_
   refine aO ?_
   refine aC ?_
   refine lE bG ?_
   refine lE bV ?_
   refine aG ?_
   refine aQ ?_
   refine aO ?_
   refine aC ?_
   refine lE (dO 0) ?_
   refine bP rfl rfl rfl (cS (fst:=[]) (cap:=[]) (vs:=[.agg #[.slice pH66 (K.head).length cH69,.slice pA67 (K.a).length cA70,.slice pB68 (K.b).length cB71,Ix (K.power)]]) (all:=[.agg #[.slice pH66 (K.head).length cH69,.slice pA67 (K.a).length cA70,.slice pB68 (K.b).length cB71,Ix (K.power)]]) qW.ok rfl rfl rfl) ?_
   intro w hw
   obtain⟨β1,sb,kn,hw1,back⟩:=St.frame_all hw
   refine(rG β1 w hw1 K.head K.a K.b (K.power) _ _ _ (kn _ (aX.of_res 1 rfl (Sl.mono bE _ _) fun _ h=>fB h)) (kn _ (aX.of_res 2 rfl (Sl.mono bE _ _) fun _ h=>fB h)) (kn _ (aX.of_res 3 rfl (Sl.mono bE _ _) fun _ h=>fB h)) (by first|omega|(simp only[List.length_append,List.length_nil,List.length_cons,List.length_take,List.length_replicate,List.length_set,aH,bL];omega)) (by first|omega|(simp only[List.length_append,List.length_nil,List.length_cons,List.length_take,List.length_replicate,List.length_set,aH,bL];omega)) (by first|omega|(simp only[List.length_append,List.length_nil,List.length_cons,List.length_take,List.length_replicate,List.length_set,aH,bL];omega))).mono ?_
   rintro e w' ⟨pH79,pA80,pB81,cH82,cA83,cB84,rfl,hw'⟩
   refine⟨_,rfl,_,back _ _ hw',?_⟩
   refine fZ fun b85=> ?_
   refine kD rfl rfl (bS 0 fX.ok (b:=b85) (o:=0) (T:=32) (cs:= #[.slice none 0 0,.slice none 0 0,.slice none 0 0,.int .i64 (0)]) (cs':= #[.slice pH79 (K.head).length cH82,.slice pA80 (K.a).length cA83,.slice pB81 (K.b).length cB84,Ix (K.power)]) (v:= .agg #[.slice pH79 (K.head).length cH82,.slice pA80 (K.a).length cA83,.slice pB81 (K.b).length cB84,Ix (K.power)]) rfl rfl rfl rfl rfl rfl rfl) ?_
   refine aG ?_
   refine aQ ?_
   refine aO ?_
   refine bA 1 rfl (fun hcl86 hcm87=> ?_)
   refine bA 2 rfl (fun hcl88 hcm89=> ?_)
   refine bA 3 rfl (fun hcl90 hcm91=> ?_)
   refine mZ [⟨[],[],[0],[71],fun f=>f 71= .pointer (some ⟨b85,2,none⟩)⟩,⟨[0],[0],[],[72],fun f=>f 72= .slice pB81 (K.b).length cB84⟩,⟨[],[],[1],[73],fun f=>f 73=Nx (n)⟩,⟨[0,1,2],[1,2],[],[74],fun f=>f 74= .slice pB81 (n) cB84⟩,⟨[],[],[0],[75],fun f=>f 75= .pointer (some ⟨b85,1,none⟩)⟩,⟨[4],[4],[],[76],fun f=>f 76= .slice pA80 (K.a).length cA83⟩,⟨[],[],[1],[77],fun f=>f 77=Nx (n)⟩,⟨[],[],[0],[78],fun f=>f 78= .pointer (some ⟨b85,1,none⟩)⟩,⟨[7],[7],[],[79],fun f=>f 79= .slice pA80 (K.a).length cA83⟩,⟨[7,8],[8],[],[80],fun f=>f 80=Nx ((K.a).length)⟩,⟨[6,7,8,9],[6,9],[],[81],fun f=>f 81=Nx (min n ((K.a).length))⟩,⟨[4,5,6,7,8,9,10],[5,10],[],[82],fun f=>f 82= .slice pA80 (min n ((K.a).length)) cA83⟩,⟨[0,1,2,3,4,5,7,8],[],[0],[83],fun f=>f 83= .pointer (some ⟨b85,2,none⟩)⟩,⟨[0,1,2,3,4,5,7,8,12],[12,3],[],[],fun _=>True⟩,⟨[0,1,2,3,4,5,6,7,8,9,10,11,12,13],[],[0],[84],fun f=>f 84= .pointer (some ⟨b85,1,none⟩)⟩,⟨[0,1,2,3,4,5,6,7,8,9,10,11,12,13,14],[14,11],[],[],fun _=>True⟩] [⟨none,(some 13),[1,5,8,13],[],fun _=>pt b85 (.cells #[.slice pH79 (K.head).length cH82,.slice pA80 (K.a).length cA83,.slice pB81 (K.b).length cB84,Ix (K.power)] 32)⟩,⟨none,none,[],[],fun _=>row (.slice pH79 (K.head).length cH82) 5 1 ((K.head).length) (BX K.head)⟩,⟨none,none,[],[],fun _=>row (.slice pA80 (K.a).length cA83) 5 1 ((K.a).length) (BX K.a)⟩,⟨none,none,[],[],fun _=>row (.slice pB81 (K.b).length cB84) 5 1 ((K.b).length) (BX K.b)⟩,⟨none,none,[],[],fun _=>pt b1 (.cells #[.slice pH66 (K.head).length cH69,.slice pA67 (K.a).length cA70,.slice pB68 (K.b).length cB71,Ix (K.power)] 32)⟩,⟨none,none,[],[],fun _=>row (.slice pH66 (K.head).length cH69) 5 1 ((K.head).length) (BX K.head)⟩,⟨none,none,[],[],fun _=>row (.slice pA67 (K.a).length cA70) 5 1 ((K.a).length) (BX K.a)⟩,⟨none,none,[],[],fun _=>row (.slice pB68 (K.b).length cB71) 5 1 ((K.b).length) (BX K.b)⟩,⟨(some 13),(some 15),[15],[],fun _=>pt b85 (.cells #[.slice pH79 (K.head).length cH82,.slice pA80 (K.a).length cA83,.slice pB81 (n) cB84,Ix (K.power)] 32)⟩,⟨(some 15),none,[],[],fun _=>pt b85 (.cells #[.slice pH79 (K.head).length cH82,.slice pA80 (min n ((K.a).length)) cA83,.slice pB81 (n) cB84,Ix (K.power)] 32)⟩] [(4,.pointer (some ⟨b85,0,none⟩)),(3,Nx (n)),(1,.pointer (some ⟨b1,0,none⟩)),(65,Nx (((K.b).length)+1)),(66,Nx (n))] [2,1,0,3,4] [] (by kernel_rfl) (by kernel_rfl) (by kernel_rfl) (by kernel_rfl) rfl ⟨rfl,rfl,rfl,rfl,rfl,trivial⟩ ⟨?_,?_,?_,?_,?_,?_,?_,?_,?_,?_,?_,?_,?_,?_,?_,?_,trivial⟩ ?_
   ·rintro f M-⟨i0,-⟩
    have hs4:f 4= .pointer (some ⟨b85,0,none⟩):=i0
    exact bK bM
   ·rintro f M ⟨k0,-⟩-
    have hs71:f 71= .pointer (some ⟨b85,2,none⟩):=k0
    exact bK (fA 0)
   ·rintro f M-⟨i0,-⟩
    have hs3:f 3=Nx (n):=i0
    exact bK bG
   ·rintro f M ⟨k0,k1,-⟩-
    have hs72:f 72= .slice pB81 (K.b).length cB84:=k0
    have hs73:f 73=Nx (n):=k1
    refine bC (L':=M) (by rfl) (aA (aA rfl hs72) hs73) ?_
    refine cW (v:= .slice pB81 (n) cB84) rfl rfl rfl (dF (a:=pB81) (len:=(K.b).length) (cap:=cB84) (h:=n) bQ rfl rfl (by omega)) ?_
    refine aG ?_
    exact aI (aA (aA rfl hs72) hs73) rfl (List.Perm.refl _)
   ·rintro f M-⟨i0,-⟩
    have hs4:f 4= .pointer (some ⟨b85,0,none⟩):=i0
    exact bK bM
   ·rintro f M ⟨k0,-⟩-
    have hs75:f 75= .pointer (some ⟨b85,1,none⟩):=k0
    exact bK (fA 0)
   ·rintro f M-⟨i0,-⟩
    have hs3:f 3=Nx (n):=i0
    exact bK bG
   ·rintro f M-⟨i0,-⟩
    have hs4:f 4= .pointer (some ⟨b85,0,none⟩):=i0
    exact bK bM
   ·rintro f M ⟨k0,-⟩-
    have hs78:f 78= .pointer (some ⟨b85,1,none⟩):=k0
    exact bK (fA 0)
   ·rintro f M ⟨k0,-⟩-
    have hs79:f 79= .slice pA80 (K.a).length cA83:=k0
    exact bK fC
   ·rintro f M ⟨k0,k1,-⟩-
    have hs77:f 77=Nx (n):=k0
    have hs80:f 80=Nx ((K.a).length):=k1
    refine bC (L':=M) (by rfl) (aA (aA rfl hs77) hs80) ?_
    refine cW (v:=Nx (min n ((K.a).length))) rfl rfl rfl (fE (congrArg (Value.int .i64) (by omega)) (aIt (a:=((n:Nat):Int)) (b:=(((K.a).length:Nat):Int)) rfl rfl)) ?_
    refine aG ?_
    exact aI (aA (aA rfl hs77) hs80) rfl (List.Perm.refl _)
   ·rintro f M ⟨k0,k1,-⟩-
    have hs76:f 76= .slice pA80 (K.a).length cA83:=k0
    have hs81:f 81=Nx (min n ((K.a).length)):=k1
    refine bC (L':=M) (by rfl) (aA (aA rfl hs76) hs81) ?_
    refine cW (v:= .slice pA80 (min n ((K.a).length)) cA83) rfl rfl rfl (dF (a:=pA80) (len:=(K.a).length) (cap:=cA83) (h:=min n ((K.a).length)) bQ rfl rfl (by omega)) ?_
    refine aG ?_
    exact aI (aA (aA rfl hs76) hs81) rfl (List.Perm.refl _)
   ·rintro f M-⟨i0,-⟩
    have hs4:f 4= .pointer (some ⟨b85,0,none⟩):=i0
    exact bK bM
   ·rintro f M ⟨k0,k1,-⟩-
    have hs83:f 83= .pointer (some ⟨b85,2,none⟩):=k0
    have hs74:f 74= .slice pB81 (n) cB84:=k1
    refine bC (L':=pt b85 (.cells #[.slice pH79 (K.head).length cH82,.slice pA80 (K.a).length cA83,.slice pB81 (K.b).length cB84,Ix (K.power)] 32)::M) (by rfl) (aA (aA rfl hs83) hs74) ?_
    refine kD rfl rfl (bS 0 lV.ok (b:=b85) (o:=2) (T:=32) (cs:= #[.slice pH79 (K.head).length cH82,.slice pA80 (K.a).length cA83,.slice pB81 (K.b).length cB84,Ix (K.power)]) (cs':= #[.slice pH79 (K.head).length cH82,.slice pA80 (K.a).length cA83,.slice pB81 (n) cB84,Ix (K.power)]) (v:= .slice pB81 (n) cB84) rfl rfl rfl rfl rfl rfl rfl) ?_
    refine aG ?_
    exact cT (aA (aA rfl hs83) hs74) trivial (aB 0 rfl)
   ·rintro f M-⟨i0,-⟩
    have hs4:f 4= .pointer (some ⟨b85,0,none⟩):=i0
    exact bK bM
   ·rintro f M ⟨k0,k1,-⟩-
    have hs84:f 84= .pointer (some ⟨b85,1,none⟩):=k0
    have hs82:f 82= .slice pA80 (min n ((K.a).length)) cA83:=k1
    refine bC (L':=pt b85 (.cells #[.slice pH79 (K.head).length cH82,.slice pA80 (K.a).length cA83,.slice pB81 (n) cB84,Ix (K.power)] 32)::M) (by rfl) (aA (aA rfl hs84) hs82) ?_
    refine kD rfl rfl (bS 0 lV.ok (b:=b85) (o:=1) (T:=32) (cs:= #[.slice pH79 (K.head).length cH82,.slice pA80 (K.a).length cA83,.slice pB81 (n) cB84,Ix (K.power)]) (cs':= #[.slice pH79 (K.head).length cH82,.slice pA80 (min n ((K.a).length)) cA83,.slice pB81 (n) cB84,Ix (K.power)]) (v:= .slice pA80 (min n ((K.a).length)) cA83) rfl rfl rfl rfl rfl rfl rfl) ?_
    refine aG ?_
    exact cT (aA (aA rfl hs84) hs82) trivial (aB 0 rfl)
   rintro fa92 ⟨-,-,-,-,-,-,-,-,-,-,-,-,-,-,-,-,-⟩ ⟨j0,j1,j2,j3,j4,-⟩
   refine qD (L':=[row (.slice pH79 (K.head).length cH82) 5 1 ((K.head).length) (BX K.head),row (.slice pA80 (K.a).length cA83) 5 1 ((K.a).length) (BX K.a),row (.slice pB81 (K.b).length cB84) 5 1 ((K.b).length) (BX K.b),pt b1 (.cells #[.slice pH66 (K.head).length cH69,.slice pA67 (K.a).length cA70,.slice pB68 (K.b).length cB71,Ix (K.power)] 32),row (.slice pH66 (K.head).length cH69) 5 1 ((K.head).length) (BX K.head),row (.slice pA67 (K.a).length cA70) 5 1 ((K.a).length) (BX K.a),row (.slice pB68 (K.b).length cB71) 5 1 ((K.b).length) (BX K.b),pt b85 (.cells #[.slice pH79 (K.head).length cH82,.slice pA80 (min n ((K.a).length)) cA83,.slice pB81 (n) cB84,Ix (K.power)] 32)]) (by rfl) ?_
   refine aJ (d:=1) (v:= .pointer (some ⟨b1,0,none⟩)) j0 ?_
   refine aJ (d:=3) (v:=Nx (n)) j1 ?_
   refine aJ (d:=4) (v:= .pointer (some ⟨b85,0,none⟩)) j2 ?_
   refine aJ (d:=65) (v:=Nx (((K.b).length)+1)) j3 ?_
   refine aJ (d:=66) (v:=Nx (n)) j4 ?_
   refine aQ ?_
   refine aO ?_
   refine aC ?_
   refine lE (dO 7) ?_
   refine bP rfl rfl rfl (cS (fst:=[]) (cap:=[]) (vs:=[.agg #[.slice pH79 (K.head).length cH82,.slice pA80 (min n ((K.a).length)) cA83,.slice pB81 (n) cB84,Ix (K.power)]]) (all:=[.agg #[.slice pH79 (K.head).length cH82,.slice pA80 (min n ((K.a).length)) cA83,.slice pB81 (n) cB84,Ix (K.power)]]) qW.ok rfl rfl rfl) ?_
   intro w hw
   obtain⟨β1,sb,kn,hw1,back⟩:=St.frame_all hw
   refine(rG β1 w hw1 K.head (K.a.take (min n ((K.a).length))) (K.b.take n) (K.power) _ _ _ (kn _ (aX.of_res 0 rfl (Sl.mono bE _ _) fun _ h=>fB h)) (kn _ (aX.of_res 1 rfl (Sl.mono bE _ _) fun _ h=>eX h (by omega))) (kn _ (aX.of_res 2 rfl (Sl.mono bE _ _) fun _ h=>eX h (by omega))) (by first|omega|(simp only[List.length_append,List.length_nil,List.length_cons,List.length_take,List.length_replicate,List.length_set,aH,bL];omega)) (by first|omega|(simp only[List.length_append,List.length_nil,List.length_cons,List.length_take,List.length_replicate,List.length_set,aH,bL];omega)) (by first|omega|(simp only[List.length_append,List.length_nil,List.length_cons,List.length_take,List.length_replicate,List.length_set,aH,bL];omega))).mono ?_
   rintro e w' ⟨pH93,pA94,pB95,cH96,cA97,cB98,rfl,hw'⟩
   refine⟨_,rfl,_,back _ _ hw',?_⟩
   refine fZ fun b99=> ?_
   refine kD rfl rfl (bS 0 fX.ok (b:=b99) (o:=0) (T:=32) (cs:= #[.slice none 0 0,.slice none 0 0,.slice none 0 0,.int .i64 (0)]) (cs':= #[.slice pH93 (K.head).length cH96,.slice pA94 ((K.a.take (min n ((K.a).length)))).length cA97,.slice pB95 ((K.b.take n)).length cB98,Ix (K.power)]) (v:= .agg #[.slice pH93 (K.head).length cH96,.slice pA94 ((K.a.take (min n ((K.a).length)))).length cA97,.slice pB95 ((K.b.take n)).length cB98,Ix (K.power)]) rfl rfl rfl rfl rfl rfl rfl) ?_
   refine aG ?_
   refine aQ ?_
   refine aO ?_
   refine bA 1 rfl (fun hcl100 hcm101=> ?_)
   refine bA 2 rfl (fun hcl102 hcm103=> ?_)
   refine bA 3 rfl (fun hcl104 hcm105=> ?_)
   refine aC ?_
   refine lE bM ?_
   refine lE (fA 0) ?_
   refine cW (v:= .slice pH93 (0) cH96) rfl rfl rfl (dF (a:=pH93) (len:=(K.head).length) (cap:=cH96) (h:=0) bQ rfl rfl (by omega)) ?_
   refine lE bG ?_
   refine cW (v:=Nx (n%3)) rfl rfl rfl (gJ (a:=((n:Nat):Int)) (b:=(3:Int)) rfl rfl (by decide) (eC _ 3)) ?_
   refine lE omn ?_
   refine lE bM ?_
   refine kD rfl rfl (bS 0 lV.ok (b:=b99) (o:=0) (T:=32) (cs:= #[.slice pH93 (K.head).length cH96,.slice pA94 ((K.a.take (min n ((K.a).length)))).length cA97,.slice pB95 ((K.b.take n)).length cB98,Ix (K.power)]) (cs':= #[.slice pH93 (0) cH96,.slice pA94 ((K.a.take (min n ((K.a).length)))).length cA97,.slice pB95 ((K.b.take n)).length cB98,Ix (K.power)]) (v:= .slice pH93 (0) cH96) rfl rfl rfl rfl rfl rfl rfl) ?_
   refine lE bM ?_
   refine kD rfl rfl (bS 0 sY.ok (b:=b99) (o:=3) (T:=32) (cs:= #[.slice pH93 (0) cH96,.slice pA94 ((K.a.take (min n ((K.a).length)))).length cA97,.slice pB95 ((K.b.take n)).length cB98,Ix (K.power)]) (cs':= #[.slice pH93 (0) cH96,.slice pA94 ((K.a.take (min n ((K.a).length)))).length cA97,.slice pB95 ((K.b.take n)).length cB98,Ix (((n%3:Nat):Int)-(1:Int))]) (v:=Ix (((n%3:Nat):Int)-(1:Int))) rfl rfl rfl rfl rfl rfl rfl) ?_
   refine aG ?_
   refine aQ ?_
   refine aO ?_
   refine aC ?_
   refine lE (dO 11) ?_
   refine bP rfl rfl rfl (cS (fst:=[]) (cap:=[]) (vs:=[.agg #[.slice pH79 (K.head).length cH82,.slice pA80 (min n ((K.a).length)) cA83,.slice pB81 (n) cB84,Ix (K.power)]]) (all:=[.agg #[.slice pH79 (K.head).length cH82,.slice pA80 (min n ((K.a).length)) cA83,.slice pB81 (n) cB84,Ix (K.power)]]) oF.ok rfl rfl rfl) ?_
   intro w hw
   obtain⟨β1,sb,kn,hw1,back⟩:=St.frame_all hw
   refine(gY β1 w hw1 K.head (K.a.take (min n ((K.a).length))) (K.b.take n) (K.power) _ _ _ (kn _ (aX.of_res 4 rfl (Sl.mono bE _ _) fun _ h=>fB h)) (kn _ (aX.of_res 5 rfl (Sl.mono bE _ _) fun _ h=>eX h (by omega))) (kn _ (aX.of_res 6 rfl (Sl.mono bE _ _) fun _ h=>eX h (by omega))) (by first|omega|(simp only[List.length_append,List.length_nil,List.length_cons,List.length_take,List.length_replicate,List.length_set,aH,bL];omega)) (by first|omega|(simp only[List.length_append,List.length_nil,List.length_cons,List.length_take,List.length_replicate,List.length_set,aH,bL];omega)) (by first|omega|(simp only[List.length_append,List.length_nil,List.length_cons,List.length_take,List.length_replicate,List.length_set,aH,bL];omega)) (by first|omega|decide)).mono ?_
   rintro e w' ⟨rfl,hw'⟩
   refine⟨_,rfl,_,back _ _ hw',?_⟩
   refine lE lI ?_
   refine lE dQ ?_
   refine gE (dO 0) ?_
   refine eQ rfl rfl rfl rfl rfl (cS (fst:=[]) (cap:=[]) (vs:=[.agg #[.slice pH93 (0) cH96,.slice pA94 ((K.a.take (min n ((K.a).length)))).length cA97,.slice pB95 ((K.b.take n)).length cB98,Ix (((n%3:Nat):Int)-(1:Int))]]) (all:=[.agg #[.slice pH93 (0) cH96,.slice pA94 ((K.a.take (min n ((K.a).length)))).length cA97,.slice pB95 ((K.b.take n)).length cB98,Ix (((n%3:Nat):Int)-(1:Int))]]) oF.ok rfl rfl rfl) ?_
   intro w hw
   obtain⟨β1,sb,kn,hw1,back⟩:=St.frame_all hw
   refine(gY β1 w hw1 (K.head.take 0) (K.a.take (min n ((K.a).length))) (K.b.take n) (((n%3:Nat):Int)-(1:Int)) _ _ _ (kn _ (aX.of_res 1 rfl (Sl.mono bE _ _) fun _ h=>eX h (by omega))) (kn _ (aX.of_res 2 rfl (Sl.mono bE _ _) fun _ h=>fB h)) (kn _ (aX.of_res 3 rfl (Sl.mono bE _ _) fun _ h=>fB h)) (by first|omega|(simp only[List.length_append,List.length_nil,List.length_cons,List.length_take,List.length_replicate,List.length_set,aH,bL];omega)) (by first|omega|(simp only[List.length_append,List.length_nil,List.length_cons,List.length_take,List.length_replicate,List.length_set,aH,bL];omega)) (by first|omega|(simp only[List.length_append,List.length_nil,List.length_cons,List.length_take,List.length_replicate,List.length_set,aH,bL];omega)) (by first|omega|decide)).mono ?_
   rintro e w' ⟨rfl,hw'⟩
   refine⟨_,rfl,_,back _ _ hw',?_⟩
   refine gE lI ?_
   refine lE cR ?_
   refine aG ?_
   refine aQ ?_
   refine dI rfl ?_
   refine cM ?_
   refine bD ?_
   refine aQ ?_
   refine aC ?_
   refine cW (v:=Nx (n+1)) rfl rfl rfl (bJ (a:=((n:Nat):Int)) (b:=(1:Int)) rfl rfl (bU (by omega) (by omega))) ?_
   refine lE bG ?_
   refine aG ?_
   refine dL (L':=[pt b1 (.cells #[.slice pH66 (K.head).length cH69,.slice pA67 (K.a).length cA70,.slice pB68 (K.b).length cB71,Ix (K.power)] 32),row (.slice pH66 (K.head).length cH69) 5 1 ((K.head).length) (BX K.head),row (.slice pA67 (K.a).length cA70) 5 1 ((K.a).length) (BX K.a),row (.slice pB68 (K.b).length cB71) 5 1 ((K.b).length) (BX K.b)]) [false,false,false,false,false,false,false,true,true,true,true,false] rfl ?_
   exact bT ⟨n+1,⟨⟨rfl,rfl,rfl⟩,rfl,(by omega)⟩,(show K.b.length+1-(n+1)<K.b.length+1-n from by omega)⟩
  ·
   refine dZ ?_
   refine aU ?_
   refine aU ?_
   refine eA ?_
   refine aQ ?_
   refine aO ?_
   refine aO ?_
   refine aC ?_
   refine lE bG ?_
   refine aG ?_
   refine aQ ?_
   refine aY ?_
   refine kY [true,true,true,true] rfl ?_
   refine dV (fun(j:Nat) (f:Fm) (L:List cE)=>(f 1= .pointer (some ⟨b1,0,none⟩)∧f 104=Nx (j))∧L=[pt b1 (.cells #[.slice pH66 (K.head).length cH69,.slice pA67 (K.a).length cA70,.slice pB68 (K.b).length cB71,Ix (K.power)] 32),row (.slice pH66 (K.head).length cH69) 5 1 ((K.head).length) (BX K.head),row (.slice pA67 (K.a).length cA70) 5 1 ((K.a).length) (BX K.a),row (.slice pB68 (K.b).length cB71) 5 1 ((K.b).length) (BX K.b)]∧(j≤32)) (fun(j:Nat)=>32-j) 0 ?_ ?_
   ·exact⟨⟨rfl,rfl⟩,rfl,(by omega)⟩
   rintro j f0 L0 ⟨⟨hs1,hs104⟩,hL,hj⟩
   subst L0
   refine eZ (d:=1) hs1 ?_
   refine eZ (d:=104) hs104 ?_
   clear hs1 hs104
   refine aO ?_
   refine aC ?_
   refine lE jI ?_
   refine aG ?_
   refine aQ ?_
   refine aO ?_
   refine cK (((j:Nat):Int)<(32:Int)) rfl (fun hc106=> ?_) (fun hc106=> ?_)
   ·
    refine cM ?_
    refine aQ ?_
    refine aO ?_
    refine aY ?_
    refine aO ?_
    refine aC ?_
    refine lE bG ?_
    refine lE bV ?_
    refine aG ?_
    refine aQ ?_
    refine aO ?_
    refine aC ?_
    refine lE (dO 0) ?_
    refine bP rfl rfl rfl (cS (fst:=[]) (cap:=[]) (vs:=[.agg #[.slice pH66 (K.head).length cH69,.slice pA67 (K.a).length cA70,.slice pB68 (K.b).length cB71,Ix (K.power)]]) (all:=[.agg #[.slice pH66 (K.head).length cH69,.slice pA67 (K.a).length cA70,.slice pB68 (K.b).length cB71,Ix (K.power)]]) qW.ok rfl rfl rfl) ?_
    intro w hw
    obtain⟨β1,sb,kn,hw1,back⟩:=St.frame_all hw
    refine(rG β1 w hw1 K.head K.a K.b (K.power) _ _ _ (kn _ (aX.of_res 1 rfl (Sl.mono bE _ _) fun _ h=>fB h)) (kn _ (aX.of_res 2 rfl (Sl.mono bE _ _) fun _ h=>fB h)) (kn _ (aX.of_res 3 rfl (Sl.mono bE _ _) fun _ h=>fB h)) (by first|omega|(simp only[List.length_append,List.length_nil,List.length_cons,List.length_take,List.length_replicate,List.length_set,aH,bL];omega)) (by first|omega|(simp only[List.length_append,List.length_nil,List.length_cons,List.length_take,List.length_replicate,List.length_set,aH,bL];omega)) (by first|omega|(simp only[List.length_append,List.length_nil,List.length_cons,List.length_take,List.length_replicate,List.length_set,aH,bL];omega))).mono ?_
    rintro e w' ⟨pH107,pA108,pB109,cH110,cA111,cB112,rfl,hw'⟩
    refine⟨_,rfl,_,back _ _ hw',?_⟩
    refine fZ fun b113=> ?_
    refine kD rfl rfl (bS 0 fX.ok (b:=b113) (o:=0) (T:=32) (cs:= #[.slice none 0 0,.slice none 0 0,.slice none 0 0,.int .i64 (0)]) (cs':= #[.slice pH107 (K.head).length cH110,.slice pA108 (K.a).length cA111,.slice pB109 (K.b).length cB112,Ix (K.power)]) (v:= .agg #[.slice pH107 (K.head).length cH110,.slice pA108 (K.a).length cA111,.slice pB109 (K.b).length cB112,Ix (K.power)]) rfl rfl rfl rfl rfl rfl rfl) ?_
    refine aG ?_
    refine aQ ?_
    refine aO ?_
    obtain⟨c114,hc115⟩:∃c,K.head[j]? =some c:=⟨_,List.getElem?_eq_getElem (by omega)⟩
    refine mZ [⟨[],[],[0],[109],fun f=>f 109= .pointer (some ⟨b113,0,none⟩)⟩,⟨[0],[0],[],[110],fun f=>f 110= .slice pH107 (K.head).length cH110⟩,⟨[],[],[1],[111],fun f=>f 111=Nx (j)⟩,⟨[0,1,2],[1,2],[],[112],fun f=>f 112= .pointer (some ((ba pH107).add (j*1)))⟩,⟨[0,1,2,3],[3],[],[113],fun f=>f 113=Bx (c114)⟩,⟨[],[],[1],[114],fun f=>f 114=Nx (j)⟩,⟨[5],[5],[],[115],fun f=>f 115=Nx (j%8)⟩,⟨[5,6],[6],[],[116],fun f=>f 116=Bx (qT (j%8))⟩,⟨[0,1,2,3,4,5,6,7],[4,7],[],[117],fun f=>f 117=Bx (c114^^^(qT (j%8)))⟩,⟨[0,1,2,3,4,5,6,7,8],[1,2],[],[118],fun f=>f 118= .pointer (some ((ba pH107).add (j*1)))⟩,⟨[0,1,2,3,4,5,6,7,8,9],[9,8],[],[],fun _=>True⟩] [⟨none,(some 10),[1,10],[],fun _=>pt b113 (.cells #[.slice pH107 (K.head).length cH110,.slice pA108 (K.a).length cA111,.slice pB109 (K.b).length cB112,Ix (K.power)] 32)⟩,⟨none,(some 10),[3,4,9,10],[],fun _=>row (.slice pH107 (K.head).length cH110) 5 1 ((K.head).length) (BX K.head)⟩,⟨none,none,[],[],fun _=>row (.slice pA108 (K.a).length cA111) 5 1 ((K.a).length) (BX K.a)⟩,⟨none,none,[],[],fun _=>row (.slice pB109 (K.b).length cB112) 5 1 ((K.b).length) (BX K.b)⟩,⟨none,(some 10),[10],[],fun _=>pt b1 (.cells #[.slice pH66 (K.head).length cH69,.slice pA67 (K.a).length cA70,.slice pB68 (K.b).length cB71,Ix (K.power)] 32)⟩,⟨none,none,[],[],fun _=>row (.slice pH66 (K.head).length cH69) 5 1 ((K.head).length) (BX K.head)⟩,⟨none,none,[],[],fun _=>row (.slice pA67 (K.a).length cA70) 5 1 ((K.a).length) (BX K.a)⟩,⟨none,none,[],[],fun _=>row (.slice pB68 (K.b).length cB71) 5 1 ((K.b).length) (BX K.b)⟩,⟨(some 10),none,[],[],fun _=>pt b113 (.cells #[.slice pH107 ((K.head.set j (c114^^^(qT (j%8))))).length cH110,.slice pA108 (K.a).length cA111,.slice pB109 (K.b).length cB112,Ix (K.power)] 32)⟩,⟨(some 10),none,[],[],fun _=>row (.slice pH107 ((K.head.set j (c114^^^(qT (j%8))))).length cH110) 5 1 (((K.head.set j (c114^^^(qT (j%8))))).length) (BX (K.head.set j (c114^^^(qT (j%8)))))⟩,⟨(some 10),none,[],[],fun _=>pt b1 (.cells #[.slice pH66 (K.head).length cH69,.slice pA67 (K.a).length cA70,.slice pB68 (K.b).length cB71,Ix (K.power)] 32)⟩] [(7,.pointer (some ⟨b113,0,none⟩)),(6,Nx (j)),(1,.pointer (some ⟨b1,0,none⟩)),(104,Nx (j))] [2,0,3] [] (by kernel_rfl) (by kernel_rfl) (by kernel_rfl) (by kernel_rfl) rfl ⟨rfl,rfl,rfl,rfl,trivial⟩ ⟨?_,?_,?_,?_,?_,?_,?_,?_,?_,?_,?_,trivial⟩ ?_
    ·rintro f M-⟨i0,-⟩
     have hs7:f 7= .pointer (some ⟨b113,0,none⟩):=i0
     exact bK bM
    ·rintro f M ⟨k0,-⟩-
     have hs109:f 109= .pointer (some ⟨b113,0,none⟩):=k0
     exact bK (fA 0)
    ·rintro f M-⟨i0,-⟩
     have hs6:f 6=Nx (j):=i0
     exact bK bG
    ·rintro f M ⟨k0,k1,-⟩-
     have hs110:f 110= .slice pH107 (K.head).length cH110:=k0
     have hs111:f 111=Nx (j):=k1
     refine bC (L':=row (.slice pH107 (K.head).length cH110) 5 1 ((K.head).length) (BX K.head)::M) (by rfl) (aA (aA rfl hs110) hs111) ?_
     refine cW (v:= .pointer (some ((ba pH107).add (j*1)))) rfl rfl rfl (dK 0 (j:=j) (len:=(K.head).length) (cap:=cH110) (p:=pH107) rfl rfl bQ (by omega) (by omega) rfl) ?_
     refine aG ?_
     exact aI (aA (aA rfl hs110) hs111) rfl (aB 0 rfl)
    ·rintro f M ⟨k0,-⟩-
     have hs112:f 112= .pointer (some ((ba pH107).add (j*1))):=k0
     refine bC (L':=row (.slice pH107 (K.head).length cH110) 5 1 ((K.head).length) (BX K.head)::M) (by rfl) (aA rfl hs112) ?_
     refine cW (v:=Bx (c114)) rfl rfl rfl (bZ gQ.ok (v:=Bx (c114)) rfl (sK 0 (o:=j*1) (us:=[Bx (c114)]) rfl (aDo hc115) (Nat.succ_pos _))) ?_
     refine aG ?_
     exact aI (aA rfl hs112) rfl (aB 0 rfl)
    ·rintro f M-⟨i0,-⟩
     have hs6:f 6=Nx (j):=i0
     exact bK bG
    ·rintro f M ⟨k0,-⟩-
     have hs114:f 114=Nx (j):=k0
     refine bC (L':=M) (by rfl) (aA rfl hs114) ?_
     refine cW (v:=Nx (j%8)) rfl rfl rfl (gJ (a:=((j:Nat):Int)) (b:=(8:Int)) rfl rfl (by decide) (eC _ 8)) ?_
     refine aG ?_
     exact aI (aA rfl hs114) rfl (List.Perm.refl _)
    ·rintro f M ⟨k0,-⟩-
     have hs115:f 115=Nx (j%8):=k0
     refine bC (L':=M) (by rfl) (aA rfl hs115) ?_
     refine cW (v:=Bx (qT (j%8))) rfl rfl rfl (aIv (a:=((1:UInt8).toNat:Int)) (b:=((j%8:Nat):Int)) rfl rfl (by omega) (aFv _)) ?_
     refine aG ?_
     exact aI (aA rfl hs115) rfl (List.Perm.refl _)
    ·rintro f M ⟨k0,k1,-⟩-
     have hs113:f 113=Bx (c114):=k0
     have hs116:f 116=Bx (qT (j%8)):=k1
     refine bC (L':=M) (by rfl) (aA (aA rfl hs113) hs116) ?_
     refine cW (v:=Bx (c114^^^(qT (j%8)))) rfl rfl rfl (sG (a:=((c114).toNat:Int)) (b:=((qT (j%8)).toNat:Int)) rfl rfl (aJk _ _)) ?_
     refine aG ?_
     exact aI (aA (aA rfl hs113) hs116) rfl (List.Perm.refl _)
    ·rintro f M ⟨k0,k1,-⟩-
     have hs110:f 110= .slice pH107 (K.head).length cH110:=k0
     have hs111:f 111=Nx (j):=k1
     refine bC (L':=row (.slice pH107 (K.head).length cH110) 5 1 ((K.head).length) (BX K.head)::M) (by rfl) (aA (aA rfl hs110) hs111) ?_
     refine cW (v:= .pointer (some ((ba pH107).add (j*1)))) rfl rfl rfl (dK 0 (j:=j) (len:=(K.head).length) (cap:=cH110) (p:=pH107) rfl rfl bQ (by omega) (by omega) rfl) ?_
     refine aG ?_
     exact aI (aA (aA rfl hs110) hs111) rfl (aB 0 rfl)
    ·rintro f M ⟨k0,k1,-⟩-
     have hs118:f 118= .pointer (some ((ba pH107).add (j*1))):=k0
     have hs117:f 117=Bx (c114^^^(qT (j%8))):=k1
     refine bC (L':=pt b113 (.cells #[.slice pH107 (K.head).length cH110,.slice pA108 (K.a).length cA111,.slice pB109 (K.b).length cB112,Ix (K.power)] 32)::row (.slice pH107 (K.head).length cH110) 5 1 ((K.head).length) (BX K.head)::pt b1 (.cells #[.slice pH66 (K.head).length cH69,.slice pA67 (K.a).length cA70,.slice pB68 (K.b).length cB71,Ix (K.power)] 32)::M) (by rfl) (aA (aA rfl hs118) hs117) ?_
     refine kD rfl rfl (fJ 1 gQ.ok (o:=j*1) (v:=Bx (c114^^^(qT (j%8)))) rfl rfl rfl rfl rfl (by omega) (by omega)) ?_
     refine pR (L':=(pt b113 (.cells #[.slice pH107 ((K.head.set j (c114^^^(qT (j%8))))).length cH110,.slice pA108 (K.a).length cA111,.slice pB109 (K.b).length cB112,Ix (K.power)] 32)::row (.slice pH107 ((K.head.set j (c114^^^(qT (j%8))))).length cH110) 5 1 (((K.head.set j (c114^^^(qT (j%8))))).length) (BX (K.head.set j (c114^^^(qT (j%8)))))::pt b1 (.cells #[.slice pH66 (K.head).length cH69,.slice pA67 (K.a).length cA70,.slice pB68 (K.b).length cB71,Ix (K.power)] 32)::M)) (by show(pt b113 (.cells #[.slice pH107 (K.head).length cH110,.slice pA108 (K.a).length cA111,.slice pB109 (K.b).length cB112,Ix (K.power)] 32)::row (.slice pH107 (K.head).length cH110) 5 1 ((K.head).length) ((kE (BX K.head) (j*1) [Bx (c114^^^(qT (j%8)))]))::pt b1 (.cells #[.slice pH66 (K.head).length cH69,.slice pA67 (K.a).length cA70,.slice pB68 (K.b).length cB71,Ix (K.power)] 32)::M)=_;rw[gX (by omega)];simp only[List.length_set]) ?_
     refine aG ?_
     exact cT (aA (aA rfl hs118) hs117) trivial (((aB 2 rfl).trans (aB 2 rfl)).trans (aB 2 rfl))
    rintro fa116 ⟨-,-,-,-,-,-,-,-,-,-,-,-⟩ ⟨j0,j1,j2,-⟩
    refine qD (L':=[row (.slice pA108 (K.a).length cA111) 5 1 ((K.a).length) (BX K.a),row (.slice pB109 (K.b).length cB112) 5 1 ((K.b).length) (BX K.b),row (.slice pH66 (K.head).length cH69) 5 1 ((K.head).length) (BX K.head),row (.slice pA67 (K.a).length cA70) 5 1 ((K.a).length) (BX K.a),row (.slice pB68 (K.b).length cB71) 5 1 ((K.b).length) (BX K.b),pt b113 (.cells #[.slice pH107 ((K.head.set j (c114^^^(qT (j%8))))).length cH110,.slice pA108 (K.a).length cA111,.slice pB109 (K.b).length cB112,Ix (K.power)] 32),row (.slice pH107 ((K.head.set j (c114^^^(qT (j%8))))).length cH110) 5 1 (((K.head.set j (c114^^^(qT (j%8))))).length) (BX (K.head.set j (c114^^^(qT (j%8))))),pt b1 (.cells #[.slice pH66 (K.head).length cH69,.slice pA67 (K.a).length cA70,.slice pB68 (K.b).length cB71,Ix (K.power)] 32)]) (by rfl) ?_
    refine aJ (d:=1) (v:= .pointer (some ⟨b1,0,none⟩)) j0 ?_
    refine aJ (d:=7) (v:= .pointer (some ⟨b113,0,none⟩)) j1 ?_
    refine aJ (d:=104) (v:=Nx (j)) j2 ?_
    refine aQ ?_
    refine aO ?_
    refine aC ?_
    refine lE (dO 5) ?_
    refine bP rfl rfl rfl (cS (fst:=[]) (cap:=[]) (vs:=[.agg #[.slice pH107 ((K.head.set j (c114^^^(qT (j%8))))).length cH110,.slice pA108 (K.a).length cA111,.slice pB109 (K.b).length cB112,Ix (K.power)]]) (all:=[.agg #[.slice pH107 ((K.head.set j (c114^^^(qT (j%8))))).length cH110,.slice pA108 (K.a).length cA111,.slice pB109 (K.b).length cB112,Ix (K.power)]]) oF.ok rfl rfl rfl) ?_
    intro w hw
    obtain⟨β1,sb,kn,hw1,back⟩:=St.frame_all hw
    refine(gY β1 w hw1 (K.head.set j (c114^^^(qT (j%8)))) K.a K.b (K.power) _ _ _ (kn _ (aX.of_res 6 rfl (Sl.mono bE _ _) fun _ h=>fB h)) (kn _ (aX.of_res 0 rfl (Sl.mono bE _ _) fun _ h=>fB h)) (kn _ (aX.of_res 1 rfl (Sl.mono bE _ _) fun _ h=>fB h)) (by first|omega|(simp only[List.length_append,List.length_nil,List.length_cons,List.length_take,List.length_replicate,List.length_set,aH,bL];omega)) (by first|omega|(simp only[List.length_append,List.length_nil,List.length_cons,List.length_take,List.length_replicate,List.length_set,aH,bL];omega)) (by first|omega|(simp only[List.length_append,List.length_nil,List.length_cons,List.length_take,List.length_replicate,List.length_set,aH,bL];omega)) (by first|omega|decide)).mono ?_
    rintro e w' ⟨rfl,hw'⟩
    refine⟨_,rfl,_,back _ _ hw',?_⟩
    refine lE lI ?_
    refine aG ?_
    refine aQ ?_
    refine dI rfl ?_
    refine cM ?_
    refine bD ?_
    refine aQ ?_
    refine aC ?_
    refine cW (v:=Nx (j+1)) rfl rfl rfl (bJ (a:=((j:Nat):Int)) (b:=(1:Int)) rfl rfl (bU (by omega) (by omega))) ?_
    refine lE bG ?_
    refine aG ?_
    refine aAa (L':=[pt b1 (.cells #[.slice pH66 (K.head).length cH69,.slice pA67 (K.a).length cA70,.slice pB68 (K.b).length cB71,Ix (K.power)] 32),row (.slice pH66 (K.head).length cH69) 5 1 ((K.head).length) (BX K.head),row (.slice pA67 (K.a).length cA70) 5 1 ((K.a).length) (BX K.a),row (.slice pB68 (K.b).length cB71) 5 1 ((K.b).length) (BX K.b),row (.slice pA108 (K.a).length cA111) 5 1 ((K.a).length) (BX K.a),row (.slice pB109 (K.b).length cB112) 5 1 ((K.b).length) (BX K.b),pt b113 (.cells #[.slice pH107 ((K.head.set j (c114^^^(qT (j%8))))).length cH110,.slice pA108 (K.a).length cA111,.slice pB109 (K.b).length cB112,Ix (K.power)] 32),row (.slice pH107 ((K.head.set j (c114^^^(qT (j%8))))).length cH110) 5 1 (((K.head.set j (c114^^^(qT (j%8))))).length) (BX (K.head.set j (c114^^^(qT (j%8)))))]) (bN [7,2,3,4,0,1,5,6] 8 rfl (by kernel_rfl) (by kernel_rfl)) ?_
    refine dL (L':=[pt b1 (.cells #[.slice pH66 (K.head).length cH69,.slice pA67 (K.a).length cA70,.slice pB68 (K.b).length cB71,Ix (K.power)] 32),row (.slice pH66 (K.head).length cH69) 5 1 ((K.head).length) (BX K.head),row (.slice pA67 (K.a).length cA70) 5 1 ((K.a).length) (BX K.a),row (.slice pB68 (K.b).length cB71) 5 1 ((K.b).length) (BX K.b)]) [true,true,true,true,false,false,false,false] rfl ?_
    exact bT ⟨j+1,⟨⟨rfl,rfl⟩,rfl,(by omega)⟩,(show 32-(j+1)<32-j from by omega)⟩
   ·
    refine dZ ?_
    refine aU ?_
    refine aU ?_
    refine eA ?_
    refine aQ ?_
    refine aO ?_
    refine aO ?_
    refine aC ?_
    refine cF rfl rfl rfl (cO sQ aBr.ok (vs:=[(0,.int .i64 (0)),(1,.int .i64 (1)),(2,.int .i64 (2)),(3,.int .i64 (4611686018427387903)),(4,.int .i64 (4611686018427387904)),(5,.int .i64 (9223372036854775807)),(6,.int .i64 (-9223372036854775808))]) (cells:= #[.int .i64 (0),.int .i64 (1),.int .i64 (2),.int .i64 (4611686018427387903),.int .i64 (4611686018427387904),.int .i64 (9223372036854775807),.int .i64 (-9223372036854775808)]) rfl rfl rfl rfl) ?_
    rintro _ _ ⟨b117,rfl,rfl⟩
    refine lE fC ?_
    refine lE bG ?_
    refine aG ?_
    refine aQ ?_
    refine aY ?_
    refine nO (r':=row (.slice (some ⟨b117,0,none⟩) 7 7) 3 1 7 (([0,1,2,4611686018427387903,4611686018427387904,9223372036854775807,-9223372036854775808]:List Int).map (fun x:Int=>Ix x))) 0 rfl (fun a h=>jA (m:=7) (by decide) rfl a h) ?_
    refine kY [true,false,false,false,false] rfl ?_
    refine dV (fun(k6:Nat) (f:Fm) (L:List cE)=>(f 123= .slice (some ⟨b117,0,none⟩) 7 7∧f 124= .int .i64 (7)∧f 125=Nx (k6))∧L=[row (.slice (some ⟨b117,0,none⟩) 7 7) 3 1 (7) (([0,1,2,4611686018427387903,4611686018427387904,9223372036854775807,-9223372036854775808]:List Int).map (fun x:Int=>Ix x))]∧(k6≤7)) (fun(k6:Nat)=>7-k6) 0 ?_ ?_
    ·exact⟨⟨rfl,rfl,rfl⟩,rfl,(by omega)⟩
    rintro k6 f0 L0 ⟨⟨hs123,hs124,hs125⟩,hL,hk6⟩
    subst L0
    refine eZ (d:=123) hs123 ?_
    refine eZ (d:=124) hs124 ?_
    refine eZ (d:=125) hs125 ?_
    clear hs123 hs124 hs125
    refine aO ?_
    refine aC ?_
    refine lE jI ?_
    refine aG ?_
    refine aQ ?_
    refine aO ?_
    refine cK (((k6:Nat):Int)<(7:Int)) rfl (fun hc118=> ?_) (fun hc118=> ?_)
    ·
     refine cM ?_
     refine aQ ?_
     refine aO ?_
     refine aY ?_
     refine aO ?_
     refine aC ?_
     refine cW (v:= .pointer (some ((ba (some ⟨b117,0,none⟩)).add (k6*1)))) rfl rfl rfl (dK 0 (j:=k6) (len:=7) (cap:=7) (p:=(some ⟨b117,0,none⟩)) rfl rfl sQ (by omega) (by omega) rfl) ?_
     obtain⟨x119,hx120⟩:∃x_,([0,1,2,4611686018427387903,4611686018427387904,9223372036854775807,-9223372036854775808]:List Int)[k6]? =some x_:=⟨_,List.getElem?_eq_getElem (by show k6<7;omega)⟩
     refine cW (v:=Ix (x119)) rfl rfl rfl (bZ sY.ok (v:=Ix (x119)) rfl (sK 0 (o:=k6*1) (us:=[Ix (x119)]) rfl (rM (enc:=fun x:Int=>Ix x) hx120) (Nat.succ_pos _))) ?_
     refine lE bV ?_
     refine aG ?_
     refine aQ ?_
     refine aO ?_
     refine aC ?_
     refine cF rfl rfl rfl (cO sQ aBr.ok (vs:=[(0,.int .i64 (0)),(1,.int .i64 (1)),(2,.int .i64 (4611686018427387903)),(3,.int .i64 (4611686018427387904)),(4,.int .i64 (4611686018427387905)),(5,.int .i64 (-1))]) (cells:= #[.int .i64 (0),.int .i64 (1),.int .i64 (4611686018427387903),.int .i64 (4611686018427387904),.int .i64 (4611686018427387905),.int .i64 (-1)]) rfl rfl rfl rfl) ?_
     rintro _ _ ⟨b121,rfl,rfl⟩
     refine lE fC ?_
     refine lE bG ?_
     refine aG ?_
     refine aQ ?_
     refine aY ?_
     refine nO (r':=row (.slice (some ⟨b121,0,none⟩) 6 6) 3 1 6 (([0,1,4611686018427387903,4611686018427387904,4611686018427387905,-1]:List Int).map (fun x:Int=>Ix x))) 0 rfl (fun a h=>jA (m:=6) (by decide) rfl a h) ?_
     refine kY [true,true] rfl ?_
     refine dV (fun(k8:Nat) (f:Fm) (L:List cE)=>(f 9=Ix (x119)∧f 123= .slice (some ⟨b117,0,none⟩) 7 7∧f 124= .int .i64 (7)∧f 125=Nx (k6)∧f 129= .slice (some ⟨b121,0,none⟩) 6 6∧f 130= .int .i64 (6)∧f 131=Nx (k8))∧L=[row (.slice (some ⟨b121,0,none⟩) 6 6) 3 1 (6) (([0,1,4611686018427387903,4611686018427387904,4611686018427387905,-1]:List Int).map (fun x:Int=>Ix x)),row (.slice (some ⟨b117,0,none⟩) 7 7) 3 1 (7) (([0,1,2,4611686018427387903,4611686018427387904,9223372036854775807,-9223372036854775808]:List Int).map (fun x:Int=>Ix x))]∧(k8≤6)) (fun(k8:Nat)=>6-k8) 0 ?_ ?_
     ·exact⟨⟨rfl,rfl,rfl,rfl,rfl,rfl,rfl⟩,rfl,(by omega)⟩
     rintro k8 f0 L0 ⟨⟨hs9,hs123,hs124,hs125,hs129,hs130,hs131⟩,hL,hk8⟩
     subst L0
     refine eZ (d:=9) hs9 ?_
     refine eZ (d:=123) hs123 ?_
     refine eZ (d:=124) hs124 ?_
     refine eZ (d:=125) hs125 ?_
     refine eZ (d:=129) hs129 ?_
     refine eZ (d:=130) hs130 ?_
     refine eZ (d:=131) hs131 ?_
     clear hs9 hs123 hs124 hs125 hs129 hs130 hs131
     refine aO ?_
     refine aC ?_
     refine lE jI ?_
     refine aG ?_
     refine aQ ?_
     refine aO ?_
     refine cK (((k8:Nat):Int)<(6:Int)) rfl (fun hc122=> ?_) (fun hc122=> ?_)
     ·
      refine cM ?_
      refine aQ ?_
      refine aO ?_
      refine aY ?_
      refine aO ?_
      refine aC ?_
      refine cW (v:= .pointer (some ((ba (some ⟨b121,0,none⟩)).add (k8*1)))) rfl rfl rfl (dK 0 (j:=k8) (len:=6) (cap:=6) (p:=(some ⟨b121,0,none⟩)) rfl rfl sQ (by omega) (by omega) rfl) ?_
      obtain⟨x123,hx124⟩:∃x_,([0,1,4611686018427387903,4611686018427387904,4611686018427387905,-1]:List Int)[k8]? =some x_:=⟨_,List.getElem?_eq_getElem (by show k8<6;omega)⟩
      refine cW (v:=Ix (x123)) rfl rfl rfl (bZ sY.ok (v:=Ix (x123)) rfl (sK 0 (o:=k8*1) (us:=[Ix (x123)]) rfl (rM (enc:=fun x:Int=>Ix x) hx124) (Nat.succ_pos _))) ?_
      refine lE bV ?_
      refine aG ?_
      refine aQ ?_
      refine aO ?_
      refine aC ?_
      refine lE bG ?_
      have hcx127:=bL (x119)
      refine bP rfl rfl rfl (cS (fst:=[]) (cap:=[]) (vs:=[Ix (x119)]) (all:=[Ix (x119)]) sO.ok rfl rfl rfl) ?_
      intro w hw
      obtain⟨β1,sb,kn,hw1,back⟩:=St.frame_all hw
      refine(mF β1 w hw1 (x119)).mono ?_
      rintro e w' ⟨p125,c126,rfl,hw'⟩
      refine⟨_,rfl,_,back _ _ hw',?_⟩
      refine lE bG ?_
      have hcx130:=bL (x119)
      refine bP rfl rfl rfl (cS (fst:=[]) (cap:=[]) (vs:=[Ix (x119)]) (all:=[Ix (x119)]) sO.ok rfl rfl rfl) ?_
      intro w hw
      obtain⟨β1,sb,kn,hw1,back⟩:=St.frame_all hw
      refine(mF β1 w hw1 (x119)).mono ?_
      rintro e w' ⟨p128,c129,rfl,hw'⟩
      refine⟨_,rfl,_,back _ _ hw',?_⟩
      refine cF rfl rfl rfl (cG (enc:=fun c:UInt8=>Bx c) 1 dJ bQ fV (v:= .slice p125 (cL (x119)).length c126) (xs:=cL (x119)) (ys:=cL (x119)) (ao:=p128) (c:=c129) rfl rfl (by first|rfl|simp) rfl (by first|rfl|simp) (iF 0 rfl) (by first|omega|(simp only[List.length_append,List.length_nil,List.length_cons,aL]at*;omega)) (by first|omega|(simp only[List.length_append,List.length_nil,List.length_cons,aL]at*;omega))) ?_
      rintro _ _ ⟨rp131,rc132,rfl,rfl⟩
      refine lE bG ?_
      refine lE bG ?_
      refine cF rfl rfl rfl (cO bQ iG.ok (vs:=[(0,.int .u8 (115))]) (cells:= #[.int .u8 (115)]) rfl rfl rfl rfl) ?_
      rintro _ _ ⟨b133,rfl,rfl⟩
      refine cF rfl rfl rfl (lU 0 rfl rfl mM.ok tM) ?_
      rintro _ _ ⟨rfl,rfl⟩
      have hfo136:=aH (x119) (x123) [(115:UInt8)]
      refine bP rfl rfl rfl (cS (fst:=[]) (cap:=[]) (vs:=[Ix (x119),Ix (x123),.slice (some ⟨b133,0,none⟩) 1 1]) (all:=[Ix (x119),Ix (x123),.slice (some ⟨b133,0,none⟩) 1 1]) oE.ok rfl rfl rfl) ?_
      intro w hw
      obtain⟨β1,sb,kn,hw1,back⟩:=St.frame_all hw
      refine(gZ β1 w hw1 (x119) (x123) [(115:UInt8)] _ (by first|omega|(simp only[List.length_append,List.length_nil,List.length_cons,List.length_take,List.length_replicate,List.length_set,aH,bL];omega)) (⟨⟨_,_,rfl,by simp,by simp,kn _ (fO 0 (xs:=[(115:UInt8)]) rfl)⟩⟩:Sl bE _ _ _)).mono ?_
      rintro e w' ⟨p134,c135,rfl,hw'⟩
      refine⟨_,rfl,_,back _ _ hw',?_⟩
      refine lE bG ?_
      refine lE bG ?_
      refine cF rfl rfl rfl (cO bQ iG.ok (vs:=[(0,.int .u8 (114))]) (cells:= #[.int .u8 (114)]) rfl rfl rfl rfl) ?_
      rintro _ _ ⟨b137,rfl,rfl⟩
      refine cF rfl rfl rfl (lU 0 rfl rfl mM.ok tM) ?_
      rintro _ _ ⟨rfl,rfl⟩
      have hfo140:=aH (x119) (x123) [(114:UInt8)]
      refine bP rfl rfl rfl (cS (fst:=[]) (cap:=[]) (vs:=[Ix (x119),Ix (x123),.slice (some ⟨b137,0,none⟩) 1 1]) (all:=[Ix (x119),Ix (x123),.slice (some ⟨b137,0,none⟩) 1 1]) oE.ok rfl rfl rfl) ?_
      intro w hw
      obtain⟨β1,sb,kn,hw1,back⟩:=St.frame_all hw
      refine(gZ β1 w hw1 (x119) (x123) [(114:UInt8)] _ (by first|omega|(simp only[List.length_append,List.length_nil,List.length_cons,List.length_take,List.length_replicate,List.length_set,aH,bL];omega)) (⟨⟨_,_,rfl,by simp,by simp,kn _ (fO 0 (xs:=[(114:UInt8)]) rfl)⟩⟩:Sl bE _ _ _)).mono ?_
      rintro e w' ⟨p138,c139,rfl,hw'⟩
      refine⟨_,rfl,_,back _ _ hw',?_⟩
      refine cF rfl rfl rfl (cG (enc:=fun c:UInt8=>Bx c) 2 dJ bQ fV (v:= .slice p134 (aD (x119) (x123) [(115:UInt8)]).length c135) (xs:=aD (x119) (x123) [(115:UInt8)]) (ys:=aD (x119) (x123) [(114:UInt8)]) (ao:=p138) (c:=c139) rfl rfl (by first|rfl|simp) rfl (by first|rfl|simp) (iF 0 rfl) (by first|omega|(simp only[List.length_append,List.length_nil,List.length_cons,aL]at*;omega)) (by first|omega|(simp only[List.length_append,List.length_nil,List.length_cons,aL]at*;omega))) ?_
      rintro _ _ ⟨rp141,rc142,rfl,rfl⟩
      refine cW (v:= .agg #[.slice rp131 ((cL (x119))++(cL (x119))).length rc132,.slice rp141 ((aD (x119) (x123) [(115:UInt8)])++(aD (x119) (x123) [(114:UInt8)])).length rc142,.slice none 0 0,.int .i64 (-1)]) rfl rfl rfl (dW lN.ok mL (vs:=[(3,.int .i64 (-1)),(0,.slice rp131 ((cL (x119))++(cL (x119))).length rc132),(1,.slice rp141 ((aD (x119) (x123) [(115:UInt8)])++(aD (x119) (x123) [(114:UInt8)])).length rc142)]) (cells:= #[.slice rp131 ((cL (x119))++(cL (x119))).length rc132,.slice rp141 ((aD (x119) (x123) [(115:UInt8)])++(aD (x119) (x123) [(114:UInt8)])).length rc142,.slice none 0 0,.int .i64 (-1)]) rfl rfl) ?_
      refine fZ fun b143=> ?_
      refine kD rfl rfl (bS 0 fX.ok (b:=b143) (o:=0) (T:=32) (cs:= #[.slice none 0 0,.slice none 0 0,.slice none 0 0,.int .i64 (0)]) (cs':= #[.slice rp131 ((cL (x119))++(cL (x119))).length rc132,.slice rp141 ((aD (x119) (x123) [(115:UInt8)])++(aD (x119) (x123) [(114:UInt8)])).length rc142,.slice none 0 0,.int .i64 (-1)]) (v:= .agg #[.slice rp131 ((cL (x119))++(cL (x119))).length rc132,.slice rp141 ((aD (x119) (x123) [(115:UInt8)])++(aD (x119) (x123) [(114:UInt8)])).length rc142,.slice none 0 0,.int .i64 (-1)]) rfl rfl rfl rfl rfl rfl rfl) ?_
      refine aG ?_
      refine aQ ?_
      refine aO ?_
      refine aC ?_
      refine cF rfl rfl rfl (iZ bQ) ?_
      rintro _ _ ⟨b144,rfl,rfl⟩
      refine lE bM ?_
      refine lE (fA 1) ?_
      refine iY 0 (r':=row (.slice (some ⟨b144,0,none⟩) 0 0) 5 1 0 (BX [])) rfl (fun a h=>jA (m:=0) (by decide) rfl a h) ?_
      refine cF rfl rfl rfl (cG (enc:=fun c:UInt8=>Bx c) 0 dJ bQ fV (v:= .slice (some ⟨b144,0,none⟩) 0 0) (xs:=[]) (ys:=(aD (x119) (x123) [(115:UInt8)])++(aD (x119) (x123) [(114:UInt8)])) (ao:=rp141) (c:=rc142) rfl rfl (by first|rfl|simp) rfl (by first|rfl|simp) (iF 4 rfl) (by first|omega|(simp only[List.length_append,List.length_nil,List.length_cons,aL]at*;omega)) (by first|omega|(simp only[List.length_append,List.length_nil,List.length_cons,aL]at*;omega))) ?_
      rintro _ _ ⟨rp145,rc146,rfl,rfl⟩
      refine lE bM ?_
      refine kD rfl rfl (bS 1 lV.ok (b:=b143) (o:=2) (T:=32) (cs:= #[.slice rp131 ((cL (x119))++(cL (x119))).length rc132,.slice rp141 ((aD (x119) (x123) [(115:UInt8)])++(aD (x119) (x123) [(114:UInt8)])).length rc142,.slice none 0 0,.int .i64 (-1)]) (cs':= #[.slice rp131 ((cL (x119))++(cL (x119))).length rc132,.slice rp141 ((aD (x119) (x123) [(115:UInt8)])++(aD (x119) (x123) [(114:UInt8)])).length rc142,.slice rp145 ([]++((aD (x119) (x123) [(115:UInt8)])++(aD (x119) (x123) [(114:UInt8)]))).length rc146,.int .i64 (-1)]) (v:= .slice rp145 ([]++((aD (x119) (x123) [(115:UInt8)])++(aD (x119) (x123) [(114:UInt8)]))).length rc146) rfl rfl rfl rfl rfl rfl rfl) ?_
      refine aG ?_
      refine aQ ?_
      refine aO ?_
      refine aC ?_
      refine lE (dO 1) ?_
      refine bP rfl rfl rfl (cS (fst:=[]) (cap:=[]) (vs:=[.agg #[.slice rp131 ((cL (x119))++(cL (x119))).length rc132,.slice rp141 ((aD (x119) (x123) [(115:UInt8)])++(aD (x119) (x123) [(114:UInt8)])).length rc142,.slice rp145 ([]++((aD (x119) (x123) [(115:UInt8)])++(aD (x119) (x123) [(114:UInt8)]))).length rc146,.int .i64 (-1)]]) (all:=[.agg #[.slice rp131 ((cL (x119))++(cL (x119))).length rc132,.slice rp141 ((aD (x119) (x123) [(115:UInt8)])++(aD (x119) (x123) [(114:UInt8)])).length rc142,.slice rp145 ([]++((aD (x119) (x123) [(115:UInt8)])++(aD (x119) (x123) [(114:UInt8)]))).length rc146,.int .i64 (-1)]]) oF.ok rfl rfl rfl) ?_
      intro w hw
      obtain⟨β1,sb,kn,hw1,back⟩:=St.frame_all hw
      refine(gY β1 w hw1 ((cL (x119))++(cL (x119))) ((aD (x119) (x123) [(115:UInt8)])++(aD (x119) (x123) [(114:UInt8)])) ([]++((aD (x119) (x123) [(115:UInt8)])++(aD (x119) (x123) [(114:UInt8)]))) (-1:Int) _ _ _ (kn _ (aX.of_res 7 rfl (Sl.mono bE _ _) fun _ h=>fB h)) (kn _ (aX.of_res 4 rfl (Sl.mono bE _ _) fun _ h=>fB h)) (kn _ (aX.of_res 0 rfl (Sl.mono bE _ _) fun _ h=>fB h)) (by first|omega|(simp only[List.length_append,List.length_nil,List.length_cons,List.length_take,List.length_replicate,List.length_set,aH,bL];omega)) (by first|omega|(simp only[List.length_append,List.length_nil,List.length_cons,List.length_take,List.length_replicate,List.length_set,aH,bL];omega)) (by first|omega|(simp only[List.length_append,List.length_nil,List.length_cons,List.length_take,List.length_replicate,List.length_set,aH,bL];omega)) (by first|omega|decide)).mono ?_
      rintro e w' ⟨rfl,hw'⟩
      refine⟨_,rfl,_,back _ _ hw',?_⟩
      refine lE lI ?_
      refine aG ?_
      refine aQ ?_
      refine dI rfl ?_
      refine cM ?_
      refine bD ?_
      refine aQ ?_
      refine aC ?_
      refine cW (v:=Nx (k8+1)) rfl rfl rfl (bJ (a:=((k8:Nat):Int)) (b:=(1:Int)) rfl rfl (bU (by omega) (by omega))) ?_
      refine lE bG ?_
      refine aG ?_
      refine dL (L':=[row (.slice (some ⟨b121,0,none⟩) 6 6) 3 1 (6) (([0,1,4611686018427387903,4611686018427387904,4611686018427387905,-1]:List Int).map (fun x:Int=>Ix x)),row (.slice (some ⟨b117,0,none⟩) 7 7) 3 1 (7) (([0,1,2,4611686018427387903,4611686018427387904,9223372036854775807,-9223372036854775808]:List Int).map (fun x:Int=>Ix x))]) [false,false,false,false,false,false,false,false,true,true] rfl ?_
      exact bT ⟨k8+1,⟨⟨rfl,rfl,rfl,rfl,rfl,rfl,rfl⟩,rfl,(by omega)⟩,(show 6-(k8+1)<6-k8 from by omega)⟩
     ·
      refine dZ ?_
      refine aU ?_
      refine aU ?_
      refine eA ?_
      refine bD ?_
      refine aQ ?_
      refine aC ?_
      refine cW (v:=Nx (k6+1)) rfl rfl rfl (bJ (a:=((k6:Nat):Int)) (b:=(1:Int)) rfl rfl (bU (by omega) (by omega))) ?_
      refine lE bG ?_
      refine aG ?_
      refine dL (L':=[row (.slice (some ⟨b117,0,none⟩) 7 7) 3 1 (7) (([0,1,2,4611686018427387903,4611686018427387904,9223372036854775807,-9223372036854775808]:List Int).map (fun x:Int=>Ix x))]) [false,true] rfl ?_
      exact bT ⟨k6+1,⟨⟨rfl,rfl,rfl⟩,rfl,(by omega)⟩,(show 7-(k6+1)<7-k6 from by omega)⟩
    ·
     refine dZ ?_
     refine aU ?_
     refine aU ?_
     refine eA ?_
     refine aQ ?_
     refine aO ?_
     refine aO ?_
     refine aC ?_
     refine cF rfl rfl rfl (cO sQ aBr.ok (vs:=[(0,.int .i64 (1)),(1,.int .i64 (4611686018427387902)),(2,.int .i64 (4611686018427387903))]) (cells:= #[.int .i64 (1),.int .i64 (4611686018427387902),.int .i64 (4611686018427387903)]) rfl rfl rfl rfl) ?_
     rintro _ _ ⟨b147,rfl,rfl⟩
     refine lE fC ?_
     refine lE bG ?_
     refine aG ?_
     refine aQ ?_
     refine aY ?_
     refine nO (r':=row (.slice (some ⟨b147,0,none⟩) 3 3) 3 1 3 (([1,4611686018427387902,4611686018427387903]:List Int).map (fun x:Int=>Ix x))) 0 rfl (fun a h=>jA (m:=3) (by decide) rfl a h) ?_
     refine kY [true,true] rfl ?_
     refine dV (fun(ka:Nat) (f:Fm) (L:List cE)=>(f 162= .slice (some ⟨b147,0,none⟩) 3 3∧f 163= .int .i64 (3)∧f 164=Nx (ka))∧L=[row (.slice (some ⟨b147,0,none⟩) 3 3) 3 1 (3) (([1,4611686018427387902,4611686018427387903]:List Int).map (fun x:Int=>Ix x)),row (.slice (some ⟨b117,0,none⟩) 7 7) 3 1 (7) (([0,1,2,4611686018427387903,4611686018427387904,9223372036854775807,-9223372036854775808]:List Int).map (fun x:Int=>Ix x))]∧(ka≤3)) (fun(ka:Nat)=>3-ka) 0 ?_ ?_
     ·exact⟨⟨rfl,rfl,rfl⟩,rfl,(by omega)⟩
     rintro ka f0 L0 ⟨⟨hs162,hs163,hs164⟩,hL,hka⟩
     subst L0
     refine eZ (d:=162) hs162 ?_
     refine eZ (d:=163) hs163 ?_
     refine eZ (d:=164) hs164 ?_
     clear hs162 hs163 hs164
     refine aO ?_
     refine aC ?_
     refine lE jI ?_
     refine aG ?_
     refine aQ ?_
     refine aO ?_
     refine cK (((ka:Nat):Int)<(3:Int)) rfl (fun hc148=> ?_) (fun hc148=> ?_)
     ·
      refine cM ?_
      refine aQ ?_
      refine aO ?_
      refine aY ?_
      refine aO ?_
      refine aC ?_
      refine cW (v:= .pointer (some ((ba (some ⟨b147,0,none⟩)).add (ka*1)))) rfl rfl rfl (dK 0 (j:=ka) (len:=3) (cap:=3) (p:=(some ⟨b147,0,none⟩)) rfl rfl sQ (by omega) (by omega) rfl) ?_
      obtain⟨x149,hx150⟩:∃x_,([1,4611686018427387902,4611686018427387903]:List Int)[ka]? =some x_:=⟨_,List.getElem?_eq_getElem (by show ka<3;omega)⟩
      refine cW (v:=Ix (x149)) rfl rfl rfl (bZ sY.ok (v:=Ix (x149)) rfl (sK 0 (o:=ka*1) (us:=[Ix (x149)]) rfl (rM (enc:=fun x:Int=>Ix x) hx150) (Nat.succ_pos _))) ?_
      refine lE bV ?_
      refine aG ?_
      refine aQ ?_
      refine aO ?_
      obtain⟨e,rfl,he1,he2⟩:=aHd hx150
      refine aC ?_
      refine cF rfl rfl rfl (cO sQ aBr.ok (vs:=[(0,.int .i64 (5)),(1,.int .i64 (4611686018427387902)),(2,.int .i64 (4611686018427387903)),(3,.int .i64 (4611686018427387904))]) (cells:= #[.int .i64 (5),.int .i64 (4611686018427387902),.int .i64 (4611686018427387903),.int .i64 (4611686018427387904)]) rfl rfl rfl rfl) ?_
      rintro _ _ ⟨b151,rfl,rfl⟩
      refine lE fC ?_
      refine lE bG ?_
      refine aG ?_
      refine aQ ?_
      refine aY ?_
      refine nO (r':=row (.slice (some ⟨b151,0,none⟩) 4 4) 3 1 4 (([5,4611686018427387902,4611686018427387903,4611686018427387904]:List Int).map (fun x:Int=>Ix x))) 0 rfl (fun a h=>jA (m:=4) (by decide) rfl a h) ?_
      refine kY [true,true,true] rfl ?_
      refine dV (fun(kc:Nat) (f:Fm) (L:List cE)=>(f 14=Nx (e)∧f 162= .slice (some ⟨b147,0,none⟩) 3 3∧f 163= .int .i64 (3)∧f 164=Nx (ka)∧f 168= .slice (some ⟨b151,0,none⟩) 4 4∧f 169= .int .i64 (4)∧f 170=Nx (kc))∧L=[row (.slice (some ⟨b151,0,none⟩) 4 4) 3 1 (4) (([5,4611686018427387902,4611686018427387903,4611686018427387904]:List Int).map (fun x:Int=>Ix x)),row (.slice (some ⟨b147,0,none⟩) 3 3) 3 1 (3) (([1,4611686018427387902,4611686018427387903]:List Int).map (fun x:Int=>Ix x)),row (.slice (some ⟨b117,0,none⟩) 7 7) 3 1 (7) (([0,1,2,4611686018427387903,4611686018427387904,9223372036854775807,-9223372036854775808]:List Int).map (fun x:Int=>Ix x))]∧(kc≤4)) (fun(kc:Nat)=>4-kc) 0 ?_ ?_
      ·exact⟨⟨rfl,rfl,rfl,rfl,rfl,rfl,rfl⟩,rfl,(by omega)⟩
      rintro kc f0 L0 ⟨⟨hs14,hs162,hs163,hs164,hs168,hs169,hs170⟩,hL,hkc⟩
      subst L0
      refine eZ (d:=14) hs14 ?_
      refine eZ (d:=162) hs162 ?_
      refine eZ (d:=163) hs163 ?_
      refine eZ (d:=164) hs164 ?_
      refine eZ (d:=168) hs168 ?_
      refine eZ (d:=169) hs169 ?_
      refine eZ (d:=170) hs170 ?_
      clear hs14 hs162 hs163 hs164 hs168 hs169 hs170
      refine aO ?_
      refine aC ?_
      refine lE jI ?_
      refine aG ?_
      refine aQ ?_
      refine aO ?_
      refine cK (((kc:Nat):Int)<(4:Int)) rfl (fun hc152=> ?_) (fun hc152=> ?_)
      ·
       refine cM ?_
       refine aQ ?_
       refine aO ?_
       refine aY ?_
       refine aO ?_
       refine aC ?_
       refine cW (v:= .pointer (some ((ba (some ⟨b151,0,none⟩)).add (kc*1)))) rfl rfl rfl (dK 0 (j:=kc) (len:=4) (cap:=4) (p:=(some ⟨b151,0,none⟩)) rfl rfl sQ (by omega) (by omega) rfl) ?_
       obtain⟨x153,hx154⟩:∃x_,([5,4611686018427387902,4611686018427387903,4611686018427387904]:List Int)[kc]? =some x_:=⟨_,List.getElem?_eq_getElem (by show kc<4;omega)⟩
       refine cW (v:=Ix (x153)) rfl rfl rfl (bZ sY.ok (v:=Ix (x153)) rfl (sK 0 (o:=kc*1) (us:=[Ix (x153)]) rfl (rM (enc:=fun x:Int=>Ix x) hx154) (Nat.succ_pos _))) ?_
       refine lE bV ?_
       refine aG ?_
       refine aQ ?_
       refine aO ?_
       obtain⟨nn,rfl,hnn⟩:=aHx hx154
       have hfo161:=aH ((e:Nat):Int) ((nn:Nat):Int) [(115:UInt8)]
       have hfo164:=aH ((e:Nat):Int) ((nn:Nat):Int) [(115:UInt8)]
       have hfo169:=aH ((e:Nat):Int) ((nn:Nat):Int) [(114:UInt8)]
       have hfo172:=aH ((e:Nat):Int) ((nn:Nat):Int) [(114:UInt8)]
       refine mZ [⟨[],[],[],[174],fun f=>f 174= .slice (some ⟨(bI (f 174)),0,none⟩) (dT).length 32⟩,⟨[],[],[0],[175],fun f=>f 175=Nx (e)⟩,⟨[],[],[1],[176],fun f=>f 176=Nx (nn)⟩,⟨[],[],[],[177],fun f=>f 177= .slice (some ⟨(bI (f 177)),0,none⟩) 1 1⟩,⟨[3],[3],[],[177,178],fun f=>f 178= .slice (some ⟨(bI (f 177)),0,none⟩) 1 1⟩,⟨[1,2,3,4],[1,2,4],[],[179],fun f=>f 179= .slice (aM (f 179)) (aD ((e:Nat):Int) ((nn:Nat):Int) [(115:UInt8)]).length (aN (f 179))⟩,⟨[],[],[0],[180],fun f=>f 180=Nx (e)⟩,⟨[],[],[1],[181],fun f=>f 181=Nx (nn)⟩,⟨[],[],[],[182],fun f=>f 182= .slice (some ⟨(bI (f 182)),0,none⟩) 1 1⟩,⟨[8],[8],[],[182,183],fun f=>f 183= .slice (some ⟨(bI (f 182)),0,none⟩) 1 1⟩,⟨[1,2,3,4,5,6,7,8,9],[6,7,9],[],[184],fun f=>f 184= .slice (aM (f 184)) (aD ((e:Nat):Int) ((nn:Nat):Int) [(114:UInt8)]).length (aN (f 184))⟩,⟨[1,2,3,4,5,6,7,8,9,10],[5,10],[],[185],fun f=>f 185= .slice (aM (f 185)) ((aD ((e:Nat):Int) ((nn:Nat):Int) [(115:UInt8)])++(aD ((e:Nat):Int) ((nn:Nat):Int) [(114:UInt8)])).length (aN (f 185))⟩,⟨[0,1,2,3,4,5,6,7,8,9,10,11],[0,11],[],[174,185,186],fun f=>f 186= .agg #[.slice (some ⟨(bI (f 174)),0,none⟩) (dT).length 32,.slice (aM (f 185)) ((aD ((e:Nat):Int) ((nn:Nat):Int) [(115:UInt8)])++(aD ((e:Nat):Int) ((nn:Nat):Int) [(114:UInt8)])).length (aN (f 185)),.slice none 0 0,.int .i64 (-1)]⟩,⟨[],[],[],[17],fun f=>f 17= .pointer (some ⟨(bI (f 17)),0,none⟩)⟩,⟨[0,1,2,3,4,5,6,7,8,9,10,11,12,13],[13,12],[],[],fun _=>True⟩] [⟨none,none,[],[],fun _=>row (.slice (some ⟨b151,0,none⟩) 4 4) 3 1 (4) (([5,4611686018427387902,4611686018427387903,4611686018427387904]:List Int).map (fun x:Int=>Ix x))⟩,⟨none,none,[],[],fun _=>row (.slice (some ⟨b147,0,none⟩) 3 3) 3 1 (3) (([1,4611686018427387902,4611686018427387903]:List Int).map (fun x:Int=>Ix x))⟩,⟨none,none,[],[],fun _=>row (.slice (some ⟨b117,0,none⟩) 7 7) 3 1 (7) (([0,1,2,4611686018427387903,4611686018427387904,9223372036854775807,-9223372036854775808]:List Int).map (fun x:Int=>Ix x))⟩,⟨(some 0),none,[],[174],fun f=>row (.slice (some ⟨(bI (f 174)),0,none⟩) (dT).length 32) 5 1 ((dT).length) (BX dT)⟩,⟨(some 3),(some 4),[4],[177],fun f=>pt (bI (f 177)) (.cells #[.int .u8 (115)] 5)⟩,⟨(some 4),none,[5],[177],fun f=>pt (bI (f 177)) (.cells #[.int .u8 (115)] 5 (1,1+1))⟩,⟨(some 5),(some 11),[11],[179],fun f=>row (.slice (aM (f 179)) (aD ((e:Nat):Int) ((nn:Nat):Int) [(115:UInt8)]).length (aN (f 179))) 5 1 ((aD ((e:Nat):Int) ((nn:Nat):Int) [(115:UInt8)]).length) (BX (aD ((e:Nat):Int) ((nn:Nat):Int) [(115:UInt8)]))⟩,⟨(some 8),(some 9),[9],[182],fun f=>pt (bI (f 182)) (.cells #[.int .u8 (114)] 5)⟩,⟨(some 9),none,[10],[182],fun f=>pt (bI (f 182)) (.cells #[.int .u8 (114)] 5 (1,1+1))⟩,⟨(some 10),none,[11],[184],fun f=>row (.slice (aM (f 184)) (aD ((e:Nat):Int) ((nn:Nat):Int) [(114:UInt8)]).length (aN (f 184))) 5 1 ((aD ((e:Nat):Int) ((nn:Nat):Int) [(114:UInt8)]).length) (BX (aD ((e:Nat):Int) ((nn:Nat):Int) [(114:UInt8)]))⟩,⟨(some 11),none,[],[185],fun f=>row (.slice (aM (f 185)) ((aD ((e:Nat):Int) ((nn:Nat):Int) [(115:UInt8)])++(aD ((e:Nat):Int) ((nn:Nat):Int) [(114:UInt8)])).length (aN (f 185))) 5 1 (((aD ((e:Nat):Int) ((nn:Nat):Int) [(115:UInt8)])++(aD ((e:Nat):Int) ((nn:Nat):Int) [(114:UInt8)])).length) (BX ((aD ((e:Nat):Int) ((nn:Nat):Int) [(115:UInt8)])++(aD ((e:Nat):Int) ((nn:Nat):Int) [(114:UInt8)])))⟩,⟨(some 13),(some 14),[14],[17],fun f=>pt (bI (f 17)) (.cells #[.slice none 0 0,.slice none 0 0,.slice none 0 0,.int .i64 (0)] 32)⟩,⟨(some 14),none,[],[17,174,185],fun f=>pt (bI (f 17)) (.cells #[.slice (some ⟨(bI (f 174)),0,none⟩) (dT).length 32,.slice (aM (f 185)) ((aD ((e:Nat):Int) ((nn:Nat):Int) [(115:UInt8)])++(aD ((e:Nat):Int) ((nn:Nat):Int) [(114:UInt8)])).length (aN (f 185)),.slice none 0 0,.int .i64 (-1)] 32)⟩] [(14,Nx (e)),(16,Nx (nn)),(162,.slice (some ⟨b147,0,none⟩) 3 3),(163,.int .i64 (3)),(164,Nx (ka)),(168,.slice (some ⟨b151,0,none⟩) 4 4),(169,.int .i64 (4)),(170,Nx (kc))] [0,1,2,3,4,5,6,7] [] (by kernel_rfl) (by kernel_rfl) (by kernel_rfl) (by kernel_rfl) rfl ⟨rfl,rfl,rfl,rfl,rfl,rfl,rfl,rfl,trivial⟩ ⟨?_,?_,?_,?_,?_,?_,?_,?_,?_,?_,?_,?_,?_,?_,?_,trivial⟩ ?_
       ·rintro f M- -
        refine bC (L':=M) (by rfl) rfl ?_
        refine cF rfl rfl rfl (mU (c:=32) aKu bQ fV iG.ok rfl rfl (by omega) (by omega)) ?_
        rintro _ _ ⟨b156,rfl,rfl⟩
        refine aG ?_
        exact aI rfl rfl (aB 0 rfl)
       ·rintro f M-⟨i0,-⟩
        have hs14:f 14=Nx (e):=i0
        exact bK bG
       ·rintro f M-⟨i0,-⟩
        have hs16:f 16=Nx (nn):=i0
        exact bK bG
       ·rintro f M- -
        refine bC (L':=M) (by rfl) rfl ?_
        refine cF rfl rfl rfl (cO bQ iG.ok (vs:=[(0,.int .u8 (115))]) (cells:= #[.int .u8 (115)]) rfl rfl rfl rfl) ?_
        rintro _ _ ⟨b158,rfl,rfl⟩
        refine aG ?_
        exact aI rfl rfl (aB 0 rfl)
       ·rintro f M ⟨k0,-⟩-
        have hs177:f 177= .slice (some ⟨(bI (f 177)),0,none⟩) 1 1:=k0
        refine bC (L':=pt (bI (f 177)) (.cells #[.int .u8 (115)] 5)::M) (by rfl) (aA rfl hs177) ?_
        refine cF rfl rfl rfl (lU 0 rfl rfl mM.ok tM) ?_
        rintro _ _ ⟨rfl,rfl⟩
        refine aG ?_
        exact aI (aA rfl hs177) rfl (aB 0 rfl)
       ·rintro f M ⟨k0,k1,k2,-⟩-
        have hs175:f 175=Nx (e):=k0
        have hs176:f 176=Nx (nn):=k1
        have hs178:f 178= .slice (some ⟨(bI (f 177)),0,none⟩) 1 1:=k2
        refine bC (L':=pt (bI (f 177)) (.cells #[.int .u8 (115)] 5 (1,1+1))::M) (by rfl) (aA (aA (aA rfl hs175) hs176) hs178) ?_
        refine bP rfl rfl rfl (cS (fst:=[]) (cap:=[]) (vs:=[Nx (e),Nx (nn),.slice (some ⟨(bI (f 177)),0,none⟩) 1 1]) (all:=[Nx (e),Nx (nn),.slice (some ⟨(bI (f 177)),0,none⟩) 1 1]) oE.ok rfl rfl rfl) ?_
        intro w hw
        obtain⟨β1,sb,kn,hw1,back⟩:=St.frame_all hw
        refine(gZ β1 w hw1 ((e:Nat):Int) ((nn:Nat):Int) [(115:UInt8)] _ (by first|omega|(simp only[List.length_append,List.length_nil,List.length_cons,List.length_take,List.length_replicate,List.length_set,aH,bL];omega)) (⟨⟨_,_,rfl,by simp,by simp,kn _ (fO 0 (xs:=[(115:UInt8)]) rfl)⟩⟩:Sl bE _ _ _)).mono ?_
        rintro e w' ⟨p162,c163,rfl,hw'⟩
        refine⟨_,rfl,_,back _ _ hw',?_⟩
        refine aG ?_
        exact aI (aA (aA (aA rfl hs175) hs176) hs178) rfl ((aB 0 rfl).trans (aB 1 rfl))
       ·rintro f M-⟨i0,-⟩
        have hs14:f 14=Nx (e):=i0
        exact bK bG
       ·rintro f M-⟨i0,-⟩
        have hs16:f 16=Nx (nn):=i0
        exact bK bG
       ·rintro f M- -
        refine bC (L':=M) (by rfl) rfl ?_
        refine cF rfl rfl rfl (cO bQ iG.ok (vs:=[(0,.int .u8 (114))]) (cells:= #[.int .u8 (114)]) rfl rfl rfl rfl) ?_
        rintro _ _ ⟨b166,rfl,rfl⟩
        refine aG ?_
        exact aI rfl rfl (aB 0 rfl)
       ·rintro f M ⟨k0,-⟩-
        have hs182:f 182= .slice (some ⟨(bI (f 182)),0,none⟩) 1 1:=k0
        refine bC (L':=pt (bI (f 182)) (.cells #[.int .u8 (114)] 5)::M) (by rfl) (aA rfl hs182) ?_
        refine cF rfl rfl rfl (lU 0 rfl rfl mM.ok tM) ?_
        rintro _ _ ⟨rfl,rfl⟩
        refine aG ?_
        exact aI (aA rfl hs182) rfl (aB 0 rfl)
       ·rintro f M ⟨k0,k1,k2,-⟩-
        have hs180:f 180=Nx (e):=k0
        have hs181:f 181=Nx (nn):=k1
        have hs183:f 183= .slice (some ⟨(bI (f 182)),0,none⟩) 1 1:=k2
        refine bC (L':=pt (bI (f 182)) (.cells #[.int .u8 (114)] 5 (1,1+1))::M) (by rfl) (aA (aA (aA rfl hs180) hs181) hs183) ?_
        refine bP rfl rfl rfl (cS (fst:=[]) (cap:=[]) (vs:=[Nx (e),Nx (nn),.slice (some ⟨(bI (f 182)),0,none⟩) 1 1]) (all:=[Nx (e),Nx (nn),.slice (some ⟨(bI (f 182)),0,none⟩) 1 1]) oE.ok rfl rfl rfl) ?_
        intro w hw
        obtain⟨β1,sb,kn,hw1,back⟩:=St.frame_all hw
        refine(gZ β1 w hw1 ((e:Nat):Int) ((nn:Nat):Int) [(114:UInt8)] _ (by first|omega|(simp only[List.length_append,List.length_nil,List.length_cons,List.length_take,List.length_replicate,List.length_set,aH,bL];omega)) (⟨⟨_,_,rfl,by simp,by simp,kn _ (fO 0 (xs:=[(114:UInt8)]) rfl)⟩⟩:Sl bE _ _ _)).mono ?_
        rintro e w' ⟨p170,c171,rfl,hw'⟩
        refine⟨_,rfl,_,back _ _ hw',?_⟩
        refine aG ?_
        exact aI (aA (aA (aA rfl hs180) hs181) hs183) rfl ((aB 0 rfl).trans (aB 1 rfl))
       ·rintro f M ⟨k0,k1,-⟩-
        have hs179:f 179= .slice (aM (f 179)) (aD ((e:Nat):Int) ((nn:Nat):Int) [(115:UInt8)]).length (aN (f 179)):=k0
        have hs184:f 184= .slice (aM (f 184)) (aD ((e:Nat):Int) ((nn:Nat):Int) [(114:UInt8)]).length (aN (f 184)):=k1
        refine bC (L':=row (.slice (aM (f 179)) (aD ((e:Nat):Int) ((nn:Nat):Int) [(115:UInt8)]).length (aN (f 179))) 5 1 ((aD ((e:Nat):Int) ((nn:Nat):Int) [(115:UInt8)]).length) (BX (aD ((e:Nat):Int) ((nn:Nat):Int) [(115:UInt8)]))::row (.slice (aM (f 184)) (aD ((e:Nat):Int) ((nn:Nat):Int) [(114:UInt8)]).length (aN (f 184))) 5 1 ((aD ((e:Nat):Int) ((nn:Nat):Int) [(114:UInt8)]).length) (BX (aD ((e:Nat):Int) ((nn:Nat):Int) [(114:UInt8)]))::M) (by rfl) (aA (aA rfl hs179) hs184) ?_
        refine cF rfl rfl rfl (cG (enc:=fun c:UInt8=>Bx c) 0 dJ bQ fV (v:= .slice (aM (f 179)) (aD ((e:Nat):Int) ((nn:Nat):Int) [(115:UInt8)]).length (aN (f 179))) (xs:=aD ((e:Nat):Int) ((nn:Nat):Int) [(115:UInt8)]) (ys:=aD ((e:Nat):Int) ((nn:Nat):Int) [(114:UInt8)]) (ao:=(aM (f 184))) (c:=(aN (f 184))) rfl rfl (by first|rfl|simp) rfl (by first|rfl|simp) (iF 1 rfl) (by first|omega|(simp only[List.length_append,List.length_nil,List.length_cons,aL]at*;omega)) (by first|omega|(simp only[List.length_append,List.length_nil,List.length_cons,aL]at*;omega))) ?_
        rintro _ _ ⟨rp175,rc176,rfl,rfl⟩
        refine aG ?_
        exact aI (aA (aA rfl hs179) hs184) rfl ((aB 0 rfl).trans (aB 1 rfl))
       ·rintro f M ⟨k0,k1,-⟩-
        have hs174:f 174= .slice (some ⟨(bI (f 174)),0,none⟩) (dT).length 32:=k0
        have hs185:f 185= .slice (aM (f 185)) ((aD ((e:Nat):Int) ((nn:Nat):Int) [(115:UInt8)])++(aD ((e:Nat):Int) ((nn:Nat):Int) [(114:UInt8)])).length (aN (f 185)):=k1
        refine bC (L':=M) (by rfl) (aA (aA rfl hs174) hs185) ?_
        refine cW (v:= .agg #[.slice (some ⟨(bI (f 174)),0,none⟩) (dT).length 32,.slice (aM (f 185)) ((aD ((e:Nat):Int) ((nn:Nat):Int) [(115:UInt8)])++(aD ((e:Nat):Int) ((nn:Nat):Int) [(114:UInt8)])).length (aN (f 185)),.slice none 0 0,.int .i64 (-1)]) rfl rfl rfl (dW lN.ok mL (vs:=[(3,.int .i64 (-1)),(0,.slice (some ⟨(bI (f 174)),0,none⟩) (dT).length 32),(1,.slice (aM (f 185)) ((aD ((e:Nat):Int) ((nn:Nat):Int) [(115:UInt8)])++(aD ((e:Nat):Int) ((nn:Nat):Int) [(114:UInt8)])).length (aN (f 185)))]) (cells:= #[.slice (some ⟨(bI (f 174)),0,none⟩) (dT).length 32,.slice (aM (f 185)) ((aD ((e:Nat):Int) ((nn:Nat):Int) [(115:UInt8)])++(aD ((e:Nat):Int) ((nn:Nat):Int) [(114:UInt8)])).length (aN (f 185)),.slice none 0 0,.int .i64 (-1)]) rfl rfl) ?_
        refine aG ?_
        exact aI (aA (aA rfl hs174) hs185) rfl (List.Perm.refl _)
       ·rintro f M- -
        refine bC (L':=M) (by rfl) rfl ?_
        refine fZ fun b178=> ?_
        refine aG ?_
        exact aI rfl rfl (aB 0 rfl)
       ·rintro f M ⟨k0,k1,-⟩-
        have hs17:f 17= .pointer (some ⟨(bI (f 17)),0,none⟩):=k0
        have hs186:f 186= .agg #[.slice (some ⟨(bI (f 174)),0,none⟩) (dT).length 32,.slice (aM (f 185)) ((aD ((e:Nat):Int) ((nn:Nat):Int) [(115:UInt8)])++(aD ((e:Nat):Int) ((nn:Nat):Int) [(114:UInt8)])).length (aN (f 185)),.slice none 0 0,.int .i64 (-1)]:=k1
        refine bC (L':=pt (bI (f 17)) (.cells #[.slice none 0 0,.slice none 0 0,.slice none 0 0,.int .i64 (0)] 32)::M) (by rfl) (aA (aA rfl hs17) hs186) ?_
        refine kD rfl rfl (bS 0 fX.ok (b:=(bI (f 17))) (o:=0) (T:=32) (cs:= #[.slice none 0 0,.slice none 0 0,.slice none 0 0,.int .i64 (0)]) (cs':= #[.slice (some ⟨(bI (f 174)),0,none⟩) (dT).length 32,.slice (aM (f 185)) ((aD ((e:Nat):Int) ((nn:Nat):Int) [(115:UInt8)])++(aD ((e:Nat):Int) ((nn:Nat):Int) [(114:UInt8)])).length (aN (f 185)),.slice none 0 0,.int .i64 (-1)]) (v:= .agg #[.slice (some ⟨(bI (f 174)),0,none⟩) (dT).length 32,.slice (aM (f 185)) ((aD ((e:Nat):Int) ((nn:Nat):Int) [(115:UInt8)])++(aD ((e:Nat):Int) ((nn:Nat):Int) [(114:UInt8)])).length (aN (f 185)),.slice none 0 0,.int .i64 (-1)]) rfl rfl rfl rfl rfl rfl rfl) ?_
        refine aG ?_
        exact cT (aA (aA rfl hs17) hs186) trivial (aB 0 rfl)
       rintro fa179 ⟨-,-,-,-,-,-,-,-,-,-,-,-,-,k13,-,-⟩ ⟨j0,j1,j2,j3,j4,j5,j6,j7,-⟩
       refine qD (L':=[row (.slice (some ⟨b151,0,none⟩) 4 4) 3 1 (4) (([5,4611686018427387902,4611686018427387903,4611686018427387904]:List Int).map (fun x:Int=>Ix x)),row (.slice (some ⟨b147,0,none⟩) 3 3) 3 1 (3) (([1,4611686018427387902,4611686018427387903]:List Int).map (fun x:Int=>Ix x)),row (.slice (some ⟨b117,0,none⟩) 7 7) 3 1 (7) (([0,1,2,4611686018427387903,4611686018427387904,9223372036854775807,-9223372036854775808]:List Int).map (fun x:Int=>Ix x)),row (.slice (some ⟨(bI (fa179 174)),0,none⟩) (dT).length 32) 5 1 ((dT).length) (BX dT),pt (bI (fa179 177)) (.cells #[.int .u8 (115)] 5 (1,1+1)),pt (bI (fa179 182)) (.cells #[.int .u8 (114)] 5 (1,1+1)),row (.slice (aM (fa179 184)) (aD ((e:Nat):Int) ((nn:Nat):Int) [(114:UInt8)]).length (aN (fa179 184))) 5 1 ((aD ((e:Nat):Int) ((nn:Nat):Int) [(114:UInt8)]).length) (BX (aD ((e:Nat):Int) ((nn:Nat):Int) [(114:UInt8)])),row (.slice (aM (fa179 185)) ((aD ((e:Nat):Int) ((nn:Nat):Int) [(115:UInt8)])++(aD ((e:Nat):Int) ((nn:Nat):Int) [(114:UInt8)])).length (aN (fa179 185))) 5 1 (((aD ((e:Nat):Int) ((nn:Nat):Int) [(115:UInt8)])++(aD ((e:Nat):Int) ((nn:Nat):Int) [(114:UInt8)])).length) (BX ((aD ((e:Nat):Int) ((nn:Nat):Int) [(115:UInt8)])++(aD ((e:Nat):Int) ((nn:Nat):Int) [(114:UInt8)]))),pt (bI (fa179 17)) (.cells #[.slice (some ⟨(bI (fa179 174)),0,none⟩) (dT).length 32,.slice (aM (fa179 185)) ((aD ((e:Nat):Int) ((nn:Nat):Int) [(115:UInt8)])++(aD ((e:Nat):Int) ((nn:Nat):Int) [(114:UInt8)])).length (aN (fa179 185)),.slice none 0 0,.int .i64 (-1)] 32)]) (by rfl) ?_
       refine aJ (d:=14) (v:=Nx (e)) j0 ?_
       refine aJ (d:=16) (v:=Nx (nn)) j1 ?_
       refine aJ (d:=17) (v:= .pointer (some ⟨(bI (fa179 17)),0,none⟩)) k13 ?_
       refine aJ (d:=162) (v:= .slice (some ⟨b147,0,none⟩) 3 3) j2 ?_
       refine aJ (d:=163) (v:= .int .i64 (3)) j3 ?_
       refine aJ (d:=164) (v:=Nx (ka)) j4 ?_
       refine aJ (d:=168) (v:= .slice (some ⟨b151,0,none⟩) 4 4) j5 ?_
       refine aJ (d:=169) (v:= .int .i64 (4)) j6 ?_
       refine aJ (d:=170) (v:=Nx (kc)) j7 ?_
       refine aQ ?_
       refine aO ?_
       have hk49:e%2*16+(cL ((e:Nat):Int)).length≤dT.length:=by rw[bL,lP];omega
       have hcx182:=bL ((e:Nat):Int)
       have hcx185:=bL ((e:Nat):Int)
       refine mZ [⟨[],[],[0],[187],fun f=>f 187= .pointer (some ⟨(bI (fa179 17)),0,none⟩)⟩,⟨[0],[0],[],[188],fun f=>f 188= .slice (some ⟨(bI (fa179 174)),0,none⟩) (dT).length 32⟩,⟨[],[],[1],[189],fun f=>f 189=Nx (e)⟩,⟨[2],[2],[],[190],fun f=>f 190=Nx (e%2)⟩,⟨[2,3],[3],[],[191],fun f=>f 191=Nx ((e%2)*16)⟩,⟨[0,1,2,3,4],[1,4],[],[192],fun f=>f 192= .slice (gL (some ⟨(bI (fa179 174)),0,none⟩) 32 ((e%2)*16) 1) (((dT).length)-((e%2)*16)) (32-((e%2)*16))⟩,⟨[],[],[1],[193],fun f=>f 193=Nx (e)⟩,⟨[6],[6],[],[194],fun f=>f 194= .slice (aM (f 194)) (cL ((e:Nat):Int)).length (aN (f 194))⟩,⟨[0,1,2,3,4,5,6,7],[5,7],[],[195],fun f=>f 195=Nx ((cL ((e:Nat):Int)).length)⟩] [⟨none,none,[],[],fun _=>row (.slice (some ⟨b151,0,none⟩) 4 4) 3 1 (4) (([5,4611686018427387902,4611686018427387903,4611686018427387904]:List Int).map (fun x:Int=>Ix x))⟩,⟨none,none,[],[],fun _=>row (.slice (some ⟨b147,0,none⟩) 3 3) 3 1 (3) (([1,4611686018427387902,4611686018427387903]:List Int).map (fun x:Int=>Ix x))⟩,⟨none,none,[],[],fun _=>row (.slice (some ⟨b117,0,none⟩) 7 7) 3 1 (7) (([0,1,2,4611686018427387903,4611686018427387904,9223372036854775807,-9223372036854775808]:List Int).map (fun x:Int=>Ix x))⟩,⟨none,(some 8),[8],[],fun _=>row (.slice (some ⟨(bI (fa179 174)),0,none⟩) (dT).length 32) 5 1 ((dT).length) (BX dT)⟩,⟨none,none,[],[],fun _=>pt (bI (fa179 177)) (.cells #[.int .u8 (115)] 5 (1,1+1))⟩,⟨none,none,[],[],fun _=>pt (bI (fa179 182)) (.cells #[.int .u8 (114)] 5 (1,1+1))⟩,⟨none,none,[],[],fun _=>row (.slice (aM (fa179 184)) (aD ((e:Nat):Int) ((nn:Nat):Int) [(114:UInt8)]).length (aN (fa179 184))) 5 1 ((aD ((e:Nat):Int) ((nn:Nat):Int) [(114:UInt8)]).length) (BX (aD ((e:Nat):Int) ((nn:Nat):Int) [(114:UInt8)]))⟩,⟨none,none,[],[],fun _=>row (.slice (aM (fa179 185)) ((aD ((e:Nat):Int) ((nn:Nat):Int) [(115:UInt8)])++(aD ((e:Nat):Int) ((nn:Nat):Int) [(114:UInt8)])).length (aN (fa179 185))) 5 1 (((aD ((e:Nat):Int) ((nn:Nat):Int) [(115:UInt8)])++(aD ((e:Nat):Int) ((nn:Nat):Int) [(114:UInt8)])).length) (BX ((aD ((e:Nat):Int) ((nn:Nat):Int) [(115:UInt8)])++(aD ((e:Nat):Int) ((nn:Nat):Int) [(114:UInt8)])))⟩,⟨none,(some 8),[1,8],[],fun _=>pt (bI (fa179 17)) (.cells #[.slice (some ⟨(bI (fa179 174)),0,none⟩) (dT).length 32,.slice (aM (fa179 185)) ((aD ((e:Nat):Int) ((nn:Nat):Int) [(115:UInt8)])++(aD ((e:Nat):Int) ((nn:Nat):Int) [(114:UInt8)])).length (aN (fa179 185)),.slice none 0 0,.int .i64 (-1)] 32)⟩,⟨(some 7),none,[8],[194],fun f=>row (.slice (aM (f 194)) (cL ((e:Nat):Int)).length (aN (f 194))) 5 1 ((cL ((e:Nat):Int)).length) (BX (cL ((e:Nat):Int)))⟩,⟨(some 8),none,[],[],fun _=>row (.slice (some ⟨(bI (fa179 174)),0,none⟩) ((eM dT ((e%2)*16) (cL ((e:Nat):Int)))).length 32) 5 1 (((eM dT ((e%2)*16) (cL ((e:Nat):Int)))).length) (BX (eM dT ((e%2)*16) (cL ((e:Nat):Int))))⟩,⟨(some 8),none,[],[],fun _=>pt (bI (fa179 17)) (.cells #[.slice (some ⟨(bI (fa179 174)),0,none⟩) ((eM dT ((e%2)*16) (cL ((e:Nat):Int)))).length 32,.slice (aM (fa179 185)) ((aD ((e:Nat):Int) ((nn:Nat):Int) [(115:UInt8)])++(aD ((e:Nat):Int) ((nn:Nat):Int) [(114:UInt8)])).length (aN (fa179 185)),.slice none 0 0,.int .i64 (-1)] 32)⟩] [(17,.pointer (some ⟨(bI (fa179 17)),0,none⟩)),(14,Nx (e)),(16,Nx (nn)),(162,.slice (some ⟨b147,0,none⟩) 3 3),(163,.int .i64 (3)),(164,Nx (ka)),(168,.slice (some ⟨b151,0,none⟩) 4 4),(169,.int .i64 (4)),(170,Nx (kc))] [1,2,0,3,4,5,6,7,8] [] (by kernel_rfl) (by kernel_rfl) (by kernel_rfl) (by kernel_rfl) rfl ⟨rfl,rfl,rfl,rfl,rfl,rfl,rfl,rfl,rfl,trivial⟩ ⟨?_,?_,?_,?_,?_,?_,?_,?_,?_,trivial⟩ ?_
       ·rintro f M-⟨i0,-⟩
        have hs17:f 17= .pointer (some ⟨(bI (fa179 17)),0,none⟩):=i0
        exact bK bM
       ·rintro f M ⟨k0,-⟩-
        have hs187:f 187= .pointer (some ⟨(bI (fa179 17)),0,none⟩):=k0
        exact bK (fA 0)
       ·rintro f M-⟨i0,-⟩
        have hs14:f 14=Nx (e):=i0
        exact bK bG
       ·rintro f M ⟨k0,-⟩-
        have hs189:f 189=Nx (e):=k0
        refine bC (L':=M) (by rfl) (aA rfl hs189) ?_
        refine cW (v:=Nx (e%2)) rfl rfl rfl (gJ (a:=((e:Nat):Int)) (b:=(2:Int)) rfl rfl (by decide) (eC _ 2)) ?_
        refine aG ?_
        exact aI (aA rfl hs189) rfl (List.Perm.refl _)
       ·rintro f M ⟨k0,-⟩-
        have hs190:f 190=Nx (e%2):=k0
        refine bC (L':=M) (by rfl) (aA rfl hs190) ?_
        refine cW (v:=Nx ((e%2)*16)) rfl rfl rfl (iC (a:=((e%2:Nat):Int)) (b:=(16:Int)) rfl rfl (bU (by omega) (by omega))) ?_
        refine aG ?_
        exact aI (aA rfl hs190) rfl (List.Perm.refl _)
       ·rintro f M ⟨k0,k1,-⟩-
        have hs188:f 188= .slice (some ⟨(bI (fa179 174)),0,none⟩) (dT).length 32:=k0
        have hs191:f 191=Nx ((e%2)*16):=k1
        refine bC (L':=M) (by rfl) (aA (aA rfl hs188) hs191) ?_
        refine cW (v:= .slice (gL (some ⟨(bI (fa179 174)),0,none⟩) 32 ((e%2)*16) 1) (((dT).length)-((e%2)*16)) (32-((e%2)*16))) rfl rfl rfl (jQ (a:=(some ⟨(bI (fa179 174)),0,none⟩)) (len:=(dT).length) (cap:=32) (l:=(e%2)*16) bQ rfl rfl (by omega)) ?_
        refine aG ?_
        exact aI (aA (aA rfl hs188) hs191) rfl (List.Perm.refl _)
       ·rintro f M-⟨i0,-⟩
        have hs14:f 14=Nx (e):=i0
        exact bK bG
       ·rintro f M ⟨k0,-⟩-
        have hs193:f 193=Nx (e):=k0
        refine bC (L':=M) (by rfl) (aA rfl hs193) ?_
        refine bP rfl rfl rfl (cS (fst:=[]) (cap:=[]) (vs:=[Nx (e)]) (all:=[Nx (e)]) sO.ok rfl rfl rfl) ?_
        intro w hw
        obtain⟨β1,sb,kn,hw1,back⟩:=St.frame_all hw
        refine(mF β1 w hw1 ((e:Nat):Int)).mono ?_
        rintro e w' ⟨p183,c184,rfl,hw'⟩
        refine⟨_,rfl,_,back _ _ hw',?_⟩
        refine aG ?_
        exact aI (aA rfl hs193) rfl (aB 0 rfl)
       ·rintro f M ⟨k0,k1,-⟩-
        have hs192:f 192= .slice (gL (some ⟨(bI (fa179 174)),0,none⟩) 32 ((e%2)*16) 1) (((dT).length)-((e%2)*16)) (32-((e%2)*16)):=k0
        have hs194:f 194= .slice (aM (f 194)) (cL ((e:Nat):Int)).length (aN (f 194)):=k1
        refine bC (L':=row (.slice (some ⟨(bI (fa179 174)),0,none⟩) (dT).length 32) 5 1 ((dT).length) (BX dT)::pt (bI (fa179 17)) (.cells #[.slice (some ⟨(bI (fa179 174)),0,none⟩) (dT).length 32,.slice (aM (fa179 185)) ((aD ((e:Nat):Int) ((nn:Nat):Int) [(115:UInt8)])++(aD ((e:Nat):Int) ((nn:Nat):Int) [(114:UInt8)])).length (aN (fa179 185)),.slice none 0 0,.int .i64 (-1)] 32)::row (.slice (aM (f 194)) (cL ((e:Nat):Int)).length (aN (f 194))) 5 1 ((cL ((e:Nat):Int)).length) (BX (cL ((e:Nat):Int)))::M) (by rfl) (aA (aA rfl hs192) hs194) ?_
        refine cF rfl rfl rfl (aBa (xs:=dT) (ys:=cL ((e:Nat):Int)) (k:=(e%2)*16) (c:=32) (p:=(some ⟨(bI (fa179 174)),0,none⟩)) 0 bQ rfl rfl hk49 (by rw[lP];decide) (by rw[bL];decide) rfl (iF 2 rfl)) ?_
        rintro _ _ ⟨rfl,rfl⟩
        refine pR (L':=(row (.slice (some ⟨(bI (fa179 174)),0,none⟩) ((eM dT ((e%2)*16) (cL ((e:Nat):Int)))).length 32) 5 1 (((eM dT ((e%2)*16) (cL ((e:Nat):Int)))).length) (BX (eM dT ((e%2)*16) (cL ((e:Nat):Int))))::pt (bI (fa179 17)) (.cells #[.slice (some ⟨(bI (fa179 174)),0,none⟩) ((eM dT ((e%2)*16) (cL ((e:Nat):Int)))).length 32,.slice (aM (fa179 185)) ((aD ((e:Nat):Int) ((nn:Nat):Int) [(115:UInt8)])++(aD ((e:Nat):Int) ((nn:Nat):Int) [(114:UInt8)])).length (aN (fa179 185)),.slice none 0 0,.int .i64 (-1)] 32)::row (.slice (aM (f 194)) (cL ((e:Nat):Int)).length (aN (f 194))) 5 1 ((cL ((e:Nat):Int)).length) (BX (cL ((e:Nat):Int)))::M)) (by show(row (.slice (some ⟨(bI (fa179 174)),0,none⟩) ((eM dT ((e%2)*16) (cL ((e:Nat):Int)))).length 32) 5 1 (((eM dT ((e%2)*16) (cL ((e:Nat):Int)))).length) (BX (eM dT ((e%2)*16) (cL ((e:Nat):Int))))::pt (bI (fa179 17)) (.cells #[.slice (some ⟨(bI (fa179 174)),0,none⟩) (dT).length 32,.slice (aM (fa179 185)) ((aD ((e:Nat):Int) ((nn:Nat):Int) [(115:UInt8)])++(aD ((e:Nat):Int) ((nn:Nat):Int) [(114:UInt8)])).length (aN (fa179 185)),.slice none 0 0,.int .i64 (-1)] 32)::row (.slice (aM (f 194)) (cL ((e:Nat):Int)).length (aN (f 194))) 5 1 ((cL ((e:Nat):Int)).length) (BX (cL ((e:Nat):Int)))::M)=_;rw[mR hk49]) ?_
        refine aG ?_
        exact aI (aA (aA rfl hs192) hs194) rfl (((aB 1 rfl).trans (aB 1 rfl)).trans (aB 2 rfl))
       rintro fa186 ⟨-,-,-,-,-,-,-,-,-,-⟩ ⟨j0,j1,j2,j3,j4,j5,j6,j7,j8,-⟩
       refine qD (L':=[row (.slice (some ⟨b151,0,none⟩) 4 4) 3 1 (4) (([5,4611686018427387902,4611686018427387903,4611686018427387904]:List Int).map (fun x:Int=>Ix x)),row (.slice (some ⟨b147,0,none⟩) 3 3) 3 1 (3) (([1,4611686018427387902,4611686018427387903]:List Int).map (fun x:Int=>Ix x)),row (.slice (some ⟨b117,0,none⟩) 7 7) 3 1 (7) (([0,1,2,4611686018427387903,4611686018427387904,9223372036854775807,-9223372036854775808]:List Int).map (fun x:Int=>Ix x)),pt (bI (fa179 177)) (.cells #[.int .u8 (115)] 5 (1,1+1)),pt (bI (fa179 182)) (.cells #[.int .u8 (114)] 5 (1,1+1)),row (.slice (aM (fa179 184)) (aD ((e:Nat):Int) ((nn:Nat):Int) [(114:UInt8)]).length (aN (fa179 184))) 5 1 ((aD ((e:Nat):Int) ((nn:Nat):Int) [(114:UInt8)]).length) (BX (aD ((e:Nat):Int) ((nn:Nat):Int) [(114:UInt8)])),row (.slice (aM (fa179 185)) ((aD ((e:Nat):Int) ((nn:Nat):Int) [(115:UInt8)])++(aD ((e:Nat):Int) ((nn:Nat):Int) [(114:UInt8)])).length (aN (fa179 185))) 5 1 (((aD ((e:Nat):Int) ((nn:Nat):Int) [(115:UInt8)])++(aD ((e:Nat):Int) ((nn:Nat):Int) [(114:UInt8)])).length) (BX ((aD ((e:Nat):Int) ((nn:Nat):Int) [(115:UInt8)])++(aD ((e:Nat):Int) ((nn:Nat):Int) [(114:UInt8)]))),row (.slice (aM (fa186 194)) (cL ((e:Nat):Int)).length (aN (fa186 194))) 5 1 ((cL ((e:Nat):Int)).length) (BX (cL ((e:Nat):Int))),row (.slice (some ⟨(bI (fa179 174)),0,none⟩) ((eM dT ((e%2)*16) (cL ((e:Nat):Int)))).length 32) 5 1 (((eM dT ((e%2)*16) (cL ((e:Nat):Int)))).length) (BX (eM dT ((e%2)*16) (cL ((e:Nat):Int)))),pt (bI (fa179 17)) (.cells #[.slice (some ⟨(bI (fa179 174)),0,none⟩) ((eM dT ((e%2)*16) (cL ((e:Nat):Int)))).length 32,.slice (aM (fa179 185)) ((aD ((e:Nat):Int) ((nn:Nat):Int) [(115:UInt8)])++(aD ((e:Nat):Int) ((nn:Nat):Int) [(114:UInt8)])).length (aN (fa179 185)),.slice none 0 0,.int .i64 (-1)] 32)]) (by rfl) ?_
       refine aJ (d:=14) (v:=Nx (e)) j0 ?_
       refine aJ (d:=16) (v:=Nx (nn)) j1 ?_
       refine aJ (d:=17) (v:= .pointer (some ⟨(bI (fa179 17)),0,none⟩)) j2 ?_
       refine aJ (d:=162) (v:= .slice (some ⟨b147,0,none⟩) 3 3) j3 ?_
       refine aJ (d:=163) (v:= .int .i64 (3)) j4 ?_
       refine aJ (d:=164) (v:=Nx (ka)) j5 ?_
       refine aJ (d:=168) (v:= .slice (some ⟨b151,0,none⟩) 4 4) j6 ?_
       refine aJ (d:=169) (v:= .int .i64 (4)) j7 ?_
       refine aJ (d:=170) (v:=Nx (kc)) j8 ?_
       refine aQ ?_
       refine aO ?_
       have hfo191:=aH ((e:Nat):Int) ((nn+1:Nat):Int) [(116:UInt8)]
       have hfo194:=aH ((e:Nat):Int) ((nn+1:Nat):Int) [(116:UInt8)]
       refine mZ [⟨[],[],[0],[196],fun f=>f 196= .pointer (some ⟨(bI (fa179 17)),1,none⟩)⟩,⟨[0],[0],[],[197],fun f=>f 197= .slice (aM (fa179 185)) ((aD ((e:Nat):Int) ((nn:Nat):Int) [(115:UInt8)])++(aD ((e:Nat):Int) ((nn:Nat):Int) [(114:UInt8)])).length (aN (fa179 185))⟩,⟨[],[],[1],[198],fun f=>f 198=Nx (e)⟩,⟨[],[],[2],[199],fun f=>f 199=Nx (nn)⟩,⟨[3],[3],[],[200],fun f=>f 200=Nx (nn+1)⟩,⟨[],[],[],[201],fun f=>f 201= .slice (some ⟨(bI (f 201)),0,none⟩) 1 1⟩,⟨[5],[5],[],[201,202],fun f=>f 202= .slice (some ⟨(bI (f 201)),0,none⟩) 1 1⟩,⟨[2,3,4,5,6],[2,4,6],[],[203],fun f=>f 203= .slice (aM (f 203)) (aD ((e:Nat):Int) ((nn+1:Nat):Int) [(116:UInt8)]).length (aN (f 203))⟩,⟨[0,1,2,3,4,5,6,7],[1,7],[],[204],fun f=>f 204= .slice (aM (f 204)) (((aD ((e:Nat):Int) ((nn:Nat):Int) [(115:UInt8)])++(aD ((e:Nat):Int) ((nn:Nat):Int) [(114:UInt8)]))++(aD ((e:Nat):Int) ((nn+1:Nat):Int) [(116:UInt8)])).length (aN (f 204))⟩,⟨[0,1,2,3,4,5,6,7,8],[],[0],[205],fun f=>f 205= .pointer (some ⟨(bI (fa179 17)),1,none⟩)⟩,⟨[0,1,2,3,4,5,6,7,8,9],[9,8],[],[],fun _=>True⟩] [⟨none,none,[],[],fun _=>row (.slice (some ⟨b151,0,none⟩) 4 4) 3 1 (4) (([5,4611686018427387902,4611686018427387903,4611686018427387904]:List Int).map (fun x:Int=>Ix x))⟩,⟨none,none,[],[],fun _=>row (.slice (some ⟨b147,0,none⟩) 3 3) 3 1 (3) (([1,4611686018427387902,4611686018427387903]:List Int).map (fun x:Int=>Ix x))⟩,⟨none,none,[],[],fun _=>row (.slice (some ⟨b117,0,none⟩) 7 7) 3 1 (7) (([0,1,2,4611686018427387903,4611686018427387904,9223372036854775807,-9223372036854775808]:List Int).map (fun x:Int=>Ix x))⟩,⟨none,none,[],[],fun _=>pt (bI (fa179 177)) (.cells #[.int .u8 (115)] 5 (1,1+1))⟩,⟨none,none,[],[],fun _=>pt (bI (fa179 182)) (.cells #[.int .u8 (114)] 5 (1,1+1))⟩,⟨none,none,[],[],fun _=>row (.slice (aM (fa179 184)) (aD ((e:Nat):Int) ((nn:Nat):Int) [(114:UInt8)]).length (aN (fa179 184))) 5 1 ((aD ((e:Nat):Int) ((nn:Nat):Int) [(114:UInt8)]).length) (BX (aD ((e:Nat):Int) ((nn:Nat):Int) [(114:UInt8)]))⟩,⟨none,(some 8),[8],[],fun _=>row (.slice (aM (fa179 185)) ((aD ((e:Nat):Int) ((nn:Nat):Int) [(115:UInt8)])++(aD ((e:Nat):Int) ((nn:Nat):Int) [(114:UInt8)])).length (aN (fa179 185))) 5 1 (((aD ((e:Nat):Int) ((nn:Nat):Int) [(115:UInt8)])++(aD ((e:Nat):Int) ((nn:Nat):Int) [(114:UInt8)])).length) (BX ((aD ((e:Nat):Int) ((nn:Nat):Int) [(115:UInt8)])++(aD ((e:Nat):Int) ((nn:Nat):Int) [(114:UInt8)])))⟩,⟨none,none,[],[],fun _=>row (.slice (aM (fa186 194)) (cL ((e:Nat):Int)).length (aN (fa186 194))) 5 1 ((cL ((e:Nat):Int)).length) (BX (cL ((e:Nat):Int)))⟩,⟨none,none,[],[],fun _=>row (.slice (some ⟨(bI (fa179 174)),0,none⟩) ((eM dT ((e%2)*16) (cL ((e:Nat):Int)))).length 32) 5 1 (((eM dT ((e%2)*16) (cL ((e:Nat):Int)))).length) (BX (eM dT ((e%2)*16) (cL ((e:Nat):Int))))⟩,⟨none,(some 10),[1,10],[],fun _=>pt (bI (fa179 17)) (.cells #[.slice (some ⟨(bI (fa179 174)),0,none⟩) ((eM dT ((e%2)*16) (cL ((e:Nat):Int)))).length 32,.slice (aM (fa179 185)) ((aD ((e:Nat):Int) ((nn:Nat):Int) [(115:UInt8)])++(aD ((e:Nat):Int) ((nn:Nat):Int) [(114:UInt8)])).length (aN (fa179 185)),.slice none 0 0,.int .i64 (-1)] 32)⟩,⟨(some 5),(some 6),[6],[201],fun f=>pt (bI (f 201)) (.cells #[.int .u8 (116)] 5)⟩,⟨(some 6),none,[7],[201],fun f=>pt (bI (f 201)) (.cells #[.int .u8 (116)] 5 (1,1+1))⟩,⟨(some 7),none,[8],[203],fun f=>row (.slice (aM (f 203)) (aD ((e:Nat):Int) ((nn+1:Nat):Int) [(116:UInt8)]).length (aN (f 203))) 5 1 ((aD ((e:Nat):Int) ((nn+1:Nat):Int) [(116:UInt8)]).length) (BX (aD ((e:Nat):Int) ((nn+1:Nat):Int) [(116:UInt8)]))⟩,⟨(some 8),none,[],[204],fun f=>row (.slice (aM (f 204)) (((aD ((e:Nat):Int) ((nn:Nat):Int) [(115:UInt8)])++(aD ((e:Nat):Int) ((nn:Nat):Int) [(114:UInt8)]))++(aD ((e:Nat):Int) ((nn+1:Nat):Int) [(116:UInt8)])).length (aN (f 204))) 5 1 ((((aD ((e:Nat):Int) ((nn:Nat):Int) [(115:UInt8)])++(aD ((e:Nat):Int) ((nn:Nat):Int) [(114:UInt8)]))++(aD ((e:Nat):Int) ((nn+1:Nat):Int) [(116:UInt8)])).length) (BX (((aD ((e:Nat):Int) ((nn:Nat):Int) [(115:UInt8)])++(aD ((e:Nat):Int) ((nn:Nat):Int) [(114:UInt8)]))++(aD ((e:Nat):Int) ((nn+1:Nat):Int) [(116:UInt8)])))⟩,⟨(some 10),none,[],[204],fun f=>pt (bI (fa179 17)) (.cells #[.slice (some ⟨(bI (fa179 174)),0,none⟩) ((eM dT ((e%2)*16) (cL ((e:Nat):Int)))).length 32,.slice (aM (f 204)) (((aD ((e:Nat):Int) ((nn:Nat):Int) [(115:UInt8)])++(aD ((e:Nat):Int) ((nn:Nat):Int) [(114:UInt8)]))++(aD ((e:Nat):Int) ((nn+1:Nat):Int) [(116:UInt8)])).length (aN (f 204)),.slice none 0 0,.int .i64 (-1)] 32)⟩] [(17,.pointer (some ⟨(bI (fa179 17)),0,none⟩)),(14,Nx (e)),(16,Nx (nn)),(162,.slice (some ⟨b147,0,none⟩) 3 3),(163,.int .i64 (3)),(164,Nx (ka)),(168,.slice (some ⟨b151,0,none⟩) 4 4),(169,.int .i64 (4)),(170,Nx (kc))] [1,0,3,4,5,6,7,8] [] (by kernel_rfl) (by kernel_rfl) (by kernel_rfl) (by kernel_rfl) rfl ⟨rfl,rfl,rfl,rfl,rfl,rfl,rfl,rfl,rfl,trivial⟩ ⟨?_,?_,?_,?_,?_,?_,?_,?_,?_,?_,?_,trivial⟩ ?_
       ·rintro f M-⟨i0,-⟩
        have hs17:f 17= .pointer (some ⟨(bI (fa179 17)),0,none⟩):=i0
        exact bK bM
       ·rintro f M ⟨k0,-⟩-
        have hs196:f 196= .pointer (some ⟨(bI (fa179 17)),1,none⟩):=k0
        exact bK (fA 0)
       ·rintro f M-⟨i0,-⟩
        have hs14:f 14=Nx (e):=i0
        exact bK bG
       ·rintro f M-⟨i0,-⟩
        have hs16:f 16=Nx (nn):=i0
        exact bK bG
       ·rintro f M ⟨k0,-⟩-
        have hs199:f 199=Nx (nn):=k0
        refine bC (L':=M) (by rfl) (aA rfl hs199) ?_
        refine cW (v:=Nx (nn+1)) rfl rfl rfl (bJ (a:=((nn:Nat):Int)) (b:=(1:Int)) rfl rfl (bU (by omega) (by omega))) ?_
        refine aG ?_
        exact aI (aA rfl hs199) rfl (List.Perm.refl _)
       ·rintro f M- -
        refine bC (L':=M) (by rfl) rfl ?_
        refine cF rfl rfl rfl (cO bQ iG.ok (vs:=[(0,.int .u8 (116))]) (cells:= #[.int .u8 (116)]) rfl rfl rfl rfl) ?_
        rintro _ _ ⟨b188,rfl,rfl⟩
        refine aG ?_
        exact aI rfl rfl (aB 0 rfl)
       ·rintro f M ⟨k0,-⟩-
        have hs201:f 201= .slice (some ⟨(bI (f 201)),0,none⟩) 1 1:=k0
        refine bC (L':=pt (bI (f 201)) (.cells #[.int .u8 (116)] 5)::M) (by rfl) (aA rfl hs201) ?_
        refine cF rfl rfl rfl (lU 0 rfl rfl mM.ok tM) ?_
        rintro _ _ ⟨rfl,rfl⟩
        refine aG ?_
        exact aI (aA rfl hs201) rfl (aB 0 rfl)
       ·rintro f M ⟨k0,k1,k2,-⟩-
        have hs198:f 198=Nx (e):=k0
        have hs200:f 200=Nx (nn+1):=k1
        have hs202:f 202= .slice (some ⟨(bI (f 201)),0,none⟩) 1 1:=k2
        refine bC (L':=pt (bI (f 201)) (.cells #[.int .u8 (116)] 5 (1,1+1))::M) (by rfl) (aA (aA (aA rfl hs198) hs200) hs202) ?_
        refine bP rfl rfl rfl (cS (fst:=[]) (cap:=[]) (vs:=[Nx (e),Nx (nn+1),.slice (some ⟨(bI (f 201)),0,none⟩) 1 1]) (all:=[Nx (e),Nx (nn+1),.slice (some ⟨(bI (f 201)),0,none⟩) 1 1]) oE.ok rfl rfl rfl) ?_
        intro w hw
        obtain⟨β1,sb,kn,hw1,back⟩:=St.frame_all hw
        refine(gZ β1 w hw1 ((e:Nat):Int) ((nn+1:Nat):Int) [(116:UInt8)] _ (by first|omega|(simp only[List.length_append,List.length_nil,List.length_cons,List.length_take,List.length_replicate,List.length_set,aH,bL];omega)) (⟨⟨_,_,rfl,by simp,by simp,kn _ (fO 0 (xs:=[(116:UInt8)]) rfl)⟩⟩:Sl bE _ _ _)).mono ?_
        rintro e w' ⟨p192,c193,rfl,hw'⟩
        refine⟨_,rfl,_,back _ _ hw',?_⟩
        refine aG ?_
        exact aI (aA (aA (aA rfl hs198) hs200) hs202) rfl ((aB 0 rfl).trans (aB 1 rfl))
       ·rintro f M ⟨k0,k1,-⟩-
        have hs197:f 197= .slice (aM (fa179 185)) ((aD ((e:Nat):Int) ((nn:Nat):Int) [(115:UInt8)])++(aD ((e:Nat):Int) ((nn:Nat):Int) [(114:UInt8)])).length (aN (fa179 185)):=k0
        have hs203:f 203= .slice (aM (f 203)) (aD ((e:Nat):Int) ((nn+1:Nat):Int) [(116:UInt8)]).length (aN (f 203)):=k1
        refine bC (L':=row (.slice (aM (fa179 185)) ((aD ((e:Nat):Int) ((nn:Nat):Int) [(115:UInt8)])++(aD ((e:Nat):Int) ((nn:Nat):Int) [(114:UInt8)])).length (aN (fa179 185))) 5 1 (((aD ((e:Nat):Int) ((nn:Nat):Int) [(115:UInt8)])++(aD ((e:Nat):Int) ((nn:Nat):Int) [(114:UInt8)])).length) (BX ((aD ((e:Nat):Int) ((nn:Nat):Int) [(115:UInt8)])++(aD ((e:Nat):Int) ((nn:Nat):Int) [(114:UInt8)])))::row (.slice (aM (f 203)) (aD ((e:Nat):Int) ((nn+1:Nat):Int) [(116:UInt8)]).length (aN (f 203))) 5 1 ((aD ((e:Nat):Int) ((nn+1:Nat):Int) [(116:UInt8)]).length) (BX (aD ((e:Nat):Int) ((nn+1:Nat):Int) [(116:UInt8)]))::M) (by rfl) (aA (aA rfl hs197) hs203) ?_
        refine cF rfl rfl rfl (cG (enc:=fun c:UInt8=>Bx c) 0 dJ bQ fV (v:= .slice (aM (fa179 185)) ((aD ((e:Nat):Int) ((nn:Nat):Int) [(115:UInt8)])++(aD ((e:Nat):Int) ((nn:Nat):Int) [(114:UInt8)])).length (aN (fa179 185))) (xs:=(aD ((e:Nat):Int) ((nn:Nat):Int) [(115:UInt8)])++(aD ((e:Nat):Int) ((nn:Nat):Int) [(114:UInt8)])) (ys:=aD ((e:Nat):Int) ((nn+1:Nat):Int) [(116:UInt8)]) (ao:=(aM (f 203))) (c:=(aN (f 203))) rfl rfl (by first|rfl|simp) rfl (by first|rfl|simp) (iF 1 rfl) (by first|omega|(simp only[List.length_append,List.length_nil,List.length_cons,aL]at*;omega)) (by first|omega|(simp only[List.length_append,List.length_nil,List.length_cons,aL]at*;omega))) ?_
        rintro _ _ ⟨rp197,rc198,rfl,rfl⟩
        refine aG ?_
        exact aI (aA (aA rfl hs197) hs203) rfl ((aB 0 rfl).trans (aB 1 rfl))
       ·rintro f M-⟨i0,-⟩
        have hs17:f 17= .pointer (some ⟨(bI (fa179 17)),0,none⟩):=i0
        exact bK bM
       ·rintro f M ⟨k0,k1,-⟩-
        have hs205:f 205= .pointer (some ⟨(bI (fa179 17)),1,none⟩):=k0
        have hs204:f 204= .slice (aM (f 204)) (((aD ((e:Nat):Int) ((nn:Nat):Int) [(115:UInt8)])++(aD ((e:Nat):Int) ((nn:Nat):Int) [(114:UInt8)]))++(aD ((e:Nat):Int) ((nn+1:Nat):Int) [(116:UInt8)])).length (aN (f 204)):=k1
        refine bC (L':=pt (bI (fa179 17)) (.cells #[.slice (some ⟨(bI (fa179 174)),0,none⟩) ((eM dT ((e%2)*16) (cL ((e:Nat):Int)))).length 32,.slice (aM (fa179 185)) ((aD ((e:Nat):Int) ((nn:Nat):Int) [(115:UInt8)])++(aD ((e:Nat):Int) ((nn:Nat):Int) [(114:UInt8)])).length (aN (fa179 185)),.slice none 0 0,.int .i64 (-1)] 32)::M) (by rfl) (aA (aA rfl hs205) hs204) ?_
        refine kD rfl rfl (bS 0 lV.ok (b:=(bI (fa179 17))) (o:=1) (T:=32) (cs:= #[.slice (some ⟨(bI (fa179 174)),0,none⟩) ((eM dT ((e%2)*16) (cL ((e:Nat):Int)))).length 32,.slice (aM (fa179 185)) ((aD ((e:Nat):Int) ((nn:Nat):Int) [(115:UInt8)])++(aD ((e:Nat):Int) ((nn:Nat):Int) [(114:UInt8)])).length (aN (fa179 185)),.slice none 0 0,.int .i64 (-1)]) (cs':= #[.slice (some ⟨(bI (fa179 174)),0,none⟩) ((eM dT ((e%2)*16) (cL ((e:Nat):Int)))).length 32,.slice (aM (f 204)) (((aD ((e:Nat):Int) ((nn:Nat):Int) [(115:UInt8)])++(aD ((e:Nat):Int) ((nn:Nat):Int) [(114:UInt8)]))++(aD ((e:Nat):Int) ((nn+1:Nat):Int) [(116:UInt8)])).length (aN (f 204)),.slice none 0 0,.int .i64 (-1)]) (v:= .slice (aM (f 204)) (((aD ((e:Nat):Int) ((nn:Nat):Int) [(115:UInt8)])++(aD ((e:Nat):Int) ((nn:Nat):Int) [(114:UInt8)]))++(aD ((e:Nat):Int) ((nn+1:Nat):Int) [(116:UInt8)])).length (aN (f 204))) rfl rfl rfl rfl rfl rfl rfl) ?_
        refine aG ?_
        exact cT (aA (aA rfl hs205) hs204) trivial (aB 0 rfl)
       rintro fa199 ⟨-,-,-,-,-,-,-,-,-,-,-,-⟩ ⟨j0,j1,j2,j3,j4,j5,j6,j7,-⟩
       refine qD (L':=[row (.slice (some ⟨b151,0,none⟩) 4 4) 3 1 (4) (([5,4611686018427387902,4611686018427387903,4611686018427387904]:List Int).map (fun x:Int=>Ix x)),row (.slice (some ⟨b147,0,none⟩) 3 3) 3 1 (3) (([1,4611686018427387902,4611686018427387903]:List Int).map (fun x:Int=>Ix x)),row (.slice (some ⟨b117,0,none⟩) 7 7) 3 1 (7) (([0,1,2,4611686018427387903,4611686018427387904,9223372036854775807,-9223372036854775808]:List Int).map (fun x:Int=>Ix x)),pt (bI (fa179 177)) (.cells #[.int .u8 (115)] 5 (1,1+1)),pt (bI (fa179 182)) (.cells #[.int .u8 (114)] 5 (1,1+1)),row (.slice (aM (fa179 184)) (aD ((e:Nat):Int) ((nn:Nat):Int) [(114:UInt8)]).length (aN (fa179 184))) 5 1 ((aD ((e:Nat):Int) ((nn:Nat):Int) [(114:UInt8)]).length) (BX (aD ((e:Nat):Int) ((nn:Nat):Int) [(114:UInt8)])),row (.slice (aM (fa186 194)) (cL ((e:Nat):Int)).length (aN (fa186 194))) 5 1 ((cL ((e:Nat):Int)).length) (BX (cL ((e:Nat):Int))),row (.slice (some ⟨(bI (fa179 174)),0,none⟩) ((eM dT ((e%2)*16) (cL ((e:Nat):Int)))).length 32) 5 1 (((eM dT ((e%2)*16) (cL ((e:Nat):Int)))).length) (BX (eM dT ((e%2)*16) (cL ((e:Nat):Int)))),pt (bI (fa199 201)) (.cells #[.int .u8 (116)] 5 (1,1+1)),row (.slice (aM (fa199 203)) (aD ((e:Nat):Int) ((nn+1:Nat):Int) [(116:UInt8)]).length (aN (fa199 203))) 5 1 ((aD ((e:Nat):Int) ((nn+1:Nat):Int) [(116:UInt8)]).length) (BX (aD ((e:Nat):Int) ((nn+1:Nat):Int) [(116:UInt8)])),row (.slice (aM (fa199 204)) (((aD ((e:Nat):Int) ((nn:Nat):Int) [(115:UInt8)])++(aD ((e:Nat):Int) ((nn:Nat):Int) [(114:UInt8)]))++(aD ((e:Nat):Int) ((nn+1:Nat):Int) [(116:UInt8)])).length (aN (fa199 204))) 5 1 ((((aD ((e:Nat):Int) ((nn:Nat):Int) [(115:UInt8)])++(aD ((e:Nat):Int) ((nn:Nat):Int) [(114:UInt8)]))++(aD ((e:Nat):Int) ((nn+1:Nat):Int) [(116:UInt8)])).length) (BX (((aD ((e:Nat):Int) ((nn:Nat):Int) [(115:UInt8)])++(aD ((e:Nat):Int) ((nn:Nat):Int) [(114:UInt8)]))++(aD ((e:Nat):Int) ((nn+1:Nat):Int) [(116:UInt8)]))),pt (bI (fa179 17)) (.cells #[.slice (some ⟨(bI (fa179 174)),0,none⟩) ((eM dT ((e%2)*16) (cL ((e:Nat):Int)))).length 32,.slice (aM (fa199 204)) (((aD ((e:Nat):Int) ((nn:Nat):Int) [(115:UInt8)])++(aD ((e:Nat):Int) ((nn:Nat):Int) [(114:UInt8)]))++(aD ((e:Nat):Int) ((nn+1:Nat):Int) [(116:UInt8)])).length (aN (fa199 204)),.slice none 0 0,.int .i64 (-1)] 32)]) (by rfl) ?_
       refine aJ (d:=14) (v:=Nx (e)) j0 ?_
       refine aJ (d:=17) (v:= .pointer (some ⟨(bI (fa179 17)),0,none⟩)) j1 ?_
       refine aJ (d:=162) (v:= .slice (some ⟨b147,0,none⟩) 3 3) j2 ?_
       refine aJ (d:=163) (v:= .int .i64 (3)) j3 ?_
       refine aJ (d:=164) (v:=Nx (ka)) j4 ?_
       refine aJ (d:=168) (v:= .slice (some ⟨b151,0,none⟩) 4 4) j5 ?_
       refine aJ (d:=169) (v:= .int .i64 (4)) j6 ?_
       refine aJ (d:=170) (v:=Nx (kc)) j7 ?_
       refine aQ ?_
       refine aO ?_
       refine aC ?_
       refine cF rfl rfl rfl (iZ bQ) ?_
       rintro _ _ ⟨b200,rfl,rfl⟩
       refine lE bM ?_
       refine lE (fA 12) ?_
       refine iY 0 (r':=row (.slice (some ⟨b200,0,none⟩) 0 0) 5 1 0 (BX [])) rfl (fun a h=>jA (m:=0) (by decide) rfl a h) ?_
       refine cF rfl rfl rfl (cG (enc:=fun c:UInt8=>Bx c) 0 dJ bQ fV (v:= .slice (some ⟨b200,0,none⟩) 0 0) (xs:=[]) (ys:=((aD ((e:Nat):Int) ((nn:Nat):Int) [(115:UInt8)])++(aD ((e:Nat):Int) ((nn:Nat):Int) [(114:UInt8)]))++(aD ((e:Nat):Int) ((nn+1:Nat):Int) [(116:UInt8)])) (ao:=(aM (fa199 204))) (c:=(aN (fa199 204))) rfl rfl (by first|rfl|simp) rfl (by first|rfl|simp) (iF 11 rfl) (by first|omega|(simp only[List.length_append,List.length_nil,List.length_cons,aL]at*;omega)) (by first|omega|(simp only[List.length_append,List.length_nil,List.length_cons,aL]at*;omega))) ?_
       rintro _ _ ⟨rp201,rc202,rfl,rfl⟩
       refine lE bM ?_
       refine kD rfl rfl (bS 12 lV.ok (b:=(bI (fa179 17))) (o:=2) (T:=32) (cs:= #[.slice (some ⟨(bI (fa179 174)),0,none⟩) ((eM dT ((e%2)*16) (cL ((e:Nat):Int)))).length 32,.slice (aM (fa199 204)) (((aD ((e:Nat):Int) ((nn:Nat):Int) [(115:UInt8)])++(aD ((e:Nat):Int) ((nn:Nat):Int) [(114:UInt8)]))++(aD ((e:Nat):Int) ((nn+1:Nat):Int) [(116:UInt8)])).length (aN (fa199 204)),.slice none 0 0,.int .i64 (-1)]) (cs':= #[.slice (some ⟨(bI (fa179 174)),0,none⟩) ((eM dT ((e%2)*16) (cL ((e:Nat):Int)))).length 32,.slice (aM (fa199 204)) (((aD ((e:Nat):Int) ((nn:Nat):Int) [(115:UInt8)])++(aD ((e:Nat):Int) ((nn:Nat):Int) [(114:UInt8)]))++(aD ((e:Nat):Int) ((nn+1:Nat):Int) [(116:UInt8)])).length (aN (fa199 204)),.slice rp201 ([]++(((aD ((e:Nat):Int) ((nn:Nat):Int) [(115:UInt8)])++(aD ((e:Nat):Int) ((nn:Nat):Int) [(114:UInt8)]))++(aD ((e:Nat):Int) ((nn+1:Nat):Int) [(116:UInt8)]))).length rc202,.int .i64 (-1)]) (v:= .slice rp201 ([]++(((aD ((e:Nat):Int) ((nn:Nat):Int) [(115:UInt8)])++(aD ((e:Nat):Int) ((nn:Nat):Int) [(114:UInt8)]))++(aD ((e:Nat):Int) ((nn+1:Nat):Int) [(116:UInt8)]))).length rc202) rfl rfl rfl rfl rfl rfl rfl) ?_
       refine aG ?_
       refine aQ ?_
       refine aO ?_
       obtain⟨k,hk,hok,hpk,i,hri,hL⟩:=aHq he1 he2 hnn (A:=((aD ((e:Nat):Int) ((nn:Nat):Int) [(115:UInt8)])++(aD ((e:Nat):Int) ((nn:Nat):Int) [(114:UInt8)]))++(aD ((e:Nat):Int) ((nn+1:Nat):Int) [(116:UInt8)])) (B:=[]++(((aD ((e:Nat):Int) ((nn:Nat):Int) [(115:UInt8)])++(aD ((e:Nat):Int) ((nn:Nat):Int) [(114:UInt8)]))++(aD ((e:Nat):Int) ((nn+1:Nat):Int) [(116:UInt8)]))) rfl (List.nil_append _)
       subst hk
       refine aC ?_
       refine lE (dO 12) ?_
       refine bP rfl rfl rfl (cS (fst:=[]) (cap:=[]) (vs:=[.agg #[.slice (some ⟨(bI (fa179 174)),0,none⟩) ((eM dT ((e%2)*16) (cL ((e:Nat):Int)))).length 32,.slice (aM (fa199 204)) (((aD ((e:Nat):Int) ((nn:Nat):Int) [(115:UInt8)])++(aD ((e:Nat):Int) ((nn:Nat):Int) [(114:UInt8)]))++(aD ((e:Nat):Int) ((nn+1:Nat):Int) [(116:UInt8)])).length (aN (fa199 204)),.slice rp201 ([]++(((aD ((e:Nat):Int) ((nn:Nat):Int) [(115:UInt8)])++(aD ((e:Nat):Int) ((nn:Nat):Int) [(114:UInt8)]))++(aD ((e:Nat):Int) ((nn+1:Nat):Int) [(116:UInt8)]))).length rc202,.int .i64 (-1)]]) (all:=[.agg #[.slice (some ⟨(bI (fa179 174)),0,none⟩) ((eM dT ((e%2)*16) (cL ((e:Nat):Int)))).length 32,.slice (aM (fa199 204)) (((aD ((e:Nat):Int) ((nn:Nat):Int) [(115:UInt8)])++(aD ((e:Nat):Int) ((nn:Nat):Int) [(114:UInt8)]))++(aD ((e:Nat):Int) ((nn+1:Nat):Int) [(116:UInt8)])).length (aN (fa199 204)),.slice rp201 ([]++(((aD ((e:Nat):Int) ((nn:Nat):Int) [(115:UInt8)])++(aD ((e:Nat):Int) ((nn:Nat):Int) [(114:UInt8)]))++(aD ((e:Nat):Int) ((nn+1:Nat):Int) [(116:UInt8)]))).length rc202,.int .i64 (-1)]]) aLd.ok rfl rfl rfl) ?_
       intro w hw
       replace hw:=hw.perm (L':=_::_::_::_::_::_::_::_::_::_::_::_::_::[]) (by exact(((((((((((((aB 12 rfl).trans (aB 11 rfl)).trans (aB 11 rfl)).trans (aB 10 rfl)).trans (aB 10 rfl)).trans (aB 10 rfl)).trans (aB 10 rfl)).trans (aB 10 rfl)).trans (aB 10 rfl)).trans (aB 10 rfl)).trans (aB 10 rfl)).trans (aB 12 rfl)).trans (aB 12 rfl)))
       obtain⟨β1,sb,kn,hw1,back⟩:=St.frame (L:=[_,_,_]) (M:=_::_::_::_::_::_::_::_::_::_::[]) hw
       refine(aEq β1 w (some ⟨(bI (fa179 174)),0,none⟩) (aM (fa199 204)) rp201 32 (aN (fa199 204)) rc202 _ hok hpk i hri hL hw1).mono ?_
       rintro e w' ⟨rfl,hw'⟩
       refine⟨_,rfl,_,back _ _ hw',?_⟩
       refine lE lI ?_
       refine aG ?_
       refine aQ ?_
       refine dI rfl ?_
       refine cM ?_
       refine bD ?_
       refine aQ ?_
       refine aC ?_
       refine cW (v:=Nx (kc+1)) rfl rfl rfl (bJ (a:=((kc:Nat):Int)) (b:=(1:Int)) rfl rfl (bU (by omega) (by omega))) ?_
       refine lE bG ?_
       refine aG ?_
       refine dL (L':=[row (.slice (some ⟨b151,0,none⟩) 4 4) 3 1 (4) (([5,4611686018427387902,4611686018427387903,4611686018427387904]:List Int).map (fun x:Int=>Ix x)),row (.slice (some ⟨b147,0,none⟩) 3 3) 3 1 (3) (([1,4611686018427387902,4611686018427387903]:List Int).map (fun x:Int=>Ix x)),row (.slice (some ⟨b117,0,none⟩) 7 7) 3 1 (7) (([0,1,2,4611686018427387903,4611686018427387904,9223372036854775807,-9223372036854775808]:List Int).map (fun x:Int=>Ix x))]) [true,true,true,false,false,false,false,false,false,false] rfl ?_
       exact bT ⟨kc+1,⟨⟨rfl,rfl,rfl,rfl,rfl,rfl,rfl⟩,rfl,(by omega)⟩,(show 4-(kc+1)<4-kc from by omega)⟩
      ·
       refine dZ ?_
       refine aU ?_
       refine aU ?_
       refine eA ?_
       refine bD ?_
       refine aQ ?_
       refine aC ?_
       refine cW (v:=Nx (ka+1)) rfl rfl rfl (bJ (a:=((ka:Nat):Int)) (b:=(1:Int)) rfl rfl (bU (by omega) (by omega))) ?_
       refine lE bG ?_
       refine aG ?_
       refine dL (L':=[row (.slice (some ⟨b147,0,none⟩) 3 3) 3 1 (3) (([1,4611686018427387902,4611686018427387903]:List Int).map (fun x:Int=>Ix x)),row (.slice (some ⟨b117,0,none⟩) 7 7) 3 1 (7) (([0,1,2,4611686018427387903,4611686018427387904,9223372036854775807,-9223372036854775808]:List Int).map (fun x:Int=>Ix x))]) [false,true,true] rfl ?_
       exact bT ⟨ka+1,⟨⟨rfl,rfl,rfl⟩,rfl,(by omega)⟩,(show 3-(ka+1)<3-ka from by omega)⟩
     ·
      refine dZ ?_
      refine aU ?_
      refine aU ?_
      refine eA ?_
      refine aQ ?_
      refine aO ?_
      refine aO ?_
      refine kY [false,false] rfl ?_
      obtain⟨zA,hzA⟩:∃z:Bs,z=List.replicate 31 0:=⟨_,rfl⟩
      have hzAl:zA.length=31:=by rw[hzA];exact List.length_replicate
      obtain⟨zB,hzB⟩:∃z:Bs,z=List.replicate 33 0:=⟨_,rfl⟩
      have hzBl:zB.length=33:=by rw[hzB];exact List.length_replicate
      obtain⟨zY,hzY⟩:∃z:Bs,z=List.replicate 262145 0:=⟨_,rfl⟩
      have hzYl:zY.length=262145:=by rw[hzY];exact List.length_replicate
      refine mZ [⟨[],[],[],[216],fun f=>f 216= .slice (some ⟨(bI (f 216)),0,none⟩) (zA).length 31⟩,⟨[0],[0],[],[216,217],fun f=>f 217= .agg #[.slice (some ⟨(bI (f 216)),0,none⟩) (zA).length 31,.slice none 0 0,.slice none 0 0,.int .i64 (0)]⟩,⟨[],[],[],[218],fun f=>f 218= .slice (some ⟨(bI (f 218)),0,none⟩) (zB).length 33⟩,⟨[2],[2],[],[218,219],fun f=>f 219= .agg #[.slice (some ⟨(bI (f 218)),0,none⟩) (zB).length 33,.slice none 0 0,.slice none 0 0,.int .i64 (0)]⟩,⟨[],[],[],[220],fun f=>f 220= .agg #[.slice none 0 0,.slice none 0 0,.slice none 0 0,.int .i64 (-2)]⟩,⟨[],[],[],[221],fun f=>f 221= .slice (some ⟨(bI (f 221)),0,none⟩) (zY).length 262145⟩,⟨[5],[5],[],[221,222],fun f=>f 222= .agg #[.slice none 0 0,.slice (some ⟨(bI (f 221)),0,none⟩) (zY).length 262145,.slice none 0 0,.int .i64 (0)]⟩,⟨[],[],[],[223],fun f=>f 223= .slice (some ⟨(bI (f 223)),0,none⟩) (zY).length 262145⟩,⟨[7],[7],[],[223,224],fun f=>f 224= .agg #[.slice none 0 0,.slice none 0 0,.slice (some ⟨(bI (f 223)),0,none⟩) (zY).length 262145,.int .i64 (0)]⟩,⟨[],[],[],[225],fun f=>f 225= .agg #[.slice none 0 0,.slice none 0 0,.slice none 0 0,.int .i64 (-9223372036854775808)]⟩,⟨[],[],[],[226],fun f=>f 226= .agg #[.slice none 0 0,.slice none 0 0,.slice none 0 0,.int .i64 (9223372036854775807)]⟩,⟨[0,1,2,3,4,5,6,7,8,9,10],[1,3,4,6,8,9,10],[],[227],fun f=>f 227= .slice (some ⟨(bI (f 227)),0,none⟩) 7 7⟩,⟨[0,1,2,3,4,5,6,7,8,9,10,11],[11],[],[228],fun f=>f 228= .int .i64 (7)⟩,⟨[],[],[],[229],fun f=>f 229= .int .i64 (0)⟩] [⟨(some 0),none,[],[216],fun f=>row (.slice (some ⟨(bI (f 216)),0,none⟩) (zA).length 31) 5 1 ((zA).length) (BX zA)⟩,⟨(some 2),none,[],[218],fun f=>row (.slice (some ⟨(bI (f 218)),0,none⟩) (zB).length 33) 5 1 ((zB).length) (BX zB)⟩,⟨(some 5),none,[],[221],fun f=>row (.slice (some ⟨(bI (f 221)),0,none⟩) (zY).length 262145) 5 1 ((zY).length) (BX zY)⟩,⟨(some 7),none,[],[223],fun f=>row (.slice (some ⟨(bI (f 223)),0,none⟩) (zY).length 262145) 5 1 ((zY).length) (BX zY)⟩,⟨(some 11),none,[],[216,218,221,223,227],fun f=>pt (bI (f 227)) (.cells #[.slice (some ⟨(bI (f 216)),0,none⟩) (zA).length 31,.slice none 0 0,.slice none 0 0,.int .i64 (0),.slice (some ⟨(bI (f 218)),0,none⟩) (zB).length 33,.slice none 0 0,.slice none 0 0,.int .i64 (0),.slice none 0 0,.slice none 0 0,.slice none 0 0,.int .i64 (-2),.slice none 0 0,.slice (some ⟨(bI (f 221)),0,none⟩) (zY).length 262145,.slice none 0 0,.int .i64 (0),.slice none 0 0,.slice none 0 0,.slice (some ⟨(bI (f 223)),0,none⟩) (zY).length 262145,.int .i64 (0),.slice none 0 0,.slice none 0 0,.slice none 0 0,.int .i64 (-9223372036854775808),.slice none 0 0,.slice none 0 0,.slice none 0 0,.int .i64 (9223372036854775807)] 32)⟩] [] [] [] (by kernel_rfl) (by kernel_rfl) (by kernel_rfl) (by kernel_rfl) rfl trivial ⟨?_,?_,?_,?_,?_,?_,?_,?_,?_,?_,?_,?_,?_,?_,trivial⟩ ?_
      ·rintro f M- -
       refine bC (L':=M) (by rfl) rfl ?_
       refine cF rfl rfl rfl (mU (c:=31) hzA bQ fV iG.ok rfl rfl (by omega) (by omega)) ?_
       rintro _ _ ⟨b204,rfl,rfl⟩
       refine aG ?_
       exact aI rfl rfl (aB 0 rfl)
      ·rintro f M ⟨k0,-⟩-
       have hs216:f 216= .slice (some ⟨(bI (f 216)),0,none⟩) (zA).length 31:=k0
       refine bC (L':=M) (by rfl) (aA rfl hs216) ?_
       refine cW (v:= .agg #[.slice (some ⟨(bI (f 216)),0,none⟩) (zA).length 31,.slice none 0 0,.slice none 0 0,.int .i64 (0)]) rfl rfl rfl (dW lN.ok mL (vs:=[(0,.slice (some ⟨(bI (f 216)),0,none⟩) (zA).length 31)]) (cells:= #[.slice (some ⟨(bI (f 216)),0,none⟩) (zA).length 31,.slice none 0 0,.slice none 0 0,.int .i64 (0)]) rfl rfl) ?_
       refine aG ?_
       exact aI (aA rfl hs216) rfl (List.Perm.refl _)
      ·rintro f M- -
       refine bC (L':=M) (by rfl) rfl ?_
       refine cF rfl rfl rfl (mU (c:=33) hzB bQ fV iG.ok rfl rfl (by omega) (by omega)) ?_
       rintro _ _ ⟨b206,rfl,rfl⟩
       refine aG ?_
       exact aI rfl rfl (aB 0 rfl)
      ·rintro f M ⟨k0,-⟩-
       have hs218:f 218= .slice (some ⟨(bI (f 218)),0,none⟩) (zB).length 33:=k0
       refine bC (L':=M) (by rfl) (aA rfl hs218) ?_
       refine cW (v:= .agg #[.slice (some ⟨(bI (f 218)),0,none⟩) (zB).length 33,.slice none 0 0,.slice none 0 0,.int .i64 (0)]) rfl rfl rfl (dW lN.ok mL (vs:=[(0,.slice (some ⟨(bI (f 218)),0,none⟩) (zB).length 33)]) (cells:= #[.slice (some ⟨(bI (f 218)),0,none⟩) (zB).length 33,.slice none 0 0,.slice none 0 0,.int .i64 (0)]) rfl rfl) ?_
       refine aG ?_
       exact aI (aA rfl hs218) rfl (List.Perm.refl _)
      ·rintro f M- -
       refine bC (L':=M) (by rfl) rfl ?_
       refine cW (v:= .agg #[.slice none 0 0,.slice none 0 0,.slice none 0 0,.int .i64 (-2)]) rfl rfl rfl (dW lN.ok mL (vs:=[(3,.int .i64 (-2))]) (cells:= #[.slice none 0 0,.slice none 0 0,.slice none 0 0,.int .i64 (-2)]) rfl rfl) ?_
       refine aG ?_
       exact aI rfl rfl (List.Perm.refl _)
      ·rintro f M- -
       refine bC (L':=M) (by rfl) rfl ?_
       refine cF rfl rfl rfl (mU (c:=262145) hzY bQ fV iG.ok rfl rfl (by omega) (by omega)) ?_
       rintro _ _ ⟨b208,rfl,rfl⟩
       refine aG ?_
       exact aI rfl rfl (aB 0 rfl)
      ·rintro f M ⟨k0,-⟩-
       have hs221:f 221= .slice (some ⟨(bI (f 221)),0,none⟩) (zY).length 262145:=k0
       refine bC (L':=M) (by rfl) (aA rfl hs221) ?_
       refine cW (v:= .agg #[.slice none 0 0,.slice (some ⟨(bI (f 221)),0,none⟩) (zY).length 262145,.slice none 0 0,.int .i64 (0)]) rfl rfl rfl (dW lN.ok mL (vs:=[(1,.slice (some ⟨(bI (f 221)),0,none⟩) (zY).length 262145)]) (cells:= #[.slice none 0 0,.slice (some ⟨(bI (f 221)),0,none⟩) (zY).length 262145,.slice none 0 0,.int .i64 (0)]) rfl rfl) ?_
       refine aG ?_
       exact aI (aA rfl hs221) rfl (List.Perm.refl _)
      ·rintro f M- -
       refine bC (L':=M) (by rfl) rfl ?_
       refine cF rfl rfl rfl (mU (c:=262145) hzY bQ fV iG.ok rfl rfl (by omega) (by omega)) ?_
       rintro _ _ ⟨b210,rfl,rfl⟩
       refine aG ?_
       exact aI rfl rfl (aB 0 rfl)
      ·rintro f M ⟨k0,-⟩-
       have hs223:f 223= .slice (some ⟨(bI (f 223)),0,none⟩) (zY).length 262145:=k0
       refine bC (L':=M) (by rfl) (aA rfl hs223) ?_
       refine cW (v:= .agg #[.slice none 0 0,.slice none 0 0,.slice (some ⟨(bI (f 223)),0,none⟩) (zY).length 262145,.int .i64 (0)]) rfl rfl rfl (dW lN.ok mL (vs:=[(2,.slice (some ⟨(bI (f 223)),0,none⟩) (zY).length 262145)]) (cells:= #[.slice none 0 0,.slice none 0 0,.slice (some ⟨(bI (f 223)),0,none⟩) (zY).length 262145,.int .i64 (0)]) rfl rfl) ?_
       refine aG ?_
       exact aI (aA rfl hs223) rfl (List.Perm.refl _)
      ·rintro f M- -
       refine bC (L':=M) (by rfl) rfl ?_
       refine cW (v:= .agg #[.slice none 0 0,.slice none 0 0,.slice none 0 0,.int .i64 (-9223372036854775808)]) rfl rfl rfl (dW lN.ok mL (vs:=[(3,.int .i64 (-9223372036854775808))]) (cells:= #[.slice none 0 0,.slice none 0 0,.slice none 0 0,.int .i64 (-9223372036854775808)]) rfl rfl) ?_
       refine aG ?_
       exact aI rfl rfl (List.Perm.refl _)
      ·rintro f M- -
       refine bC (L':=M) (by rfl) rfl ?_
       refine cW (v:= .agg #[.slice none 0 0,.slice none 0 0,.slice none 0 0,.int .i64 (9223372036854775807)]) rfl rfl rfl (dW lN.ok mL (vs:=[(3,.int .i64 (9223372036854775807))]) (cells:= #[.slice none 0 0,.slice none 0 0,.slice none 0 0,.int .i64 (9223372036854775807)]) rfl rfl) ?_
       refine aG ?_
       exact aI rfl rfl (List.Perm.refl _)
      ·rintro f M ⟨k0,k1,k2,k3,k4,k5,k6,-⟩-
       have hs217:f 217= .agg #[.slice (some ⟨(bI (f 216)),0,none⟩) (zA).length 31,.slice none 0 0,.slice none 0 0,.int .i64 (0)]:=k0
       have hs219:f 219= .agg #[.slice (some ⟨(bI (f 218)),0,none⟩) (zB).length 33,.slice none 0 0,.slice none 0 0,.int .i64 (0)]:=k1
       have hs220:f 220= .agg #[.slice none 0 0,.slice none 0 0,.slice none 0 0,.int .i64 (-2)]:=k2
       have hs222:f 222= .agg #[.slice none 0 0,.slice (some ⟨(bI (f 221)),0,none⟩) (zY).length 262145,.slice none 0 0,.int .i64 (0)]:=k3
       have hs224:f 224= .agg #[.slice none 0 0,.slice none 0 0,.slice (some ⟨(bI (f 223)),0,none⟩) (zY).length 262145,.int .i64 (0)]:=k4
       have hs225:f 225= .agg #[.slice none 0 0,.slice none 0 0,.slice none 0 0,.int .i64 (-9223372036854775808)]:=k5
       have hs226:f 226= .agg #[.slice none 0 0,.slice none 0 0,.slice none 0 0,.int .i64 (9223372036854775807)]:=k6
       refine bC (L':=M) (by rfl) (aA (aA (aA (aA (aA (aA (aA rfl hs217) hs219) hs220) hs222) hs224) hs225) hs226) ?_
       refine cF rfl rfl rfl (cO sR lN.ok (vs:=[(0,.agg #[.slice (some ⟨(bI (f 216)),0,none⟩) (zA).length 31,.slice none 0 0,.slice none 0 0,.int .i64 (0)]),(1,.agg #[.slice (some ⟨(bI (f 218)),0,none⟩) (zB).length 33,.slice none 0 0,.slice none 0 0,.int .i64 (0)]),(2,.agg #[.slice none 0 0,.slice none 0 0,.slice none 0 0,.int .i64 (-2)]),(3,.agg #[.slice none 0 0,.slice (some ⟨(bI (f 221)),0,none⟩) (zY).length 262145,.slice none 0 0,.int .i64 (0)]),(4,.agg #[.slice none 0 0,.slice none 0 0,.slice (some ⟨(bI (f 223)),0,none⟩) (zY).length 262145,.int .i64 (0)]),(5,.agg #[.slice none 0 0,.slice none 0 0,.slice none 0 0,.int .i64 (-9223372036854775808)]),(6,.agg #[.slice none 0 0,.slice none 0 0,.slice none 0 0,.int .i64 (9223372036854775807)])]) (cells:= #[.slice (some ⟨(bI (f 216)),0,none⟩) (zA).length 31,.slice none 0 0,.slice none 0 0,.int .i64 (0),.slice (some ⟨(bI (f 218)),0,none⟩) (zB).length 33,.slice none 0 0,.slice none 0 0,.int .i64 (0),.slice none 0 0,.slice none 0 0,.slice none 0 0,.int .i64 (-2),.slice none 0 0,.slice (some ⟨(bI (f 221)),0,none⟩) (zY).length 262145,.slice none 0 0,.int .i64 (0),.slice none 0 0,.slice none 0 0,.slice (some ⟨(bI (f 223)),0,none⟩) (zY).length 262145,.int .i64 (0),.slice none 0 0,.slice none 0 0,.slice none 0 0,.int .i64 (-9223372036854775808),.slice none 0 0,.slice none 0 0,.slice none 0 0,.int .i64 (9223372036854775807)]) rfl rfl rfl (by kernel_rfl)) ?_
       rintro _ _ ⟨b212,rfl,rfl⟩
       refine aG ?_
       exact aI (aA (aA (aA (aA (aA (aA (aA rfl hs217) hs219) hs220) hs222) hs224) hs225) hs226) rfl (aB 0 rfl)
      ·rintro f M ⟨k0,-⟩-
       have hs227:f 227= .slice (some ⟨(bI (f 227)),0,none⟩) 7 7:=k0
       exact bK fC
      ·rintro f M- -
       exact bK bG
      rintro fa213 ⟨-,-,-,-,-,-,-,-,-,-,-,k11,k12,k13,-⟩-
      refine qD (L':=[row (.slice (some ⟨(bI (fa213 216)),0,none⟩) (zA).length 31) 5 1 ((zA).length) (BX zA),row (.slice (some ⟨(bI (fa213 218)),0,none⟩) (zB).length 33) 5 1 ((zB).length) (BX zB),row (.slice (some ⟨(bI (fa213 221)),0,none⟩) (zY).length 262145) 5 1 ((zY).length) (BX zY),row (.slice (some ⟨(bI (fa213 223)),0,none⟩) (zY).length 262145) 5 1 ((zY).length) (BX zY),pt (bI (fa213 227)) (.cells #[.slice (some ⟨(bI (fa213 216)),0,none⟩) (zA).length 31,.slice none 0 0,.slice none 0 0,.int .i64 (0),.slice (some ⟨(bI (fa213 218)),0,none⟩) (zB).length 33,.slice none 0 0,.slice none 0 0,.int .i64 (0),.slice none 0 0,.slice none 0 0,.slice none 0 0,.int .i64 (-2),.slice none 0 0,.slice (some ⟨(bI (fa213 221)),0,none⟩) (zY).length 262145,.slice none 0 0,.int .i64 (0),.slice none 0 0,.slice none 0 0,.slice (some ⟨(bI (fa213 223)),0,none⟩) (zY).length 262145,.int .i64 (0),.slice none 0 0,.slice none 0 0,.slice none 0 0,.int .i64 (-9223372036854775808),.slice none 0 0,.slice none 0 0,.slice none 0 0,.int .i64 (9223372036854775807)] 32)]) (by rfl) ?_
      refine aJ (d:=227) (v:= .slice (some ⟨(bI (fa213 227)),0,none⟩) 7 7) k11 ?_
      refine aJ (d:=228) (v:= .int .i64 (7)) k12 ?_
      refine aJ (d:=229) (v:= .int .i64 (0)) k13 ?_
      refine aQ ?_
      refine aY ?_
      refine aDs 8 ?_
      refine lO 7 ?_
      refine aO ?_
      refine aC ?_
      refine lE jI ?_
      refine aG ?_
      refine aQ ?_
      refine aO ?_
      refine dU rfl ?_
      refine cM ?_
      refine aQ ?_
      refine aO ?_
      refine aY ?_
      refine aO ?_
      refine aC ?_
      refine cW (v:= .pointer (some ⟨(bI (fa213 227)),0,none⟩)) rfl rfl rfl (jP (b:=(bI (fa213 227))) (o:=0) (k:=0) (len:=7) (cap:=7) rfl rfl sR (by decide)) ?_
      refine lE (dO 4) ?_
      refine fZ fun b214=> ?_
      refine kD rfl rfl (bS 0 fX.ok (b:=b214) (o:=0) (T:=32) (cs:= #[.slice none 0 0,.slice none 0 0,.slice none 0 0,.int .i64 (0)]) (cs':= #[.slice (some ⟨(bI (fa213 216)),0,none⟩) (zA).length 31,.slice none 0 0,.slice none 0 0,.int .i64 (0)]) (v:= .agg #[.slice (some ⟨(bI (fa213 216)),0,none⟩) (zA).length 31,.slice none 0 0,.slice none 0 0,.int .i64 (0)]) rfl rfl rfl rfl rfl rfl rfl) ?_
      refine aG ?_
      refine aQ ?_
      refine aO ?_
      refine aC ?_
      refine lE (dO 0) ?_
      refine bP rfl rfl rfl (cS (fst:=[]) (cap:=[]) (vs:=[.agg #[.slice (some ⟨(bI (fa213 216)),0,none⟩) (zA).length 31,.slice none 0 0,.slice none 0 0,.int .i64 (0)]]) (all:=[.agg #[.slice (some ⟨(bI (fa213 216)),0,none⟩) (zA).length 31,.slice none 0 0,.slice none 0 0,.int .i64 (0)]]) oF.ok rfl rfl rfl) ?_
      intro w hw
      obtain⟨β1,sb,kn,hw1,back⟩:=St.frame_all hw
      refine(gY β1 w hw1 zA [] [] (0:Int) _ _ _ (kn _ (aX.of_res 1 rfl (Sl.mono bE _ _) fun _ h=>fB h)) (Sl.nil bE _) (Sl.nil bE _) (by first|omega|(simp only[List.length_append,List.length_nil,List.length_cons,List.length_take,List.length_replicate,List.length_set,aH,bL];omega)) (by first|omega|(simp only[List.length_append,List.length_nil,List.length_cons,List.length_take,List.length_replicate,List.length_set,aH,bL];omega)) (by first|omega|(simp only[List.length_append,List.length_nil,List.length_cons,List.length_take,List.length_replicate,List.length_set,aH,bL];omega)) (by first|omega|decide)).mono ?_
      rintro e w' ⟨rfl,hw'⟩
      refine⟨_,rfl,_,back _ _ hw',?_⟩
      refine lE lI ?_
      refine aG ?_
      refine aQ ?_
      refine dI rfl ?_
      refine cM ?_
      refine bD ?_
      refine aQ ?_
      refine aC ?_
      refine lE opl ?_
      refine lE bG ?_
      refine aG ?_
      refine bT ?_
      refine lO 6 ?_
      refine aO ?_
      refine aC ?_
      refine lE jI ?_
      refine aG ?_
      refine aQ ?_
      refine aO ?_
      refine dU rfl ?_
      refine cM ?_
      refine aQ ?_
      refine aO ?_
      refine aY ?_
      refine aO ?_
      refine aC ?_
      refine cW (v:= .pointer (some ⟨(bI (fa213 227)),4,none⟩)) rfl rfl rfl (jP (b:=(bI (fa213 227))) (o:=0) (k:=1) (len:=7) (cap:=7) rfl rfl sR (by decide)) ?_
      refine lE (dO 5) ?_
      refine fZ fun b215=> ?_
      refine kD rfl rfl (bS 0 fX.ok (b:=b215) (o:=0) (T:=32) (cs:= #[.slice none 0 0,.slice none 0 0,.slice none 0 0,.int .i64 (0)]) (cs':= #[.slice (some ⟨(bI (fa213 218)),0,none⟩) (zB).length 33,.slice none 0 0,.slice none 0 0,.int .i64 (0)]) (v:= .agg #[.slice (some ⟨(bI (fa213 218)),0,none⟩) (zB).length 33,.slice none 0 0,.slice none 0 0,.int .i64 (0)]) rfl rfl rfl rfl rfl rfl rfl) ?_
      refine aG ?_
      refine aQ ?_
      refine aO ?_
      refine aC ?_
      refine lE (dO 0) ?_
      refine bP rfl rfl rfl (cS (fst:=[]) (cap:=[]) (vs:=[.agg #[.slice (some ⟨(bI (fa213 218)),0,none⟩) (zB).length 33,.slice none 0 0,.slice none 0 0,.int .i64 (0)]]) (all:=[.agg #[.slice (some ⟨(bI (fa213 218)),0,none⟩) (zB).length 33,.slice none 0 0,.slice none 0 0,.int .i64 (0)]]) oF.ok rfl rfl rfl) ?_
      intro w hw
      obtain⟨β1,sb,kn,hw1,back⟩:=St.frame_all hw
      refine(gY β1 w hw1 zB [] [] (0:Int) _ _ _ (kn _ (aX.of_res 3 rfl (Sl.mono bE _ _) fun _ h=>fB h)) (Sl.nil bE _) (Sl.nil bE _) (by first|omega|(simp only[List.length_append,List.length_nil,List.length_cons,List.length_take,List.length_replicate,List.length_set,aH,bL];omega)) (by first|omega|(simp only[List.length_append,List.length_nil,List.length_cons,List.length_take,List.length_replicate,List.length_set,aH,bL];omega)) (by first|omega|(simp only[List.length_append,List.length_nil,List.length_cons,List.length_take,List.length_replicate,List.length_set,aH,bL];omega)) (by first|omega|decide)).mono ?_
      rintro e w' ⟨rfl,hw'⟩
      refine⟨_,rfl,_,back _ _ hw',?_⟩
      refine lE lI ?_
      refine aG ?_
      refine aQ ?_
      refine dI rfl ?_
      refine cM ?_
      refine bD ?_
      refine aQ ?_
      refine aC ?_
      refine lE opl ?_
      refine lE bG ?_
      refine aG ?_
      refine bT ?_
      refine lO 5 ?_
      refine aO ?_
      refine aC ?_
      refine lE jI ?_
      refine aG ?_
      refine aQ ?_
      refine aO ?_
      refine dU rfl ?_
      refine cM ?_
      refine aQ ?_
      refine aO ?_
      refine aY ?_
      refine aO ?_
      refine aC ?_
      refine cW (v:= .pointer (some ⟨(bI (fa213 227)),8,none⟩)) rfl rfl rfl (jP (b:=(bI (fa213 227))) (o:=0) (k:=2) (len:=7) (cap:=7) rfl rfl sR (by decide)) ?_
      refine lE (dO 6) ?_
      refine fZ fun b216=> ?_
      refine kD rfl rfl (bS 0 fX.ok (b:=b216) (o:=0) (T:=32) (cs:= #[.slice none 0 0,.slice none 0 0,.slice none 0 0,.int .i64 (0)]) (cs':= #[.slice none 0 0,.slice none 0 0,.slice none 0 0,.int .i64 (-2)]) (v:= .agg #[.slice none 0 0,.slice none 0 0,.slice none 0 0,.int .i64 (-2)]) rfl rfl rfl rfl rfl rfl rfl) ?_
      refine aG ?_
      refine aQ ?_
      refine aO ?_
      refine aC ?_
      refine lE (dO 0) ?_
      refine bP rfl rfl rfl (cS (fst:=[]) (cap:=[]) (vs:=[.agg #[.slice none 0 0,.slice none 0 0,.slice none 0 0,.int .i64 (-2)]]) (all:=[.agg #[.slice none 0 0,.slice none 0 0,.slice none 0 0,.int .i64 (-2)]]) oF.ok rfl rfl rfl) ?_
      intro w hw
      obtain⟨β1,sb,kn,hw1,back⟩:=St.frame_all hw
      refine(gY β1 w hw1 [] [] [] (-2:Int) _ _ _ (Sl.nil bE _) (Sl.nil bE _) (Sl.nil bE _) (by first|omega|(simp only[List.length_append,List.length_nil,List.length_cons,List.length_take,List.length_replicate,List.length_set,aH,bL];omega)) (by first|omega|(simp only[List.length_append,List.length_nil,List.length_cons,List.length_take,List.length_replicate,List.length_set,aH,bL];omega)) (by first|omega|(simp only[List.length_append,List.length_nil,List.length_cons,List.length_take,List.length_replicate,List.length_set,aH,bL];omega)) (by first|omega|decide)).mono ?_
      rintro e w' ⟨rfl,hw'⟩
      refine⟨_,rfl,_,back _ _ hw',?_⟩
      refine lE lI ?_
      refine aG ?_
      refine aQ ?_
      refine dI rfl ?_
      refine cM ?_
      refine bD ?_
      refine aQ ?_
      refine aC ?_
      refine lE opl ?_
      refine lE bG ?_
      refine aG ?_
      refine bT ?_
      refine lO 4 ?_
      refine aO ?_
      refine aC ?_
      refine lE jI ?_
      refine aG ?_
      refine aQ ?_
      refine aO ?_
      refine dU rfl ?_
      refine cM ?_
      refine aQ ?_
      refine aO ?_
      refine aY ?_
      refine aO ?_
      refine aC ?_
      refine cW (v:= .pointer (some ⟨(bI (fa213 227)),12,none⟩)) rfl rfl rfl (jP (b:=(bI (fa213 227))) (o:=0) (k:=3) (len:=7) (cap:=7) rfl rfl sR (by decide)) ?_
      refine lE (dO 7) ?_
      refine fZ fun b217=> ?_
      refine kD rfl rfl (bS 0 fX.ok (b:=b217) (o:=0) (T:=32) (cs:= #[.slice none 0 0,.slice none 0 0,.slice none 0 0,.int .i64 (0)]) (cs':= #[.slice none 0 0,.slice (some ⟨(bI (fa213 221)),0,none⟩) (zY).length 262145,.slice none 0 0,.int .i64 (0)]) (v:= .agg #[.slice none 0 0,.slice (some ⟨(bI (fa213 221)),0,none⟩) (zY).length 262145,.slice none 0 0,.int .i64 (0)]) rfl rfl rfl rfl rfl rfl rfl) ?_
      refine aG ?_
      refine aQ ?_
      refine aO ?_
      refine aC ?_
      refine lE (dO 0) ?_
      refine bP rfl rfl rfl (cS (fst:=[]) (cap:=[]) (vs:=[.agg #[.slice none 0 0,.slice (some ⟨(bI (fa213 221)),0,none⟩) (zY).length 262145,.slice none 0 0,.int .i64 (0)]]) (all:=[.agg #[.slice none 0 0,.slice (some ⟨(bI (fa213 221)),0,none⟩) (zY).length 262145,.slice none 0 0,.int .i64 (0)]]) oF.ok rfl rfl rfl) ?_
      intro w hw
      obtain⟨β1,sb,kn,hw1,back⟩:=St.frame_all hw
      refine(gY β1 w hw1 [] zY [] (0:Int) _ _ _ (Sl.nil bE _) (kn _ (aX.of_res 6 rfl (Sl.mono bE _ _) fun _ h=>fB h)) (Sl.nil bE _) (by first|omega|(simp only[List.length_append,List.length_nil,List.length_cons,List.length_take,List.length_replicate,List.length_set,aH,bL];omega)) (by first|omega|(simp only[List.length_append,List.length_nil,List.length_cons,List.length_take,List.length_replicate,List.length_set,aH,bL];omega)) (by first|omega|(simp only[List.length_append,List.length_nil,List.length_cons,List.length_take,List.length_replicate,List.length_set,aH,bL];omega)) (by first|omega|decide)).mono ?_
      rintro e w' ⟨rfl,hw'⟩
      refine⟨_,rfl,_,back _ _ hw',?_⟩
      refine lE lI ?_
      refine aG ?_
      refine aQ ?_
      refine dI rfl ?_
      refine cM ?_
      refine bD ?_
      refine aQ ?_
      refine aC ?_
      refine lE opl ?_
      refine lE bG ?_
      refine aG ?_
      refine bT ?_
      refine lO 3 ?_
      refine aO ?_
      refine aC ?_
      refine lE jI ?_
      refine aG ?_
      refine aQ ?_
      refine aO ?_
      refine dU rfl ?_
      refine cM ?_
      refine aQ ?_
      refine aO ?_
      refine aY ?_
      refine aO ?_
      refine aC ?_
      refine cW (v:= .pointer (some ⟨(bI (fa213 227)),16,none⟩)) rfl rfl rfl (jP (b:=(bI (fa213 227))) (o:=0) (k:=4) (len:=7) (cap:=7) rfl rfl sR (by decide)) ?_
      refine lE (dO 8) ?_
      refine fZ fun b218=> ?_
      refine kD rfl rfl (bS 0 fX.ok (b:=b218) (o:=0) (T:=32) (cs:= #[.slice none 0 0,.slice none 0 0,.slice none 0 0,.int .i64 (0)]) (cs':= #[.slice none 0 0,.slice none 0 0,.slice (some ⟨(bI (fa213 223)),0,none⟩) (zY).length 262145,.int .i64 (0)]) (v:= .agg #[.slice none 0 0,.slice none 0 0,.slice (some ⟨(bI (fa213 223)),0,none⟩) (zY).length 262145,.int .i64 (0)]) rfl rfl rfl rfl rfl rfl rfl) ?_
      refine aG ?_
      refine aQ ?_
      refine aO ?_
      refine aC ?_
      refine lE (dO 0) ?_
      refine bP rfl rfl rfl (cS (fst:=[]) (cap:=[]) (vs:=[.agg #[.slice none 0 0,.slice none 0 0,.slice (some ⟨(bI (fa213 223)),0,none⟩) (zY).length 262145,.int .i64 (0)]]) (all:=[.agg #[.slice none 0 0,.slice none 0 0,.slice (some ⟨(bI (fa213 223)),0,none⟩) (zY).length 262145,.int .i64 (0)]]) oF.ok rfl rfl rfl) ?_
      intro w hw
      obtain⟨β1,sb,kn,hw1,back⟩:=St.frame_all hw
      refine(gY β1 w hw1 [] [] zY (0:Int) _ _ _ (Sl.nil bE _) (Sl.nil bE _) (kn _ (aX.of_res 8 rfl (Sl.mono bE _ _) fun _ h=>fB h)) (by first|omega|(simp only[List.length_append,List.length_nil,List.length_cons,List.length_take,List.length_replicate,List.length_set,aH,bL];omega)) (by first|omega|(simp only[List.length_append,List.length_nil,List.length_cons,List.length_take,List.length_replicate,List.length_set,aH,bL];omega)) (by first|omega|(simp only[List.length_append,List.length_nil,List.length_cons,List.length_take,List.length_replicate,List.length_set,aH,bL];omega)) (by first|omega|decide)).mono ?_
      rintro e w' ⟨rfl,hw'⟩
      refine⟨_,rfl,_,back _ _ hw',?_⟩
      refine lE lI ?_
      refine aG ?_
      refine aQ ?_
      refine dI rfl ?_
      refine cM ?_
      refine bD ?_
      refine aQ ?_
      refine aC ?_
      refine lE opl ?_
      refine lE bG ?_
      refine aG ?_
      refine bT ?_
      refine lO 2 ?_
      refine aO ?_
      refine aC ?_
      refine lE jI ?_
      refine aG ?_
      refine aQ ?_
      refine aO ?_
      refine dU rfl ?_
      refine cM ?_
      refine aQ ?_
      refine aO ?_
      refine aY ?_
      refine aO ?_
      refine aC ?_
      refine cW (v:= .pointer (some ⟨(bI (fa213 227)),20,none⟩)) rfl rfl rfl (jP (b:=(bI (fa213 227))) (o:=0) (k:=5) (len:=7) (cap:=7) rfl rfl sR (by decide)) ?_
      refine lE (dO 9) ?_
      refine fZ fun b219=> ?_
      refine kD rfl rfl (bS 0 fX.ok (b:=b219) (o:=0) (T:=32) (cs:= #[.slice none 0 0,.slice none 0 0,.slice none 0 0,.int .i64 (0)]) (cs':= #[.slice none 0 0,.slice none 0 0,.slice none 0 0,.int .i64 (-9223372036854775808)]) (v:= .agg #[.slice none 0 0,.slice none 0 0,.slice none 0 0,.int .i64 (-9223372036854775808)]) rfl rfl rfl rfl rfl rfl rfl) ?_
      refine aG ?_
      refine aQ ?_
      refine aO ?_
      refine aC ?_
      refine lE (dO 0) ?_
      refine bP rfl rfl rfl (cS (fst:=[]) (cap:=[]) (vs:=[.agg #[.slice none 0 0,.slice none 0 0,.slice none 0 0,.int .i64 (-9223372036854775808)]]) (all:=[.agg #[.slice none 0 0,.slice none 0 0,.slice none 0 0,.int .i64 (-9223372036854775808)]]) oF.ok rfl rfl rfl) ?_
      intro w hw
      obtain⟨β1,sb,kn,hw1,back⟩:=St.frame_all hw
      refine(gY β1 w hw1 [] [] [] (-9223372036854775808:Int) _ _ _ (Sl.nil bE _) (Sl.nil bE _) (Sl.nil bE _) (by first|omega|(simp only[List.length_append,List.length_nil,List.length_cons,List.length_take,List.length_replicate,List.length_set,aH,bL];omega)) (by first|omega|(simp only[List.length_append,List.length_nil,List.length_cons,List.length_take,List.length_replicate,List.length_set,aH,bL];omega)) (by first|omega|(simp only[List.length_append,List.length_nil,List.length_cons,List.length_take,List.length_replicate,List.length_set,aH,bL];omega)) (by first|omega|decide)).mono ?_
      rintro e w' ⟨rfl,hw'⟩
      refine⟨_,rfl,_,back _ _ hw',?_⟩
      refine lE lI ?_
      refine aG ?_
      refine aQ ?_
      refine dI rfl ?_
      refine cM ?_
      refine bD ?_
      refine aQ ?_
      refine aC ?_
      refine lE opl ?_
      refine lE bG ?_
      refine aG ?_
      refine bT ?_
      refine lO 1 ?_
      refine aO ?_
      refine aC ?_
      refine lE jI ?_
      refine aG ?_
      refine aQ ?_
      refine aO ?_
      refine dU rfl ?_
      refine cM ?_
      refine aQ ?_
      refine aO ?_
      refine aY ?_
      refine aO ?_
      refine aC ?_
      refine cW (v:= .pointer (some ⟨(bI (fa213 227)),24,none⟩)) rfl rfl rfl (jP (b:=(bI (fa213 227))) (o:=0) (k:=6) (len:=7) (cap:=7) rfl rfl sR (by decide)) ?_
      refine lE (dO 10) ?_
      refine fZ fun b220=> ?_
      refine kD rfl rfl (bS 0 fX.ok (b:=b220) (o:=0) (T:=32) (cs:= #[.slice none 0 0,.slice none 0 0,.slice none 0 0,.int .i64 (0)]) (cs':= #[.slice none 0 0,.slice none 0 0,.slice none 0 0,.int .i64 (9223372036854775807)]) (v:= .agg #[.slice none 0 0,.slice none 0 0,.slice none 0 0,.int .i64 (9223372036854775807)]) rfl rfl rfl rfl rfl rfl rfl) ?_
      refine aG ?_
      refine aQ ?_
      refine aO ?_
      refine aC ?_
      refine lE (dO 0) ?_
      refine bP rfl rfl rfl (cS (fst:=[]) (cap:=[]) (vs:=[.agg #[.slice none 0 0,.slice none 0 0,.slice none 0 0,.int .i64 (9223372036854775807)]]) (all:=[.agg #[.slice none 0 0,.slice none 0 0,.slice none 0 0,.int .i64 (9223372036854775807)]]) oF.ok rfl rfl rfl) ?_
      intro w hw
      obtain⟨β1,sb,kn,hw1,back⟩:=St.frame_all hw
      refine(gY β1 w hw1 [] [] [] (9223372036854775807:Int) _ _ _ (Sl.nil bE _) (Sl.nil bE _) (Sl.nil bE _) (by first|omega|(simp only[List.length_append,List.length_nil,List.length_cons,List.length_take,List.length_replicate,List.length_set,aH,bL];omega)) (by first|omega|(simp only[List.length_append,List.length_nil,List.length_cons,List.length_take,List.length_replicate,List.length_set,aH,bL];omega)) (by first|omega|(simp only[List.length_append,List.length_nil,List.length_cons,List.length_take,List.length_replicate,List.length_set,aH,bL];omega)) (by first|omega|decide)).mono ?_
      rintro e w' ⟨rfl,hw'⟩
      refine⟨_,rfl,_,back _ _ hw',?_⟩
      refine lE lI ?_
      refine aG ?_
      refine aQ ?_
      refine dI rfl ?_
      refine cM ?_
      refine bD ?_
      refine aQ ?_
      refine aC ?_
      refine lE opl ?_
      refine lE bG ?_
      refine aG ?_
      refine bT ?_
      refine lO 0 ?_
      refine aO ?_
      refine aC ?_
      refine lE jI ?_
      refine aG ?_
      refine aQ ?_
      refine aO ?_
      refine dI rfl ?_
      refine dZ ?_
      refine aU ?_
      refine aU ?_
      refine eA ?_
      refine aQ ?_
      refine aO ?_
      refine aC ?_
      refine bP rfl rfl rfl (cS (fst:=[]) (cap:=[]) (vs:=[]) (all:=[]) aLe.ok rfl rfl rfl) ?_
      intro w hw
      obtain⟨β1,sb,kn,hw1,back⟩:=St.frame_all hw
      refine(aCi β1 w hw1).mono ?_
      rintro e w' ⟨rfl,hw'⟩
      refine⟨_,rfl,_,back _ _ hw',?_⟩
      refine lE dQ ?_
      refine eQ rfl rfl rfl rfl rfl (cS (fst:=[]) (cap:=[]) (vs:=[]) (all:=[]) zL.ok rfl rfl rfl) ?_
      intro w hw
      obtain⟨β1,sb,kn,hw1,back⟩:=St.frame_all hw
      refine(nL β1 w hw1).mono ?_
      rintro e w' ⟨rfl,hw'⟩
      refine⟨_,rfl,_,back _ _ hw',?_⟩
      refine lE dY ?_
      refine lE eE ?_
      refine aG ?_
      refine aQ ?_
      refine bB ?_
      refine dS Try.results6 (v:= .bool true) rfl ?_
      intro w hw
      exact⟨rfl,aF [false,false,false,false,false,false,false,false,false,false,false,false] rfl hw⟩
end Go.Proofs
