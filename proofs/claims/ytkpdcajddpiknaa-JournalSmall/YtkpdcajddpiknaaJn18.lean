/-
 The reference's reading,walked. Printed by a program of my own.
-/
import Derived.Test.YtkpdcajddpiknaaJn17
set_option linter.all false
set_option maxHeartbeats 4000000
namespace Go.Proofs
open Go Go.Sl Go.Jn
instance aJb:CfC Try.prog 87:={}
instance sO:CfC Try.prog 30:={}
instance aJc:CfC Try.prog 88:={}
instance oE:CfC Try.prog 31:={}
instance aBl:ZerC Try.prog 54 (.agg #[.int .i64 (0),.int .i64 (0),.slice none 0 0,.slice none 0 0,.int .i64 (0)]):={}
instance tf140:CfC Try.prog 79:={}
theorem aBm:stB Try.prog 54 [(0,1),(1,1),(2,1),(3,1),(4,1)]=true:=by kernel_rfl
instance sP:TyC Try.prog 54 true 5:={}
instance tf143:CfC Try.prog 80:={}
instance tf144:FldC Try.prog 54 0 0 1 false:={}
instance aGa:CfC Try.prog 63:={}
instance aJd:CfC Try.prog 81:={}
instance tf147:FldC Try.prog 54 1 1 1 false:={}
instance tf148:FldC Try.prog 54 2 2 1 false:={}
instance tf149:FldC Try.prog 54 4 4 1 false:={}
instance tf150:FldC Try.prog 54 3 3 1 false:={}
theorem aCw(β:Base)(w:World)(hw:St β [] w)(xs:Bs)(v:Value)(h32:xs.length=0∨xs.length=32)(hs:Sl bE β.heap v xs):kH Try.prog 80 #[v] β w (Nx (aT xs)):=by
 obtain⟨va,vc,rfl,vl,vm,ve⟩:=hs.get
 refine enter (n:=58) Try.func80 rfl Try.ntmps80 rfl ?_ hw
 refine cC ?_
 refine lE bV ?_
 refine eJ ?_
 refine lE bV ?_
 refine aW ?_
 refine dX ?_
 refine aC ?_
 refine lE bV ?_
 refine aW ?_
 refine aY ?_
 refine dV (fun(k:Nat) f L=>(f 0=sB va xs (vc)∧f 3=Nx ((bX xs k).toNat)∧f 4=Nx (k))∧L=[]∧(k≤2∧(0<k→xs.length=32))) (fun k=>2-k) 0 ?_ ?_
 ·exact⟨⟨rfl,rfl,rfl⟩,rfl,⟨by omega,fun h=>by omega⟩⟩
 rintro k f0 L0 ⟨⟨hs0,hs3,hs4⟩,hL,⟨hk,hk0⟩⟩
 subst L0
 refine dG 0 hs0 ?_
 refine dG 3 hs3 ?_
 refine dG 4 hs4 ?_
 have hlt:=kQ xs k
 refine dX ?_
 refine aC ?_
 refine lE bG ?_
 refine lE jI ?_
 refine lE dQ ?_
 refine cD (s:=8) rfl (fun hg1=> ?_) (fun hg1=> ?_)
 ·refine gE cX ?_
  refine gE fC ?_
  refine gE dR ?_
  refine lE dY ?_
  refine aW ?_
  refine cK _ rfl (fun hc2=> ?_) (fun hc2=> ?_)
  ·refine eT ?_
   refine aO ?_
   refine aY ?_
   refine aO ?_
   have h32':xs.length=32:=by omega
   refine aC ?_
   refine lE cX ?_
   refine lE bG ?_
   refine lv (v:=Nx (16*k)) (iC (a:=(16:Int)) (b:=((k:Nat):Int)) rfl rfl (bU (by omega) (by omega))) ?_
   refine lE bG ?_
   refine lv (v:=Nx (16*k)) (iC (a:=(16:Int)) (b:=((k:Nat):Int)) rfl rfl (bU (by omega) (by omega))) ?_
   refine lv (v:=Nx ((16*k)+8)) (bJ rfl rfl (bU (by omega) (by omega))) ?_
   obtain⟨zs3,hz4⟩:∃zs,zs=((xs.take ((16*k)+8)).drop (16*k)):=⟨_,rfl⟩
   have zl5:zs3.length=min ((16*k)+8) (xs).length-(16*k):=by rw[hz4];simp;try omega
   have ze6:=(bO.drop (cap:=vc) (16*k) (by first|omega|(simp;omega)) (bO.take ((16*k)+8) ve))
   rw[←hz4]at ze6
   refine lv (v:= .slice (gL va vc (16*k) 1) (zs3.length) ((vc-(16*k)))) (fE (by rw[show zs3.length=((16*k)+8)-(16*k) by omega]) (fT (a:=va) (len:=xs.length) (cap:=vc) (l:=16*k) (h:=(16*k)+8) bQ rfl rfl rfl (by omega) (by omega))) ?_
   refine gW gU (fun w β1 sb kn hw1=>xG β1 w hw1 zs3 (by omega) _ (Sl.mono _ _ _ _ _ sb (⟨⟨_,_,rfl,by omega,by omega,ze6⟩⟩:Sl bE _ _ zs3))) ?_
   refine lE bV ?_
   refine aW ?_
   refine aO ?_
   by_cases hq:(1:Int)≤((aP zs3).toNat:Int)∧((aP zs3).toNat:Int)<(4611686018427387904:Int)∧((((aP zs3)%(2:UInt64)).toNat:Nat):Int)=((k:Nat):Int)
   ·obtain⟨hq1,hq2,hq3⟩:=hq
    obtain⟨zs7,hz8⟩:∃zs,zs=((xs.take ((16*k)+16)).drop (16*k)):=⟨_,rfl⟩
    have zl9:zs7.length=min ((16*k)+16) (xs).length-(16*k):=by rw[hz8];simp;try omega
    have ze10:=(bO.drop (cap:=vc) (16*k) (by first|omega|(simp;omega)) (bO.take ((16*k)+16) ve))
    rw[←hz8]at ze10
    by_cases hg7:zs7=(be 8 (U (((aP zs3).toNat:Nat):Int))++be 8 (bF (((aP zs3).toNat:Nat):Int)))
    ·refine rF [sv 23 (Ux (aP zs3)) [] [] [0],sv 24 (.bool true) [0] [0] [],sv 25 (.bool true) [0,1] [1] [],sv 26 (Ux (aP zs3)) [0,1,2] [2] [0],sv 27 (.bool true) [0,1,2,3] [3,2] [],sv 28 (.bool true) [0,1,2,3,4] [2,4] [],sv 29 (.bool true) (List.range 6) [5] [],sv 30 (Ux (aP zs3)) (List.range 7) [6] [0],sv 31 (Ux ((aP zs3)%(2:UInt64))) (List.range 8) [7,6] [],sv 32 (Nx (((aP zs3)%(2:UInt64)).toNat)) (List.range 9) [8,6] [],sv 33 (Nx (k)) (List.range 7) [6] [1],sv 34 (.bool true) (List.range 11) [9,10,6] [],sv 35 (.bool true) (List.range 12) [6,11] [],sv 36 (.bool true) (List.range 13) [12] [],sv 37 (sB va xs (vc)) (List.range 14) [13] [2],sv 38 (Nx (k)) (List.range 14) [13] [1],sv 39 (Nx (16*k)) [0,1,2,3,4,5,6,7,8,9,10,11,12,13,15] [15,13] [],sv 40 (Nx (k)) (List.range 14) [13] [1],sv 41 (Nx (16*k)) [0,1,2,3,4,5,6,7,8,9,10,11,12,13,17] [17,13] [],sv 42 (Nx ((16*k)+16)) [0,1,2,3,4,5,6,7,8,9,10,11,12,13,17,18] [18,13] [],sv 43 (sB (gL va vc (16*k) 1) zs7 ((vc-(16*k)))) (List.range 20) [14,16,19,13] [],sv 44 (Ux (aP zs3)) (List.range 14) [13] [0],sv 45 (Nx ((aP zs3).toNat)) [0,1,2,3,4,5,6,7,8,9,10,11,12,13,21] [21,13] [],⟨[0,1,2,3,4,5,6,7,8,9,10,11,12,13,21,22],[22,13],[],[46],fun f=>f 46=sB (aM (f 46)) (be 8 (U (((aP zs3).toNat:Nat):Int))++be 8 (bF (((aP zs3).toNat:Nat):Int))) (aN (f 46))⟩,sv 47 (.bool true) (List.range 24) [20,23,13] [],sv 48 (.bool true) (List.range 25) [13,24] [],sv 49 (.bool true) (List.range 26) [25] [],sv 50 (Ux (aP zs3)) (List.range 27) [26] [0],sv 51 (Nx ((aP zs3).toNat)) (List.range 28) [27,26] [],sv 52 (Nx ((bX xs k).toNat)) (List.range 27) [26] [3],sv 53 (.bool (decide ((((bX xs k).toNat:Nat):Int)<(((aP zs3).toNat:Nat):Int)))) (List.range 30) [28,29,26] [],sv 54 (.bool (decide ((((bX xs k).toNat:Nat):Int)<(((aP zs3).toNat:Nat):Int)))) (List.range 31) [26,30] []] [] [⟨(some 23),none,[24],[46],fun f=>rB (aM (f 46)) (be 8 (U (((aP zs3).toNat:Nat):Int))++be 8 (bF (((aP zs3).toNat:Nat):Int))) (aN (f 46))⟩] [(5,Ux (aP zs3)),(4,Nx (k)),(0,sB va xs (vc)),(3,Nx ((bX xs k).toNat))] [2,3,1,0] ⟨rfl,rfl,rfl,rfl,trivial⟩ ⟨?_,?_,?_,?_,?_,?_,?_,?_,?_,?_,?_,?_,?_,?_,?_,?_,?_,?_,?_,?_,?_,?_,?_,?_,?_,?_,?_,?_,?_,?_,?_,?_,trivial⟩ ?_
     ·rintro f M-⟨i0,-⟩
      exact bK bG
     ·rintro f M ⟨k0,-⟩-
      exact nA (aA (d:=23) rfl k0) rfl ((vG hq1 (aDz (a:=((aP zs3).toNat:Int)) (b:=(1:Int)) rfl rfl))) (.refl _)
     ·rintro f M ⟨k0,-⟩-
      exact bK dQ
     ·rintro f M ⟨k0,-⟩ ⟨i0,-⟩
      exact nG bG
     ·rintro f M ⟨k0,k1,-⟩-
      exact sX (L':=M) (v:= .bool true) (aA (d:=25) (aA (d:=26) rfl k0) k1) ((vG hq2 (aAv (a:=((aP zs3).toNat:Int)) (b:=(4611686018427387904:Int)) rfl rfl))) rfl rfl rfl rfl (.refl _) (by rfl)
     ·rintro f M ⟨k0,k1,-⟩-
      exact bK dY
     ·rintro f M ⟨k0,-⟩-
      exact bK dQ
     ·rintro f M ⟨k0,-⟩ ⟨i0,-⟩
      exact nG bG
     ·rintro f M ⟨k0,k1,-⟩-
      exact sX (L':=M) (v:=Ux ((aP zs3)%(2:UInt64))) (aA (d:=29) (aA (d:=30) rfl k0) k1) (gJ (a:=((aP zs3).toNat:Int)) (b:=((2:UInt64).toNat:Int)) rfl rfl (by decide) (uU _ _)) rfl rfl rfl rfl (.refl _) (by rfl)
     ·rintro f M ⟨k0,k1,-⟩-
      exact sX (L':=M) (v:=Nx (((aP zs3)%(2:UInt64)).toNat)) (aA (d:=29) (aA (d:=31) rfl k0) k1) (cZ (a:=(((aP zs3)%(2:UInt64)).toNat:Int)) rfl ⟨_,mN⟩ oD (bU rfl (by have h2:=aGm (aP zs3);omega))) rfl rfl rfl rfl (.refl _) (by rfl)
     ·rintro f M ⟨k0,-⟩ ⟨i0,-⟩
      exact nG bG
     ·rintro f M ⟨k0,k1,k2,-⟩-
      exact sX (L':=M) (v:= .bool true) (aA (d:=29) (aA (d:=33) (aA (d:=32) rfl k0) k1) k2) ((vG hq3 (sD (a:=((((aP zs3)%(2:UInt64)).toNat:Nat):Int)) (b:=((k:Nat):Int)) rfl rfl))) rfl rfl rfl rfl (.refl _) (by rfl)
     ·rintro f M ⟨k0,k1,-⟩-
      exact bK dY
     ·rintro f M ⟨k0,-⟩-
      exact bK dQ
     ·rintro f M ⟨k0,-⟩ ⟨i0,-⟩
      exact nG cX
     ·rintro f M ⟨k0,-⟩ ⟨i0,-⟩
      exact nG bG
     ·rintro f M ⟨k0,k1,-⟩-
      exact sX (L':=M) (v:=Nx (16*k)) (aA (d:=36) (aA (d:=38) rfl k0) k1) (iC (a:=(16:Int)) (b:=((k:Nat):Int)) rfl rfl (bU (by omega) (by omega))) rfl rfl rfl rfl (.refl _) (by rfl)
     ·rintro f M ⟨k0,-⟩ ⟨i0,-⟩
      exact nG bG
     ·rintro f M ⟨k0,k1,-⟩-
      exact sX (L':=M) (v:=Nx (16*k)) (aA (d:=36) (aA (d:=40) rfl k0) k1) (iC (a:=(16:Int)) (b:=((k:Nat):Int)) rfl rfl (bU (by omega) (by omega))) rfl rfl rfl rfl (.refl _) (by rfl)
     ·rintro f M ⟨k0,k1,-⟩-
      exact sX (L':=M) (v:=Nx ((16*k)+16)) (aA (d:=36) (aA (d:=41) rfl k0) k1) (bJ (a:=((16*k:Nat):Int)) (b:=(16:Int)) rfl rfl (bU (by omega) (by omega))) rfl rfl rfl rfl (.refl _) (by rfl)
     ·rintro f M ⟨k0,k1,k2,k3,-⟩-
      exact sX (L':=M) (v:= .slice (gL va vc (16*k) 1) (zs7.length) ((vc-(16*k)))) (aA (d:=36) (aA (d:=42) (aA (d:=39) (aA (d:=37) rfl k0) k1) k2) k3) (fE (by rw[show zs7.length=((16*k)+16)-(16*k) by omega]) (fT (a:=va) (len:=xs.length) (cap:=vc) (l:=16*k) (h:=(16*k)+16) bQ rfl rfl rfl (by omega) (by omega))) rfl rfl rfl rfl (.refl _) (by rfl)
     ·rintro f M ⟨k0,-⟩ ⟨i0,-⟩
      exact nG bG
     ·rintro f M ⟨k0,k1,-⟩-
      exact sX (L':=M) (v:=Nx ((aP zs3).toNat)) (aA (d:=36) (aA (d:=44) rfl k0) k1) (cZ (a:=((aP zs3).toNat:Int)) rfl ⟨_,mN⟩ oD (bU rfl (by omega))) rfl rfl rfl rfl (.refl _) (by rfl)
     ·rintro f M ⟨k0,k1,-⟩-
      refine fF (aA (d:=36) (aA (d:=45) rfl k0) k1) ?_
      refine eQ rfl rfl rfl rfl rfl (cY (vs:=[Nx ((aP zs3).toNat)]) sO.ok rfl rfl) ?_
      intro w hw
      obtain⟨β1,sb,kn,hw1,back⟩:=St.frame_all hw
      refine(qL β1 w hw1 (((aP zs3).toNat:Nat):Int)).mono ?_
      rintro e w' ⟨p10,c11,rfl,hw'⟩
      refine⟨_,rfl,_,back _ _ hw',?_⟩
      refine aG ?_
      exact aI (aA (d:=36) (aA (d:=45) rfl k0) k1) rfl (aB 0 rfl)
     ·rintro f M ⟨k0,k1,k2,-⟩-
      have hs46:f 46=sB (aM (f 46)) (be 8 (U (((aP zs3).toNat:Nat):Int))++be 8 (bF (((aP zs3).toNat:Nat):Int))) (aN (f 46)):=k1
      refine fF (aA (d:=36) (aA (aA (d:=43) rfl k0) hs46) k2) ?_
      refine eQ rfl rfl rfl rfl rfl (cY (vs:=[sB (gL va vc (16*k) 1) zs7 ((vc-(16*k))),sB (aM (f 46)) (be 8 (U (((aP zs3).toNat:Nat):Int))++be 8 (bF (((aP zs3).toNat:Nat):Int))) (aN (f 46))]) aJc.ok rfl rfl) ?_
      intro w hw
      obtain⟨β1,sb,kn,hw1,back⟩:=St.frame_all hw
      refine(uL β1 w hw1 zs7 (be 8 (U (((aP zs3).toNat:Nat):Int))++be 8 (bF (((aP zs3).toNat:Nat):Int))) _ _ (Sl.mono _ _ _ _ _ sb (⟨⟨_,_,rfl,by omega,by omega,ze10⟩⟩:Sl bE _ _ zs7)) (kU kn 0 rfl)).mono ?_
      rintro e w' ⟨rfl,hw'⟩
      refine⟨_,rfl,_,back _ _ hw',?_⟩
      refine aG ?_
      exact aI (aA (d:=36) (aA (aA (d:=43) rfl k0) hs46) k2) (congrArg Value.bool (decide_eq_true hg7)) (aB 0 rfl)
     ·rintro f M ⟨k0,k1,-⟩-
      exact bK dY
     ·rintro f M ⟨k0,-⟩-
      exact bK dQ
     ·rintro f M ⟨k0,-⟩ ⟨i0,-⟩
      exact nG bG
     ·rintro f M ⟨k0,k1,-⟩-
      exact sX (L':=M) (v:=Nx ((aP zs3).toNat)) (aA (d:=49) (aA (d:=50) rfl k0) k1) (cZ (a:=((aP zs3).toNat:Int)) rfl ⟨_,mN⟩ oD (bU rfl (by omega))) rfl rfl rfl rfl (.refl _) (by rfl)
     ·rintro f M ⟨k0,-⟩ ⟨i0,-⟩
      exact nG bG
     ·rintro f M ⟨k0,k1,k2,-⟩-
      exact nG qZ
     ·rintro f M ⟨k0,k1,-⟩-
      exact bK dY
     rintro fa12 ⟨-,-,-,-,-,-,-,-,-,-,-,-,-,-,-,-,-,-,-,-,-,-,-,-,-,-,-,-,-,-,-,k31,-⟩ ⟨j0,j1,j2,j3,-⟩
     refine rL ?_
     refine aJ (d:=0) j0 ?_
     refine aJ (d:=3) j1 ?_
     refine aJ (d:=4) j2 ?_
     refine aJ (d:=5) j3 ?_
     refine aJ (d:=54) k31 ?_
     refine aQ ?_
     refine cK _ rfl (fun hc13=> ?_) (fun hc13=> ?_)
     ·refine aC ?_
      refine lE bG ?_
      refine lv (v:=Nx ((aP zs3).toNat)) (cZ (a:=((aP zs3).toNat:Int)) rfl ⟨_,mN⟩ oD (bU rfl (by omega))) ?_
      refine lE bV ?_
      refine aG ?_
      refine bD ?_
      refine aQ ?_
      refine aC ?_
      refine lE bG ?_
      refine lv (v:=Nx (k+1)) (bJ rfl rfl (bU (by omega) (by omega))) ?_
      refine lE bV ?_
      refine aG ?_
      refine dL [false] rfl ?_
      exact bT ⟨k+1,⟨⟨rfl,(show Nx ((aP zs3).toNat)=Nx (bX xs (k+1)).toNat by subst hz4;subst hz8;exact congrArg (fun z:Nat=>Nx z) (aHe (by omega) (by omega) hq2 hq3 hg7 hc13).symm),rfl⟩,rfl,⟨by omega,fun _=>by omega⟩⟩,(show 2-(k+1)<2-k from by omega)⟩
     refine cM ?_
     refine bD ?_
     refine aQ ?_
     refine aC ?_
     refine lE bG ?_
     refine lv (v:=Nx (k+1)) (bJ rfl rfl (bU (by omega) (by omega))) ?_
     refine lE bV ?_
     refine aG ?_
     refine dL [false] rfl ?_
     exact bT ⟨k+1,⟨⟨rfl,(show Nx ((bX xs k).toNat)=Nx (bX xs (k+1)).toNat by subst hz4;subst hz8;exact congrArg (fun z:UInt64=>Nx z.toNat) (pZ (by omega) (by omega) (by rintro⟨a1,a2,a3,a4⟩;exact hc13 a4)).symm),rfl⟩,rfl,⟨by omega,fun _=>by omega⟩⟩,(show 2-(k+1)<2-k from by omega)⟩
    refine rF [sv 23 (Ux (aP zs3)) [] [] [0],sv 24 (.bool true) [0] [0] [],sv 25 (.bool true) [0,1] [1] [],sv 26 (Ux (aP zs3)) [0,1,2] [2] [0],sv 27 (.bool true) [0,1,2,3] [3,2] [],sv 28 (.bool true) [0,1,2,3,4] [2,4] [],sv 29 (.bool true) (List.range 6) [5] [],sv 30 (Ux (aP zs3)) (List.range 7) [6] [0],sv 31 (Ux ((aP zs3)%(2:UInt64))) (List.range 8) [7,6] [],sv 32 (Nx (((aP zs3)%(2:UInt64)).toNat)) (List.range 9) [8,6] [],sv 33 (Nx (k)) (List.range 7) [6] [1],sv 34 (.bool true) (List.range 11) [9,10,6] [],sv 35 (.bool true) (List.range 12) [6,11] [],sv 36 (.bool true) (List.range 13) [12] [],sv 37 (sB va xs (vc)) (List.range 14) [13] [2],sv 38 (Nx (k)) (List.range 14) [13] [1],sv 39 (Nx (16*k)) [0,1,2,3,4,5,6,7,8,9,10,11,12,13,15] [15,13] [],sv 40 (Nx (k)) (List.range 14) [13] [1],sv 41 (Nx (16*k)) [0,1,2,3,4,5,6,7,8,9,10,11,12,13,17] [17,13] [],sv 42 (Nx ((16*k)+16)) [0,1,2,3,4,5,6,7,8,9,10,11,12,13,17,18] [18,13] [],sv 43 (sB (gL va vc (16*k) 1) zs7 ((vc-(16*k)))) (List.range 20) [14,16,19,13] [],sv 44 (Ux (aP zs3)) (List.range 14) [13] [0],sv 45 (Nx ((aP zs3).toNat)) [0,1,2,3,4,5,6,7,8,9,10,11,12,13,21] [21,13] [],⟨[0,1,2,3,4,5,6,7,8,9,10,11,12,13,21,22],[22,13],[],[46],fun f=>f 46=sB (aM (f 46)) (be 8 (U (((aP zs3).toNat:Nat):Int))++be 8 (bF (((aP zs3).toNat:Nat):Int))) (aN (f 46))⟩,sv 47 (.bool false) (List.range 24) [20,23,13] [],sv 48 (.bool false) (List.range 25) [13,24] [],sv 49 (.bool false) (List.range 26) [25] [],sv 50 undef (List.range 27) [26] [0],sv 51 undef (List.range 28) [27,26] [],sv 52 undef (List.range 27) [26] [3],sv 53 undef (List.range 30) [28,29,26] [],sv 54 (.bool false) (List.range 31) [26,30] []] [] [⟨(some 23),none,[24],[46],fun f=>rB (aM (f 46)) (be 8 (U (((aP zs3).toNat:Nat):Int))++be 8 (bF (((aP zs3).toNat:Nat):Int))) (aN (f 46))⟩] [(5,Ux (aP zs3)),(4,Nx (k)),(0,sB va xs (vc)),(3,Nx ((bX xs k).toNat))] [2,3,1,0] ⟨rfl,rfl,rfl,rfl,trivial⟩ ⟨?_,?_,?_,?_,?_,?_,?_,?_,?_,?_,?_,?_,?_,?_,?_,?_,?_,?_,?_,?_,?_,?_,?_,?_,?_,?_,?_,?_,?_,?_,?_,?_,trivial⟩ ?_
    ·rintro f M-⟨i0,-⟩
     exact bK bG
    ·rintro f M ⟨k0,-⟩-
     exact nA (aA (d:=23) rfl k0) rfl ((vG hq1 (aDz (a:=((aP zs3).toNat:Int)) (b:=(1:Int)) rfl rfl))) (.refl _)
    ·rintro f M ⟨k0,-⟩-
     exact bK dQ
    ·rintro f M ⟨k0,-⟩ ⟨i0,-⟩
     exact nG bG
    ·rintro f M ⟨k0,k1,-⟩-
     exact sX (L':=M) (v:= .bool true) (aA (d:=25) (aA (d:=26) rfl k0) k1) ((vG hq2 (aAv (a:=((aP zs3).toNat:Int)) (b:=(4611686018427387904:Int)) rfl rfl))) rfl rfl rfl rfl (.refl _) (by rfl)
    ·rintro f M ⟨k0,k1,-⟩-
     exact bK dY
    ·rintro f M ⟨k0,-⟩-
     exact bK dQ
    ·rintro f M ⟨k0,-⟩ ⟨i0,-⟩
     exact nG bG
    ·rintro f M ⟨k0,k1,-⟩-
     exact sX (L':=M) (v:=Ux ((aP zs3)%(2:UInt64))) (aA (d:=29) (aA (d:=30) rfl k0) k1) (gJ (a:=((aP zs3).toNat:Int)) (b:=((2:UInt64).toNat:Int)) rfl rfl (by decide) (uU _ _)) rfl rfl rfl rfl (.refl _) (by rfl)
    ·rintro f M ⟨k0,k1,-⟩-
     exact sX (L':=M) (v:=Nx (((aP zs3)%(2:UInt64)).toNat)) (aA (d:=29) (aA (d:=31) rfl k0) k1) (cZ (a:=(((aP zs3)%(2:UInt64)).toNat:Int)) rfl ⟨_,mN⟩ oD (bU rfl (by have h2:=aGm (aP zs3);omega))) rfl rfl rfl rfl (.refl _) (by rfl)
    ·rintro f M ⟨k0,-⟩ ⟨i0,-⟩
     exact nG bG
    ·rintro f M ⟨k0,k1,k2,-⟩-
     exact sX (L':=M) (v:= .bool true) (aA (d:=29) (aA (d:=33) (aA (d:=32) rfl k0) k1) k2) ((vG hq3 (sD (a:=((((aP zs3)%(2:UInt64)).toNat:Nat):Int)) (b:=((k:Nat):Int)) rfl rfl))) rfl rfl rfl rfl (.refl _) (by rfl)
    ·rintro f M ⟨k0,k1,-⟩-
     exact bK dY
    ·rintro f M ⟨k0,-⟩-
     exact bK dQ
    ·rintro f M ⟨k0,-⟩ ⟨i0,-⟩
     exact nG cX
    ·rintro f M ⟨k0,-⟩ ⟨i0,-⟩
     exact nG bG
    ·rintro f M ⟨k0,k1,-⟩-
     exact sX (L':=M) (v:=Nx (16*k)) (aA (d:=36) (aA (d:=38) rfl k0) k1) (iC (a:=(16:Int)) (b:=((k:Nat):Int)) rfl rfl (bU (by omega) (by omega))) rfl rfl rfl rfl (.refl _) (by rfl)
    ·rintro f M ⟨k0,-⟩ ⟨i0,-⟩
     exact nG bG
    ·rintro f M ⟨k0,k1,-⟩-
     exact sX (L':=M) (v:=Nx (16*k)) (aA (d:=36) (aA (d:=40) rfl k0) k1) (iC (a:=(16:Int)) (b:=((k:Nat):Int)) rfl rfl (bU (by omega) (by omega))) rfl rfl rfl rfl (.refl _) (by rfl)
    ·rintro f M ⟨k0,k1,-⟩-
     exact sX (L':=M) (v:=Nx ((16*k)+16)) (aA (d:=36) (aA (d:=41) rfl k0) k1) (bJ (a:=((16*k:Nat):Int)) (b:=(16:Int)) rfl rfl (bU (by omega) (by omega))) rfl rfl rfl rfl (.refl _) (by rfl)
    ·rintro f M ⟨k0,k1,k2,k3,-⟩-
     exact sX (L':=M) (v:= .slice (gL va vc (16*k) 1) (zs7.length) ((vc-(16*k)))) (aA (d:=36) (aA (d:=42) (aA (d:=39) (aA (d:=37) rfl k0) k1) k2) k3) (fE (by rw[show zs7.length=((16*k)+16)-(16*k) by omega]) (fT (a:=va) (len:=xs.length) (cap:=vc) (l:=16*k) (h:=(16*k)+16) bQ rfl rfl rfl (by omega) (by omega))) rfl rfl rfl rfl (.refl _) (by rfl)
    ·rintro f M ⟨k0,-⟩ ⟨i0,-⟩
     exact nG bG
    ·rintro f M ⟨k0,k1,-⟩-
     exact sX (L':=M) (v:=Nx ((aP zs3).toNat)) (aA (d:=36) (aA (d:=44) rfl k0) k1) (cZ (a:=((aP zs3).toNat:Int)) rfl ⟨_,mN⟩ oD (bU rfl (by omega))) rfl rfl rfl rfl (.refl _) (by rfl)
    ·rintro f M ⟨k0,k1,-⟩-
     refine fF (aA (d:=36) (aA (d:=45) rfl k0) k1) ?_
     refine eQ rfl rfl rfl rfl rfl (cY (vs:=[Nx ((aP zs3).toNat)]) sO.ok rfl rfl) ?_
     intro w hw
     obtain⟨β1,sb,kn,hw1,back⟩:=St.frame_all hw
     refine(qL β1 w hw1 (((aP zs3).toNat:Nat):Int)).mono ?_
     rintro e w' ⟨p16,c17,rfl,hw'⟩
     refine⟨_,rfl,_,back _ _ hw',?_⟩
     refine aG ?_
     exact aI (aA (d:=36) (aA (d:=45) rfl k0) k1) rfl (aB 0 rfl)
    ·rintro f M ⟨k0,k1,k2,-⟩-
     have hs46:f 46=sB (aM (f 46)) (be 8 (U (((aP zs3).toNat:Nat):Int))++be 8 (bF (((aP zs3).toNat:Nat):Int))) (aN (f 46)):=k1
     refine fF (aA (d:=36) (aA (aA (d:=43) rfl k0) hs46) k2) ?_
     refine eQ rfl rfl rfl rfl rfl (cY (vs:=[sB (gL va vc (16*k) 1) zs7 ((vc-(16*k))),sB (aM (f 46)) (be 8 (U (((aP zs3).toNat:Nat):Int))++be 8 (bF (((aP zs3).toNat:Nat):Int))) (aN (f 46))]) aJc.ok rfl rfl) ?_
     intro w hw
     obtain⟨β1,sb,kn,hw1,back⟩:=St.frame_all hw
     refine(uL β1 w hw1 zs7 (be 8 (U (((aP zs3).toNat:Nat):Int))++be 8 (bF (((aP zs3).toNat:Nat):Int))) _ _ (Sl.mono _ _ _ _ _ sb (⟨⟨_,_,rfl,by omega,by omega,ze10⟩⟩:Sl bE _ _ zs7)) (kU kn 0 rfl)).mono ?_
     rintro e w' ⟨rfl,hw'⟩
     refine⟨_,rfl,_,back _ _ hw',?_⟩
     refine aG ?_
     exact aI (aA (d:=36) (aA (aA (d:=43) rfl k0) hs46) k2) (congrArg Value.bool (decide_eq_false hg7)) (aB 0 rfl)
    ·rintro f M ⟨k0,k1,-⟩-
     exact bK dY
    ·rintro f M ⟨k0,-⟩-
     exact bK dQ
    ·rintro f M ⟨k0,-⟩ ⟨i0,-⟩
     refine fF (aA (d:=49) (aA (d:=5) rfl i0) k0) ?_
     refine iU ?_
     refine aG ?_
     exact aI (aA (d:=49) (aA (d:=5) rfl i0) k0) rfl (List.Perm.refl _)
    ·rintro f M ⟨k0,k1,-⟩-
     refine fF (aA (d:=49) (aA (d:=50) rfl k0) k1) ?_
     refine iU ?_
     refine aG ?_
     exact aI (aA (d:=49) (aA (d:=50) rfl k0) k1) rfl (List.Perm.refl _)
    ·rintro f M ⟨k0,-⟩ ⟨i0,-⟩
     refine fF (aA (d:=49) (aA (d:=3) rfl i0) k0) ?_
     refine iU ?_
     refine aG ?_
     exact aI (aA (d:=49) (aA (d:=3) rfl i0) k0) rfl (List.Perm.refl _)
    ·rintro f M ⟨k0,k1,k2,-⟩-
     refine fF (aA (d:=49) (aA (d:=52) (aA (d:=51) rfl k0) k1) k2) ?_
     refine iU ?_
     refine aG ?_
     exact aI (aA (d:=49) (aA (d:=52) (aA (d:=51) rfl k0) k1) k2) rfl (List.Perm.refl _)
    ·rintro f M ⟨k0,k1,-⟩-
     exact bK cR
    rintro fa18 ⟨-,-,-,-,-,-,-,-,-,-,-,-,-,-,-,-,-,-,-,-,-,-,-,-,-,-,-,-,-,-,-,k31,-⟩ ⟨j0,j1,j2,j3,-⟩
    refine rL ?_
    refine aJ (d:=0) j0 ?_
    refine aJ (d:=3) j1 ?_
    refine aJ (d:=4) j2 ?_
    refine aJ (d:=5) j3 ?_
    refine aJ (d:=54) k31 ?_
    refine aQ ?_
    refine dI rfl ?_
    refine cM ?_
    refine bD ?_
    refine aQ ?_
    refine aC ?_
    refine lE bG ?_
    refine lv (v:=Nx (k+1)) (bJ rfl rfl (bU (by omega) (by omega))) ?_
    refine lE bV ?_
    refine aG ?_
    refine dL [false] rfl ?_
    exact bT ⟨k+1,⟨⟨rfl,(show Nx ((bX xs k).toNat)=Nx (bX xs (k+1)).toNat by subst hz4;subst hz8;exact congrArg (fun z:UInt64=>Nx z.toNat) (pZ (by omega) (by omega) (by rintro⟨a1,a2,a3,a4⟩;exact hg7 a3)).symm),rfl⟩,rfl,⟨by omega,fun _=>by omega⟩⟩,(show 2-(k+1)<2-k from by omega)⟩
   refine eF (by kernel_rfl) (by kernel_rfl) ?_
   refine qE bG ?_
   refine qE oge ?_
   refine qE dQ ?_
   refine mW (s:=25) rfl (fun hg19=> ?_) (fun hg19=> ?_)
   ·refine rE bG ?_
    refine rE jI ?_
    refine qE dY ?_
    refine qE dQ ?_
    refine mW (s:=29) rfl (fun hg20=> ?_) (fun hg20=> ?_)
    ·refine rE bG ?_
     refine jB (v:=Ux ((aP zs3)%(2:UInt64))) rfl rfl rfl rfl rfl (gJ (a:=((aP zs3).toNat:Int)) (b:=((2:UInt64).toNat:Int)) rfl rfl (by decide) (uU _ _)) ?_
     refine jB (v:=Nx (((aP zs3)%(2:UInt64)).toNat)) rfl rfl rfl rfl rfl (cZ (a:=(((aP zs3)%(2:UInt64)).toNat:Int)) rfl ⟨_,mN⟩ oD (bU rfl (by have h2:=aGm (aP zs3);omega))) ?_
     refine rE bG ?_
     refine rE dR ?_
     refine qE dY ?_
     refine qE dQ ?_
     refine mW (s:=36) rfl (fun h=> ?_) (fun h=> ?_)
     exact absurd h (fun h=>hq ⟨hg19,hg20,h⟩)
     iterate 11 refine qsE ?_
     refine qE cR ?_
     refine qE dQ ?_
     iterate 4 refine qsE ?_
     refine qE cR ?_
     refine fW ?_
     refine aQ ?_
     refine dI rfl ?_
     refine cM ?_
     refine bD ?_
     refine aQ ?_
     refine aC ?_
     refine lE bG ?_
     refine lv (v:=Nx (k+1)) (bJ rfl rfl (bU (by omega) (by omega))) ?_
     refine lE bV ?_
     refine aG ?_
     exact bT ⟨k+1,⟨⟨rfl,(show Nx ((bX xs k).toNat)=Nx (bX xs (k+1)).toNat by subst hz4;exact congrArg (fun z:UInt64=>Nx z.toNat) (pZ (by omega) (by omega) (by rintro⟨a1,a2,a3,a4⟩;exact hq ⟨by omega,a1,a2⟩)).symm),rfl⟩,rfl,⟨by omega,fun _=>by omega⟩⟩,(show 2-(k+1)<2-k from by omega)⟩
    iterate 5 refine qsE ?_
    refine qE cR ?_
    refine qE dQ ?_
    iterate 11 refine qsE ?_
    refine qE cR ?_
    refine qE dQ ?_
    iterate 4 refine qsE ?_
    refine qE cR ?_
    refine fW ?_
    refine aQ ?_
    refine dI rfl ?_
    refine cM ?_
    refine bD ?_
    refine aQ ?_
    refine aC ?_
    refine lE bG ?_
    refine lv (v:=Nx (k+1)) (bJ rfl rfl (bU (by omega) (by omega))) ?_
    refine lE bV ?_
    refine aG ?_
    exact bT ⟨k+1,⟨⟨rfl,(show Nx ((bX xs k).toNat)=Nx (bX xs (k+1)).toNat by subst hz4;exact congrArg (fun z:UInt64=>Nx z.toNat) (pZ (by omega) (by omega) (by rintro⟨a1,a2,a3,a4⟩;exact hq ⟨by omega,a1,a2⟩)).symm),rfl⟩,rfl,⟨by omega,fun _=>by omega⟩⟩,(show 2-(k+1)<2-k from by omega)⟩
   iterate 2 refine qsE ?_
   refine qE cR ?_
   refine qE dQ ?_
   iterate 5 refine qsE ?_
   refine qE cR ?_
   refine qE dQ ?_
   iterate 11 refine qsE ?_
   refine qE cR ?_
   refine qE dQ ?_
   iterate 4 refine qsE ?_
   refine qE cR ?_
   refine fW ?_
   refine aQ ?_
   refine dI rfl ?_
   refine cM ?_
   refine bD ?_
   refine aQ ?_
   refine aC ?_
   refine lE bG ?_
   refine lv (v:=Nx (k+1)) (bJ rfl rfl (bU (by omega) (by omega))) ?_
   refine lE bV ?_
   refine aG ?_
   exact bT ⟨k+1,⟨⟨rfl,(show Nx ((bX xs k).toNat)=Nx (bX xs (k+1)).toNat by subst hz4;exact congrArg (fun z:UInt64=>Nx z.toNat) (pZ (by omega) (by omega) (by rintro⟨a1,a2,a3,a4⟩;exact hq ⟨by omega,a1,a2⟩)).symm),rfl⟩,rfl,⟨by omega,fun _=>by omega⟩⟩,(show 2-(k+1)<2-k from by omega)⟩
  refine dZ ?_
  refine aU ?_
  refine aU ?_
  refine eA ?_
  refine qF ?_
  refine lE bG ?_
  refine lE bV ?_
  refine aW ?_
  refine bB ?_
  refine dS Try.results80 rfl ?_
  intro w hw
  exact⟨congrArg (fun z:Nat=>Ending.returned (Nx z)) (show(bX xs k).toNat=(bX xs (xs.length/16)).toNat by rw[show k=xs.length/16 by omega]),aF [] rfl hw⟩
 iterate 3 refine iU ?_
 refine lE cR ?_
 refine aW ?_
 refine dI rfl ?_
 refine dZ ?_
 refine aU ?_
 refine aU ?_
 refine eA ?_
 refine qF ?_
 refine lE bG ?_
 refine lE bV ?_
 refine aW ?_
 refine bB ?_
 refine dS Try.results80 rfl ?_
 intro w hw
 exact⟨congrArg (fun z:Nat=>Ending.returned (Nx z)) (show(bX xs k).toNat=(bX xs (xs.length/16)).toNat by rw[show k=xs.length/16 by omega]),aF [] rfl hw⟩
theorem xJ(β:Base)(w:World)(hw:St β [] w)(e:Int)(xs:Bs)(a:Option Addr)(c:Nat)(hx:xs.length≤1048576)(hl:xs.length≤c)(hm:c≤9223372036854775807)(he:bO bE β.heap a xs):kH Try.prog 81 #[Ix e,sB a xs c] β w (.tuple #[Nx (rNr xs),sB (pU a c xs) (pL xs) (pK c xs),.bool (fK e xs)]):=by
 refine enter (n:=50) Try.func81 rfl Try.ntmps81 rfl ?_ hw
 refine cC ?_
 refine lE bV ?_
 refine lE fR ?_
 refine lE eE ?_
 refine aW ?_
 refine dX ?_
 refine aC ?_
 refine lE cX ?_
 refine lE fC ?_
 refine lE jI ?_
 refine aW ?_
 refine cK _ rfl (fun hc1=> ?_) (fun hc1=> ?_)
 ·refine cC ?_
  refine lE bV ?_
  refine lE fR ?_
  refine lE eE ?_
  refine aW ?_
  refine bB ?_
  refine aK ?_
  refine uH (v:= .int .i64 (0)) (v':= .slice none 0 0) (v'':= .bool false) Try.results81 rfl rfl rfl ?_
  intro w hw
  exact⟨qO (by omega) (.inl hc1),aF [] rfl hw⟩
 refine eT ?_
 refine aO ?_
 refine eF (by kernel_rfl) (by kernel_rfl) ?_
 refine qE cX ?_
 obtain⟨zs2,hz3⟩:∃zs,zs=(xs.take 4):=⟨_,rfl⟩
 have zl4:zs2.length=min 4 (xs).length-0:=by rw[hz3];simp;try omega
 have ze5:=(bO.take 4 he)
 rw[←hz3]at ze5
 refine eV (v:= .slice a (zs2.length) (c)) rfl rfl rfl (fE (by rw[show zs2.length=4 by omega]) (dF (a:=a) (len:=xs.length) (cap:=c) (h:=4) bQ rfl rfl (by omega))) ?_
 refine iL (v:=Ux (aP zs2)) rfl rfl rfl (cY (vs:=[sB a zs2 (c)]) aJb.ok rfl rfl) (fun w hw=> ?_) ?_
 ·obtain⟨β1,sb,kn,hw1,back⟩:=St.frame_all hw
  exact(xG β1 w hw1 zs2 (by omega) _ (Sl.mono _ _ _ _ _ sb (⟨⟨_,_,rfl,by omega,by omega,ze5⟩⟩:Sl bE _ _ zs2))).mono (fun e w' ⟨he,hw'⟩=>⟨he,aF [] rfl (back _ _ hw')⟩)
 refine qE cX ?_
 obtain⟨zs6,hz7⟩:∃zs,zs=((xs.take 16).drop 8):=⟨_,rfl⟩
 have zl8:zs6.length=min 16 (xs).length-8:=by rw[hz7];simp;try omega
 have ze9:=(bO.drop (cap:=c) 8 (by first|omega|(simp;omega)) (bO.take 16 he))
 rw[←hz7]at ze9
 refine eV (v:= .slice (gL a c 8 1) (zs6.length) ((c-8))) rfl rfl rfl (fE (by rw[show zs6.length=16-8 by omega]) (fT (a:=a) (len:=xs.length) (cap:=c) (l:=8) (h:=16) bQ rfl rfl rfl (by omega) (by omega))) ?_
 refine iL (v:=Ux (aP zs6)) rfl rfl rfl (cY (vs:=[sB (gL a c 8 1) zs6 ((c-8))]) aJb.ok rfl rfl) (fun w hw=> ?_) ?_
 ·obtain⟨β1,sb,kn,hw1,back⟩:=St.frame_all hw
  exact(xG β1 w hw1 zs6 (by omega) _ (Sl.mono _ _ _ _ _ sb (⟨⟨_,_,rfl,by omega,by omega,ze9⟩⟩:Sl bE _ _ zs6))).mono (fun e w' ⟨he,hw'⟩=>⟨he,aF [] rfl (back _ _ hw')⟩)
 iterate 2 refine qE bV ?_
 refine fW ?_
 refine zT ?_
 refine cC ?_
 refine lE bG ?_
 refine lE qZ ?_
 refine lE dQ ?_
 refine cD (s:=21) rfl (fun hg10=> ?_) (fun hg10=> ?_)
 ·iterate 6 refine iU ?_
  refine lE dY ?_
  refine lE dQ ?_
  iterate 2 refine iU ?_
  refine lE dY ?_
  refine aW ?_
  refine dU rfl ?_
  refine cC ?_
  refine lE bV ?_
  refine lE fR ?_
  refine lE eE ?_
  refine aW ?_
  refine bB ?_
  refine aK ?_
  refine uH (v:= .int .i64 (0)) (v':= .slice none 0 0) (v'':= .bool false) Try.results81 rfl rfl rfl ?_
  intro w hw
  subst hz3
  subst hz7
  exact⟨qO (by omega) (.inr (.inl hg10)),aF [] rfl hw⟩
 refine gE cX ?_
 refine gE fC ?_
 refine fN (v:=Ux (U ((xs.length:Nat):Int))) rfl rfl rfl rfl rfl (cZ (a:=((xs.length:Nat):Int)) rfl ⟨_,oD⟩ mN (jM _)) ?_
 refine gE bG ?_
 refine fN (v:=Ux ((aP zs2)+(24:UInt64))) rfl rfl rfl rfl rfl (bJ rfl rfl (kM _ _)) ?_
 refine gE jI ?_
 refine lE cR ?_
 refine lE dQ ?_
 refine cD (s:=29) rfl (fun hg11=> ?_) (fun hg11=> ?_)
 ·iterate 2 refine iU ?_
  refine lE dY ?_
  refine aW ?_
  refine dU rfl ?_
  refine cC ?_
  refine lE bV ?_
  refine lE fR ?_
  refine lE eE ?_
  refine aW ?_
  refine bB ?_
  refine aK ?_
  refine uH (v:= .int .i64 (0)) (v':= .slice none 0 0) (v'':= .bool false) Try.results81 rfl rfl rfl ?_
  intro w hw
  subst hz3
  subst hz7
  exact⟨qO (by omega) (.inr (.inr (.inl hg11))),aF [] rfl hw⟩
 refine gE bG ?_
 refine gE qZ ?_
 refine lE cR ?_
 refine aW ?_
 refine cK _ rfl (fun hc12=> ?_) (fun hc12=> ?_)
 ·refine cC ?_
  refine lE bV ?_
  refine lE fR ?_
  refine lE eE ?_
  refine aW ?_
  refine bB ?_
  refine aK ?_
  refine uH (v:= .int .i64 (0)) (v':= .slice none 0 0) (v'':= .bool false) Try.results81 rfl rfl rfl ?_
  intro w hw
  subst hz3
  subst hz7
  exact⟨qO (by omega) (.inr (.inr (.inr hc12))),aF [] rfl hw⟩
 refine eT ?_
 refine aO ?_
 have h24:=aIh (s:=aP zs2) (by omega)
 have hUl:=fY (n:=xs.length) (by omega)
 refine aC ?_
 refine lE cX ?_
 refine lE bG ?_
 refine lv (v:=Ux ((16:UInt64)+(aP zs2))) (bJ rfl rfl (kM _ _)) ?_
 obtain⟨zs13,hz14⟩:∃zs,zs=((xs.take (16+((aP zs2)).toNat)).drop 16):=⟨_,rfl⟩
 have zl15:zs13.length=min (16+((aP zs2)).toNat) (xs).length-16:=by rw[hz14];simp;try omega
 have ze16:=(bO.drop (cap:=c) 16 (by first|omega|(simp;omega)) (bO.take (16+((aP zs2)).toNat) he))
 rw[←hz14]at ze16
 refine lv (v:= .slice (gL a c 16 1) (zs13.length) ((c-16))) (fE (by rw[show zs13.length=(16+((aP zs2)).toNat)-16 by omega]) (wQ (ki:= .i64) (kj:= .u64) (a:=a) (len:=xs.length) (cap:=c) (l:=16) (h:=16+((aP zs2)).toNat) bQ rfl rfl (show Ux ((16:UInt64)+(aP zs2))= .int .u64 (((16+((aP zs2)).toNat:Nat)):Int)from congrArg (Value.int .u64) (by rw[aMa (by omega)])) (by omega) (by omega))) ?_
 refine lE fR ?_
 refine aW ?_
 refine aO ?_
 obtain⟨zs17,hz18⟩:∃zs,zs=(xs.take (((aP zs2)).toNat+24)):=⟨_,rfl⟩
 have zl19:zs17.length=min (((aP zs2)).toNat+24) (xs).length-0:=by rw[hz18];simp;try omega
 have ze20:=(bO.take (((aP zs2)).toNat+24) he)
 rw[←hz18]at ze20
 refine rF [sv 37 (Ux (aP zs6)) [] [] [0],sv 38 (Nx ((aP zs6).toNat)) [0] [0] [],sv 39 (sB (gL a c 16 1) zs13 ((c-16))) [] [] [1],sv 40 (sB a xs (c)) [] [] [2],sv 41 (Ux (aP zs2)) [] [] [3],sv 42 (Ux ((aP zs2)+(24:UInt64))) [4] [4] [],sv 43 (sB a zs17 (c)) [3,4,5] [3,5] [],sv 44 (Ix (e)) [] [] [4],sv 45 (Ux (aP zs6)) [] [] [0],sv 46 (Nx ((aP zs6).toNat)) [8] [8] [],sv 47 (sB (gL a c 16 1) zs13 ((c-16))) [] [] [1],⟨[7,8,9,10],[7,9,10],[],[48],fun f=>f 48=sB (aM (f 48)) (aD (e) (((aP zs6).toNat:Nat):Int) zs13) (aN (f 48))⟩,sv 49 (.bool (decide (zs17=(aD (e) (((aP zs6).toNat:Nat):Int) zs13)))) [3,4,5,6,7,8,9,10,11] [6,11] [],sv 4 (Nx ((aP zs6).toNat)) [0,1,3,4,5,6,7,8,9,10,11,12] [1] [],sv 5 (sB (gL a c 16 1) zs13 ((c-16))) (List.range 14) [2] [],sv 6 (.bool (decide (zs17=(aD (e) (((aP zs6).toNat:Nat):Int) zs13)))) (List.range 15) [12] []] [] [⟨(some 11),none,[12],[48],fun f=>rB (aM (f 48)) (aD (e) (((aP zs6).toNat:Nat):Int) zs13) (aN (f 48))⟩] [(8,Ux (aP zs6)),(9,sB (gL a c 16 1) zs13 ((c-16))),(1,sB a xs (c)),(7,Ux (aP zs2)),(0,Ix (e))] [] ⟨rfl,rfl,rfl,rfl,rfl,trivial⟩ ⟨?_,?_,?_,?_,?_,?_,?_,?_,?_,?_,?_,?_,?_,?_,?_,?_,trivial⟩ ?_
 ·rintro f M-⟨i0,-⟩
  exact bK bG
 ·rintro f M ⟨k0,-⟩-
  exact nA (aA (d:=37) rfl k0) rfl (cZ (a:=((aP zs6).toNat:Int)) rfl ⟨_,mN⟩ oD (bU rfl (by omega))) (.refl _)
 ·rintro f M-⟨i0,-⟩
  exact bK cX
 ·rintro f M-⟨i0,-⟩
  exact bK cX
 ·rintro f M-⟨i0,-⟩
  exact bK bG
 ·rintro f M ⟨k0,-⟩-
  exact nA (aA (d:=41) rfl k0) rfl (bJ (a:=((aP zs2).toNat:Int)) (b:=((24:UInt64).toNat:Int)) rfl rfl (kM _ _)) (.refl _)
 ·rintro f M ⟨k0,k1,-⟩-
  exact nA (aA (d:=42) (aA (d:=40) rfl k0) k1) rfl (fE (by rw[show zs17.length=((aP zs2)).toNat+24 by omega]) (wP (ki:= .u64) (a:=a) (len:=xs.length) (cap:=c) (h:=((aP zs2)).toNat+24) bQ rfl (show Ux ((aP zs2)+(24:UInt64))= .int .u64 (((((aP zs2)).toNat+24:Nat)):Int)from congrArg (Value.int .u64) (by rw[aIh (by omega)])) (by omega))) (.refl _)
 ·rintro f M-⟨i0,-⟩
  exact bK bG
 ·rintro f M-⟨i0,-⟩
  exact bK bG
 ·rintro f M ⟨k0,-⟩-
  exact nA (aA (d:=45) rfl k0) rfl (cZ (a:=((aP zs6).toNat:Int)) rfl ⟨_,mN⟩ oD (bU rfl (by omega))) (.refl _)
 ·rintro f M-⟨i0,-⟩
  exact bK cX
 ·rintro f M ⟨k0,k1,k2,-⟩-
  refine fF (aA (d:=47) (aA (d:=46) (aA (d:=44) rfl k0) k1) k2) ?_
  refine jH (cY (vs:=[Ix (e),Nx ((aP zs6).toNat),sB (gL a c 16 1) zs13 ((c-16))]) oE.ok rfl rfl) rfl fun w β1 sb kn hw1 back=>(gZ β1 w hw1 (e) (((aP zs6).toNat:Nat):Int) zs13 _ (by omega) (Sl.mono _ _ _ _ _ sb (⟨⟨_,_,rfl,by omega,by omega,ze16⟩⟩:Sl bE _ _ zs13))).mono ?_
  rintro e w' ⟨p23,c24,rfl,hw'⟩
  refine⟨_,rfl,_,back _ _ hw',?_⟩
  refine aG ?_
  exact aI (aA (d:=47) (aA (d:=46) (aA (d:=44) rfl k0) k1) k2) rfl (aB 0 rfl)
 ·rintro f M ⟨k0,k1,-⟩-
  have hs48:f 48=sB (aM (f 48)) (aD (e) (((aP zs6).toNat:Nat):Int) zs13) (aN (f 48)):=k1
  refine fF (aA (aA (d:=43) rfl k0) hs48) ?_
  refine gW gU (fun w β1 sb kn hw1=>uL β1 w hw1 zs17 (aD (e) (((aP zs6).toNat:Nat):Int) zs13) _ _ (Sl.mono _ _ _ _ _ sb (⟨⟨_,_,rfl,by omega,by omega,ze20⟩⟩:Sl bE _ _ zs17)) (kU kn 0 rfl)) ?_
  refine aG ?_
  exact aI (aA (aA (d:=43) rfl k0) hs48) rfl (aB 0 rfl)
 ·rintro f M ⟨k0,-⟩-
  exact bK bV
 ·rintro f M ⟨k0,-⟩-
  exact bK fR
 ·rintro f M ⟨k0,-⟩-
  exact bK eE
 rintro fa25 ⟨-,-,-,-,-,-,-,-,-,-,-,-,-,k13,k14,k15,-⟩-
 refine rL ?_
 refine aJ (d:=4) k13 ?_
 refine aJ (d:=5) k14 ?_
 refine aJ (d:=6) k15 ?_
 refine ftr ?_
 refine uH (v:=Nx ((aP zs6).toNat)) (v':=sB (gL a c 16 1) zs13 ((c-16))) (v'':= .bool (decide (zs17=(aD (e) (((aP zs6).toNat:Nat):Int) zs13)))) Try.results81 rfl rfl rfl ?_
 intro w hw
 subst hz3
 subst hz7
 subst hz14
 subst hz18
 have hok:¬jJ xs:=by
  rintro(q|q|q|q)
  ·exact hc1 q
  ·exact hg10 q
  ·exact hg11 q
  ·exact hc12 q
 exact⟨aCu (by omega) hok,aF [false] rfl hw⟩
theorem rR(β:Base)(w:World)(hw:St β [] w)(e:Nat)(he:e%2=0)(k:KS)(vh va vb:Value)(hH:Sl bE β.heap vh k.head)(hA:Sl bE β.heap va k.a)(hB:Sl bE β.heap vb k.b):kH Try.prog 63 #[.agg #[vh,va,vb,Ix k.power],Nx e] β w va:=by
 refine(uC β w hw e k vh va vb hH hA hB).mono ?_
 rintro r w' ⟨rfl,hw'⟩
 exact⟨by rw[if_pos (by omega)],hw'⟩
theorem rS(β:Base)(w:World)(hw:St β [] w)(e:Nat)(he:e%2=1)(k:KS)(vh va vb:Value)(hH:Sl bE β.heap vh k.head)(hA:Sl bE β.heap va k.a)(hB:Sl bE β.heap vb k.b):kH Try.prog 63 #[.agg #[vh,va,vb,Ix k.power],Nx e] β w vb:=by
 refine(uC β w hw e k vh va vb hH hA hB).mono ?_
 rintro r w' ⟨rfl,hw'⟩
 exact⟨by rw[if_neg (by omega)],hw'⟩
theorem rT(β:Base)(w:World)(hw:St β [] w)(e:Nat)(k:KS)(vh va vb:Value)(hH:Sl bE β.heap vh k.head)(hA:Sl bE β.heap va k.a)(hB:Sl bE β.heap vb k.b):Calls Try.prog 63 #[.agg #[vh,va,vb,Ix k.power],Nx e] w fun r w'=>∃ar a c,k.area e=ar∧r= .returned (sB a ar c)∧(∀h,Sl bE h va k.a→Sl bE h vb k.b→Sl bE h (sB a ar c) ar)∧St β [] w':=by
 refine(uC β w hw e k vh va vb hH hA hB).mono ?_
 rintro r w' ⟨rfl,hw'⟩
 obtain⟨a,c,rfl,_⟩:=hA.get
 obtain⟨a',c',rfl,_⟩:=hB.get
 by_cases he:e%2=0
 ·exact⟨_,a,c,iP he,by rw[if_pos he],fun _ h _=>h,hw'⟩
 exact⟨_,a',c',jW (by omega),by rw[if_neg he],fun _ _ h=>h,hw'⟩
theorem uK(β:Base)(w:World)(hw:St β [] w)(k:KS)(vh va vb:Value)(hH:Sl bE β.heap vh k.head)(hA:Sl bE β.heap va k.a)(hB:Sl bE β.heap vb k.b):Calls Try.prog 59 #[.agg #[vh,va,vb,Ix k.power]] w fun r w'=>(r= .returned (.tuple #[.agg #[.int .i64 0,.int .i64 0,.slice none 0 0,.slice none 0 0,.int .i64 0],.int .i64 2])∧¬k.okP∧St β [] w')∨(r= .returned (.tuple #[.agg #[.int .i64 0,.int .i64 0,.slice none 0 0,.slice none 0 0,.int .i64 0],.int .i64 311])∧k.okP∧eW k=none∧St β [] w')∨
  (∃i,k.okP∧eW k=some i∧∃ps cs pr cr us,r= .returned (.tuple #[.agg #[Nx i.epoch,Nx i.next,sB ps i.state cs,sB pr i.recs cr,Nx i.size],.int .i64 0])∧(∀h,Sl bE h va k.a→Sl bE h vb k.b→Sl bE h (sB ps i.state cs) i.state∧tX us i.recs h)∧St β [row (sB pr i.recs cr) 30 1 i.recs.length us] w'):=by
 obtain⟨vha,vhc,rfl,vhl,vhm,vhe⟩:=hH.get
 obtain⟨vaa,vac,rfl,val,vam,vae⟩:=hA.get
 obtain⟨vba,vbc,rfl,vbl,vbm,vbe⟩:=hB.get
 refine enter (n:=87) Try.func59 rfl Try.ntmps59 rfl ?_ hw
 refine cC ?_
 refine pD fun b1=> ?_
 refine fZ fun b2=> ?_
 refine lE bV ?_
 refine aW ?_
 refine dX ?_
 refine aC ?_
 refine lE (dO 1) ?_
 refine gW gU (fun w β1 sb kn hw1=>aDa β1 w hw1 k _ _ _ (Sl.mono _ _ _ _ _ sb (⟨⟨_,_,rfl,vhl,vhm,vhe⟩⟩:Sl bE _ _ k.head)) (Sl.mono _ _ _ _ _ sb (⟨⟨_,_,rfl,val,vam,vae⟩⟩:Sl bE _ _ k.a)) (Sl.mono _ _ _ _ _ sb (⟨⟨_,_,rfl,vbl,vbm,vbe⟩⟩:Sl bE _ _ k.b))) ?_
 refine lE ond ?_
 refine aW ?_
 refine cK _ rfl (fun hc3=> ?_) (fun hc3=> ?_)
 ·refine cC ?_
  refine lv (v:= .agg #[.int .i64 (0),.int .i64 (0),.slice none 0 0,.slice none 0 0,.int .i64 (0)]) (dW aBl.ok aBm (vs:=[]) (cells:= #[.int .i64 (0),.int .i64 (0),.slice none 0 0,.slice none 0 0,.int .i64 (0)]) rfl rfl) ?_
  refine lu (mS 0 (#[.int .i64 (0),.int .i64 (0),.slice none 0 0,.slice none 0 0,.int .i64 (0)])) ?_
  refine lE bV ?_
  refine aW ?_
  refine bB ?_
  refine aK ?_
  refine fH (m:=[.agg #[.int .i64 (0),.int .i64 (0),.slice none 0 0,.slice none 0 0,.int .i64 (0)],.int .i64 (2)]) Try.results59 ⟨bY sP.ok rfl (dM 0 rfl rfl) rfl,cN (v:= .int .i64 (2)) rfl,trivial⟩ rfl ?_
  intro w hw
  exact .inl ⟨rfl,by simpa using hc3,aF [false,false] rfl hw⟩
 have hok:k.okP:=Decidable.not_not.1 hc3
 refine eT ?_
 refine aO ?_
 have h032:k.head.length=0∨k.head.length=32:=by unfold KS.okP at hok;omega
 have hhd:k.head.length≤32:=by unfold KS.okP at hok;omega
 refine aC ?_
 refine lE bM ?_
 refine lE (fA 1) ?_
 refine gW gU (fun w β1 sb kn hw1=>aCw β1 w hw1 k.head _ (by omega) (Sl.mono _ _ _ _ _ sb (⟨⟨_,_,rfl,vhl,vhm,vhe⟩⟩:Sl bE _ _ k.head))) ?_
 refine lv (v:= .agg #[Nx (aT k.head),.int .i64 (0),.slice none 0 0,.slice none 0 0,.int .i64 (0)]) (dW aBl.ok aBm (vs:=[(0,Nx (aT k.head))]) (cells:= #[Nx (aT k.head),.int .i64 (0),.slice none 0 0,.slice none 0 0,.int .i64 (0)]) rfl rfl) ?_
 refine fZ fun b4=> ?_
 refine lu (mS 0 (#[Nx (aT k.head),.int .i64 (0),.slice none 0 0,.slice none 0 0,.int .i64 (0)])) ?_
 refine eJ ?_
 refine lE (dO 2) ?_
 refine lE bM ?_
 refine lE (eU 0) ?_
 refine jH (cY (vs:=[.agg #[sB vha k.head (vhc),sB vaa k.a (vac),sB vba k.b (vbc),Ix (k.power)],Nx (aT k.head)]) aGa.ok rfl rfl) rfl fun w β1 sb kn hw1 back=>(rT β1 w hw1 (aT k.head) k _ _ _ (Sl.mono _ _ _ _ _ sb (⟨⟨_,_,rfl,vhl,vhm,vhe⟩⟩:Sl bE _ _ k.head)) (Sl.mono _ _ _ _ _ sb (⟨⟨_,_,rfl,val,vam,vae⟩⟩:Sl bE _ _ k.a)) (Sl.mono _ _ _ _ _ sb (⟨⟨_,_,rfl,vbl,vbm,vbe⟩⟩:Sl bE _ _ k.b))).mono ?_
 rintro e w' ⟨ar5,aa6,ac7,har8,rfl,has9,hw'⟩
 refine⟨_,rfl,_,back _ _ hw',?_⟩
 have har8L:=congrArg List.length har8
 obtain⟨_,has9l,has9m,has9e⟩:=(has9 _ (⟨⟨_,_,rfl,val,vam,vae⟩⟩:Sl bE _ _ k.a) (⟨⟨_,_,rfl,vbl,vbm,vbe⟩⟩:Sl bE _ _ k.b)).parts
 refine lE fR ?_
 refine aW ?_
 refine dX ?_
 have hl4:ar5.length≤262144:=by rw[←har8];unfold KS.okP at hok;exact kP (P:=fun z=>z.length≤262144) hok.2.1 hok.2.2.1 _
 refine aC ?_
 refine lE bM ?_
 refine lE (eU 0) ?_
 refine lE qZ ?_
 refine aW ?_
 refine cK _ rfl (fun hc10=> ?_) (fun hc10=> ?_)
 ·refine cC ?_
  refine lE bM ?_
  refine lE (eU 0) ?_
  refine lE cX ?_
  refine gW gU (fun w β1 sb kn hw1=>xJ β1 w hw1 ((aT k.head:Nat):Int) ar5 aa6 ac7 (by omega) (by omega) (by omega) (bO.mono _ _ _ _ _ sb has9e)) ?_
  refine lE iK ?_
  refine lE kK ?_
  refine lE oxs ?_
  refine lE xT ?_
  refine lE bV ?_
  refine lE fR ?_
  refine lE eE ?_
  refine aW ?_
  refine dX ?_
  refine aC ?_
  refine lE dQ ?_
  refine lE lI ?_
  refine aW ?_
  refine yD (!(fK ((aT k.head:Nat):Int) ar5)) rfl (fun hc11=> ?_) (fun hc11=> ?_)
  ·refine cC ?_
   refine lv (v:= .agg #[.int .i64 (0),.int .i64 (0),.slice none 0 0,.slice none 0 0,.int .i64 (0)]) (dW aBl.ok aBm (vs:=[]) (cells:= #[.int .i64 (0),.int .i64 (0),.slice none 0 0,.slice none 0 0,.int .i64 (0)]) rfl rfl) ?_
   refine lu (mS 1 (#[.int .i64 (0),.int .i64 (0),.slice none 0 0,.slice none 0 0,.int .i64 (0)])) ?_
   refine lE bV ?_
   refine aW ?_
   refine bB ?_
   refine aK ?_
   refine aK ?_
   refine fH (m:=[.agg #[.int .i64 (0),.int .i64 (0),.slice none 0 0,.slice none 0 0,.int .i64 (0)],.int .i64 (311)]) Try.results59 ⟨bY sP.ok rfl (dM 1 rfl rfl) rfl,cN (v:= .int .i64 (311)) rfl,trivial⟩ rfl ?_
   intro w hw
   exact .inr (.inl ⟨rfl,hok,vX har8 (by omega) (by simpa using hc11),aF [false,false,false] rfl hw⟩)
  refine eT ?_
  have hrb0:fK ((aT k.head:Nat):Int) ar5=true:=by simpa using hc11
  have hrl0:=kF hrb0
  have hsame0:=lF (xs:=ar5) (by omega) hrb0
  have hsl0:=congrArg List.length hsame0.2
  have hrN0:=lD (xs:=ar5)
  have hrP0:=jT (xs:=ar5)
  refine dG 6 (v:=Nx (eD ar5)) (congrArg (fun z:Nat=>Nx z) hsame0.1) ?_
  refine dG 7 (v:=sB (pU aa6 ac7 ar5) (aZ ar5) ((pK ac7 ar5))) (show(sB (pU aa6 ac7 ar5) (pL ar5) ((pK ac7 ar5)):Value)=_ by rw[hsame0.2]) ?_
  refine aC ?_
  refine lE bG ?_
  iterate 2 refine lE cX ?_
  refine lE fC ?_
  refine lv (v:=Nx (24+((aZ ar5).length))) (bJ rfl rfl (bU (by omega) (by omega))) ?_
  refine lE bM ?_
  refine lu (mS 0 (#[Nx (aT k.head),Nx (eD ar5),.slice none 0 0,.slice none 0 0,.int .i64 (0)])) ?_
  refine lE bM ?_
  refine lu (mS 0 (#[Nx (aT k.head),Nx (eD ar5),sB (pU aa6 ac7 ar5) (aZ ar5) ((pK ac7 ar5)),.slice none 0 0,.int .i64 (0)])) ?_
  refine lE bM ?_
  refine lu (mS 0 (#[Nx (aT k.head),Nx (eD ar5),sB (pU aa6 ac7 ar5) (aZ ar5) ((pK ac7 ar5)),.slice none 0 0,Nx (24+((aZ ar5).length))])) ?_
  refine aW ?_
  refine aY ?_
  refine iW (r:=row (.slice none 0 0) 30 1 0 []) (eS _ _ _) ?_
  refine dV (fun(x_:Nat×List Bs×List Value×Option Addr×Nat) f L=>match x_ with|(fu,rs,us,pr,cr)=>(f 2=pp b2 0∧f 4=pp b4 0∧f 5=sB aa6 ar5 (ac7))∧L=[row (sB pr rs cr) 30 1 ((rs).length) (us),pt b4 (.cells #[Nx (aT k.head),Nx ((eD ar5)+rs.length),sB (pU aa6 ac7 ar5) (aZ ar5) ((pK ac7 ar5)),sB pr rs cr,Nx ((24+(aZ ar5).length)+aR rs)] 54),pt b2 (.cells #[.int .i64 (0),.int .i64 (0),.slice none 0 0,.slice none 0 0,.int .i64 (0)] 54),pt b1 (.cells #[sB vha k.head (vhc),sB vaa k.a (vac),sB vba k.b (vbc),Ix (k.power)] 32)]∧(((ar5.drop ((24+(aZ ar5).length)+aR rs)).length<fu)∧(24+(aZ ar5).length)+aR rs≤ar5.length∧rs++gI ((aT k.head:Nat):Int) fu ((eD ar5)+rs.length) (ar5.drop ((24+(aZ ar5).length)+aR rs))=(fG (aT k.head) (eD ar5) (ar5.drop (24+(aZ ar5).length)))∧(∀h,bO bE h aa6 ar5→tX us rs h))) (fun(fu,rs,us,pr,cr)=>fu) (((ar5.drop (24+(aZ ar5).length)).length+1),[],[],none,0) ?_ ?_
  ·exact⟨⟨rfl,rfl,rfl⟩,(by show [row (.slice none 0 0) 30 1 (0) ([]),pt b4 (.cells #[Nx (aT k.head),Nx (eD ar5),sB (pU aa6 ac7 ar5) (aZ ar5) ((pK ac7 ar5)),.slice none 0 0,Nx (24+((aZ ar5).length))] 54),pt b2 (.cells #[.int .i64 (0),.int .i64 (0),.slice none 0 0,.slice none 0 0,.int .i64 (0)] 54),pt b1 (.cells #[sB vha k.head (vhc),sB vaa k.a (vac),sB vba k.b (vbc),Ix (k.power)] 32)]=_;simp only[sB,rB,aR,List.length_nil,Nat.add_zero,Nat.zero_add];try rfl),⟨by simp[aR],by simp only[sB,rB,aR];omega,by simp[aR,fG],fun h _=>wR h⟩⟩
  rintro⟨fu,rs,us,pr,cr⟩ f0 L0 ⟨⟨hs2,hs4,hs5⟩,hL,⟨hfu,hle,hrs,hin⟩⟩
  subst L0
  refine dG 2 hs2 ?_
  refine dG 4 hs4 ?_
  refine dG 5 hs5 ?_
  obtain⟨f,rfl⟩:∃f,fu=f+1:=⟨fu-1,by omega⟩
  have hsg:=qV rs
  refine aY ?_
  refine aO ?_
  refine eF (by kernel_rfl) (by kernel_rfl) ?_
  refine qE bM ?_
  refine qE (eU 1) ?_
  refine qE cX ?_
  refine qE bM ?_
  refine qE (eU 1) ?_
  obtain⟨zs12,hz13⟩:∃zs,zs=(ar5.drop ((24+(aZ ar5).length)+aR rs)):=⟨_,rfl⟩
  have zl14:zs12.length=(ar5).length-((24+(aZ ar5).length)+aR rs):=by rw[hz13];simp;try omega
  have ze15:=(bO.drop (cap:=ac7) ((24+(aZ ar5).length)+aR rs) (by first|omega|(simp;omega)) has9e)
  rw[←hz13]at ze15
  refine eV (v:= .slice (gL aa6 ac7 ((24+(aZ ar5).length)+aR rs) 1) (zs12.length) ((ac7-((24+(aZ ar5).length)+aR rs)))) rfl rfl rfl (fE (by rw[show zs12.length=ar5.length-((24+(aZ ar5).length)+aR rs) by omega]) (jQ (a:=aa6) (len:=ar5.length) (cap:=ac7) (l:=(24+(aZ ar5).length)+aR rs) bQ rfl rfl (by omega))) ?_
  refine iL (v:= .tuple #[Nx (rNr zs12),sB (pU (gL aa6 ac7 ((24+(aZ ar5).length)+aR rs) 1) (ac7-((24+(aZ ar5).length)+aR rs)) zs12) (pL zs12) ((pK (ac7-((24+(aZ ar5).length)+aR rs)) zs12)),.bool (fK ((aT k.head:Nat):Int) zs12)]) rfl rfl rfl (cY (vs:=[Nx (aT k.head),sB (gL aa6 ac7 ((24+(aZ ar5).length)+aR rs) 1) zs12 ((ac7-((24+(aZ ar5).length)+aR rs)))]) aJd.ok rfl rfl) (fun w hw=> ?_) ?_
  ·obtain⟨β1,sb,kn,hw1,back⟩:=St.frame_all hw
   exact(xJ β1 w hw1 ((aT k.head:Nat):Int) zs12 (gL aa6 ac7 ((24+(aZ ar5).length)+aR rs) 1) (ac7-((24+(aZ ar5).length)+aR rs)) (by omega) (by omega) (by omega) (bO.mono _ _ _ _ _ sb ze15)).mono (fun e w' ⟨he,hw'⟩=>⟨he,aF [true,true,true,true] rfl (back _ _ hw')⟩)
  refine qE iK ?_
  refine qE kK ?_
  refine qE oxs ?_
  refine qE xT ?_
  refine qE bV ?_
  refine qE fR ?_
  refine qE eE ?_
  refine fW ?_
  refine zT ?_
  refine aO ?_
  have hrN:=vQ (xs:=zs12)
  have hrP:=vT (xs:=zs12)
  refine aC ?_
  refine lE dQ ?_
  refine lE lI ?_
  refine lE dQ ?_
  refine qI (s:=59) (b:= !(fK ((aT k.head:Nat):Int) zs12)) rfl (fun hg16=> ?_) (fun hg16=> ?_)
  ·iterate 4 refine iU ?_
   refine lE dY ?_
   refine lE dQ ?_
   iterate 2 refine iU ?_
   refine lE dY ?_
   refine aW ?_
   refine dU rfl ?_
   refine cC ?_
   refine lE (dO 1) ?_
   refine lu (mS 2 (#[Nx (aT k.head),Nx ((eD ar5)+rs.length),sB (pU aa6 ac7 ar5) (aZ ar5) ((pK ac7 ar5)),sB pr rs cr,Nx ((24+(aZ ar5).length)+aR rs)])) ?_
   refine lE bV ?_
   refine aW ?_
   refine bB ?_
   refine aK ?_
   refine bH ?_
   refine aK ?_
   refine bH ?_
   refine fH (m:=[.agg #[Nx (aT k.head),Nx ((eD ar5)+rs.length),sB (pU aa6 ac7 ar5) (aZ ar5) ((pK ac7 ar5)),sB pr rs cr,Nx ((24+(aZ ar5).length)+aR rs)],.int .i64 (0)]) Try.results59 ⟨bY sP.ok rfl (dM 2 rfl rfl) rfl,cN (v:= .int .i64 (0)) rfl,trivial⟩ rfl ?_
   intro w hw
   have hend:=gM hrs (by rw[←hz13];rintro⟨q1,q2,q3⟩;simp[q1]at hg16)
   have hw2:=aF [true,false,false,false] rfl hw
   rw[hend]at hw2 hin⊢
   exact .inr (.inr ⟨_,hok,kT har8 (by omega) hrb0,_,_,_,_,us,rfl,fun h hA' hB'=>⟨(by have h7:=tI (c:=ac7) (xs:=ar5) (by omega) (by omega) (Sl.parts (has9 h hA' hB')).2.2.2;rw[hsame0.2]at h7;exact h7),hin h (Sl.parts (has9 h hA' hB')).2.2.2⟩,hw2⟩)
  refine gE bG ?_
  refine gE bM ?_
  refine gE (eU 1) ?_
  refine gE gO ?_
  refine lE cR ?_
  refine lE dQ ?_
  refine cD (s:=65) rfl (fun hg17=> ?_) (fun hg17=> ?_)
  ·iterate 2 refine iU ?_
   refine lE dY ?_
   refine aW ?_
   refine dU rfl ?_
   refine cC ?_
   refine lE (dO 1) ?_
   refine lu (mS 2 (#[Nx (aT k.head),Nx ((eD ar5)+rs.length),sB (pU aa6 ac7 ar5) (aZ ar5) ((pK ac7 ar5)),sB pr rs cr,Nx ((24+(aZ ar5).length)+aR rs)])) ?_
   refine lE bV ?_
   refine aW ?_
   refine bB ?_
   refine aK ?_
   refine bH ?_
   refine aK ?_
   refine bH ?_
   refine fH (m:=[.agg #[Nx (aT k.head),Nx ((eD ar5)+rs.length),sB (pU aa6 ac7 ar5) (aZ ar5) ((pK ac7 ar5)),sB pr rs cr,Nx ((24+(aZ ar5).length)+aR rs)],.int .i64 (0)]) Try.results59 ⟨bY sP.ok rfl (dM 2 rfl rfl) rfl,cN (v:= .int .i64 (0)) rfl,trivial⟩ rfl ?_
   intro w hw
   have hend:=gM hrs (by rw[←hz13];rintro⟨q1,q2,q3⟩;have hsame:=lF (xs:=zs12) (by omega) q1;omega)
   have hw2:=aF [true,false,false,false] rfl hw
   rw[hend]at hw2 hin⊢
   exact .inr (.inr ⟨_,hok,kT har8 (by omega) hrb0,_,_,_,_,us,rfl,fun h hA' hB'=>⟨(by have h7:=tI (c:=ac7) (xs:=ar5) (by omega) (by omega) (Sl.parts (has9 h hA' hB')).2.2.2;rw[hsame0.2]at h7;exact h7),hin h (Sl.parts (has9 h hA' hB')).2.2.2⟩,hw2⟩)
  refine gE bG ?_
  refine gE dR ?_
  refine lE cR ?_
  refine aW ?_
  refine cK _ rfl (fun hc18=> ?_) (fun hc18=> ?_)
  ·refine cC ?_
   refine lE (dO 1) ?_
   refine lu (mS 2 (#[Nx (aT k.head),Nx ((eD ar5)+rs.length),sB (pU aa6 ac7 ar5) (aZ ar5) ((pK ac7 ar5)),sB pr rs cr,Nx ((24+(aZ ar5).length)+aR rs)])) ?_
   refine lE bV ?_
   refine aW ?_
   refine bB ?_
   refine aK ?_
   refine bH ?_
   refine aK ?_
   refine bH ?_
   refine fH (m:=[.agg #[Nx (aT k.head),Nx ((eD ar5)+rs.length),sB (pU aa6 ac7 ar5) (aZ ar5) ((pK ac7 ar5)),sB pr rs cr,Nx ((24+(aZ ar5).length)+aR rs)],.int .i64 (0)]) Try.results59 ⟨bY sP.ok rfl (dM 2 rfl rfl) rfl,cN (v:= .int .i64 (0)) rfl,trivial⟩ rfl ?_
   intro w hw
   have hend:=gM hrs (by rw[←hz13];rintro⟨q1,q2,q3⟩;have hsame:=lF (xs:=zs12) (by omega) q1;omega)
   have hw2:=aF [true,false,false,false] rfl hw
   rw[hend]at hw2 hin⊢
   exact .inr (.inr ⟨_,hok,kT har8 (by omega) hrb0,_,_,_,_,us,rfl,fun h hA' hB'=>⟨(by have h7:=tI (c:=ac7) (xs:=ar5) (by omega) (by omega) (Sl.parts (has9 h hA' hB')).2.2.2;rw[hsame0.2]at h7;exact h7),hin h (Sl.parts (has9 h hA' hB')).2.2.2⟩,hw2⟩)
  refine eT ?_
  refine aO ?_
  have hrb:fK ((aT k.head:Nat):Int) zs12=true:=by simpa using hg16
  have hsame:=lF (xs:=zs12) (by omega) hrb
  have hrl:=kF hrb
  have hsl:=congrArg List.length hsame.2
  refine aC ?_
  refine lE bM ?_
  refine lE (fA 1) ?_
  refine lE cX ?_
  refine cF rfl rfl rfl (cO mY aAp.ok (cells:= #[sB (pU (gL aa6 ac7 ((24+(aZ ar5).length)+aR rs) 1) (ac7-((24+(aZ ar5).length)+aR rs)) zs12) (pL zs12) ((pK (ac7-((24+(aZ ar5).length)+aR rs)) zs12))]) rfl rfl rfl rfl) ?_
  rintro _ _ ⟨b19,rfl,rfl⟩
  refine cF rfl rfl rfl (jR 1 mY zP (v:=sB pr rs cr) (m:=(rs).length) (vs:=us) (ao:=some ⟨b19,0,none⟩) (k:=1) (c:=1) (news:=[sB (pU (gL aa6 ac7 ((24+(aZ ar5).length)+aR rs) 1) (ac7-((24+(aZ ar5).length)+aR rs)) zs12) (pL zs12) ((pK (ac7-((24+(aZ ar5).length)+aR rs)) zs12))]) rfl rfl rfl rfl (dM 0 rfl rfl) rfl (fun _=>rfl) (by unfold maxLen;omega) (by omega)) ?_
  rintro _ _ ⟨rp20,rc21,rfl,rfl⟩
  refine lE bM ?_
  refine lu (mS 2 (#[Nx (aT k.head),Nx ((eD ar5)+rs.length),sB (pU aa6 ac7 ar5) (aZ ar5) ((pK ac7 ar5)),.slice rp20 (((rs).length)+1) rc21,Nx ((24+(aZ ar5).length)+aR rs)])) ?_
  refine eJ ?_
  refine lE bM ?_
  refine lE (eU 2) ?_
  refine lv (v:=Nx (((24+(aZ ar5).length)+aR rs)+24)) (bJ rfl rfl (bU (by omega) (by omega))) ?_
  refine lE cX ?_
  refine lE fC ?_
  refine lv (v:=Nx ((((24+(aZ ar5).length)+aR rs)+24)+((pL zs12).length))) (bJ rfl rfl (bU (by omega) (by omega))) ?_
  refine lE bM ?_
  refine lu (mS 2 (#[Nx (aT k.head),Nx ((eD ar5)+rs.length),sB (pU aa6 ac7 ar5) (aZ ar5) ((pK ac7 ar5)),.slice rp20 (((rs).length)+1) rc21,Nx ((((24+(aZ ar5).length)+aR rs)+24)+((pL zs12).length))])) ?_
  refine lnr ?_
  refine lE bM ?_
  refine lE (eU 2) ?_
  refine lv (v:=Nx (((eD ar5)+rs.length)+1)) (bJ rfl rfl (bU (by omega) (by omega))) ?_
  refine lE bM ?_
  refine lu (mS 2 (#[Nx (aT k.head),Nx (((eD ar5)+rs.length)+1),sB (pU aa6 ac7 ar5) (aZ ar5) ((pK ac7 ar5)),.slice rp20 (((rs).length)+1) rc21,Nx ((((24+(aZ ar5).length)+aR rs)+24)+((pL zs12).length))])) ?_
  refine aG ?_
  refine bD ?_
  have hnx:=oT hfu hle hrs (by rw[←hz13];exact hrb) (by rw[←hz13];omega) (by omega) (by rw[←hz13];omega)
  have hsn:=aBc (c:=ac7) (s:=(24+(aZ ar5).length)+aR rs) hin (by omega) (by omega)
  rw[←hz13]at hnx hsn
  rw[←hsame.2]at hnx
  replace hnx:=And.intro hnx.1 (And.intro hnx.2.1 (And.intro hnx.2.2 hsn))
  refine dL [false,true,true,true,true] rfl ?_
  exact bT ⟨(f,(rs++[pL zs12]),(us++[sB (pU (gL aa6 ac7 ((24+(aZ ar5).length)+aR rs) 1) (ac7-((24+(aZ ar5).length)+aR rs)) zs12) (pL zs12) ((pK (ac7-((24+(aZ ar5).length)+aR rs)) zs12))]),rp20,rc21),⟨⟨rfl,rfl,rfl⟩,(by simp only[sB,rB,lH,List.length_append,List.length_cons,List.length_nil,Nat.add_assoc];try rfl),hnx⟩,(show f<f+1 from Nat.lt_succ_self f)⟩
 refine eT ?_
 refine aY ?_
 refine iW (r:=row (.slice none 0 0) 30 1 0 []) (eS _ _ _) ?_
 refine dV (fun(x_:Nat×List Bs×List Value×Option Addr×Nat) f L=>match x_ with|(fu,rs,us,pr,cr)=>(f 2=pp b2 0∧f 4=pp b4 0∧f 5=sB aa6 ar5 (ac7))∧L=[row (sB pr rs cr) 30 1 ((rs).length) (us),pt b4 (.cells #[Nx (aT k.head),Nx (0+rs.length),.slice none 0 0,sB pr rs cr,Nx (0+aR rs)] 54),pt b2 (.cells #[.int .i64 (0),.int .i64 (0),.slice none 0 0,.slice none 0 0,.int .i64 (0)] 54),pt b1 (.cells #[sB vha k.head (vhc),sB vaa k.a (vac),sB vba k.b (vbc),Ix (k.power)] 32)]∧(((ar5.drop (0+aR rs)).length<fu)∧0+aR rs≤ar5.length∧rs++gI ((aT k.head:Nat):Int) fu (0+rs.length) (ar5.drop (0+aR rs))=(fG (aT k.head) 0 (ar5.drop 0))∧(∀h,bO bE h aa6 ar5→tX us rs h))) (fun(fu,rs,us,pr,cr)=>fu) (((ar5.drop 0).length+1),[],[],none,0) ?_ ?_
 ·exact⟨⟨rfl,rfl,rfl⟩,(by show [row (.slice none 0 0) 30 1 (0) ([]),pt b4 (.cells #[Nx (aT k.head),.int .i64 (0),.slice none 0 0,.slice none 0 0,.int .i64 (0)] 54),pt b2 (.cells #[.int .i64 (0),.int .i64 (0),.slice none 0 0,.slice none 0 0,.int .i64 (0)] 54),pt b1 (.cells #[sB vha k.head (vhc),sB vaa k.a (vac),sB vba k.b (vbc),Ix (k.power)] 32)]=_;simp only[sB,rB,aR,List.length_nil,Nat.add_zero,Nat.zero_add];try rfl),⟨by simp[aR],by simp only[sB,rB,aR];omega,by simp[aR,fG],fun h _=>wR h⟩⟩
 rintro⟨fu,rs,us,pr,cr⟩ f0 L0 ⟨⟨hs2,hs4,hs5⟩,hL,⟨hfu,hle,hrs,hin⟩⟩
 subst L0
 refine dG 2 hs2 ?_
 refine dG 4 hs4 ?_
 refine dG 5 hs5 ?_
 obtain⟨f,rfl⟩:∃f,fu=f+1:=⟨fu-1,by omega⟩
 have hsg:=qV rs
 refine aY ?_
 refine aO ?_
 refine eF (by kernel_rfl) (by kernel_rfl) ?_
 refine qE bM ?_
 refine qE (eU 1) ?_
 refine qE cX ?_
 refine qE bM ?_
 refine qE (eU 1) ?_
 obtain⟨zs22,hz23⟩:∃zs,zs=(ar5.drop (0+aR rs)):=⟨_,rfl⟩
 have zl24:zs22.length=(ar5).length-(0+aR rs):=by rw[hz23];simp;try omega
 have ze25:=(bO.drop (cap:=ac7) (0+aR rs) (by first|omega|(simp;omega)) has9e)
 rw[←hz23]at ze25
 refine eV (v:= .slice (gL aa6 ac7 (0+aR rs) 1) (zs22.length) ((ac7-(0+aR rs)))) rfl rfl rfl (fE (by rw[show zs22.length=ar5.length-(0+aR rs) by omega]) (jQ (a:=aa6) (len:=ar5.length) (cap:=ac7) (l:=0+aR rs) bQ rfl rfl (by omega))) ?_
 refine iL (v:= .tuple #[Nx (rNr zs22),sB (pU (gL aa6 ac7 (0+aR rs) 1) (ac7-(0+aR rs)) zs22) (pL zs22) ((pK (ac7-(0+aR rs)) zs22)),.bool (fK ((aT k.head:Nat):Int) zs22)]) rfl rfl rfl (cY (vs:=[Nx (aT k.head),sB (gL aa6 ac7 (0+aR rs) 1) zs22 ((ac7-(0+aR rs)))]) aJd.ok rfl rfl) (fun w hw=> ?_) ?_
 ·obtain⟨β1,sb,kn,hw1,back⟩:=St.frame_all hw
  exact(xJ β1 w hw1 ((aT k.head:Nat):Int) zs22 (gL aa6 ac7 (0+aR rs) 1) (ac7-(0+aR rs)) (by omega) (by omega) (by omega) (bO.mono _ _ _ _ _ sb ze25)).mono (fun e w' ⟨he,hw'⟩=>⟨he,aF [true,true,true,true] rfl (back _ _ hw')⟩)
 refine qE iK ?_
 refine qE kK ?_
 refine qE oxs ?_
 refine qE xT ?_
 refine qE bV ?_
 refine qE fR ?_
 refine qE eE ?_
 refine fW ?_
 refine zT ?_
 refine aO ?_
 have hrN:=vQ (xs:=zs22)
 have hrP:=vT (xs:=zs22)
 refine aC ?_
 refine lE dQ ?_
 refine lE lI ?_
 refine lE dQ ?_
 refine qI (s:=59) (b:= !(fK ((aT k.head:Nat):Int) zs22)) rfl (fun hg26=> ?_) (fun hg26=> ?_)
 ·iterate 4 refine iU ?_
  refine lE dY ?_
  refine lE dQ ?_
  iterate 2 refine iU ?_
  refine lE dY ?_
  refine aW ?_
  refine dU rfl ?_
  refine cC ?_
  refine lE (dO 1) ?_
  refine lu (mS 2 (#[Nx (aT k.head),Nx (0+rs.length),.slice none 0 0,sB pr rs cr,Nx (0+aR rs)])) ?_
  refine lE bV ?_
  refine aW ?_
  refine bB ?_
  refine aK ?_
  refine bH ?_
  refine aK ?_
  refine bH ?_
  refine fH (m:=[.agg #[Nx (aT k.head),Nx (0+rs.length),.slice none 0 0,sB pr rs cr,Nx (0+aR rs)],.int .i64 (0)]) Try.results59 ⟨bY sP.ok rfl (dM 2 rfl rfl) rfl,cN (v:= .int .i64 (0)) rfl,trivial⟩ rfl ?_
  intro w hw
  have hend:=gM hrs (by rw[←hz23];rintro⟨q1,q2,q3⟩;simp[q1]at hg26)
  have hw2:=aF [true,false,false,false] rfl hw
  rw[hend]at hw2 hin⊢
  exact .inr (.inr ⟨_,hok,kV har8 (by omega),none,0,_,_,us,(by rw[show aT k.head=0 by omega];simp only[Nat.zero_add,Nat.add_zero];rfl),fun h hA' hB'=>⟨Sl.nil bE h,by have h9:=hin h (Sl.parts (has9 h hA' hB')).2.2.2;rw[show aT k.head=0 by omega]at h9;exact h9⟩,by rw[show aT k.head=0 by omega]at hw2;exact hw2⟩)
 refine gE bG ?_
 refine gE bM ?_
 refine gE (eU 1) ?_
 refine gE gO ?_
 refine lE cR ?_
 refine lE dQ ?_
 refine cD (s:=65) rfl (fun hg27=> ?_) (fun hg27=> ?_)
 ·iterate 2 refine iU ?_
  refine lE dY ?_
  refine aW ?_
  refine dU rfl ?_
  refine cC ?_
  refine lE (dO 1) ?_
  refine lu (mS 2 (#[Nx (aT k.head),Nx (0+rs.length),.slice none 0 0,sB pr rs cr,Nx (0+aR rs)])) ?_
  refine lE bV ?_
  refine aW ?_
  refine bB ?_
  refine aK ?_
  refine bH ?_
  refine aK ?_
  refine bH ?_
  refine fH (m:=[.agg #[Nx (aT k.head),Nx (0+rs.length),.slice none 0 0,sB pr rs cr,Nx (0+aR rs)],.int .i64 (0)]) Try.results59 ⟨bY sP.ok rfl (dM 2 rfl rfl) rfl,cN (v:= .int .i64 (0)) rfl,trivial⟩ rfl ?_
  intro w hw
  have hend:=gM hrs (by rw[←hz23];rintro⟨q1,q2,q3⟩;have hsame:=lF (xs:=zs22) (by omega) q1;omega)
  have hw2:=aF [true,false,false,false] rfl hw
  rw[hend]at hw2 hin⊢
  exact .inr (.inr ⟨_,hok,kV har8 (by omega),none,0,_,_,us,(by rw[show aT k.head=0 by omega];simp only[Nat.zero_add,Nat.add_zero];rfl),fun h hA' hB'=>⟨Sl.nil bE h,by have h9:=hin h (Sl.parts (has9 h hA' hB')).2.2.2;rw[show aT k.head=0 by omega]at h9;exact h9⟩,by rw[show aT k.head=0 by omega]at hw2;exact hw2⟩)
 refine gE bG ?_
 refine gE dR ?_
 refine lE cR ?_
 refine aW ?_
 refine cK _ rfl (fun hc28=> ?_) (fun hc28=> ?_)
 ·refine cC ?_
  refine lE (dO 1) ?_
  refine lu (mS 2 (#[Nx (aT k.head),Nx (0+rs.length),.slice none 0 0,sB pr rs cr,Nx (0+aR rs)])) ?_
  refine lE bV ?_
  refine aW ?_
  refine bB ?_
  refine aK ?_
  refine bH ?_
  refine aK ?_
  refine bH ?_
  refine fH (m:=[.agg #[Nx (aT k.head),Nx (0+rs.length),.slice none 0 0,sB pr rs cr,Nx (0+aR rs)],.int .i64 (0)]) Try.results59 ⟨bY sP.ok rfl (dM 2 rfl rfl) rfl,cN (v:= .int .i64 (0)) rfl,trivial⟩ rfl ?_
  intro w hw
  have hend:=gM hrs (by rw[←hz23];rintro⟨q1,q2,q3⟩;have hsame:=lF (xs:=zs22) (by omega) q1;omega)
  have hw2:=aF [true,false,false,false] rfl hw
  rw[hend]at hw2 hin⊢
  exact .inr (.inr ⟨_,hok,kV har8 (by omega),none,0,_,_,us,(by rw[show aT k.head=0 by omega];simp only[Nat.zero_add,Nat.add_zero];rfl),fun h hA' hB'=>⟨Sl.nil bE h,by have h9:=hin h (Sl.parts (has9 h hA' hB')).2.2.2;rw[show aT k.head=0 by omega]at h9;exact h9⟩,by rw[show aT k.head=0 by omega]at hw2;exact hw2⟩)
 refine eT ?_
 refine aO ?_
 have hrb:fK ((aT k.head:Nat):Int) zs22=true:=by simpa using hg26
 have hsame:=lF (xs:=zs22) (by omega) hrb
 have hrl:=kF hrb
 have hsl:=congrArg List.length hsame.2
 refine aC ?_
 refine lE bM ?_
 refine lE (fA 1) ?_
 refine lE cX ?_
 refine cF rfl rfl rfl (cO mY aAp.ok (cells:= #[sB (pU (gL aa6 ac7 (0+aR rs) 1) (ac7-(0+aR rs)) zs22) (pL zs22) ((pK (ac7-(0+aR rs)) zs22))]) rfl rfl rfl rfl) ?_
 rintro _ _ ⟨b29,rfl,rfl⟩
 refine cF rfl rfl rfl (jR 1 mY zP (v:=sB pr rs cr) (m:=(rs).length) (vs:=us) (ao:=some ⟨b29,0,none⟩) (k:=1) (c:=1) (news:=[sB (pU (gL aa6 ac7 (0+aR rs) 1) (ac7-(0+aR rs)) zs22) (pL zs22) ((pK (ac7-(0+aR rs)) zs22))]) rfl rfl rfl rfl (dM 0 rfl rfl) rfl (fun _=>rfl) (by unfold maxLen;omega) (by omega)) ?_
 rintro _ _ ⟨rp30,rc31,rfl,rfl⟩
 refine lE bM ?_
 refine lu (mS 2 (#[Nx (aT k.head),Nx (0+rs.length),.slice none 0 0,.slice rp30 (((rs).length)+1) rc31,Nx (0+aR rs)])) ?_
 refine eJ ?_
 refine lE bM ?_
 refine lE (eU 2) ?_
 refine lv (v:=Nx ((0+aR rs)+24)) (bJ rfl rfl (bU (by omega) (by omega))) ?_
 refine lE cX ?_
 refine lE fC ?_
 refine lv (v:=Nx (((0+aR rs)+24)+((pL zs22).length))) (bJ rfl rfl (bU (by omega) (by omega))) ?_
 refine lE bM ?_
 refine lu (mS 2 (#[Nx (aT k.head),Nx (0+rs.length),.slice none 0 0,.slice rp30 (((rs).length)+1) rc31,Nx (((0+aR rs)+24)+((pL zs22).length))])) ?_
 refine lnr ?_
 refine lE bM ?_
 refine lE (eU 2) ?_
 refine lv (v:=Nx ((0+rs.length)+1)) (bJ rfl rfl (bU (by omega) (by omega))) ?_
 refine lE bM ?_
 refine lu (mS 2 (#[Nx (aT k.head),Nx ((0+rs.length)+1),.slice none 0 0,.slice rp30 (((rs).length)+1) rc31,Nx (((0+aR rs)+24)+((pL zs22).length))])) ?_
 refine aG ?_
 refine bD ?_
 have hnx:=oT hfu hle hrs (by rw[←hz23];exact hrb) (by rw[←hz23];omega) (by omega) (by rw[←hz23];omega)
 have hsn:=aBc (c:=ac7) (s:=0+aR rs) hin (by omega) (by omega)
 rw[←hz23]at hnx hsn
 rw[←hsame.2]at hnx
 replace hnx:=And.intro hnx.1 (And.intro hnx.2.1 (And.intro hnx.2.2 hsn))
 refine dL [false,true,true,true,true] rfl ?_
 exact bT ⟨(f,(rs++[pL zs22]),(us++[sB (pU (gL aa6 ac7 (0+aR rs) 1) (ac7-(0+aR rs)) zs22) (pL zs22) ((pK (ac7-(0+aR rs)) zs22))]),rp30,rc31),⟨⟨rfl,rfl,rfl⟩,(by simp only[sB,rB,lH,List.length_append,List.length_cons,List.length_nil,Nat.add_assoc];try rfl),hnx⟩,(show f<f+1 from Nat.lt_succ_self f)⟩
end Go.Proofs
