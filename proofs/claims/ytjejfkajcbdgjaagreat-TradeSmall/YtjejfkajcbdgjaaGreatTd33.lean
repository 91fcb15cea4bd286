/-
 TradeSmall: walked. Printed by a program of my own.
-/
import Derived.Test.YtjejfkajcbdgjaaGreatTd32
set_option linter.all false
set_option maxHeartbeats 4000000
namespace Go.Proofs
open Go Go.Sl Go.Td Go.Jn
theorem wQ(β:Base)(w:World)(hw:St β [] w)(p:Option Addr)(c:Nat)(l:List KOh)(hl:Sl pX.R β.heap (sB p l c) l)(hp:∀z∈l,xG β.heap z):oP Tryz.prog 5 #[sB p l c] β w (.bool true):=by
 obtain⟨ol,_,h⟩:=bFa (T:=32) hl hp
 exact aUa β w hw _ ol h
theorem aSc{ohs:List KOh}{a:KOh}(h:ohs.length+1≤16):∀z,(ohs++[a])[16]? =some z→2≤z.n∧2≤z.c:=fun z hz=>by
 rw[List.getElem?_eq_none (by rw[List.length_append,List.length_singleton];exact h)]at hz;cases hz
theorem aNm{ohs:List KOh}{a:KOh}(h:ohs.length=16)(h1:2≤a.n)(h2:2≤a.c):∀z,(ohs++[a])[16]? =some z→2≤z.n∧2≤z.c:=fun z hz=>by
 rw[List.getElem?_append_right (by omega),h]at hz
 injection hz with hz;subst hz;exact⟨h1,h2⟩
theorem zI{ohs tl:List KOh}{a:KOh}(hin:∀z∈ohs,z∈tl):∀z∈ohs++[a],z∈tl++[a]:=fun z hz=>by
 rcases List.mem_append.1 hz with hz|hz
 ·exact List.mem_append_left _ (hin z hz)
 exact List.mem_append_right _ hz
theorem ua0:lY Tryz.prog 35 3 1=true:=by kernel_rfl
instance ua1:ZerC Tryz.prog 3 (.int .i64 (0)):={}
instance ua2:CfC Tryz.prog 20:={}
theorem ua3:lY Tryz.prog 30 47 8=true:=by kernel_rfl
instance ua4:ZerC Tryz.prog 47 (.agg #[.int .u8 (0),.int .i64 (0),.int .i64 (0),.int .i64 (0),.int .i64 (0),.int .i64 (0),.int .i64 (0),.int .i64 (0)]):={}
theorem ua5:xC Tryz.prog 32 [(0,1),(1,1),(2,1),(3,1)]=true:=by kernel_rfl
instance ua6:ZerC Tryz.prog 32 (.agg #[.int .u8 (0),.int .i64 (0),.int .i64 (0),.slice none 0 0]):={}
instance ua7:TyC Tryz.prog 32 true 4:={}
instance ua8:UndC Tryz.prog 35 3:={}
instance ua9:TyC Tryz.prog 3 false 1:={}
theorem tX:lY Tryz.prog 22 32 4=true:=by kernel_rfl
theorem bHq:xC Tryz.prog 47 [(0,1),(1,1),(2,1),(3,1),(4,4)]=true:=by kernel_rfl
instance bHr:ArrC Tryz.prog 73 9 47 8:={}
instance bLg:ZerC Tryz.prog 73 (.agg #[.int .u8 (0),.int .i64 (0),.int .i64 (0),.int .i64 (0),.int .i64 (0),.int .i64 (0),.int .i64 (0),.int .i64 (0),.int .u8 (0),.int .i64 (0),.int .i64 (0),.int .i64 (0),.int .i64 (0),.int .i64 (0),.int .i64 (0),.int .i64 (0),.int .u8 (0),.int .i64 (0),.int .i64 (0),.int .i64 (0),.int .i64 (0),.int .i64 (0),.int .i64 (0),.int .i64 (0),.int .u8 (0),.int .i64 (0),.int .i64 (0),.int .i64 (0),.int .i64 (0),.int .i64 (0),.int .i64 (0),.int .i64 (0),.int .u8 (0),.int .i64 (0),.int .i64 (0),.int .i64 (0),.int .i64 (0),.int .i64 (0),.int .i64 (0),.int .i64 (0),.int .u8 (0),.int .i64 (0),.int .i64 (0),.int .i64 (0),.int .i64 (0),.int .i64 (0),.int .i64 (0),.int .i64 (0),.int .u8 (0),.int .i64 (0),.int .i64 (0),.int .i64 (0),.int .i64 (0),.int .i64 (0),.int .i64 (0),.int .i64 (0),.int .u8 (0),.int .i64 (0),.int .i64 (0),.int .i64 (0),.int .i64 (0),.int .i64 (0),.int .i64 (0),.int .i64 (0),.int .u8 (0),.int .i64 (0),.int .i64 (0),.int .i64 (0),.int .i64 (0),.int .i64 (0),.int .i64 (0),.int .i64 (0)]):={}
instance bLh:TyC Tryz.prog 47 true 8:={}
instance ua15:FldC Tryz.prog 47 1 1 1 false:={}
instance ua16:FldC Tryz.prog 47 2 2 1 false:={}
instance ua17:FldC Tryz.prog 47 3 3 1 false:={}
instance ua18:FldC Tryz.prog 47 4 4 4 true:={}
instance aZc:ArrC Tryz.prog 44 4 3 1:={}
theorem aOu:vR Tryz.prog 32 4 48=true:=by kernel_rfl
instance ua21:CfC Tryz.prog 5:={}
instance bLi:FldC Tryz.prog 32 3 3 1 false:={}
instance aZd:TyC Tryz.prog 30 false 1:={}
theorem bDj:vR Tryz.prog 47 8 64=true:=by kernel_rfl
instance bLj:CfC Tryz.prog 17:={}
theorem aTx(β:Base)(w:World)(hw:St β [] w):Calls Tryz.prog 6 #[] w fun r w'=>r= .returned (.bool true)∧St β [] w':=by
 refine enter (n:=187) Tryz.func6 rfl Tryz.ntmps6 rfl ?_ hw
 refine bD (lE dP (eY ?_))
 refine dA rfl rfl rfl (bZ ua0 ua1.ok (cells:= #[.int .i64 (-9223372036854775808),.int .i64 (-1),.int .i64 (0),.int .i64 (1),.int .i64 (2),.int .i64 (2147483647),.int .i64 (2147483648),.int .i64 (65536),.int .i64 (65537),.int .i64 (64),.int .i64 (65),.int .i64 (16),.int .i64 (1099511627776),.int .i64 (1099511627777),.int .i64 (9223372036854775807)]) rfl rfl rfl (by kernel_rfl)) ?_
 rintro _ _ ⟨b1,rfl,rfl⟩
 refine lE iO (eY (gI gH (fun w β1 sb kn hw1=>fR β1 w hw1 (1:UInt8) 1 0 0 1000) ?_))
 refine gI gH (fun w β1 sb kn hw1=>fR β1 w hw1 (1:UInt8) 2 0 0 2147483647) ?_
 refine gI gH (fun w β1 sb kn hw1=>fR β1 w hw1 (4:UInt8) 1 0 0 10) (gI gH (fun w β1 sb kn hw1=>fR β1 w hw1 (4:UInt8) 2 0 0 5) ?_)
 refine dA rfl rfl rfl (bZ ua3 ua4.ok (cells:= #[.int .u8 (1),.int .i64 (1),.int .i64 (0),.int .i64 (0),.int .i64 (1000),.int .i64 (0),.int .i64 (0),.int .i64 (0),.int .u8 (1),.int .i64 (2),.int .i64 (0),.int .i64 (0),.int .i64 (2147483647),.int .i64 (0),.int .i64 (0),.int .i64 (0),.int .u8 (4),.int .i64 (1),.int .i64 (0),.int .i64 (0),.int .i64 (10),.int .i64 (0),.int .i64 (0),.int .i64 (0),.int .u8 (4),.int .i64 (2),.int .i64 (0),.int .i64 (0),.int .i64 (5),.int .i64 (0),.int .i64 (0),.int .i64 (0)]) rfl rfl rfl (by kernel_rfl)) ?_
 rintro _ _ ⟨b2,rfl,rfl⟩
 refine lv (v:= .agg #[.int .u8 (0),.int .i64 (1),.int .i64 (1),.slice (some ⟨b2,0,none⟩) 4 4]) (bV ua6.ok ua5 (vs:=[(1,.int .i64 (1)),(2,.int .i64 (1)),(3,.slice (some ⟨b2,0,none⟩) 4 4)]) (cells:= #[.int .u8 (0),.int .i64 (1),.int .i64 (1),.slice (some ⟨b2,0,none⟩) 4 4]) rfl (by kernel_rfl)) ?_
 refine gB fun b3=>lu (mS 0 (#[.int .u8 (0),.int .i64 (1),.int .i64 (1),.slice (some ⟨b2,0,none⟩) 4 4])) (aN (eR ?_))
 refine kQ 2 (r':=aK aZ 3 (some ⟨b1,0,none⟩) 15 oA) rfl (gP (F:=aZ) (xs:=oA) rfl (by decide)) ?_
 refine kQ 1 (r':=aK cJ 47 (some ⟨b2,0,none⟩) 4 [(⟨1,1,0,0,(⟨1000,0,0,0⟩:KAm)⟩:KAct),(⟨1,2,0,0,(⟨2147483647,0,0,0⟩:KAm)⟩:KAct),(⟨4,1,0,0,(⟨10,0,0,0⟩:KAm)⟩:KAct),(⟨4,2,0,0,(⟨5,0,0,0⟩:KAm)⟩:KAct)]) rfl (gP (F:=cJ) (xs:=[(⟨1,1,0,0,(⟨1000,0,0,0⟩:KAm)⟩:KAct),(⟨1,2,0,0,(⟨2147483647,0,0,0⟩:KAm)⟩:KAct),(⟨4,1,0,0,(⟨10,0,0,0⟩:KAm)⟩:KAct),(⟨4,2,0,0,(⟨5,0,0,0⟩:KAm)⟩:KAct)]) rfl (show 4≤1048576 by decide)) ?_
 refine iK (r:=eW []) wK (sU [2,0,1,3] 4 rfl (by kernel_rfl) ?_)
 refine mH (L:=[aK cJ 47 (some ⟨b2,0,none⟩) 4 [(⟨1,1,0,0,(⟨1000,0,0,0⟩:KAm)⟩:KAct),(⟨1,2,0,0,(⟨2147483647,0,0,0⟩:KAm)⟩:KAct),(⟨4,1,0,0,(⟨10,0,0,0⟩:KAm)⟩:KAct),(⟨4,2,0,0,(⟨5,0,0,0⟩:KAm)⟩:KAct)],eW []]) (M:=[pt b3 (.cells #[.int .u8 (0),.int .i64 (1),.int .i64 (1),.slice (some ⟨b2,0,none⟩) (4) 4] 32),aK aZ 3 (some ⟨b1,0,none⟩) 15 oA]) (r:=eW [(⟨0,1,1,(some ⟨b2,0,none⟩),4,4⟩:KOh)]) (fun a h=>mQ (⟨by omega,by omega⟩) (⟨by omega,by omega⟩) (acc (iU ⟨by omega,by omega⟩ ⟨by omega,by omega⟩ ⟨by omega,by omega⟩ ⟨by omega,by omega⟩ ⟨by omega,by omega⟩ ⟨by omega,by omega⟩ ⟨by omega,by omega⟩:ActI (⟨1,1,0,0,(⟨1000,0,0,0⟩:KAm)⟩:KAct)) (acc (iU ⟨by omega,by omega⟩ ⟨by omega,by omega⟩ ⟨by omega,by omega⟩ ⟨by omega,by omega⟩ ⟨by omega,by omega⟩ ⟨by omega,by omega⟩ ⟨by omega,by omega⟩:ActI (⟨1,2,0,0,(⟨2147483647,0,0,0⟩:KAm)⟩:KAct)) (acc (iU ⟨by omega,by omega⟩ ⟨by omega,by omega⟩ ⟨by omega,by omega⟩ ⟨by omega,by omega⟩ ⟨by omega,by omega⟩ ⟨by omega,by omega⟩ ⟨by omega,by omega⟩:ActI (⟨4,1,0,0,(⟨10,0,0,0⟩:KAm)⟩:KAct)) (acc (iU ⟨by omega,by omega⟩ ⟨by omega,by omega⟩ ⟨by omega,by omega⟩ ⟨by omega,by omega⟩ ⟨by omega,by omega⟩ ⟨by omega,by omega⟩ ⟨by omega,by omega⟩:ActI (⟨4,2,0,0,(⟨5,0,0,0⟩:KAm)⟩:KAct)) acn)))) a h) ?_
 have hnl:oA.length=15:=rfl
 refine aC (lE fL (lE gY (lE aU (aN (aJ (jJ [true,true,true] rfl ?_))))))
 refine cZ (fun(i:Nat) f L=>(f 2=pp b3 0∧f 22= .slice (some ⟨b1,0,none⟩) (15) 15∧f 23=Nx (15)∧f 24=Nx (i))∧L=[eW [(⟨0,1,1,(some ⟨b2,0,none⟩),4,4⟩:KOh)],pt b3 (.cells #[.int .u8 (0),.int .i64 (1),.int .i64 (1),.slice (some ⟨b2,0,none⟩) (4) 4] 32),aK aZ 3 (some ⟨b1,0,none⟩) 15 oA]∧(i≤15)) (fun i=>15-i) 0 ?_ ?_
 ·exact⟨⟨rfl,rfl,rfl,rfl⟩,rfl,Nat.zero_le _⟩
 rintro i f0 L0 ⟨⟨hs2,hs22,hs23,hs24⟩,hL,hi15⟩
 subst L0
 refine bJ 2 hs2 (bJ 22 hs22 (bJ 23 hs23 (bJ 24 hs24 (bD (lE gN (aN (aL (cN _ rfl (fun hc4=> ?_) (fun hc4=> ?_)))))))))
 ·refine eB (aL (aJ (bD (lE aU ?_))))
  refine lv (v:= .pointer (some ((ba (some ⟨b1,0,none⟩)).add (i*1)))) (eL 2 (F:=aZ) rfl (by omega) rfl ua0 (by omega) rfl) ?_
  obtain⟨x5,hx6⟩:∃x_,oA[i]? =some x_:=⟨_,List.getElem?_eq_getElem (by first|omega|decide)⟩
  refine lv (v:=Ix (x5)) (bI ua9.ok rfl (lF 2 (F:=aZ) rfl hx6)) (lE bN (lE bN (aN (eR ?_))))
  have hni:=aXi hx6
  refine aC (lE aU (aN (aJ (jJ [true,true,true] rfl ?_))))
  refine cZ (fun(ku:UInt8) f L=>(f 2=pp b3 0∧f 3=Nx (i)∧f 4=Ix (x5)∧f 22= .slice (some ⟨b1,0,none⟩) (15) 15∧f 23=Nx (15)∧f 24=Nx (i)∧f 29=Bx (ku))∧L=[eW [(⟨0,1,1,(some ⟨b2,0,none⟩),4,4⟩:KOh)],pt b3 (.cells #[.int .u8 (0),.int .i64 (1),.int .i64 (1),.slice (some ⟨b2,0,none⟩) (4) 4] 32),aK aZ 3 (some ⟨b1,0,none⟩) 15 oA]∧(ku.toNat≤9)) (fun ku=>9-ku.toNat) 0 ?_ ?_
  ·exact⟨⟨rfl,rfl,rfl,rfl,rfl,rfl,rfl⟩,rfl,(by decide)⟩
  rintro ku f0 L0 ⟨⟨hs2,hs3,hs4,hs22,hs23,hs24,hs29⟩,hL,hku⟩
  subst L0
  refine bJ 2 hs2 (bJ 3 hs3 (bJ 4 hs4 (bJ 22 hs22 (bJ 23 hs23 (bJ 24 hs24 (bJ 29 hs29 (bD (lE gN (aN (aL ?_))))))))))
  refine cN _ rfl (fun hc7=> ?_) (fun hc7=> ?_)
  ·refine eB (aL (aJ (bD (lE aU (lE bN (eY (lE (dK 1) ?_)))))))
   refine dA rfl rfl rfl (bZ tX ua6.ok (cells:= #[.int .u8 (0),.int .i64 (1),.int .i64 (1),.slice (some ⟨b2,0,none⟩) (4) 4]) rfl rfl rfl (by kernel_rfl)) ?_
   rintro _ _ ⟨b8,rfl,rfl⟩
   refine lE iO (aN (eR ?_))
   refine kQ 0 (r':=aK pX 32 (some ⟨b8,0,none⟩) 1 [(⟨0,1,1,(some ⟨b2,0,none⟩),4,4⟩:KOh)]) rfl (gP (F:=pX) (xs:=[(⟨0,1,1,(some ⟨b2,0,none⟩),4,4⟩:KOh)]) rfl (show 1≤1048576 by decide)) ?_
   refine iK (r:=eW []) wK (aC (lE aU (aN (aJ (jJ [true,true,true,true,true] rfl ?_)))))
   refine cZ (fun(x_:Nat×List KOh×Option Addr×Nat×List KOh) f L=>match x_ with|(j,ohs,p,c,tl)=>(f 2=pp b3 0∧f 3=Nx (i)∧f 4=Ix (x5)∧f 5=Bx (ku)∧f 6=sB p ohs c∧f 22= .slice (some ⟨b1,0,none⟩) (15) 15∧f 23=Nx (15)∧f 24=Nx (i)∧f 29=Bx (ku)∧f 34=Nx (j))∧L=[eW tl,aK pX 32 p c ohs,eW [(⟨0,1,1,(some ⟨b2,0,none⟩),4,4⟩:KOh)],pt b3 (.cells #[.int .u8 (0),.int .i64 (1),.int .i64 (1),.slice (some ⟨b2,0,none⟩) (4) 4] 32),aK aZ 3 (some ⟨b1,0,none⟩) 15 oA]∧(j≤7∧ohs.length≤j+1∧(∀z∈ohs,z=(⟨0,1,1,(some ⟨b2,0,none⟩),4,4⟩:KOh)∨z∈tl))) (fun(j,ohs,p,c,tl)=>7-j) (0,[(⟨0,1,1,(some ⟨b2,0,none⟩),4,4⟩:KOh)],(some ⟨b8,0,none⟩),1,[]) ?_ ?_
   ·exact⟨⟨rfl,rfl,rfl,rfl,rfl,rfl,rfl,rfl,rfl,rfl⟩,rfl,⟨Nat.zero_le _,Nat.le_refl _,fun z hz=> .inl (List.mem_singleton.1 hz)⟩⟩
   rintro⟨j,ohs,p,c,tl⟩ f0 L0 ⟨⟨hs2,hs3,hs4,hs5,hs6,hs22,hs23,hs24,hs29,hs34⟩,hL,⟨hj7,hol,hin⟩⟩
   subst L0
   refine bJ 2 hs2 (bJ 3 hs3 (bJ 4 hs4 (bJ 5 hs5 (bJ 6 hs6 (bJ 22 hs22 (bJ 23 hs23 (bJ 24 hs24 (bJ 29 hs29 (bJ 34 hs34 (bD (lE gN (aN ?_))))))))))))
   refine aL (cN _ rfl (fun hc9=> ?_) (fun hc9=> ?_))
   ·refine eB (aL (aJ (bD (lE aU (lE bN (eY ?_))))))
    refine lv (v:= .agg #[.int .u8 (0),.int .i64 (0),.int .i64 (0),.int .i64 (0),.int .i64 (0),.int .i64 (0),.int .i64 (0),.int .i64 (0)]) (bV ua4.ok bHq (vs:=[]) (cells:= #[.int .u8 (0),.int .i64 (0),.int .i64 (0),.int .i64 (0),.int .i64 (0),.int .i64 (0),.int .i64 (0),.int .i64 (0)]) rfl (by kernel_rfl)) ?_
    refine gI gH (fun w β1 sb kn hw1=>fR β1 w hw1 (1:UInt8) 1 0 0 5) (gI gH (fun w β1 sb kn hw1=>fR β1 w hw1 (2:UInt8) 1 0 0 5) ?_)
    refine gI gH (fun w β1 sb kn hw1=>fR β1 w hw1 (3:UInt8) 1 2 0 5) (gI gH (fun w β1 sb kn hw1=>fR β1 w hw1 (4:UInt8) 1 0 0 5) ?_)
    refine gI gH (fun w β1 sb kn hw1=>fR β1 w hw1 (5:UInt8) 0 0 1 0) (gI gH (fun w β1 sb kn hw1=>fR β1 w hw1 (6:UInt8) 0 2 1 0) ?_)
    refine gI gH (fun w β1 sb kn hw1=>fR β1 w hw1 (7:UInt8) 1 0 0 5) ?_
    refine lv (v:= .agg #[.int .u8 (8),.int .i64 (1),.int .i64 (0),.int .i64 (0),.int .i64 (0),.int .i64 (0),.int .i64 (0),.int .i64 (0)]) (bV ua4.ok bHq (vs:=[(0,.int .u8 (8)),(1,.int .i64 (1))]) (cells:= #[.int .u8 (8),.int .i64 (1),.int .i64 (0),.int .i64 (0),.int .i64 (0),.int .i64 (0),.int .i64 (0),.int .i64 (0)]) rfl (by kernel_rfl)) ?_
    refine lv (v:= .agg #[.int .u8 (0),.int .i64 (0),.int .i64 (0),.int .i64 (0),.int .i64 (0),.int .i64 (0),.int .i64 (0),.int .i64 (0),.int .u8 (1),.int .i64 (1),.int .i64 (0),.int .i64 (0),.int .i64 (5),.int .i64 (0),.int .i64 (0),.int .i64 (0),.int .u8 (2),.int .i64 (1),.int .i64 (0),.int .i64 (0),.int .i64 (5),.int .i64 (0),.int .i64 (0),.int .i64 (0),.int .u8 (3),.int .i64 (1),.int .i64 (2),.int .i64 (0),.int .i64 (5),.int .i64 (0),.int .i64 (0),.int .i64 (0),.int .u8 (4),.int .i64 (1),.int .i64 (0),.int .i64 (0),.int .i64 (5),.int .i64 (0),.int .i64 (0),.int .i64 (0),.int .u8 (5),.int .i64 (0),.int .i64 (0),.int .i64 (1),.int .i64 (0),.int .i64 (0),.int .i64 (0),.int .i64 (0),.int .u8 (6),.int .i64 (0),.int .i64 (2),.int .i64 (1),.int .i64 (0),.int .i64 (0),.int .i64 (0),.int .i64 (0),.int .u8 (7),.int .i64 (1),.int .i64 (0),.int .i64 (0),.int .i64 (5),.int .i64 (0),.int .i64 (0),.int .i64 (0),.int .u8 (8),.int .i64 (1),.int .i64 (0),.int .i64 (0),.int .i64 (0),.int .i64 (0),.int .i64 (0),.int .i64 (0)]) (eQ bLg.ok bHr.ok (vs:=[(0,.agg #[.int .u8 (0),.int .i64 (0),.int .i64 (0),.int .i64 (0),.int .i64 (0),.int .i64 (0),.int .i64 (0),.int .i64 (0)]),(1,.agg #[.int .u8 (1),.int .i64 (1),.int .i64 (0),.int .i64 (0),.int .i64 (5),.int .i64 (0),.int .i64 (0),.int .i64 (0)]),(2,.agg #[.int .u8 (2),.int .i64 (1),.int .i64 (0),.int .i64 (0),.int .i64 (5),.int .i64 (0),.int .i64 (0),.int .i64 (0)]),(3,.agg #[.int .u8 (3),.int .i64 (1),.int .i64 (2),.int .i64 (0),.int .i64 (5),.int .i64 (0),.int .i64 (0),.int .i64 (0)]),(4,.agg #[.int .u8 (4),.int .i64 (1),.int .i64 (0),.int .i64 (0),.int .i64 (5),.int .i64 (0),.int .i64 (0),.int .i64 (0)]),(5,.agg #[.int .u8 (5),.int .i64 (0),.int .i64 (0),.int .i64 (1),.int .i64 (0),.int .i64 (0),.int .i64 (0),.int .i64 (0)]),(6,.agg #[.int .u8 (6),.int .i64 (0),.int .i64 (2),.int .i64 (1),.int .i64 (0),.int .i64 (0),.int .i64 (0),.int .i64 (0)]),(7,.agg #[.int .u8 (7),.int .i64 (1),.int .i64 (0),.int .i64 (0),.int .i64 (5),.int .i64 (0),.int .i64 (0),.int .i64 (0)]),(8,.agg #[.int .u8 (8),.int .i64 (1),.int .i64 (0),.int .i64 (0),.int .i64 (0),.int .i64 (0),.int .i64 (0),.int .i64 (0)])]) (cells:= #[.int .u8 (0),.int .i64 (0),.int .i64 (0),.int .i64 (0),.int .i64 (0),.int .i64 (0),.int .i64 (0),.int .i64 (0),.int .u8 (1),.int .i64 (1),.int .i64 (0),.int .i64 (0),.int .i64 (5),.int .i64 (0),.int .i64 (0),.int .i64 (0),.int .u8 (2),.int .i64 (1),.int .i64 (0),.int .i64 (0),.int .i64 (5),.int .i64 (0),.int .i64 (0),.int .i64 (0),.int .u8 (3),.int .i64 (1),.int .i64 (2),.int .i64 (0),.int .i64 (5),.int .i64 (0),.int .i64 (0),.int .i64 (0),.int .u8 (4),.int .i64 (1),.int .i64 (0),.int .i64 (0),.int .i64 (5),.int .i64 (0),.int .i64 (0),.int .i64 (0),.int .u8 (5),.int .i64 (0),.int .i64 (0),.int .i64 (1),.int .i64 (0),.int .i64 (0),.int .i64 (0),.int .i64 (0),.int .u8 (6),.int .i64 (0),.int .i64 (2),.int .i64 (1),.int .i64 (0),.int .i64 (0),.int .i64 (0),.int .i64 (0),.int .u8 (7),.int .i64 (1),.int .i64 (0),.int .i64 (0),.int .i64 (5),.int .i64 (0),.int .i64 (0),.int .i64 (0),.int .u8 (8),.int .i64 (1),.int .i64 (0),.int .i64 (0),.int .i64 (0),.int .i64 (0),.int .i64 (0),.int .i64 (0)]) rfl (by kernel_rfl)) ?_
    refine lE aU ?_
    obtain⟨z10,hz11⟩:∃z_,aEw[ku.toNat]? =some z_:=⟨_,List.getElem?_eq_getElem (by show _<9;omega)⟩
    refine lv (v:= .agg #[Bx (z10.kind),Ix (z10.owner),Ix (z10.other),Ix (z10.hold),Ix (z10.a.a0),Ix (z10.a.a1),Ix (z10.a.a2),Ix (z10.a.a3)]) (aQk (F:=cJ) (xs:=aEw) (k:=ku.toNat) (ik:= .u8) rfl rfl bHr.ok hz11 (by omega) bLh.ok) ?_
    refine gB fun b12=> ?_
    refine lu (mS 0 (#[Bx (z10.kind),Ix (z10.owner),Ix (z10.other),Ix (z10.hold),Ix (z10.a.a0),Ix (z10.a.a1),Ix (z10.a.a2),Ix (z10.a.a3)])) (aN ?_)
    refine gL (fun(f:Fm) (L:List bU)=>∃(za:KAct),(f 2=pp b3 0∧f 3=Nx (i)∧f 4=Ix (x5)∧f 5=Bx (ku)∧f 6=sB p ohs c∧f 7=Nx (j)∧f 8=pp b12 0∧f 22= .slice (some ⟨b1,0,none⟩) (15) 15∧f 23=Nx (15)∧f 24=Nx (i)∧f 29=Bx (ku)∧f 34=Nx (j))∧L=[pt b12 (.cells #[Bx (za.kind),Ix (za.owner),Ix (za.other),Ix (za.hold),Ix (za.a.a0),Ix (za.a.a1),Ix (za.a.a2),Ix (za.a.a3)] 47),eW tl,aK pX 32 p c ohs,eW [(⟨0,1,1,(some ⟨b2,0,none⟩),4,4⟩:KOh)],pt b3 (.cells #[.int .u8 (0),.int .i64 (1),.int .i64 (1),.slice (some ⟨b2,0,none⟩) (4) 4] 32),aK aZ 3 (some ⟨b1,0,none⟩) 15 oA]∧(ActI za)) ?_ ?_
    ·refine aL ?_
     have hjc:j=0∨j=1∨j=2∨j=3∨j=4∨j=5∨j=6:=by omega
     rcases hjc with hjc|hjc|hjc|hjc|hjc|hjc|hjc
     ·refine aC (lE aU (aN (aJ (bD (lv (v:= .bool true) (uM (by omega) (dX (a:=((j:Nat):Int)) (b:=(0:Int)) rfl rfl)) ?_)))))
      refine lE dP (aN (dN rfl (aC (lE aU (lE aY ?_)))))
      refine lu (mS 0 (#[Bx (z10.kind),Ix (x5),Ix (z10.other),Ix (z10.hold),Ix (z10.a.a0),Ix (z10.a.a1),Ix (z10.a.a2),Ix (z10.a.a3)])) (aH (aP ?_))
      exact bG ⟨(⟨z10.kind,x5,z10.other,z10.hold,z10.a⟩:KAct),⟨rfl,rfl,rfl,rfl,rfl,rfl,rfl,rfl,rfl,rfl,rfl,rfl⟩,rfl,⟨hni,(cM hz11).p,(cM hz11).h,(cM hz11).a0,(cM hz11).a1,(cM hz11).a2,(cM hz11).a3⟩⟩
     ·refine aC (lE aU (aN (aJ (bD (lv (v:= .bool false) (fZ (by omega) (dX (a:=((j:Nat):Int)) (b:=(0:Int)) rfl rfl)) ?_)))))
      refine lE dP (aN (cR rfl (bD (lv (v:= .bool true) (uM (by omega) (dX (a:=((j:Nat):Int)) (b:=(1:Int)) rfl rfl)) (lE dP (aN ?_))))))
      refine dN rfl (aC (lE aU (lE aY ?_)))
      refine lu (mS 0 (#[Bx (z10.kind),Ix (z10.owner),Ix (x5),Ix (z10.hold),Ix (z10.a.a0),Ix (z10.a.a1),Ix (z10.a.a2),Ix (z10.a.a3)])) (aH (aP ?_))
      exact bG ⟨(⟨z10.kind,z10.owner,x5,z10.hold,z10.a⟩:KAct),⟨rfl,rfl,rfl,rfl,rfl,rfl,rfl,rfl,rfl,rfl,rfl,rfl⟩,rfl,⟨(cM hz11).o,hni,(cM hz11).h,(cM hz11).a0,(cM hz11).a1,(cM hz11).a2,(cM hz11).a3⟩⟩
     ·refine aC (lE aU (aN (aJ (bD (lv (v:= .bool false) (fZ (by omega) (dX (a:=((j:Nat):Int)) (b:=(0:Int)) rfl rfl)) ?_)))))
      refine lE dP (aN (cR rfl (bD (lv (v:= .bool false) (fZ (by omega) (dX (a:=((j:Nat):Int)) (b:=(1:Int)) rfl rfl)) (lE dP (aN ?_))))))
      refine cR rfl (bD (lv (v:= .bool true) (uM (by omega) (dX (a:=((j:Nat):Int)) (b:=(2:Int)) rfl rfl)) (lE dP (aN (dN rfl ?_)))))
      refine aC (lE aU (lE aY ?_))
      refine lu (mS 0 (#[Bx (z10.kind),Ix (z10.owner),Ix (z10.other),Ix (x5),Ix (z10.a.a0),Ix (z10.a.a1),Ix (z10.a.a2),Ix (z10.a.a3)])) (aH (aP ?_))
      exact bG ⟨(⟨z10.kind,z10.owner,z10.other,x5,z10.a⟩:KAct),⟨rfl,rfl,rfl,rfl,rfl,rfl,rfl,rfl,rfl,rfl,rfl,rfl⟩,rfl,⟨(cM hz11).o,(cM hz11).p,hni,(cM hz11).a0,(cM hz11).a1,(cM hz11).a2,(cM hz11).a3⟩⟩
     ·refine aC (lE aU (aN (aJ (bD (lv (v:= .bool false) (fZ (by omega) (dX (a:=((j:Nat):Int)) (b:=(0:Int)) rfl rfl)) ?_)))))
      refine lE dP (aN (cR rfl (bD (lv (v:= .bool false) (fZ (by omega) (dX (a:=((j:Nat):Int)) (b:=(1:Int)) rfl rfl)) (lE dP (aN ?_))))))
      refine cR rfl (bD (lv (v:= .bool false) (fZ (by omega) (dX (a:=((j:Nat):Int)) (b:=(2:Int)) rfl rfl)) (lE dP (aN (cR rfl ?_)))))
      refine aC (lE aU ?_)
      refine lv (v:= .int .i64 (0)) (eZ (congrArg (Value.int .i64) (show((j:Nat):Int)-3=0 by omega)) (oX (a:=((j:Nat):Int)) (b:=(3:Int)) rfl rfl (rD (by omega)))) ?_
      refine lE aU (lE aY (lv (v:=pp b12 4) (bF (b:=b12) (o:=4) (k:=0) rfl rfl aZc.ok (by decide)) ?_))
      refine lu (mS 0 (#[Bx (z10.kind),Ix (z10.owner),Ix (z10.other),Ix (z10.hold),Ix (x5),Ix (z10.a.a1),Ix (z10.a.a2),Ix (z10.a.a3)])) (aH (aP ?_))
      exact bG ⟨(⟨z10.kind,z10.owner,z10.other,z10.hold,(⟨x5,z10.a.a1,z10.a.a2,z10.a.a3⟩:KAm)⟩:KAct),⟨rfl,rfl,rfl,rfl,rfl,rfl,rfl,rfl,rfl,rfl,rfl,rfl⟩,rfl,⟨(cM hz11).o,(cM hz11).p,(cM hz11).h,hni,(cM hz11).a1,(cM hz11).a2,(cM hz11).a3⟩⟩
     ·refine aC (lE aU (aN (aJ (bD (lv (v:= .bool false) (fZ (by omega) (dX (a:=((j:Nat):Int)) (b:=(0:Int)) rfl rfl)) ?_)))))
      refine lE dP (aN (cR rfl (bD (lv (v:= .bool false) (fZ (by omega) (dX (a:=((j:Nat):Int)) (b:=(1:Int)) rfl rfl)) (lE dP (aN ?_))))))
      refine cR rfl (bD (lv (v:= .bool false) (fZ (by omega) (dX (a:=((j:Nat):Int)) (b:=(2:Int)) rfl rfl)) (lE dP (aN (cR rfl ?_)))))
      refine aC (lE aU ?_)
      refine lv (v:= .int .i64 (1)) (eZ (congrArg (Value.int .i64) (show((j:Nat):Int)-3=1 by omega)) (oX (a:=((j:Nat):Int)) (b:=(3:Int)) rfl rfl (rD (by omega)))) ?_
      refine lE aU (lE aY (lv (v:=pp b12 5) (bF (b:=b12) (o:=4) (k:=1) rfl rfl aZc.ok (by decide)) ?_))
      refine lu (mS 0 (#[Bx (z10.kind),Ix (z10.owner),Ix (z10.other),Ix (z10.hold),Ix (z10.a.a0),Ix (x5),Ix (z10.a.a2),Ix (z10.a.a3)])) (aH (aP ?_))
      exact bG ⟨(⟨z10.kind,z10.owner,z10.other,z10.hold,(⟨z10.a.a0,x5,z10.a.a2,z10.a.a3⟩:KAm)⟩:KAct),⟨rfl,rfl,rfl,rfl,rfl,rfl,rfl,rfl,rfl,rfl,rfl,rfl⟩,rfl,⟨(cM hz11).o,(cM hz11).p,(cM hz11).h,(cM hz11).a0,hni,(cM hz11).a2,(cM hz11).a3⟩⟩
     ·refine aC (lE aU (aN (aJ (bD (lv (v:= .bool false) (fZ (by omega) (dX (a:=((j:Nat):Int)) (b:=(0:Int)) rfl rfl)) ?_)))))
      refine lE dP (aN (cR rfl (bD (lv (v:= .bool false) (fZ (by omega) (dX (a:=((j:Nat):Int)) (b:=(1:Int)) rfl rfl)) (lE dP (aN ?_))))))
      refine cR rfl (bD (lv (v:= .bool false) (fZ (by omega) (dX (a:=((j:Nat):Int)) (b:=(2:Int)) rfl rfl)) (lE dP (aN (cR rfl ?_)))))
      refine aC (lE aU ?_)
      refine lv (v:= .int .i64 (2)) (eZ (congrArg (Value.int .i64) (show((j:Nat):Int)-3=2 by omega)) (oX (a:=((j:Nat):Int)) (b:=(3:Int)) rfl rfl (rD (by omega)))) ?_
      refine lE aU (lE aY (lv (v:=pp b12 6) (bF (b:=b12) (o:=4) (k:=2) rfl rfl aZc.ok (by decide)) ?_))
      refine lu (mS 0 (#[Bx (z10.kind),Ix (z10.owner),Ix (z10.other),Ix (z10.hold),Ix (z10.a.a0),Ix (z10.a.a1),Ix (x5),Ix (z10.a.a3)])) (aH (aP ?_))
      exact bG ⟨(⟨z10.kind,z10.owner,z10.other,z10.hold,(⟨z10.a.a0,z10.a.a1,x5,z10.a.a3⟩:KAm)⟩:KAct),⟨rfl,rfl,rfl,rfl,rfl,rfl,rfl,rfl,rfl,rfl,rfl,rfl⟩,rfl,⟨(cM hz11).o,(cM hz11).p,(cM hz11).h,(cM hz11).a0,(cM hz11).a1,hni,(cM hz11).a3⟩⟩
     refine aC (lE aU (aN (aJ (bD (lv (v:= .bool false) (fZ (by omega) (dX (a:=((j:Nat):Int)) (b:=(0:Int)) rfl rfl)) ?_)))))
     refine lE dP (aN (cR rfl (bD (lv (v:= .bool false) (fZ (by omega) (dX (a:=((j:Nat):Int)) (b:=(1:Int)) rfl rfl)) (lE dP (aN ?_))))))
     refine cR rfl (bD (lv (v:= .bool false) (fZ (by omega) (dX (a:=((j:Nat):Int)) (b:=(2:Int)) rfl rfl)) (lE dP (aN (cR rfl ?_)))))
     refine aC (lE aU ?_)
     refine lv (v:= .int .i64 (3)) (eZ (congrArg (Value.int .i64) (show((j:Nat):Int)-3=3 by omega)) (oX (a:=((j:Nat):Int)) (b:=(3:Int)) rfl rfl (rD (by omega)))) ?_
     refine lE aU (lE aY (lv (v:=pp b12 7) (bF (b:=b12) (o:=4) (k:=3) rfl rfl aZc.ok (by decide)) ?_))
     refine lu (mS 0 (#[Bx (z10.kind),Ix (z10.owner),Ix (z10.other),Ix (z10.hold),Ix (z10.a.a0),Ix (z10.a.a1),Ix (z10.a.a2),Ix (x5)])) (aH (aP ?_))
     exact bG ⟨(⟨z10.kind,z10.owner,z10.other,z10.hold,(⟨z10.a.a0,z10.a.a1,z10.a.a2,x5⟩:KAm)⟩:KAct),⟨rfl,rfl,rfl,rfl,rfl,rfl,rfl,rfl,rfl,rfl,rfl,rfl⟩,rfl,⟨(cM hz11).o,(cM hz11).p,(cM hz11).h,(cM hz11).a0,(cM hz11).a1,(cM hz11).a2,hni⟩⟩
    rintro f0 L0 ⟨za,⟨hs2,hs3,hs4,hs5,hs6,hs7,hs8,hs22,hs23,hs24,hs29,hs34⟩,hL,hza⟩
    subst L0
    refine bJ 2 hs2 (bJ 3 hs3 (bJ 4 hs4 (bJ 5 hs5 (bJ 6 hs6 (bJ 7 hs7 (bJ 8 hs8 (bJ 22 hs22 (bJ 23 hs23 (bJ 24 hs24 (bJ 29 hs29 ?_))))))))))
    refine bJ 34 hs34 ?_
    refine aJr [⟨[],[],[0],[67],fun f=>f 67=sB p ohs c⟩,⟨[],[],[1],[68],fun f=>f 68=Nx (j)⟩,⟨[1],[1],[],[69],fun f=>f 69=Nx (1+j)⟩,⟨[],[],[2],[70],fun f=>f 70=Nx (i)⟩,⟨[3],[3],[],[71],fun f=>f 71= .agg #[.int .u8 (7),.int .i64 (1),.int .i64 (0),.int .i64 (0),Nx (i),.int .i64 (0),.int .i64 (0),.int .i64 (0)]⟩,⟨[],[],[3],[72],fun f=>f 72= .agg #[Bx (za.kind),Ix (za.owner),Ix (za.other),Ix (za.hold),Ix (za.a.a0),Ix (za.a.a1),Ix (za.a.a2),Ix (za.a.a3)]⟩,⟨[3,4,5],[4,5],[],[73],fun f=>f 73= .slice (some ⟨(bY (f 73)),0,none⟩) 2 2⟩,⟨[1,2,3,4,5,6],[2,6],[],[73,74],fun f=>f 74= .agg #[.int .u8 (0),.int .i64 (2),Nx (1+j),.slice (some ⟨(bY (f 73)),0,none⟩) 2 2]⟩,⟨[1,2,3,4,5,6,7],[7],[],[75],fun f=>f 75= .slice (some ⟨(bY (f 75)),0,none⟩) 1 1⟩,⟨(List.range 9),[0,8],[],[73,76],fun f=>f 76=sB (dC (f 76)) (ohs++[(⟨0,2,((1+j:Nat):Int),(some ⟨(bY (f 73)),0,none⟩),2,2⟩:KOh)]) (dE (f 76))⟩,⟨(List.range 10),[9],[],[6,73,76],fun f=>f 6=sB (dC (f 76)) (ohs++[(⟨0,2,((1+j:Nat):Int),(some ⟨(bY (f 73)),0,none⟩),2,2⟩:KOh)]) (dE (f 76))⟩] [⟨none,none,[5],[],fun _=>pt b12 (.cells #[Bx (za.kind),Ix (za.owner),Ix (za.other),Ix (za.hold),Ix (za.a.a0),Ix (za.a.a1),Ix (za.a.a2),Ix (za.a.a3)] 47)⟩,⟨none,none,[],[],fun _=>eW tl⟩,⟨none,(some 9),[9],[],fun _=>aK pX 32 p c ohs⟩,⟨none,none,[],[],fun _=>eW [(⟨0,1,1,(some ⟨b2,0,none⟩),4,4⟩:KOh)]⟩,⟨none,none,[],[],fun _=>pt b3 (.cells #[.int .u8 (0),.int .i64 (1),.int .i64 (1),.slice (some ⟨b2,0,none⟩) (4) 4] 32)⟩,⟨none,none,[],[],fun _=>aK aZ 3 (some ⟨b1,0,none⟩) 15 oA⟩,⟨(some 6),none,[],[73],fun f=>pt (bY (f 73)) (.cells #[.int .u8 (7),.int .i64 (1),.int .i64 (0),.int .i64 (0),Nx (i),.int .i64 (0),.int .i64 (0),.int .i64 (0),Bx (za.kind),Ix (za.owner),Ix (za.other),Ix (za.hold),Ix (za.a.a0),Ix (za.a.a1),Ix (za.a.a2),Ix (za.a.a3)] 47)⟩,⟨(some 8),none,[9],[73,75],fun f=>pt (bY (f 75)) (.cells #[.int .u8 (0),.int .i64 (2),Nx (1+j),.slice (some ⟨(bY (f 73)),0,none⟩) 2 2] 32)⟩,⟨(some 9),none,[],[73,76],fun f=>aK pX 32 (dC (f 76)) (dE (f 76)) (ohs++[(⟨0,2,((1+j:Nat):Int),(some ⟨(bY (f 73)),0,none⟩),2,2⟩:KOh)])⟩] [(6,sB p ohs c),(7,Nx (j)),(3,Nx (i)),(8,pp b12 0),(2,pp b3 0),(4,Ix (x5)),(5,Bx (ku)),(22,.slice (some ⟨b1,0,none⟩) (15) 15),(23,Nx (15)),(24,Nx (i)),(29,Bx (ku)),(34,Nx (j))] [4,2,5,6,7,8,9,10,11] [] (by kernel_rfl) (by kernel_rfl) (by kernel_rfl) (by kernel_rfl) rfl ⟨rfl,rfl,rfl,rfl,rfl,rfl,rfl,rfl,rfl,rfl,rfl,rfl,trivial⟩ ⟨?_,?_,?_,?_,?_,?_,?_,?_,?_,?_,?_,trivial⟩ ?_
    ·rintro f M-⟨i0,-⟩
     exact aT fL
    ·rintro f M-⟨i0,-⟩
     exact aT aU
    ·rintro f M ⟨k0,-⟩-
     exact gO (aA (d:=68) rfl k0) rfl (bO (a:=(1:Int)) (b:=((j:Nat):Int)) rfl rfl (cW (by omega) (by omega))) (.refl _)
    ·rintro f M-⟨i0,-⟩
     exact aT aU
    ·rintro f M ⟨k0,-⟩-
     refine dL (aA (d:=70) rfl k0) ?_
     refine gI gH (fun w β1 sb kn hw1=>fR β1 w hw1 (7:UInt8) 1 0 0 ((i:Nat):Int)) (aH ?_)
     exact aO (aA (d:=70) rfl k0) rfl (List.Perm.refl _)
    ·rintro f M-⟨i0,-⟩
     exact aT (dK 0)
    ·rintro f M ⟨k0,k1,-⟩-
     refine dL (aA (d:=72) (aA (d:=71) rfl k0) k1) ?_
     refine dA rfl rfl rfl (bZ ua3 ua4.ok (cells:= #[.int .u8 (7),.int .i64 (1),.int .i64 (0),.int .i64 (0),Nx (i),.int .i64 (0),.int .i64 (0),.int .i64 (0),Bx (za.kind),Ix (za.owner),Ix (za.other),Ix (za.hold),Ix (za.a.a0),Ix (za.a.a1),Ix (za.a.a2),Ix (za.a.a3)]) rfl rfl rfl (by kernel_rfl)) ?_
     rintro _ _ ⟨b14,rfl,rfl⟩
     refine aH ?_
     exact aO (aA (d:=72) (aA (d:=71) rfl k0) k1) rfl (aB 0 rfl)
    ·rintro f M ⟨k0,k1,-⟩-
     have hs73:f 73= .slice (some ⟨(bY (f 73)),0,none⟩) 2 2:=k1
     exact gO (aA (aA (d:=69) rfl k0) hs73) rfl (bV ua6.ok ua5 (vs:=[(1,.int .i64 (2)),(2,Nx (1+j)),(3,.slice (some ⟨(bY (f 73)),0,none⟩) 2 2)]) (cells:= #[.int .u8 (0),.int .i64 (2),Nx (1+j),.slice (some ⟨(bY (f 73)),0,none⟩) 2 2]) rfl (by kernel_rfl)) (.refl _)
    ·rintro f M ⟨k0,-⟩-
     have hs74:f 74= .agg #[.int .u8 (0),.int .i64 (2),Nx (1+j),.slice (some ⟨(bY (f 73)),0,none⟩) 2 2]:=k0
     refine dL (aA rfl hs74) ?_
     refine dA rfl rfl rfl (bZ tX ua6.ok (cells:= #[.int .u8 (0),.int .i64 (2),Nx (1+j),.slice (some ⟨(bY (f 73)),0,none⟩) 2 2]) rfl rfl rfl (by kernel_rfl)) ?_
     rintro _ _ ⟨b16,rfl,rfl⟩
     refine aH ?_
     exact aO (aA rfl hs74) rfl (aB 0 rfl)
    ·rintro f M ⟨k0,k1,-⟩-
     have hs75:f 75= .slice (some ⟨(bY (f 75)),0,none⟩) 1 1:=k1
     refine dL (aA (aA (d:=67) rfl k0) hs75) ?_
     refine dA rfl rfl rfl (cF (F:=pX) 0 tX aOu (p:=p) (m:=ohs.length) (xs:=ohs) (ys:=[(⟨0,2,((1+j:Nat):Int),(some ⟨(bY (f 73)),0,none⟩),2,2⟩:KOh)]) (ao:=(some ⟨(bY (f 75)),0,none⟩)) (k:=1) (c:=1) rfl rfl rfl rfl rfl (gX (z:=(⟨0,2,((1+j:Nat):Int),(some ⟨(bY (f 73)),0,none⟩),2,2⟩:KOh)) 1 rfl rfl) (by first|omega|simp only[List.length_nil,List.length_cons,List.length_append,List.length_set];omega) (by first|omega|simp only[List.length_nil,List.length_cons,List.length_append,List.length_set];omega)) ?_
     rintro _ _ ⟨rp19,rc20,rfl,rfl⟩
     refine aH ?_
     exact aO (aA (aA (d:=67) rfl k0) hs75) rfl ((aB 0 rfl).trans (aB 1 rfl))
    ·rintro f M ⟨k0,-⟩-
     have hs76:f 76=sB (dC (f 76)) (ohs++[(⟨0,2,((1+j:Nat):Int),(some ⟨(bY (f 73)),0,none⟩),2,2⟩:KOh)]) (dE (f 76)):=k0
     exact aT iO
    rintro fa21 ⟨-,-,-,-,-,-,-,-,-,-,k10,-⟩ ⟨j0,j1,j2,j3,j4,j5,j6,j7,j8,-⟩
    refine jD ?_
    refine aD (d:=2) j0 (aD (d:=3) j1 (aD (d:=4) j2 (aD (d:=5) j3 (aD (d:=6) k10 (aD (d:=22) j4 ?_)))))
    refine aD (d:=23) j5 (aD (d:=24) j6 (aD (d:=29) j7 (aD (d:=34) j8 (aP (bA ?_)))))
    refine kQ 5 (r':=aK cJ 47 (some ⟨(bY (fa21 73)),0,none⟩) 2 [(⟨7,1,0,0,(⟨((i:Nat):Int),0,0,0⟩:KAm)⟩:KAct),za]) rfl (gP (F:=cJ) (xs:=[(⟨7,1,0,0,(⟨((i:Nat):Int),0,0,0⟩:KAm)⟩:KAct),za]) rfl (show 2≤1048576 by decide)) ?_
    refine sU [5,1,0,2,3,4,6,7] 8 rfl (by kernel_rfl) ?_
    refine mH (L:=[aK cJ 47 (some ⟨(bY (fa21 73)),0,none⟩) 2 [(⟨7,1,0,0,(⟨((i:Nat):Int),0,0,0⟩:KAm)⟩:KAct),za],eW tl]) (M:=[pt b12 (.cells #[Bx (za.kind),Ix (za.owner),Ix (za.other),Ix (za.hold),Ix (za.a.a0),Ix (za.a.a1),Ix (za.a.a2),Ix (za.a.a3)] 47),eW [(⟨0,1,1,(some ⟨b2,0,none⟩),4,4⟩:KOh)],pt b3 (.cells #[.int .u8 (0),.int .i64 (1),.int .i64 (1),.slice (some ⟨b2,0,none⟩) (4) 4] 32),aK aZ 3 (some ⟨b1,0,none⟩) 15 oA,pt (bY (fa21 75)) (.cells #[.int .u8 (0),.int .i64 (2),Nx (1+j),.slice (some ⟨(bY (fa21 73)),0,none⟩) (2) 2] 32),aK pX 32 (dC (fa21 76)) (dE (fa21 76)) (ohs++[(⟨0,2,((1+j:Nat):Int),(some ⟨(bY (fa21 73)),0,none⟩),2,2⟩:KOh)])]) (r:=eW (tl++[(⟨0,2,((1+j:Nat):Int),(some ⟨(bY (fa21 73)),0,none⟩),2,2⟩:KOh)])) (fun a h=>mQ (⟨by omega,by omega⟩) (⟨by omega,by omega⟩) (acc (iU ⟨by omega,by omega⟩ ⟨by omega,by omega⟩ ⟨by omega,by omega⟩ ⟨by omega,by omega⟩ ⟨by omega,by omega⟩ ⟨by omega,by omega⟩ ⟨by omega,by omega⟩:ActI (⟨7,1,0,0,(⟨((i:Nat):Int),0,0,0⟩:KAm)⟩:KAct)) (acc hza acn)) a h) ?_
    refine aC (lv (v:=Nx (j+1)) (bO rfl rfl (cW (by omega) (by omega))) (lE aU (aH (tZ [0,6,2,3,4,1,5] 7 ?_))))
    refine dD [true,true,true,true,true,false,false] rfl ?_
    exact bG ⟨(j+1,(ohs++[(⟨0,2,((1+j:Nat):Int),(some ⟨(bY (fa21 73)),0,none⟩),2,2⟩:KOh)]),(dC (fa21 76)),(dE (fa21 76)),(tl++[(⟨0,2,((1+j:Nat):Int),(some ⟨(bY (fa21 73)),0,none⟩),2,2⟩:KOh)])),⟨⟨rfl,rfl,rfl,rfl,rfl,rfl,rfl,rfl,rfl,rfl⟩,rfl,⟨by omega,by rw[List.length_append,List.length_singleton];omega,aXj hin⟩⟩,(show 7-(j+1)<7-j from by omega)⟩
   refine cK (aF (aF (cL (kM (lE fL ?_)))))
   refine gI gH (fun w β1 sb kn hw1=>wQ β1 w hw1 _ _ ohs (kn _ (jK 1 (F:=pX) (m:=ohs.length) rfl rfl)) (bEz hin ((kn _ (wH 2 rfl)) (⟨0,1,1,(some ⟨b2,0,none⟩),4,4⟩:KOh) (List.mem_singleton.2 rfl)) (kn _ (wH 0 rfl)))) ?_
   refine lE mB (aN (cR rfl (cG (aP (bA ?_)))))
   have hku1:(ku+1).toNat=ku.toNat+1:=by rw[UInt8.toNat_add];simp;omega
   refine aC (lv (v:=Bx (ku+(1:UInt8))) (bO (a:=((ku).toNat:Int)) (b:=((1:UInt8).toNat:Int)) rfl rfl (bBa _ _)) (lE aU ?_))
   refine aH (dD [false,false,true,true,true] rfl ?_)
   exact bG ⟨ku+1,⟨⟨rfl,rfl,rfl,rfl,rfl,rfl,rfl⟩,rfl,(by omega)⟩,(show 9-(ku+1).toNat<9-ku.toNat from by omega)⟩
  refine cK (aF (aF (cL (qV ?_))))
  obtain⟨mk,hmk,hmk18⟩:∃mk:Nat,min (max x5 0) 18=(mk:Int)∧mk≤18:=⟨(min (max x5 0) 18).toNat,by omega,by omega⟩
  refine cny [sv 82 (.agg #[.int .u8 (0),.int .i64 (1),.int .i64 (1),.slice (some ⟨b2,0,none⟩) (4) 4]) [] [] [0],sv 83 (Ix (x5)) [] [] [1],sv 84 (pp b3 3) [] [] [0],sv 85 (.slice (some ⟨b2,0,none⟩) (4) 4) [2] [2] [],sv 86 (.agg #[.int .u8 (0),Ix (x5),.int .i64 (1),.slice (some ⟨b2,0,none⟩) (4) 4]) [1,2,3] [1,3] [],sv 87 (Ix (x5)) [] [] [1],sv 88 (pp b3 3) [] [] [0],sv 89 (.slice (some ⟨b2,0,none⟩) (4) 4) [6] [6] [],sv 90 (.slice (some ⟨b2,0,none⟩) (1) 4) [6,7] [7] [],sv 91 (.agg #[.int .u8 (0),.int .i64 (1),Ix (x5),.slice (some ⟨b2,0,none⟩) (1) 4]) [5,6,7,8] [5,8] [],sv 92 (Ix (x5)) [] [] [1],sv 93 (Ix (max (x5) (0:Int))) [10] [10] [],sv 94 (Ix (min (max (x5) (0:Int)) (18:Int))) [10,11] [11] [],⟨[10,11,12],[12],[],[95],fun f=>f 95= .slice (some ⟨(bY (f 95)),0,none⟩) (mk) mk⟩,⟨[10,11,12,13],[13],[],[95,96],fun f=>f 96= .agg #[.int .u8 (0),.int .i64 (3),.int .i64 (1),.slice (some ⟨(bY (f 95)),0,none⟩) (mk) mk]⟩,⟨(List.range 15),[0,4,9,14],[],[97],fun f=>f 97= .slice (some ⟨(bY (f 97)),0,none⟩) 4 4⟩,sv 98 (.bool true) (List.range 16) [15] [],sv 99 (.bool false) (List.range 17) [16] []] [tk (eW [(⟨0,1,1,(some ⟨b2,0,none⟩),4,4⟩:KOh)]) [16],tk (pt b3 (.cells #[.int .u8 (0),.int .i64 (1),.int .i64 (1),.slice (some ⟨b2,0,none⟩) (4) 4] 32)) [0,3,7],tk (aK aZ 3 (some ⟨b1,0,none⟩) 15 oA) [],⟨(some 13),none,[16],[95],fun f=>aK cJ 47 (some ⟨(bY (f 95)),0,none⟩) mk (List.replicate mk (⟨0,0,0,0,zeroA⟩:KAct))⟩,⟨(some 15),none,[16],[95,97],fun f=>pt (bY (f 97)) (.cells #[.int .u8 (0),.int .i64 (1),.int .i64 (1),.slice (some ⟨b2,0,none⟩) (4) 4,.int .u8 (0),Ix (x5),.int .i64 (1),.slice (some ⟨b2,0,none⟩) (4) 4,.int .u8 (0),.int .i64 (1),Ix (x5),.slice (some ⟨b2,0,none⟩) (1) 4,.int .u8 (0),.int .i64 (3),.int .i64 (1),.slice (some ⟨(bY (f 95)),0,none⟩) (mk) mk] 32)⟩] [(2,pp b3 0),(4,Ix (x5)),(22,.slice (some ⟨b1,0,none⟩) (15) 15),(23,Nx (15)),(24,Nx (i))] [0,2,3,4] [] ⟨rfl,rfl,rfl,rfl,rfl,trivial⟩ ⟨?_,?_,?_,?_,?_,?_,?_,?_,?_,?_,?_,?_,?_,?_,?_,?_,?_,?_,trivial⟩ ?_
  ·rintro f M-⟨i0,-⟩
   exact aT (dK 0)
  ·rintro f M-⟨i0,-⟩
   exact aT aU
  ·rintro f M-⟨i0,-⟩
   exact aT aY
  ·rintro f M ⟨k0,-⟩-
   exact aT (fQ 0)
  ·rintro f M ⟨k0,k1,-⟩-
   exact gO (aA (d:=85) (aA (d:=83) rfl k0) k1) rfl (bV ua6.ok ua5 (vs:=[(1,Ix (x5)),(2,.int .i64 (1)),(3,.slice (some ⟨b2,0,none⟩) (4) 4)]) (cells:= #[.int .u8 (0),Ix (x5),.int .i64 (1),.slice (some ⟨b2,0,none⟩) (4) 4]) rfl (by kernel_rfl)) (.refl _)
  ·rintro f M-⟨i0,-⟩
   exact aT aU
  ·rintro f M-⟨i0,-⟩
   exact aT aY
  ·rintro f M ⟨k0,-⟩-
   exact aT (fQ 0)
  ·rintro f M ⟨k0,-⟩-
   exact gO (aA (d:=89) rfl k0) rfl (kA (a:=(some ⟨b2,0,none⟩)) (len:=4) (cap:=4) (h:=1) ua3 rfl rfl (by omega)) (.refl _)
  ·rintro f M ⟨k0,k1,-⟩-
   exact gO (aA (d:=90) (aA (d:=87) rfl k0) k1) rfl (bV ua6.ok ua5 (vs:=[(1,.int .i64 (1)),(2,Ix (x5)),(3,.slice (some ⟨b2,0,none⟩) (1) 4)]) (cells:= #[.int .u8 (0),.int .i64 (1),Ix (x5),.slice (some ⟨b2,0,none⟩) (1) 4]) rfl (by kernel_rfl)) (.refl _)
  ·rintro f M-⟨i0,-⟩
   exact aT aU
  ·rintro f M ⟨k0,-⟩-
   exact aT omx
  ·rintro f M ⟨k0,-⟩-
   exact aT omz
  ·rintro f M ⟨k0,-⟩-
   refine dL (aA (d:=94) rfl k0) ?_
   refine dA rfl rfl rfl (aRs (F:=cJ) (x0:=(⟨0,0,0,0,zeroA⟩:KAct)) (c:=mk) ua3 bDj ua4.ok rfl (congrArg (Value.int .i64) hmk) (congrArg (Value.int .i64) hmk) (by unfold maxLen;omega) (by omega)) ?_
   rintro _ _ ⟨b23,rfl,rfl⟩
   refine aH ?_
   exact aO (aA (d:=94) rfl k0) rfl (aB 0 rfl)
  ·rintro f M ⟨k0,-⟩-
   have hs95:f 95= .slice (some ⟨(bY (f 95)),0,none⟩) (mk) mk:=k0
   exact gO (aA rfl hs95) rfl (bV ua6.ok ua5 (vs:=[(1,.int .i64 (3)),(2,.int .i64 (1)),(3,.slice (some ⟨(bY (f 95)),0,none⟩) (mk) mk)]) (cells:= #[.int .u8 (0),.int .i64 (3),.int .i64 (1),.slice (some ⟨(bY (f 95)),0,none⟩) (mk) mk]) rfl (by kernel_rfl)) (.refl _)
  ·rintro f M ⟨k0,k1,k2,k3,-⟩-
   have hs96:f 96= .agg #[.int .u8 (0),.int .i64 (3),.int .i64 (1),.slice (some ⟨(bY (f 95)),0,none⟩) (mk) mk]:=k3
   refine dL (aA (aA (d:=91) (aA (d:=86) (aA (d:=82) rfl k0) k1) k2) hs96) ?_
   refine dA rfl rfl rfl (bZ tX ua6.ok (cells:= #[.int .u8 (0),.int .i64 (1),.int .i64 (1),.slice (some ⟨b2,0,none⟩) (4) 4,.int .u8 (0),Ix (x5),.int .i64 (1),.slice (some ⟨b2,0,none⟩) (4) 4,.int .u8 (0),.int .i64 (1),Ix (x5),.slice (some ⟨b2,0,none⟩) (1) 4,.int .u8 (0),.int .i64 (3),.int .i64 (1),.slice (some ⟨(bY (f 95)),0,none⟩) (mk) mk]) rfl rfl rfl (by kernel_rfl)) ?_
   rintro _ _ ⟨b25,rfl,rfl⟩
   refine aH ?_
   exact aO (aA (aA (d:=91) (aA (d:=86) (aA (d:=82) rfl k0) k1) k2) hs96) rfl (aB 0 rfl)
  ·rintro f M ⟨k0,-⟩-
   have hs97:f 97= .slice (some ⟨(bY (f 97)),0,none⟩) 4 4:=k0
   refine dL (aA rfl hs97) ?_
   refine gI gH (fun w β1 sb kn hw1=>wQ β1 w hw1 _ _ [(⟨0,1,1,(some ⟨b2,0,none⟩),4,4⟩:KOh),(⟨0,x5,1,(some ⟨b2,0,none⟩),4,4⟩:KOh),(⟨0,1,x5,(some ⟨b2,0,none⟩),1,4⟩:KOh),(⟨0,3,1,(some ⟨(bY (f 95)),0,none⟩),mk,mk⟩:KOh)] (kn _ (xV (F:=pX) 2 (m:=4) (xs:=[(⟨0,1,1,(some ⟨b2,0,none⟩),4,4⟩:KOh),(⟨0,x5,1,(some ⟨b2,0,none⟩),4,4⟩:KOh),(⟨0,1,x5,(some ⟨b2,0,none⟩),1,4⟩:KOh),(⟨0,3,1,(some ⟨(bY (f 95)),0,none⟩),mk,mk⟩:KOh)]) rfl rfl rfl (show 4≤1048576 by decide))) (aHu (aDu ((kn _ (wH 0 rfl)) (⟨0,1,1,(some ⟨b2,0,none⟩),4,4⟩:KOh) (List.mem_singleton.2 rfl)) (m:=4) (show 4≤4 by decide) (⟨by omega,by omega⟩:gT 1) (⟨by omega,by omega⟩:gT 1)) (aHu (aDu ((kn _ (wH 0 rfl)) (⟨0,1,1,(some ⟨b2,0,none⟩),4,4⟩:KOh) (List.mem_singleton.2 rfl)) (m:=4) (show 4≤4 by decide) (hni:gT x5) (⟨by omega,by omega⟩:gT 1)) (aHu (aDu ((kn _ (wH 0 rfl)) (⟨0,1,1,(some ⟨b2,0,none⟩),4,4⟩:KOh) (List.mem_singleton.2 rfl)) (m:=1) (show 1≤4 by decide) (⟨by omega,by omega⟩:gT 1) (hni:gT x5)) (aHu (bAb (kn _ (jK 1 (F:=cJ) (m:=mk) rfl (by simp))) (⟨by omega,by omega⟩:gT 3) (⟨by omega,by omega⟩:gT 1) acz) bDq))))) ?_
   refine aH ?_
   exact aO (aA rfl hs97) rfl (((aB 2 rfl).trans (aB 2 rfl)).trans (aB 2 rfl))
  ·rintro f M ⟨k0,-⟩-
   exact aT mB
  rintro fa26 ⟨-,-,-,-,-,-,-,-,-,-,-,-,-,-,-,-,-,k17,-⟩ ⟨j0,j1,j2,j3,-⟩
  refine jD ?_
  refine aD (d:=2) j0 (aD (d:=22) j1 (aD (d:=23) j2 (aD (d:=24) j3 (aD (d:=99) k17 (bA (cR rfl (cG ?_)))))))
  refine aP (bA (aC (lv (v:=Nx (i+1)) (bO rfl rfl (cW (by omega) (by omega))) (lE aU (aH ?_)))))
  refine dD [true,true,true,false,false] rfl ?_
  exact bG ⟨i+1,⟨⟨rfl,rfl,rfl,rfl⟩,rfl,(by omega)⟩,(show 15-(i+1)<15-i from by omega)⟩
 refine cK (aF (aF (cL (kM (lE iO (aN (eR (iK (r:=aK pX 32 none 0 []) (eA _ _ _) ?_))))))))
 refine iK (r:=eW []) wK (aC (lE aU (aN (aJ (jJ [true,true,false,false,false] rfl ?_)))))
 refine cZ (fun(x_:Nat×List KOh×Option Addr×Nat×List KOh) f L=>match x_ with|(i,ohs,p,c,tl)=>(f 9=sB p ohs c∧f 101=Nx (i))∧L=[eW tl,aK pX 32 p c ohs]∧(i≤17∧ohs.length=i+0∧(∀z∈ohs,z∈tl)∧(∀z,ohs[16]? =some z→2≤z.n∧2≤z.c))) (fun(i,ohs,p,c,tl)=>17-i) (0,[],none,0,[]) ?_ ?_
 ·exact⟨⟨rfl,rfl⟩,rfl,⟨Nat.zero_le _,rfl,fun z hz=>hz,fun z hz=>by simp at hz⟩⟩
 rintro⟨i,ohs,p,c,tl⟩ f0 L0 ⟨⟨hs9,hs101⟩,hL,⟨hi,hol,hin,h16⟩⟩
 subst L0
 refine bJ 9 hs9 (bJ 101 hs101 (bD (lE gN (aN (aL (cN _ rfl (fun hc27=> ?_) (fun hc27=> ?_)))))))
 ·refine eB (aL (aJ (bD (lE aU (lE bN (eY (lE aU ?_)))))))
  refine lv (v:=Nx (i%2)) (lR (a:=((i:Nat):Int)) (b:=(2:Int)) rfl rfl (by decide) (gG _ 2)) ?_
  refine lv (v:=Nx (1+(i%2))) (bO rfl rfl (cW (by omega) (by omega))) (lE aU ?_)
  refine lv (v:=Nx (1+i)) (bO rfl rfl (cW (by omega) (by omega))) ?_
  refine lv (v:= .agg #[.int .u8 (0),Nx (1+(i%2)),Nx (1+i),.slice none 0 0]) (bV ua6.ok ua5 (vs:=[(1,Nx (1+(i%2))),(2,Nx (1+i))]) (cells:= #[.int .u8 (0),Nx (1+(i%2)),Nx (1+i),.slice none 0 0]) rfl (by kernel_rfl)) ?_
  refine gB fun b28=>lu (mS 0 (#[.int .u8 (0),Nx (1+(i%2)),Nx (1+i),.slice none 0 0])) (aN (eR ?_))
  refine iK (r:=aK cJ 47 none 0 []) (eA _ _ _) (aC (lE aU (aN (aJ (jJ [true,true,true,true] rfl ?_)))))
  refine cZ (fun(x_:Nat×List KAct×Option Addr×Nat) f L=>match x_ with|(k,al,q,d)=>(f 9=sB p ohs c∧f 10=Nx (i)∧f 11=pp b28 0∧f 101=Nx (i)∧f 110=Nx (k))∧L=[aK cJ 47 q d al,pt b28 (.cells #[.int .u8 (0),Nx (1+(i%2)),Nx (1+i),sB q al d] 32),eW tl,aK pX 32 p c ohs]∧(k≤16∧al.length=k∧(∀x∈al,ActI x))) (fun(k,al,q,d)=>16-k) (0,[],none,0) ?_ ?_
  ·exact⟨⟨rfl,rfl,rfl,rfl,rfl⟩,rfl,⟨Nat.zero_le _,rfl,acn⟩⟩
  rintro⟨k,al,q,d⟩ f0 L0 ⟨⟨hs9,hs10,hs11,hs101,hs110⟩,hL,⟨hk,hal,hac⟩⟩
  subst L0
  refine bJ 9 hs9 (bJ 10 hs10 (bJ 11 hs11 (bJ 101 hs101 (bJ 110 hs110 (bD (lE gN (aN (aL (cN _ rfl (fun hc29=> ?_) (fun hc29=> ?_))))))))))
  ·refine eB (aL (aJ (bD (lE aU (lE bN (aN ?_))))))
   refine aJr [⟨[],[],[0],[113],fun f=>f 113=pp b28 3⟩,⟨[0],[0],[],[114],fun f=>f 114=sB q al d⟩,⟨[],[],[1],[115],fun f=>f 115=Nx (i)⟩,⟨[2],[2],[],[116],fun f=>f 116=Nx (16*i)⟩,⟨[2,3],[3],[],[117],fun f=>f 117=Nx (1+(16*i))⟩,⟨[],[],[2],[118],fun f=>f 118=Nx (k)⟩,⟨[2,3,4,5],[4,5],[],[119],fun f=>f 119=Nx ((1+(16*i))+k)⟩,⟨[],[],[2],[120],fun f=>f 120=Nx (k)⟩,⟨[7],[7],[],[121],fun f=>f 121=Nx (1+k)⟩,⟨[2,3,4,5,6,7,8],[6,8],[],[122],fun f=>f 122= .agg #[.int .u8 (1),Nx ((1+(16*i))+k),.int .i64 (0),.int .i64 (0),Nx (1+k),.int .i64 (0),.int .i64 (0),.int .i64 (0)]⟩,⟨[2,3,4,5,6,7,8,9],[9],[],[123],fun f=>f 123= .slice (some ⟨(bY (f 123)),0,none⟩) 1 1⟩,⟨(List.range 11),[1,10],[],[124],fun f=>f 124=sB (dC (f 124)) (al++[(⟨1,(((1+(16*i))+k:Nat):Int),0,0,(⟨((1+k:Nat):Int),0,0,0⟩:KAm)⟩:KAct)]) (dE (f 124))⟩,⟨(List.range 12),[],[0],[125],fun f=>f 125=pp b28 3⟩,⟨(List.range 13),[12,11],[],[],fun _=>True⟩] [⟨none,(some 11),[11],[],fun _=>aK cJ 47 q d al⟩,⟨none,(some 13),[1,13],[],fun _=>pt b28 (.cells #[.int .u8 (0),Nx (1+(i%2)),Nx (1+i),sB q al d] 32)⟩,⟨none,none,[],[],fun _=>eW tl⟩,⟨none,none,[],[],fun _=>aK pX 32 p c ohs⟩,⟨(some 10),none,[11],[123],fun f=>pt (bY (f 123)) (.cells #[.int .u8 (1),Nx ((1+(16*i))+k),.int .i64 (0),.int .i64 (0),Nx (1+k),.int .i64 (0),.int .i64 (0),.int .i64 (0)] 47)⟩,⟨(some 11),none,[],[124],fun f=>aK cJ 47 (dC (f 124)) (dE (f 124)) (al++[(⟨1,(((1+(16*i))+k:Nat):Int),0,0,(⟨((1+k:Nat):Int),0,0,0⟩:KAm)⟩:KAct)])⟩,⟨(some 13),none,[],[124],fun f=>pt b28 (.cells #[.int .u8 (0),Nx (1+(i%2)),Nx (1+i),sB (dC (f 124)) (al++[(⟨1,(((1+(16*i))+k:Nat):Int),0,0,(⟨((1+k:Nat):Int),0,0,0⟩:KAm)⟩:KAct)]) (dE (f 124))] 32)⟩] [(11,pp b28 0),(10,Nx (i)),(12,Nx (k)),(9,sB p ohs c),(101,Nx (i)),(110,Nx (k))] [3,1,0,4,5] [] (by kernel_rfl) (by kernel_rfl) (by kernel_rfl) (by kernel_rfl) rfl ⟨rfl,rfl,rfl,rfl,rfl,rfl,trivial⟩ ⟨?_,?_,?_,?_,?_,?_,?_,?_,?_,?_,?_,?_,?_,?_,trivial⟩ ?_
   ·rintro f M-⟨i0,-⟩
    exact aT aY
   ·rintro f M ⟨k0,-⟩-
    exact aT (fQ 0)
   ·rintro f M-⟨i0,-⟩
    exact aT aU
   ·rintro f M ⟨k0,-⟩-
    exact gO (aA (d:=115) rfl k0) rfl (tC (a:=(16:Int)) (b:=((i:Nat):Int)) rfl rfl (cW (by omega) (by omega))) (.refl _)
   ·rintro f M ⟨k0,-⟩-
    exact gO (aA (d:=116) rfl k0) rfl (bO (a:=(1:Int)) (b:=((16*i:Nat):Int)) rfl rfl (cW (by omega) (by omega))) (.refl _)
   ·rintro f M-⟨i0,-⟩
    exact aT aU
   ·rintro f M ⟨k0,k1,-⟩-
    exact gO (aA (d:=118) (aA (d:=117) rfl k0) k1) rfl (bO (a:=((1+(16*i):Nat):Int)) (b:=((k:Nat):Int)) rfl rfl (cW (by omega) (by omega))) (.refl _)
   ·rintro f M-⟨i0,-⟩
    exact aT aU
   ·rintro f M ⟨k0,-⟩-
    exact gO (aA (d:=120) rfl k0) rfl (bO (a:=(1:Int)) (b:=((k:Nat):Int)) rfl rfl (cW (by omega) (by omega))) (.refl _)
   ·rintro f M ⟨k0,k1,-⟩-
    refine dL (aA (d:=121) (aA (d:=119) rfl k0) k1) ?_
    refine gI gH (fun w β1 sb kn hw1=>fR β1 w hw1 (1:UInt8) (((1+(16*i))+k:Nat):Int) 0 0 ((1+k:Nat):Int)) (aH ?_)
    exact aO (aA (d:=121) (aA (d:=119) rfl k0) k1) rfl (List.Perm.refl _)
   ·rintro f M ⟨k0,-⟩-
    refine dL (aA (d:=122) rfl k0) ?_
    refine dA rfl rfl rfl (bZ ua3 ua4.ok (cells:= #[.int .u8 (1),Nx ((1+(16*i))+k),.int .i64 (0),.int .i64 (0),Nx (1+k),.int .i64 (0),.int .i64 (0),.int .i64 (0)]) rfl rfl rfl (by kernel_rfl)) ?_
    rintro _ _ ⟨b31,rfl,rfl⟩
    refine aH ?_
    exact aO (aA (d:=122) rfl k0) rfl (aB 0 rfl)
   ·rintro f M ⟨k0,k1,-⟩-
    have hs123:f 123= .slice (some ⟨(bY (f 123)),0,none⟩) 1 1:=k1
    refine dL (aA (aA (d:=114) rfl k0) hs123) ?_
    refine dA rfl rfl rfl (cF (F:=cJ) 0 ua3 bDj (p:=q) (m:=al.length) (xs:=al) (ys:=[(⟨1,(((1+(16*i))+k:Nat):Int),0,0,(⟨((1+k:Nat):Int),0,0,0⟩:KAm)⟩:KAct)]) (ao:=(some ⟨(bY (f 123)),0,none⟩)) (k:=1) (c:=1) rfl rfl rfl rfl rfl (gX (z:=(⟨1,(((1+(16*i))+k:Nat):Int),0,0,(⟨((1+k:Nat):Int),0,0,0⟩:KAm)⟩:KAct)) 1 rfl rfl) (by first|omega|simp only[List.length_nil,List.length_cons,List.length_append,List.length_set];omega) (by first|omega|simp only[List.length_nil,List.length_cons,List.length_append,List.length_set];omega)) ?_
    rintro _ _ ⟨rp34,rc35,rfl,rfl⟩
    refine aH ?_
    exact aO (aA (aA (d:=114) rfl k0) hs123) rfl ((aB 0 rfl).trans (aB 1 rfl))
   ·rintro f M-⟨i0,-⟩
    exact aT aY
   ·rintro f M ⟨k0,k1,-⟩-
    have hs124:f 124=sB (dC (f 124)) (al++[(⟨1,(((1+(16*i))+k:Nat):Int),0,0,(⟨((1+k:Nat):Int),0,0,0⟩:KAm)⟩:KAct)]) (dE (f 124)):=k1
    refine dL (aA (aA (d:=125) rfl k0) hs124) ?_
    refine lu (uT 0 aZd.ok (cs':= #[.int .u8 (0),Nx (1+(i%2)),Nx (1+i),sB (dC (f 124)) (al++[(⟨1,(((1+(16*i))+k:Nat):Int),0,0,(⟨((1+k:Nat):Int),0,0,0⟩:KAm)⟩:KAct)]) (dE (f 124))]) rfl rfl rfl rfl rfl rfl rfl) ?_
    refine aH ?_
    exact bC (aA (aA (d:=125) rfl k0) hs124) trivial (aB 0 rfl)
   rintro fa36 ⟨-,-,-,-,-,-,-,-,-,-,-,-,-,-,-⟩ ⟨j0,j1,j2,j3,j4,-⟩
   refine jD ?_
   refine aD (d:=9) j0 (aD (d:=10) j1 (aD (d:=11) j2 (aD (d:=101) j3 (aD (d:=110) j4 (aP (bA ?_))))))
   refine aC (lv (v:=Nx (k+1)) (bO rfl rfl (cW (by omega) (by omega))) (lE aU (aH (tZ [3,4,0,1,2] 5 ?_))))
   refine dD [true,true,true,true,false] rfl ?_
   exact bG ⟨(k+1,(al++[(⟨1,(((1+(16*i))+k:Nat):Int),0,0,(⟨((1+k:Nat):Int),0,0,0⟩:KAm)⟩:KAct)]),(dC (fa36 124)),(dE (fa36 124))),⟨⟨rfl,rfl,rfl,rfl,rfl⟩,rfl,⟨by omega,by rw[List.length_append,List.length_singleton];omega,aca hac (acc (iU ⟨by omega,by omega⟩ ⟨by omega,by omega⟩ ⟨by omega,by omega⟩ ⟨by omega,by omega⟩ ⟨by omega,by omega⟩ ⟨by omega,by omega⟩ ⟨by omega,by omega⟩) acn)⟩⟩,(show 16-(k+1)<16-k from by omega)⟩
  refine cK (aF (aF (cL (qV (bD (lE aU (lE fD (aN (cN _ rfl (fun hc37=> ?_) (fun hc37=> ?_))))))))))
  ·refine aC (gI gH (fun w β1 sb kn hw1=>fR β1 w hw1 (3:UInt8) 1 300 0 1) ?_)
   refine gI gH (fun w β1 sb kn hw1=>fR β1 w hw1 (1:UInt8) 301 0 0 0) ?_
   refine gI gH (fun w β1 sb kn hw1=>fR β1 w hw1 (1:UInt8) 302 0 0 1) ?_
   refine dA rfl rfl rfl (bZ ua3 ua4.ok (cells:= #[.int .u8 (3),.int .i64 (1),.int .i64 (300),.int .i64 (0),.int .i64 (1),.int .i64 (0),.int .i64 (0),.int .i64 (0),.int .u8 (1),.int .i64 (301),.int .i64 (0),.int .i64 (0),.int .i64 (0),.int .i64 (0),.int .i64 (0),.int .i64 (0),.int .u8 (1),.int .i64 (302),.int .i64 (0),.int .i64 (0),.int .i64 (1),.int .i64 (0),.int .i64 (0),.int .i64 (0)]) rfl rfl rfl (by kernel_rfl)) ?_
   rintro _ _ ⟨b38,rfl,rfl⟩
   refine lE aY ?_
   refine lu (uT 2 aZd.ok (cs':= #[.int .u8 (0),Nx (1+(i%2)),Nx (1+i),.slice (some ⟨b38,0,none⟩) 3 3]) rfl rfl rfl rfl rfl rfl rfl) (aN ?_)
   refine kQ 0 (r':=aK cJ 47 (some ⟨b38,0,none⟩) 3 [(⟨3,1,300,0,(⟨1,0,0,0⟩:KAm)⟩:KAct),(⟨1,301,0,0,zeroA⟩:KAct),(⟨1,302,0,0,(⟨1,0,0,0⟩:KAm)⟩:KAct)]) rfl (gP (F:=cJ) (xs:=[(⟨3,1,300,0,(⟨1,0,0,0⟩:KAm)⟩:KAct),(⟨1,301,0,0,zeroA⟩:KAct),(⟨1,302,0,0,(⟨1,0,0,0⟩:KAm)⟩:KAct)]) rfl (show 3≤1048576 by decide)) ?_
   refine sU [0,3,1,2,4] 5 rfl (by kernel_rfl) ?_
   refine mH (L:=[aK cJ 47 (some ⟨b38,0,none⟩) 3 [(⟨3,1,300,0,(⟨1,0,0,0⟩:KAm)⟩:KAct),(⟨1,301,0,0,zeroA⟩:KAct),(⟨1,302,0,0,(⟨1,0,0,0⟩:KAm)⟩:KAct)],eW tl]) (M:=[aK cJ 47 q d al,pt b28 (.cells #[.int .u8 (0),Nx (1+(i%2)),Nx (1+i),.slice (some ⟨b38,0,none⟩) (3) 3] 32),aK pX 32 p c ohs]) (r:=eW (tl++[(⟨0,((1+(i%2):Nat):Int),((1+i:Nat):Int),(some ⟨b38,0,none⟩),3,3⟩:KOh)])) (fun a h=>mQ (⟨by omega,by omega⟩) (⟨by omega,by omega⟩) (acc (iU ⟨by omega,by omega⟩ ⟨by omega,by omega⟩ ⟨by omega,by omega⟩ ⟨by omega,by omega⟩ ⟨by omega,by omega⟩ ⟨by omega,by omega⟩ ⟨by omega,by omega⟩:ActI (⟨3,1,300,0,(⟨1,0,0,0⟩:KAm)⟩:KAct)) (acc (iU ⟨by omega,by omega⟩ ⟨by omega,by omega⟩ ⟨by omega,by omega⟩ ⟨by omega,by omega⟩ ⟨by omega,by omega⟩ ⟨by omega,by omega⟩ ⟨by omega,by omega⟩:ActI (⟨1,301,0,0,zeroA⟩:KAct)) (acc (iU ⟨by omega,by omega⟩ ⟨by omega,by omega⟩ ⟨by omega,by omega⟩ ⟨by omega,by omega⟩ ⟨by omega,by omega⟩ ⟨by omega,by omega⟩ ⟨by omega,by omega⟩:ActI (⟨1,302,0,0,(⟨1,0,0,0⟩:KAm)⟩:KAct)) acn))) a h) ?_
   refine aC (lE fL (lE (dK 2) ?_))
   refine dA rfl rfl rfl (bZ tX ua6.ok (cells:= #[.int .u8 (0),Nx (1+(i%2)),Nx (1+i),.slice (some ⟨b38,0,none⟩) (3) 3]) rfl rfl rfl (by kernel_rfl)) ?_
   rintro _ _ ⟨b39,rfl,rfl⟩
   refine dA rfl rfl rfl (cF (F:=pX) 4 tX aOu (p:=p) (m:=ohs.length) (xs:=ohs) (ys:=[(⟨0,((1+(i%2):Nat):Int),((1+i:Nat):Int),(some ⟨b38,0,none⟩),3,3⟩:KOh)]) (ao:=(some ⟨b39,0,none⟩)) (k:=1) (c:=1) rfl rfl rfl rfl rfl (gX (z:=(⟨0,((1+(i%2):Nat):Int),((1+i:Nat):Int),(some ⟨b38,0,none⟩),3,3⟩:KOh)) 0 rfl rfl) (by first|omega|simp only[List.length_nil,List.length_cons,List.length_append,List.length_set];omega) (by first|omega|simp only[List.length_nil,List.length_cons,List.length_append,List.length_set];omega)) ?_
   rintro _ _ ⟨rp40,rc41,rfl,rfl⟩
   refine lE iO (aH (aP (bA (aC (lv (v:=Nx (i+1)) (bO rfl rfl (cW (by omega) (by omega))) (lE aU (aH ?_)))))))
   refine dD (L':=[eW (tl++[(⟨0,((1+(i%2):Nat):Int),((1+i:Nat):Int),(some ⟨b38,0,none⟩),3,3⟩:KOh)]),aK pX 32 rp40 rc41 (ohs++[(⟨0,((1+(i%2):Nat):Int),((1+i:Nat):Int),(some ⟨b38,0,none⟩),3,3⟩:KOh)])]) [false,true,false,false,true] rfl ?_
   exact bG ⟨(i+1,(ohs++[(⟨0,((1+(i%2):Nat):Int),((1+i:Nat):Int),(some ⟨b38,0,none⟩),3,3⟩:KOh)]),rp40,rc41,(tl++[(⟨0,((1+(i%2):Nat):Int),((1+i:Nat):Int),(some ⟨b38,0,none⟩),3,3⟩:KOh)])),⟨⟨rfl,rfl⟩,rfl,⟨by omega,by rw[List.length_append,List.length_singleton];omega,zI hin,aNm (by omega) (show 2≤3 by decide) (show 2≤3 by decide)⟩⟩,(show 17-(i+1)<17-i from by omega)⟩
  refine eB (sU [0,2,1,3] 4 rfl (by kernel_rfl) ?_)
  refine mH (L:=[aK cJ 47 q d al,eW tl]) (M:=[pt b28 (.cells #[.int .u8 (0),Nx (1+(i%2)),Nx (1+i),sB q al d] 32),aK pX 32 p c ohs]) (r:=eW (tl++[(⟨0,((1+(i%2):Nat):Int),((1+i:Nat):Int),q,al.length,d⟩:KOh)])) (fun a h=>mQ (⟨by omega,by omega⟩) (⟨by omega,by omega⟩) hac a h) ?_
  refine aC (lE fL (lE (dK 1) ?_))
  refine dA rfl rfl rfl (bZ tX ua6.ok (cells:= #[.int .u8 (0),Nx (1+(i%2)),Nx (1+i),sB q al d]) rfl rfl rfl (by kernel_rfl)) ?_
  rintro _ _ ⟨b42,rfl,rfl⟩
  refine dA rfl rfl rfl (cF (F:=pX) 3 tX aOu (p:=p) (m:=ohs.length) (xs:=ohs) (ys:=[(⟨0,((1+(i%2):Nat):Int),((1+i:Nat):Int),q,al.length,d⟩:KOh)]) (ao:=(some ⟨b42,0,none⟩)) (k:=1) (c:=1) rfl rfl rfl rfl rfl (gX (z:=(⟨0,((1+(i%2):Nat):Int),((1+i:Nat):Int),q,al.length,d⟩:KOh)) 0 rfl rfl) (by first|omega|simp only[List.length_nil,List.length_cons,List.length_append,List.length_set];omega) (by first|omega|simp only[List.length_nil,List.length_cons,List.length_append,List.length_set];omega)) ?_
  rintro _ _ ⟨rp43,rc44,rfl,rfl⟩
  refine lE iO (aH (aP (bA (aC (lv (v:=Nx (i+1)) (bO rfl rfl (cW (by omega) (by omega))) (lE aU (aH ?_)))))))
  refine dD [false,true,false,true] rfl ?_
  exact bG ⟨(i+1,(ohs++[(⟨0,((1+(i%2):Nat):Int),((1+i:Nat):Int),q,al.length,d⟩:KOh)]),rp43,rc44,(tl++[(⟨0,((1+(i%2):Nat):Int),((1+i:Nat):Int),q,al.length,d⟩:KOh)])),⟨⟨rfl,rfl⟩,rfl,⟨by omega,by rw[List.length_append,List.length_singleton];omega,zI hin,aSc (by omega)⟩⟩,(show 17-(i+1)<17-i from by omega)⟩
 refine cK (aF (aF (cL (qV ?_))))
 have hi17:i=17:=by omega
 obtain⟨y16,hy16⟩:∃y_,ohs[16]? =some y_:=⟨_,List.getElem?_eq_getElem (by omega)⟩
 obtain⟨hyn,hyc⟩:=h16 _ hy16
 refine cny [sv 139 (sB p ohs c) [] [] [0],sv 140 (sB p ohs c) [] [] [0],sv 141 (.pointer (some ((ba p).add (16*4)))) [1] [1] [],sv 142 (.pointer (some ((ba p).add (16*4+3)))) [1,2] [2] [],sv 143 (.slice y16.p (y16.n) y16.c) [1,2,3] [3] [],sv 144 (.slice y16.p (2) y16.c) [1,2,3,4] [4] [],sv 145 (.agg #[.int .u8 (0),.int .i64 (9),.int .i64 (1),.slice y16.p (2) y16.c]) [1,2,3,4,5] [5] [],sv 146 (.agg #[.int .u8 (3),.int .i64 (300),.int .i64 (1),.int .i64 (0),.int .i64 (1),.int .i64 (0),.int .i64 (0),.int .i64 (0)]) [] [] [],sv 147 (.agg #[.int .u8 (3),.int .i64 (2),.int .i64 (303),.int .i64 (0),.int .i64 (1),.int .i64 (0),.int .i64 (0),.int .i64 (0)]) [7] [] [],⟨[7,8],[7,8],[],[148],fun f=>f 148= .slice (some ⟨(bY (f 148)),0,none⟩) 2 2⟩,⟨[7,8,9],[9],[],[148,149],fun f=>f 149= .agg #[.int .u8 (0),.int .i64 (9),.int .i64 (2),.slice (some ⟨(bY (f 148)),0,none⟩) 2 2]⟩,sv 150 (.agg #[.int .u8 (7),.int .i64 (0),.int .i64 (0),.slice none 0 0]) [] [] [],⟨[1,2,3,4,5,6,7,8,9,10,11],[6,10,11],[],[151],fun f=>f 151= .slice (some ⟨(bY (f 151)),0,none⟩) 3 3⟩,⟨(List.range 13),[0,12],[],[148,152],fun f=>f 152=sB (dC (f 152)) (ohs++[(⟨0,9,1,y16.p,2,y16.c⟩:KOh),(⟨0,9,2,(some ⟨(bY (f 148)),0,none⟩),2,2⟩:KOh),(⟨7,0,0,none,0,0⟩:KOh)]) (dE (f 152))⟩,⟨(List.range 14),[13],[],[9,148,152],fun f=>f 9=sB (dC (f 152)) (ohs++[(⟨0,9,1,y16.p,2,y16.c⟩:KOh),(⟨0,9,2,(some ⟨(bY (f 148)),0,none⟩),2,2⟩:KOh),(⟨7,0,0,none,0,0⟩:KOh)]) (dE (f 152))⟩] [tk (eW tl) [],⟨none,(some 13),[2,4,13],[],fun _=>aK pX 32 p c ohs⟩,⟨(some 9),none,[],[148],fun f=>pt (bY (f 148)) (.cells #[.int .u8 (3),.int .i64 (300),.int .i64 (1),.int .i64 (0),.int .i64 (1),.int .i64 (0),.int .i64 (0),.int .i64 (0),.int .u8 (3),.int .i64 (2),.int .i64 (303),.int .i64 (0),.int .i64 (1),.int .i64 (0),.int .i64 (0),.int .i64 (0)] 47)⟩,⟨(some 12),none,[13],[148,151],fun f=>pt (bY (f 151)) (.cells #[.int .u8 (0),.int .i64 (9),.int .i64 (1),.slice y16.p (2) y16.c,.int .u8 (0),.int .i64 (9),.int .i64 (2),.slice (some ⟨(bY (f 148)),0,none⟩) 2 2,.int .u8 (7),.int .i64 (0),.int .i64 (0),.slice none 0 0] 32)⟩,⟨(some 13),none,[],[148,152],fun f=>aK pX 32 (dC (f 152)) (dE (f 152)) (ohs++[(⟨0,9,1,y16.p,2,y16.c⟩:KOh),(⟨0,9,2,(some ⟨(bY (f 148)),0,none⟩),2,2⟩:KOh),(⟨7,0,0,none,0,0⟩:KOh)])⟩] [(9,sB p ohs c)] [] [] ⟨rfl,trivial⟩ ⟨?_,?_,?_,?_,?_,?_,?_,?_,?_,?_,?_,?_,?_,?_,?_,trivial⟩ ?_
 ·rintro f M-⟨i0,-⟩
  exact aT fL
 ·rintro f M-⟨i0,-⟩
  exact aT fL
 ·rintro f M ⟨k0,-⟩-
  exact vS (L':=aK pX 32 p c ohs::M) (aA (d:=140) rfl k0) rfl (eL 0 (F:=pX) (j:=16) (m:=ohs.length) (xs:=ohs) rfl rfl rfl tX (by omega) rfl) (aB 0 rfl) (by rfl)
 ·rintro f M ⟨k0,-⟩-
  exact gO (aA (d:=141) rfl k0) rfl (bIh rfl bLi.ok) (.refl _)
 ·rintro f M ⟨k0,-⟩-
  exact vS (L':=aK pX 32 p c ohs::M) (aA (d:=142) rfl k0) rfl (bI aZd.ok rfl (aRn 0 (F:=pX) (o:=3) (us:=[.slice y16.p (y16.n) y16.c]) rfl hy16 rfl)) (aB 0 rfl) (by rfl)
 ·rintro f M ⟨k0,-⟩-
  exact gO (aA (d:=143) rfl k0) rfl (kA (a:=y16.p) (len:=y16.n) (cap:=y16.c) (h:=2) ua3 rfl rfl (by omega)) (.refl _)
 ·rintro f M ⟨k0,-⟩-
  exact gO (aA (d:=144) rfl k0) rfl (bV ua6.ok ua5 (vs:=[(1,.int .i64 (9)),(2,.int .i64 (1)),(3,.slice y16.p (2) y16.c)]) (cells:= #[.int .u8 (0),.int .i64 (9),.int .i64 (1),.slice y16.p (2) y16.c]) rfl (by kernel_rfl)) (.refl _)
 ·rintro f M- -
  refine dL rfl ?_
  refine gI gH (fun w β1 sb kn hw1=>fR β1 w hw1 (3:UInt8) 300 1 0 1) (aH ?_)
  exact aO rfl rfl (List.Perm.refl _)
 ·rintro f M- -
  refine dL rfl ?_
  refine gI gH (fun w β1 sb kn hw1=>fR β1 w hw1 (3:UInt8) 2 303 0 1) (aH ?_)
  exact aO rfl rfl (List.Perm.refl _)
 ·rintro f M ⟨k0,k1,-⟩-
  refine dL (aA (d:=147) (aA (d:=146) rfl k0) k1) ?_
  refine dA rfl rfl rfl (bZ ua3 ua4.ok (cells:= #[.int .u8 (3),.int .i64 (300),.int .i64 (1),.int .i64 (0),.int .i64 (1),.int .i64 (0),.int .i64 (0),.int .i64 (0),.int .u8 (3),.int .i64 (2),.int .i64 (303),.int .i64 (0),.int .i64 (1),.int .i64 (0),.int .i64 (0),.int .i64 (0)]) rfl rfl rfl (by kernel_rfl)) ?_
  rintro _ _ ⟨b46,rfl,rfl⟩
  refine aH ?_
  exact aO (aA (d:=147) (aA (d:=146) rfl k0) k1) rfl (aB 0 rfl)
 ·rintro f M ⟨k0,-⟩-
  have hs148:f 148= .slice (some ⟨(bY (f 148)),0,none⟩) 2 2:=k0
  exact gO (aA rfl hs148) rfl (bV ua6.ok ua5 (vs:=[(1,.int .i64 (9)),(2,.int .i64 (2)),(3,.slice (some ⟨(bY (f 148)),0,none⟩) 2 2)]) (cells:= #[.int .u8 (0),.int .i64 (9),.int .i64 (2),.slice (some ⟨(bY (f 148)),0,none⟩) 2 2]) rfl (by kernel_rfl)) (.refl _)
 ·rintro f M- -
  exact gO rfl rfl (bV ua6.ok ua5 (vs:=[(0,.int .u8 (7))]) (cells:= #[.int .u8 (7),.int .i64 (0),.int .i64 (0),.slice none 0 0]) rfl (by kernel_rfl)) (.refl _)
 ·rintro f M ⟨k0,k1,k2,-⟩-
  have hs149:f 149= .agg #[.int .u8 (0),.int .i64 (9),.int .i64 (2),.slice (some ⟨(bY (f 148)),0,none⟩) 2 2]:=k1
  refine dL (aA (d:=150) (aA (aA (d:=145) rfl k0) hs149) k2) ?_
  refine dA rfl rfl rfl (bZ tX ua6.ok (cells:= #[.int .u8 (0),.int .i64 (9),.int .i64 (1),.slice y16.p (2) y16.c,.int .u8 (0),.int .i64 (9),.int .i64 (2),.slice (some ⟨(bY (f 148)),0,none⟩) 2 2,.int .u8 (7),.int .i64 (0),.int .i64 (0),.slice none 0 0]) rfl rfl rfl (by kernel_rfl)) ?_
  rintro _ _ ⟨b48,rfl,rfl⟩
  refine aH ?_
  exact aO (aA (d:=150) (aA (aA (d:=145) rfl k0) hs149) k2) rfl (aB 0 rfl)
 ·rintro f M ⟨k0,k1,-⟩-
  have hs151:f 151= .slice (some ⟨(bY (f 151)),0,none⟩) 3 3:=k1
  refine dL (aA (aA (d:=139) rfl k0) hs151) ?_
  refine dA rfl rfl rfl (cF (F:=pX) 0 tX aOu (p:=p) (m:=ohs.length) (xs:=ohs) (ys:=[(⟨0,9,1,y16.p,2,y16.c⟩:KOh),(⟨0,9,2,(some ⟨(bY (f 148)),0,none⟩),2,2⟩:KOh),(⟨7,0,0,none,0,0⟩:KOh)]) (ao:=(some ⟨(bY (f 151)),0,none⟩)) (k:=3) (c:=3) rfl rfl rfl rfl rfl (bH.imp (xV (F:=pX) 1 (m:=3) (xs:=[(⟨0,9,1,y16.p,2,y16.c⟩:KOh),(⟨0,9,2,(some ⟨(bY (f 148)),0,none⟩),2,2⟩:KOh),(⟨7,0,0,none,0,0⟩:KOh)]) rfl rfl rfl (by simp)) fun _ h=>(Sl.parts h).2.2.2) (by first|omega|simp only[List.length_nil,List.length_cons,List.length_append,List.length_set];omega) (by first|omega|simp only[List.length_nil,List.length_cons,List.length_append,List.length_set];omega)) ?_
  rintro _ _ ⟨rp51,rc52,rfl,rfl⟩
  refine aH ?_
  exact aO (aA (aA (d:=139) rfl k0) hs151) rfl ((aB 0 rfl).trans (aB 1 rfl))
 ·rintro f M ⟨k0,-⟩-
  have hs152:f 152=sB (dC (f 152)) (ohs++[(⟨0,9,1,y16.p,2,y16.c⟩:KOh),(⟨0,9,2,(some ⟨(bY (f 148)),0,none⟩),2,2⟩:KOh),(⟨7,0,0,none,0,0⟩:KOh)]) (dE (f 152)):=k0
  exact aT iO
 rintro fa53 ⟨-,-,-,-,-,-,-,-,-,-,-,-,-,-,k14,-⟩-
 refine jD ?_
 refine aD (d:=9) k14 (qV (aL ?_))
 refine kQ 0 (r':=eW (tl++[(⟨0,9,1,y16.p,2,y16.c⟩:KOh)])) rfl (zL (hin _ (List.mem_of_getElem? hy16)) hyn (⟨by omega,by omega⟩) (⟨by omega,by omega⟩)) ?_
 refine kQ 1 (r':=aK cJ 47 (some ⟨(bY (fa53 148)),0,none⟩) 2 [(⟨3,300,1,0,(⟨1,0,0,0⟩:KAm)⟩:KAct),(⟨3,2,303,0,(⟨1,0,0,0⟩:KAm)⟩:KAct)]) rfl (gP (F:=cJ) (xs:=[(⟨3,300,1,0,(⟨1,0,0,0⟩:KAm)⟩:KAct),(⟨3,2,303,0,(⟨1,0,0,0⟩:KAm)⟩:KAct)]) rfl (show 2≤1048576 by decide)) ?_
 refine sU [1,0,2,3] 4 rfl (by kernel_rfl) ?_
 refine mH (L:=[aK cJ 47 (some ⟨(bY (fa53 148)),0,none⟩) 2 [(⟨3,300,1,0,(⟨1,0,0,0⟩:KAm)⟩:KAct),(⟨3,2,303,0,(⟨1,0,0,0⟩:KAm)⟩:KAct)],eW (tl++[(⟨0,9,1,y16.p,2,y16.c⟩:KOh)])]) (M:=[pt (bY (fa53 151)) (.cells #[.int .u8 (0),.int .i64 (9),.int .i64 (1),.slice y16.p (2) y16.c,.int .u8 (0),.int .i64 (9),.int .i64 (2),.slice (some ⟨(bY (fa53 148)),0,none⟩) (2) 2,.int .u8 (7),.int .i64 (0),.int .i64 (0),.slice none 0 0] 32),aK pX 32 (dC (fa53 152)) (dE (fa53 152)) (ohs++[(⟨0,9,1,y16.p,2,y16.c⟩:KOh),(⟨0,9,2,(some ⟨(bY (fa53 148)),0,none⟩),2,2⟩:KOh),(⟨7,0,0,none,0,0⟩:KOh)])]) (r:=eW ((tl++[(⟨0,9,1,y16.p,2,y16.c⟩:KOh)])++[(⟨0,9,2,(some ⟨(bY (fa53 148)),0,none⟩),2,2⟩:KOh)])) (fun a h=>mQ (⟨by omega,by omega⟩) (⟨by omega,by omega⟩) (acc (iU ⟨by omega,by omega⟩ ⟨by omega,by omega⟩ ⟨by omega,by omega⟩ ⟨by omega,by omega⟩ ⟨by omega,by omega⟩ ⟨by omega,by omega⟩ ⟨by omega,by omega⟩:ActI (⟨3,300,1,0,(⟨1,0,0,0⟩:KAm)⟩:KAct)) (acc (iU ⟨by omega,by omega⟩ ⟨by omega,by omega⟩ ⟨by omega,by omega⟩ ⟨by omega,by omega⟩ ⟨by omega,by omega⟩ ⟨by omega,by omega⟩ ⟨by omega,by omega⟩:ActI (⟨3,2,303,0,(⟨1,0,0,0⟩:KAm)⟩:KAct)) acn)) a h) ?_
 refine kQ 0 (r':=eW (((tl++[(⟨0,9,1,y16.p,2,y16.c⟩:KOh)])++[(⟨0,9,2,(some ⟨(bY (fa53 148)),0,none⟩),2,2⟩:KOh)])++[(⟨7,0,0,none,0,0⟩:KOh)])) rfl (aIq (⟨by omega,by omega⟩) (⟨by omega,by omega⟩)) ?_
 replace hin:∀z∈(ohs++[(⟨0,9,1,y16.p,2,y16.c⟩:KOh),(⟨0,9,2,(some ⟨(bY (fa53 148)),0,none⟩),2,2⟩:KOh),(⟨7,0,0,none,0,0⟩:KOh)]),z∈(((tl++[(⟨0,9,1,y16.p,2,y16.c⟩:KOh)])++[(⟨0,9,2,(some ⟨(bY (fa53 148)),0,none⟩),2,2⟩:KOh)])++[(⟨7,0,0,none,0,0⟩:KOh)]):=fun z hz=>by
  rcases List.mem_append.1 hz with hz|hz
  ·exact List.mem_append_left _ (List.mem_append_left _ (List.mem_append_left _ (hin z hz)))
  ·simp only[List.mem_cons,List.not_mem_nil,or_false]at hz;rcases hz with rfl|rfl|rfl<;>simp
 refine aC (lE aU (aN (aJ (jJ [true,false,true] rfl ?_))))
 refine cZ (fun(x_:Nat×List KOh×Option Addr×Nat×List KOh) f L=>match x_ with|(i,ohs,p,c,tl)=>(f 9=sB p ohs c∧f 153=Nx (i))∧L=[eW tl,aK pX 32 p c ohs]∧(i≤9∧ohs.length=i+20∧(∀z∈ohs,z∈tl))) (fun(i,ohs,p,c,tl)=>9-i) (0,(ohs++[(⟨0,9,1,y16.p,2,y16.c⟩:KOh),(⟨0,9,2,(some ⟨(bY (fa53 148)),0,none⟩),2,2⟩:KOh),(⟨7,0,0,none,0,0⟩:KOh)]),(dC (fa53 152)),(dE (fa53 152)),(((tl++[(⟨0,9,1,y16.p,2,y16.c⟩:KOh)])++[(⟨0,9,2,(some ⟨(bY (fa53 148)),0,none⟩),2,2⟩:KOh)])++[(⟨7,0,0,none,0,0⟩:KOh)])) ?_ ?_
 ·exact⟨⟨rfl,rfl⟩,rfl,⟨Nat.zero_le _,by simp only[List.length_append,List.length_cons,List.length_nil];omega,hin⟩⟩
 rintro⟨i,ohs,p,c,tl⟩ f0 L0 ⟨⟨hs9,hs153⟩,hL,⟨hi,hol,hin⟩⟩
 subst L0
 refine bJ 9 hs9 (bJ 153 hs153 (bD (lE gN (aN (aL (cN (((i:Nat):Int)<(9:Int)) rfl (fun hc54=> ?_) (fun hc54=> ?_)))))))
 ·refine eB (aL (aJ (bD (lE aU (lE bN (eY (lE aU (lv (v:=Nx (1+i)) (bO rfl rfl (cW (by omega) (by omega))) ?_))))))))
  refine lv (v:= .agg #[.int .u8 (0),.int .i64 (8),Nx (1+i),.slice none 0 0]) (bV ua6.ok ua5 (vs:=[(1,.int .i64 (8)),(2,Nx (1+i))]) (cells:= #[.int .u8 (0),.int .i64 (8),Nx (1+i),.slice none 0 0]) rfl (by kernel_rfl)) ?_
  refine gB fun b55=>lu (mS 0 (#[.int .u8 (0),.int .i64 (8),Nx (1+i),.slice none 0 0])) (aN (eR ?_))
  refine iK (r:=aK cJ 47 none 0 []) (eA _ _ _) (aC (lE aU (aN (aJ (jJ [true,true,true,true] rfl ?_)))))
  refine cZ (fun(x_:Nat×List KAct×Option Addr×Nat) f L=>match x_ with|(k,al,q,d)=>(f 9=sB p ohs c∧f 14=pp b55 0∧f 153=Nx (i)∧f 159=Nx (k))∧L=[aK cJ 47 q d al,pt b55 (.cells #[.int .u8 (0),.int .i64 (8),Nx (1+i),sB q al d] 32),eW tl,aK pX 32 p c ohs]∧(k≤16∧al.length=k∧(∀x∈al,ActI x))) (fun(k,al,q,d)=>16-k) (0,[],none,0) ?_ ?_
  ·exact⟨⟨rfl,rfl,rfl,rfl⟩,rfl,⟨Nat.zero_le _,rfl,acn⟩⟩
  rintro⟨k,al,q,d⟩ f0 L0 ⟨⟨hs9,hs14,hs153,hs159⟩,hL,⟨hk,hal,hac⟩⟩
  subst L0
  refine bJ 9 hs9 (bJ 14 hs14 (bJ 153 hs153 (bJ 159 hs159 (bD (lE gN (aN (aL (cN _ rfl (fun hc56=> ?_) (fun hc56=> ?_)))))))))
  ·refine eB (aL (aJ ?_))
   refine cny [sv 161 (pp b55 3) [] [] [0],sv 162 (sB q al d) [0] [0] [],sv 163 (.agg #[.int .u8 (4),.int .i64 (16),.int .i64 (0),.int .i64 (0),.int .i64 (0),.int .i64 (0),.int .i64 (0),.int .i64 (0)]) [] [] [],⟨[2],[2],[],[164],fun f=>f 164= .slice (some ⟨(bY (f 164)),0,none⟩) 1 1⟩,⟨[0,1,2,3],[1,3],[],[165],fun f=>f 165=sB (dC (f 165)) (al++[(⟨4,16,0,0,zeroA⟩:KAct)]) (dE (f 165))⟩,sv 166 (pp b55 3) [0,1,2,3,4] [] [0],⟨(List.range 6),[5,4],[],[],fun _=>True⟩] [⟨none,(some 4),[4],[],fun _=>aK cJ 47 q d al⟩,⟨none,(some 6),[1,6],[],fun _=>pt b55 (.cells #[.int .u8 (0),.int .i64 (8),Nx (1+i),sB q al d] 32)⟩,tk (eW tl) [],tk (aK pX 32 p c ohs) [],⟨(some 3),none,[4],[164],fun f=>pt (bY (f 164)) (.cells #[.int .u8 (4),.int .i64 (16),.int .i64 (0),.int .i64 (0),.int .i64 (0),.int .i64 (0),.int .i64 (0),.int .i64 (0)] 47)⟩,⟨(some 4),none,[],[165],fun f=>aK cJ 47 (dC (f 165)) (dE (f 165)) (al++[(⟨4,16,0,0,zeroA⟩:KAct)])⟩,⟨(some 6),none,[],[165],fun f=>pt b55 (.cells #[.int .u8 (0),.int .i64 (8),Nx (1+i),sB (dC (f 165)) (al++[(⟨4,16,0,0,zeroA⟩:KAct)]) (dE (f 165))] 32)⟩] [(14,pp b55 0),(9,sB p ohs c),(153,Nx (i)),(159,Nx (k))] [1,0,2,3] [] ⟨rfl,rfl,rfl,rfl,trivial⟩ ⟨?_,?_,?_,?_,?_,?_,?_,trivial⟩ ?_
   ·rintro f M-⟨i0,-⟩
    exact aT aY
   ·rintro f M ⟨k0,-⟩-
    exact aT (fQ 0)
   ·rintro f M- -
    refine dL rfl ?_
    refine gI gH (fun w β1 sb kn hw1=>fR β1 w hw1 (4:UInt8) 16 0 0 0) (aH ?_)
    exact aO rfl rfl (List.Perm.refl _)
   ·rintro f M ⟨k0,-⟩-
    refine dL (aA (d:=163) rfl k0) ?_
    refine dA rfl rfl rfl (bZ ua3 ua4.ok (cells:= #[.int .u8 (4),.int .i64 (16),.int .i64 (0),.int .i64 (0),.int .i64 (0),.int .i64 (0),.int .i64 (0),.int .i64 (0)]) rfl rfl rfl (by kernel_rfl)) ?_
    rintro _ _ ⟨b58,rfl,rfl⟩
    refine aH ?_
    exact aO (aA (d:=163) rfl k0) rfl (aB 0 rfl)
   ·rintro f M ⟨k0,k1,-⟩-
    have hs164:f 164= .slice (some ⟨(bY (f 164)),0,none⟩) 1 1:=k1
    refine dL (aA (aA (d:=162) rfl k0) hs164) ?_
    refine dA rfl rfl rfl (cF (F:=cJ) 0 ua3 bDj (p:=q) (m:=al.length) (xs:=al) (ys:=[(⟨4,16,0,0,zeroA⟩:KAct)]) (ao:=(some ⟨(bY (f 164)),0,none⟩)) (k:=1) (c:=1) rfl rfl rfl rfl rfl (gX (z:=(⟨4,16,0,0,zeroA⟩:KAct)) 1 rfl rfl) (by first|omega|simp only[List.length_nil,List.length_cons,List.length_append,List.length_set];omega) (by first|omega|simp only[List.length_nil,List.length_cons,List.length_append,List.length_set];omega)) ?_
    rintro _ _ ⟨rp61,rc62,rfl,rfl⟩
    refine aH ?_
    exact aO (aA (aA (d:=162) rfl k0) hs164) rfl ((aB 0 rfl).trans (aB 1 rfl))
   ·rintro f M-⟨i0,-⟩
    exact aT aY
   ·rintro f M ⟨k0,k1,-⟩-
    have hs165:f 165=sB (dC (f 165)) (al++[(⟨4,16,0,0,zeroA⟩:KAct)]) (dE (f 165)):=k1
    refine dL (aA (aA (d:=166) rfl k0) hs165) ?_
    refine lu (uT 0 aZd.ok (cs':= #[.int .u8 (0),.int .i64 (8),Nx (1+i),sB (dC (f 165)) (al++[(⟨4,16,0,0,zeroA⟩:KAct)]) (dE (f 165))]) rfl rfl rfl rfl rfl rfl rfl) ?_
    refine aH ?_
    exact bC (aA (aA (d:=166) rfl k0) hs165) trivial (aB 0 rfl)
   rintro fa63 ⟨-,-,-,-,-,-,-,-⟩ ⟨j0,j1,j2,j3,-⟩
   refine jD ?_
   refine aD (d:=9) j0 (aD (d:=14) j1 (aD (d:=153) j2 (aD (d:=159) j3 (aP (bA (aC ?_))))))
   refine lv (v:=Nx (k+1)) (bO rfl rfl (cW (by omega) (by omega))) (lE aU (aH (tZ [3,4,0,1,2] 5 ?_)))
   refine dD (L':=[aK cJ 47 (dC (fa63 165)) (dE (fa63 165)) (al++[(⟨4,16,0,0,zeroA⟩:KAct)]),pt b55 (.cells #[.int .u8 (0),.int .i64 (8),Nx (1+i),sB (dC (fa63 165)) (al++[(⟨4,16,0,0,zeroA⟩:KAct)]) (dE (fa63 165))] 32),eW tl,aK pX 32 p c ohs]) [true,true,true,true,false] rfl ?_
   exact bG ⟨(k+1,(al++[(⟨4,16,0,0,zeroA⟩:KAct)]),(dC (fa63 165)),(dE (fa63 165))),⟨⟨rfl,rfl,rfl,rfl⟩,rfl,⟨by omega,by rw[List.length_append,List.length_singleton];omega,aca hac (acc (iU ⟨by omega,by omega⟩ ⟨by omega,by omega⟩ ⟨by omega,by omega⟩ ⟨by omega,by omega⟩ ⟨by omega,by omega⟩ ⟨by omega,by omega⟩ ⟨by omega,by omega⟩) acn)⟩⟩,(show 16-(k+1)<16-k from by omega)⟩
  refine cK (aF (aF (cL (bA (sU [0,2,1,3] 4 rfl (by kernel_rfl) ?_)))))
  refine mH (L:=[aK cJ 47 q d al,eW tl]) (M:=[pt b55 (.cells #[.int .u8 (0),.int .i64 (8),Nx (1+i),sB q al d] 32),aK pX 32 p c ohs]) (r:=eW (tl++[(⟨0,8,((1+i:Nat):Int),q,al.length,d⟩:KOh)])) (fun a h=>mQ (⟨by omega,by omega⟩) (⟨by omega,by omega⟩) hac a h) ?_
  refine aC (lE fL (lE (dK 1) ?_))
  refine dA rfl rfl rfl (bZ tX ua6.ok (cells:= #[.int .u8 (0),.int .i64 (8),Nx (1+i),sB q al d]) rfl rfl rfl (by kernel_rfl)) ?_
  rintro _ _ ⟨b64,rfl,rfl⟩
  refine dA rfl rfl rfl (cF (F:=pX) 3 tX aOu (p:=p) (m:=ohs.length) (xs:=ohs) (ys:=[(⟨0,8,((1+i:Nat):Int),q,al.length,d⟩:KOh)]) (ao:=(some ⟨b64,0,none⟩)) (k:=1) (c:=1) rfl rfl rfl rfl rfl (gX (z:=(⟨0,8,((1+i:Nat):Int),q,al.length,d⟩:KOh)) 0 rfl rfl) (by first|omega|simp only[List.length_nil,List.length_cons,List.length_append,List.length_set];omega) (by first|omega|simp only[List.length_nil,List.length_cons,List.length_append,List.length_set];omega)) ?_
  rintro _ _ ⟨rp65,rc66,rfl,rfl⟩
  refine lE iO (aH (aP (bA (aC (lv (v:=Nx (i+1)) (bO rfl rfl (cW (by omega) (by omega))) (lE aU (aH ?_)))))))
  refine dD [false,true,false,true] rfl ?_
  exact bG ⟨(i+1,(ohs++[(⟨0,8,((1+i:Nat):Int),q,al.length,d⟩:KOh)]),rp65,rc66,(tl++[(⟨0,8,((1+i:Nat):Int),q,al.length,d⟩:KOh)])),⟨⟨rfl,rfl⟩,rfl,⟨by omega,by rw[List.length_append,List.length_singleton];omega,zI hin⟩⟩,(show 9-(i+1)<9-i from by omega)⟩
 refine cK (aF (aF (cL (kM (lE fL ?_)))))
 refine lv (v:= .agg #[.int .u8 (6),.int .i64 (0),.int .i64 (0),.slice none 0 0]) (bV ua6.ok ua5 (vs:=[(0,.int .u8 (6))]) (cells:= #[.int .u8 (6),.int .i64 (0),.int .i64 (0),.slice none 0 0]) rfl (by kernel_rfl)) ?_
 refine lv (v:= .agg #[.int .u8 (7),.int .i64 (0),.int .i64 (0),.slice none 0 0]) (bV ua6.ok ua5 (vs:=[(0,.int .u8 (7))]) (cells:= #[.int .u8 (7),.int .i64 (0),.int .i64 (0),.slice none 0 0]) rfl (by kernel_rfl)) ?_
 refine gI gH (fun w β1 sb kn hw1=>fR β1 w hw1 (5:UInt8) 0 0 77 0) (gI gH (fun w β1 sb kn hw1=>fR β1 w hw1 (4:UInt8) 16 0 0 1) ?_)
 refine gI gH (fun w β1 sb kn hw1=>fR β1 w hw1 (6:UInt8) 0 305 78 0) ?_
 refine dA rfl rfl rfl (bZ ua3 ua4.ok (cells:= #[.int .u8 (5),.int .i64 (0),.int .i64 (0),.int .i64 (77),.int .i64 (0),.int .i64 (0),.int .i64 (0),.int .i64 (0),.int .u8 (4),.int .i64 (16),.int .i64 (0),.int .i64 (0),.int .i64 (1),.int .i64 (0),.int .i64 (0),.int .i64 (0),.int .u8 (6),.int .i64 (0),.int .i64 (305),.int .i64 (78),.int .i64 (0),.int .i64 (0),.int .i64 (0),.int .i64 (0)]) rfl rfl rfl (by kernel_rfl)) ?_
 rintro _ _ ⟨b67,rfl,rfl⟩
 refine lv (v:= .agg #[.int .u8 (0),.int .i64 (8),.int .i64 (50),.slice (some ⟨b67,0,none⟩) 3 3]) (bV ua6.ok ua5 (vs:=[(1,.int .i64 (8)),(2,.int .i64 (50)),(3,.slice (some ⟨b67,0,none⟩) 3 3)]) (cells:= #[.int .u8 (0),.int .i64 (8),.int .i64 (50),.slice (some ⟨b67,0,none⟩) 3 3]) rfl (by kernel_rfl)) ?_
 refine dA rfl rfl rfl (bZ tX ua6.ok (cells:= #[.int .u8 (6),.int .i64 (0),.int .i64 (0),.slice none 0 0,.int .u8 (7),.int .i64 (0),.int .i64 (0),.slice none 0 0,.int .u8 (0),.int .i64 (8),.int .i64 (50),.slice (some ⟨b67,0,none⟩) 3 3]) rfl rfl rfl (by kernel_rfl)) ?_
 rintro _ _ ⟨b68,rfl,rfl⟩
 refine dA rfl rfl rfl (cF (F:=pX) 3 tX aOu (p:=p) (m:=ohs.length) (xs:=ohs) (ys:=[(⟨6,0,0,none,0,0⟩:KOh),(⟨7,0,0,none,0,0⟩:KOh),(⟨0,8,50,(some ⟨b67,0,none⟩),3,3⟩:KOh)]) (ao:=(some ⟨b68,0,none⟩)) (k:=3) (c:=3) rfl rfl rfl rfl rfl (bH.imp (xV (F:=pX) 0 (m:=3) (xs:=[(⟨6,0,0,none,0,0⟩:KOh),(⟨7,0,0,none,0,0⟩:KOh),(⟨0,8,50,(some ⟨b67,0,none⟩),3,3⟩:KOh)]) rfl rfl rfl (by simp)) fun _ h=>(Sl.parts h).2.2.2) (by first|omega|simp only[List.length_nil,List.length_cons,List.length_append,List.length_set];omega) (by first|omega|simp only[List.length_nil,List.length_cons,List.length_append,List.length_set];omega)) ?_
 rintro _ _ ⟨rp69,rc70,rfl,rfl⟩
 refine gI gH (fun w β1 sb kn hw1=>wQ β1 w hw1 _ _ (ohs++[(⟨6,0,0,none,0,0⟩:KOh),(⟨7,0,0,none,0,0⟩:KOh),(⟨0,8,50,(some ⟨b67,0,none⟩),3,3⟩:KOh)]) (kn _ (jK 3 (F:=pX) (m:=(ohs++[(⟨6,0,0,none,0,0⟩:KOh),(⟨7,0,0,none,0,0⟩:KOh),(⟨0,8,50,(some ⟨b67,0,none⟩),3,3⟩:KOh)]).length) rfl rfl)) (bHy (fun z hz=>kn _ (wH 2 rfl) z (hin z hz)) (aHu (aSk (⟨by omega,by omega⟩:gT 0) (⟨by omega,by omega⟩:gT 0)) (aHu (aSk (⟨by omega,by omega⟩:gT 0) (⟨by omega,by omega⟩:gT 0)) (aHu (bAb (kn _ (xV (F:=cJ) 1 (m:=3) (xs:=[(⟨5,0,0,77,zeroA⟩:KAct),(⟨4,16,0,0,(⟨1,0,0,0⟩:KAm)⟩:KAct),(⟨6,0,305,78,zeroA⟩:KAct)]) rfl rfl rfl (show 3≤1048576 by decide))) (⟨by omega,by omega⟩:gT 8) (⟨by omega,by omega⟩:gT 50) (acc (iU ⟨by omega,by omega⟩ ⟨by omega,by omega⟩ ⟨by omega,by omega⟩ ⟨by omega,by omega⟩ ⟨by omega,by omega⟩ ⟨by omega,by omega⟩ ⟨by omega,by omega⟩:ActI (⟨5,0,0,77,zeroA⟩:KAct)) (acc (iU ⟨by omega,by omega⟩ ⟨by omega,by omega⟩ ⟨by omega,by omega⟩ ⟨by omega,by omega⟩ ⟨by omega,by omega⟩ ⟨by omega,by omega⟩ ⟨by omega,by omega⟩:ActI (⟨4,16,0,0,(⟨1,0,0,0⟩:KAm)⟩:KAct)) (acc (iU ⟨by omega,by omega⟩ ⟨by omega,by omega⟩ ⟨by omega,by omega⟩ ⟨by omega,by omega⟩ ⟨by omega,by omega⟩ ⟨by omega,by omega⟩ ⟨by omega,by omega⟩:ActI (⟨6,0,305,78,zeroA⟩:KAct)) acn)))) bDq))))) ?_
 refine lE fM (eM rfl rfl rfl rfl rfl (cT (vs:=[]) bLj.ok rfl rfl) ?_)
 intro w hw
 obtain⟨β1,sb,kn,hw1,back⟩:=St.frame_all hw
 refine(aFd β1 w hw1).mono ?_
 rintro e w' ⟨rfl,hw'⟩
 refine⟨_,rfl,_,back _ _ hw',?_⟩
 refine lE eF (lE dP (aN (aV (dJ Tryz.results6 rfl ?_))))
 intro w hw
 exact⟨rfl,aG [false,false,false,false] rfl hw⟩
end Go.Proofs
