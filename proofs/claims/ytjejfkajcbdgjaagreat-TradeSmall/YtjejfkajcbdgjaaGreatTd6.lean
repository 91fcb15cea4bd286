/-
  Own work; plain Lean (Td5, Td6).
-/
import Derived.Test.YtjejfkajcbdgjaaGreatTd4
import Derived.Test.YtjejfkajcbdgjaaGreatJn1
set_option linter.all false
set_option maxHeartbeats 4000000
namespace Go.Td
open Go.Sl
abbrev hG:Fl UInt8:=⟨1,fun x=>[Bx x],fun _=>rfl,fun _=>rfl,by decide⟩
end Go.Td
namespace Go.Proofs
open Go Go.Sl Go.Td Go.Jn
theorem wY{x:KAct}(h:x.formed=true):(3=64∨(0≤((x.kind.toNat:Nat):Int)∧((x.kind.toNat:Nat):Int)<2^3∧3<64))∧(17=64∨(0≤x.owner∧x.owner<2^17∧17<64))∧(17=64∨(0≤x.other∧x.other<2^17∧17<64))∧(∀z∈[x.a.a0,x.a.a1,x.a.a2,x.a.a3],0≤z∧z<2^31):=by
 have hk:=lT h
 have hw:=mR (cX h)
 have hw0:=cX h
 have ho:∀n:Int,fE n=true→1≤n∧n≤65536:=fun n hn=>by unfold fE at hn;simpa using hn
 have hp:(0≤x.owner∧x.owner<131072)∧(0≤x.other∧x.other<131072):=by
  unfold KAct.formed at h
  split at h
  ·simp only[Bool.and_eq_true,decide_eq_true_eq]at h;have:=ho _ h.1.1.1;omega
  ·split at h
   ·simp only[Bool.and_eq_true,decide_eq_true_eq]at h;have:=ho _ h.1.1.1.1;have:=ho _ h.1.1.1.2;omega
   ·split at h
    ·simp only[Bool.and_eq_true,decide_eq_true_eq]at h;omega
    ·split at h
     ·simp only[Bool.and_eq_true,decide_eq_true_eq]at h;have:=ho _ h.1.1.2;omega
     ·cases h
 refine⟨.inr ⟨by omega,by omega,by decide⟩,.inr ⟨by omega,by omega,by decide⟩,.inr ⟨by omega,by omega,by decide⟩,fun z hz=> ?_⟩
 unfold KAm.within inA at hw0
 simp only[sB,rB,Bool.and_eq_true,decide_eq_true_eq]at hw0
 simp only[List.mem_cons,List.not_mem_nil,or_false]at hz
 rcases hz with rfl|rfl|rfl|rfl<;>omega
theorem aTw{v:UInt64}{k:Nat}(hv:k=64∨v.toNat<2^k)(hk:k<64):¬((0:Int)<((v>>>UInt64.ofNat k).toNat:Int)):=by
 have h:v.toNat<2^k:=by exact hv.resolve_left (by omega)
 have e:(UInt64.ofNat k).toNat%64=k:=by simp;omega
 rw[UInt64.toNat_shiftRight,e,Nat.shiftRight_eq_div_pow,Nat.div_eq_of_lt h]
 simp
instance tt68:FldC Tryz.prog 137 1 1 1 false:={}
instance tt69:FldC Tryz.prog 137 0 0 1 false:={}
instance bGx:TyC Tryz.prog 27 false 1:={}
theorem aJh:lY Tryz.prog 27 5 1=true:=by kernel_rfl
instance bJl:ZerC Tryz.prog 5 (.int .u8 (0)):={}
theorem bJm:vR Tryz.prog 5 1 1=true:=by kernel_rfl
theorem aUl:Tryz.prog.underlying 172=some (.int .u64):=by kernel_rfl
theorem aUm:Tryz.prog.underlying 5=some (.int .u8):=by kernel_rfl
theorem bGy:Tryz.prog.underlying 182=some (.pointer (Tryz.prog.pointee 182)):=by kernel_rfl
instance tt77:CfC Tryz.prog 139:={}
instance bGz:CfC Tryz.prog 140:={}
instance tt79:FldC Tryz.prog 139 0 0 2 true:={}
theorem aYv:Tryz.prog.underlying 3=some (.int .i64):=by kernel_rfl
instance bJn:CfC Tryz.prog 120:={}
instance nP:CfC Tryz.prog 95:={}
instance aYw:CfC Tryz.prog 94:={}
instance bHa:CfC Tryz.prog 66:={}
instance tt85:ZerC Tryz.prog 139 (.agg #[.slice none 0 0,.int .i64 (0)]):={}
instance bHb:CfC Tryz.prog 58:={}
instance bHc:CfC Tryz.prog 59:={}
theorem aMb(β:Base)(w:World)(wb:Nat)(p:Option Addr)(c:Nat)(xs:List UInt8)(n:Nat)(hw:St β [pt wb (.cells #[sB p xs c,Nx n] 139),aK hG 5 p c xs] w)(hxl:xs.length=(n+7)/8)(v:UInt64)(k:Nat)(hk:k≤64)(hn:n≤1048576):Calls Tryz.prog 140 #[pp wb 0,.int .u64 (v.toNat:Int),Nx k] w fun r w'=>∃p c,r= .returned (.tuple #[])∧St β [pt wb (.cells #[sB p (fB v k xs n) c,Nx (n+k)] 139),aK hG 5 p c (fB v k xs n)] w':=by
 refine enter (n:=62) Tryz.func140 rfl Tryz.ntmps140 rfl ?_ hw
 refine bD (lE aU (lE aU (aN (aJ ?_))))
 refine cZ (fun(x_:Nat×List UInt8×Option Addr×Nat) f L=>match x_ with|(i,ys,p,c)=>(f 0=pp wb 0∧f 1=Ux (v)∧f 2=Nx (k)∧f 7=Nx (k)∧f 8=Nx (i))∧L=[pt wb (.cells #[sB p ys c,Nx (n+i)] 139),aK hG 5 p c ys]∧(i≤k∧ys.length=(n+i+7)/8∧fB v (k-i) ys (n+i)=fB v k xs n)) (fun(i,ys,p,c)=>k-i) (0,xs,p,c) ?_ ?_
 ·exact⟨⟨rfl,rfl,rfl,rfl,rfl⟩,rfl,⟨by omega,hxl,rfl⟩⟩
 rintro⟨i,ys,p,c⟩ f0 L0 ⟨⟨hs0,hs1,hs2,hs7,hs8⟩,hL,⟨hi,hyl,hput⟩⟩
 subst L0
 refine bJ 0 hs0 (bJ 1 hs1 (bJ 2 hs2 (bJ 7 hs7 (bJ 8 hs8 (bD (lE gN (aN (aL (cN _ rfl (fun hc1=> ?_) (fun hc1=> ?_))))))))))
 ·refine eB (aL (aJ (bD (lE aU (lE bN (aN (eR (aC (lE dS (lE eS (lE aY (lE (cY 0) ?_))))))))))))
  refine lv (v:=Nx ((n+i)%8)) (lR (a:=((n+i:Nat):Int)) (b:=(8:Int)) rfl rfl (by decide) (gG _ 8)) (lE fD (aN ?_))
  refine cN _ rfl (fun hc2=> ?_) (fun hc2=> ?_)
  ·refine aC (lE dS (lE dS (lE eS (lE aY (lE (fQ 0) (dA rfl rfl rfl (bZ aJh bJl.ok (cells:= #[.int .u8 (0)]) rfl rfl rfl rfl) ?_))))))
   rintro _ _ ⟨b3,rfl,rfl⟩
   refine dA rfl rfl rfl (cF (F:=hG) 2 aJh bJm (p:=p) (m:=ys.length) (xs:=ys) (ys:=[(0:UInt8)]) (ao:=(some ⟨b3,0,none⟩)) (k:=1) (c:=1) rfl rfl rfl rfl rfl (gX (z:=(0:UInt8)) 0 rfl rfl) (by first|omega|simp only[List.length_nil,List.length_cons,List.length_append,List.length_set];omega) (by first|omega|simp only[List.length_nil,List.length_cons,List.length_append,List.length_set];omega)) ?_
   rintro _ _ ⟨rp4,rc5,rfl,rfl⟩
   refine lE eS (lE aY (lu (mS 1 (#[sB rp4 (ys++[(0:UInt8)]) rc5,Nx (n+i)])) (aN (aL ?_))))
   generalize hzs:ys++[(0:UInt8)]=zs
   have hq:(n+i)%8=0:=by have:=hc2;omega
   have hzl:zs.length=(n+i)/8+1:=by rw[←hzs];simp;omega
   have hgr:qW ys (n+i)=zs:=(aQx hq).trans hzs
   obtain⟨x6,hx7⟩:∃x_,zs[(n+i)/8]? =some x_:=⟨_,List.getElem?_eq_getElem (by first|omega|decide)⟩
   refine jS [sv 26 (pp wb 0) [] [] [0],sv 27 (pp wb 0) [0] [0] [],sv 28 (pp wb 0) [0,1] [1] [],sv 29 (sB rp4 zs rc5) [0,1,2] [2] [],sv 30 (pp wb 0) [] [] [0],sv 31 (pp wb 0) [4] [4] [],sv 32 (pp wb 1) [4,5] [5] [],sv 33 (Nx (n+i)) [4,5,6] [6] [],sv 34 (Nx ((n+i)/8)) [4,5,6,7] [7] [],sv 35 (.pointer (some ((ba rp4).add (((n+i)/8)*1)))) (List.range 9) [3,8] [],sv 36 (Bx (x6)) (List.range 10) [9] [],sv 37 (Ux (v)) [] [] [1],sv 38 (Nx (k)) [] [] [2],sv 39 (Nx (k-1)) [12] [12] [],sv 40 (Nx (i)) [] [] [3],sv 41 (Nx ((k-1)-i)) [12,13,14] [13,14] [],sv 42 (Ux (v>>>UInt64.ofNat ((k-1)-i))) [11,12,13,14,15] [11,15] [],sv 43 (Ux ((v>>>UInt64.ofNat ((k-1)-i))&&&(1:UInt64))) [11,12,13,14,15,16] [16] [],sv 44 (Bx (((v>>>UInt64.ofNat ((k-1)-i))&&&(1:UInt64)).toUInt8)) [11,12,13,14,15,16,17] [17] [],sv 45 (pp wb 0) [] [] [0],sv 46 (pp wb 0) [19] [19] [],sv 47 (pp wb 1) [19,20] [20] [],sv 48 (Nx (n+i)) [19,20,21] [21] [],sv 49 (Nx ((n+i)%8)) [19,20,21,22] [22] [],sv 50 (Nx (7-((n+i)%8))) [19,20,21,22,23] [23] [],sv 51 (Bx ((((v>>>UInt64.ofNat ((k-1)-i))&&&(1:UInt64)).toUInt8)<<<UInt8.ofNat (7-((n+i)%8)))) [11,12,13,14,15,16,17,18,19,20,21,22,23,24] [18,24] [],sv 52 (Bx (x6|||((((v>>>UInt64.ofNat ((k-1)-i))&&&(1:UInt64)).toUInt8)<<<UInt8.ofNat (7-((n+i)%8))))) (List.range 26) [10,25] [],sv 53 (.pointer (some ((ba rp4).add (((n+i)/8)*1)))) (List.range 27) [3,8] [],⟨(List.range 28),[27,26],[],[],fun _=>True⟩] [u0,u1 [3,7,22],(some 28,[9,10,27,28])] [⟨(some 28),none,[],[],fun _=>aK hG 5 rp4 rc5 (zs.set ((n+i)/8) (x6|||((((v>>>UInt64.ofNat ((k-1)-i))&&&(1:UInt64)).toUInt8)<<<UInt8.ofNat (7-((n+i)%8)))))⟩] [(0,pp wb 0),(1,Ux (v)),(2,Nx (k)),(6,Nx (i)),(7,Nx (k)),(8,Nx (i))] [0,1,2,4,5] ⟨rfl,rfl,rfl,rfl,rfl,rfl,trivial⟩ ⟨?_,?_,?_,?_,?_,?_,?_,?_,?_,?_,?_,?_,?_,?_,?_,?_,?_,?_,?_,?_,?_,?_,?_,?_,?_,?_,?_,?_,?_,trivial⟩ ?_
   ·rintro f M-⟨i0,-⟩
    exact aT dS
   ·rintro f M ⟨k0,-⟩-
    exact aT eS
   ·rintro f M ⟨k0,-⟩-
    exact aT aY
   ·rintro f M ⟨k0,-⟩-
    exact aT (fQ 0)
   ·rintro f M-⟨i0,-⟩
    exact aT dS
   ·rintro f M ⟨k0,-⟩-
    exact aT eS
   ·rintro f M ⟨k0,-⟩-
    exact aT aY
   ·rintro f M ⟨k0,-⟩-
    exact aT (cY 0)
   ·rintro f M ⟨k0,-⟩-
    exact gO (aA (d:=33) rfl k0) rfl (aKc (a:=((n+i:Nat):Int)) (b:=(8:Int)) rfl rfl (by decide) (cW (uX _ 8) (by omega))) (.refl _)
   ·rintro f M ⟨k0,k1,-⟩-
    exact vS (L':=aK hG 5 rp4 rc5 zs::M) (aA (d:=34) (aA (d:=29) rfl k0) k1) rfl (eL 0 (F:=hG) (j:=(n+i)/8) (m:=zs.length) (xs:=zs) rfl rfl rfl aJh (by omega) rfl) (aB 0 rfl) (by rfl)
   ·rintro f M ⟨k0,-⟩-
    exact vS (L':=aK hG 5 rp4 rc5 zs::M) (aA (d:=35) rfl k0) rfl (bI tt5.ok rfl (lF 0 (F:=hG) rfl hx7)) (aB 0 rfl) (by rfl)
   ·rintro f M-⟨i0,-⟩
    exact aT aU
   ·rintro f M-⟨i0,-⟩
    exact aT aU
   ·rintro f M ⟨k0,-⟩-
    exact gO (aA (d:=38) rfl k0) rfl (eZ (congrArg (Value.int .i64) (by omega)) (oX (a:=((k:Nat):Int)) (b:=(1:Int)) rfl rfl (rD (by omega)))) (.refl _)
   ·rintro f M-⟨i0,-⟩
    exact aT aU
   ·rintro f M ⟨k0,k1,-⟩-
    exact gO (aA (d:=40) (aA (d:=39) rfl k0) k1) rfl (eZ (congrArg (Value.int .i64) (by omega)) (oX (a:=((k-1:Nat):Int)) (b:=((i:Nat):Int)) rfl rfl (rD (by omega)))) (.refl _)
   ·rintro f M ⟨k0,k1,-⟩-
    exact gO (aA (d:=41) (aA (d:=37) rfl k0) k1) rfl (wV (a:=((v).toNat:Int)) (b:=(((k-1)-i:Nat):Int)) rfl rfl (by omega) (tY _ ((k-1)-i) (by omega))) (.refl _)
   ·rintro f M ⟨k0,-⟩-
    exact gO (aA (d:=42) rfl k0) rfl (aQi (a:=((v>>>UInt64.ofNat ((k-1)-i)).toNat:Int)) (b:=((1:UInt64).toNat:Int)) rfl rfl (aUp _ _)) (.refl _)
   ·rintro f M ⟨k0,-⟩-
    exact gO (aA (d:=43) rfl k0) rfl (gC (a:=(((v>>>UInt64.ofNat ((k-1)-i))&&&(1:UInt64)).toNat:Int)) rfl ⟨_,aUl⟩ aUm (aDb _)) (.refl _)
   ·rintro f M-⟨i0,-⟩
    exact aT dS
   ·rintro f M ⟨k0,-⟩-
    exact aT eS
   ·rintro f M ⟨k0,-⟩-
    exact aT aY
   ·rintro f M ⟨k0,-⟩-
    exact aT (cY 0)
   ·rintro f M ⟨k0,-⟩-
    exact gO (aA (d:=48) rfl k0) rfl (lR (a:=((n+i:Nat):Int)) (b:=(8:Int)) rfl rfl (by decide) (gG _ 8)) (.refl _)
   ·rintro f M ⟨k0,-⟩-
    exact gO (aA (d:=49) rfl k0) rfl (eZ (congrArg (Value.int .i64) (by omega)) (oX (a:=(7:Int)) (b:=(((n+i)%8:Nat):Int)) rfl rfl (rD (by omega)))) (.refl _)
   ·rintro f M ⟨k0,k1,-⟩-
    exact gO (aA (d:=50) (aA (d:=44) rfl k0) k1) rfl (aKd (a:=((((v>>>UInt64.ofNat ((k-1)-i))&&&(1:UInt64)).toUInt8).toNat:Int)) (b:=((7-((n+i)%8):Nat):Int)) rfl rfl (by omega) (aPr _ (7-((n+i)%8)) (by omega))) (.refl _)
   ·rintro f M ⟨k0,k1,-⟩-
    exact gO (aA (d:=51) (aA (d:=36) rfl k0) k1) rfl (aWb (a:=((x6).toNat:Int)) (b:=(((((v>>>UInt64.ofNat ((k-1)-i))&&&(1:UInt64)).toUInt8)<<<UInt8.ofNat (7-((n+i)%8))).toNat:Int)) rfl rfl (aZt _ _)) (.refl _)
   ·rintro f M ⟨k0,k1,-⟩-
    exact vS (L':=aK hG 5 rp4 rc5 zs::M) (aA (d:=34) (aA (d:=29) rfl k0) k1) rfl (eL 0 (F:=hG) (j:=(n+i)/8) (m:=zs.length) (xs:=zs) rfl rfl rfl aJh (by omega) rfl) (aB 0 rfl) (by rfl)
   ·rintro f M ⟨k0,k1,-⟩-
    refine dL (aA (d:=52) (aA (d:=53) rfl k0) k1) ?_
    refine lu (mP 0 (F:=hG) (p:=rp4) (k:=(n+i)/8) (xs:=zs) (z:=(x6|||((((v>>>UInt64.ofNat ((k-1)-i))&&&(1:UInt64)).toUInt8)<<<UInt8.ofNat (7-((n+i)%8))))) tt5.ok rfl rfl rfl rfl (by omega)) ?_
    refine aH ?_
    exact bC (aA (d:=52) (aA (d:=53) rfl k0) k1) trivial (aB 0 rfl)
   rintro fa8 ⟨-,-,-,-,-,-,-,-,-,-,-,-,-,-,-,-,-,-,-,-,-,-,-,-,-,-,-,-,-,-⟩ ⟨j0,j1,j2,j3,j4,-⟩
   refine jD ?_
   refine aD (d:=0) j0 (aD (d:=1) j1 (aD (d:=2) j2 (aD (d:=7) j3 (aD (d:=8) j4 (bA (aC (lE dS ?_)))))))
   refine lE eS (lE aY (lE (cY 1) (lv (v:=Nx ((n+i)+1)) (bO rfl rfl (cW (by omega) (by omega))) (lE eS (lE aY ?_)))))
   refine lu (mS 1 (#[sB rp4 zs rc5,Nx ((n+i)+1)])) (aH (aP (bA (aC ?_))))
   refine lv (v:=Nx (i+1)) (bO rfl rfl (cW (by omega) (by omega))) (lE aU (aH (dD [false,true,true] rfl ?_)))
   exact bG ⟨(i+1,(zs.set ((n+i)/8) (x6|||((((v>>>UInt64.ofNat ((k-1)-i))&&&(1:UInt64)).toUInt8)<<<UInt8.ofNat (7-((n+i)%8))))),rp4,rc5),⟨⟨rfl,rfl,rfl,rfl,rfl⟩,by simp only[sB,List.length_set];rfl,⟨by omega,by simp only[sB,List.length_set];omega,by rw[←aGq (by omega) hgr hx7];exact hput⟩⟩,(show k-(i+1)<k-i from by omega)⟩
  refine eB (aL ?_)
  have hq:¬(n+i)%8=0:=by have:=hc2;omega
  have hgr:qW ys (n+i)=ys:=aWk hq
  obtain⟨x9,hx10⟩:∃x_,ys[(n+i)/8]? =some x_:=⟨_,List.getElem?_eq_getElem (by first|omega|decide)⟩
  refine jS [sv 26 (pp wb 0) [] [] [0],sv 27 (pp wb 0) [0] [0] [],sv 28 (pp wb 0) [0,1] [1] [],sv 29 (sB p ys c) [0,1,2] [2] [],sv 30 (pp wb 0) [] [] [0],sv 31 (pp wb 0) [4] [4] [],sv 32 (pp wb 1) [4,5] [5] [],sv 33 (Nx (n+i)) [4,5,6] [6] [],sv 34 (Nx ((n+i)/8)) [4,5,6,7] [7] [],sv 35 (.pointer (some ((ba p).add (((n+i)/8)*1)))) (List.range 9) [3,8] [],sv 36 (Bx (x9)) (List.range 10) [9] [],sv 37 (Ux (v)) [] [] [1],sv 38 (Nx (k)) [] [] [2],sv 39 (Nx (k-1)) [12] [12] [],sv 40 (Nx (i)) [] [] [3],sv 41 (Nx ((k-1)-i)) [12,13,14] [13,14] [],sv 42 (Ux (v>>>UInt64.ofNat ((k-1)-i))) [11,12,13,14,15] [11,15] [],sv 43 (Ux ((v>>>UInt64.ofNat ((k-1)-i))&&&(1:UInt64))) [11,12,13,14,15,16] [16] [],sv 44 (Bx (((v>>>UInt64.ofNat ((k-1)-i))&&&(1:UInt64)).toUInt8)) [11,12,13,14,15,16,17] [17] [],sv 45 (pp wb 0) [] [] [0],sv 46 (pp wb 0) [19] [19] [],sv 47 (pp wb 1) [19,20] [20] [],sv 48 (Nx (n+i)) [19,20,21] [21] [],sv 49 (Nx ((n+i)%8)) [19,20,21,22] [22] [],sv 50 (Nx (7-((n+i)%8))) [19,20,21,22,23] [23] [],sv 51 (Bx ((((v>>>UInt64.ofNat ((k-1)-i))&&&(1:UInt64)).toUInt8)<<<UInt8.ofNat (7-((n+i)%8)))) [11,12,13,14,15,16,17,18,19,20,21,22,23,24] [18,24] [],sv 52 (Bx (x9|||((((v>>>UInt64.ofNat ((k-1)-i))&&&(1:UInt64)).toUInt8)<<<UInt8.ofNat (7-((n+i)%8))))) (List.range 26) [10,25] [],sv 53 (.pointer (some ((ba p).add (((n+i)/8)*1)))) (List.range 27) [3,8] [],⟨(List.range 28),[27,26],[],[],fun _=>True⟩] [u1 [3,7,22],(some 28,[9,10,27,28])] [⟨(some 28),none,[],[],fun _=>aK hG 5 p c (ys.set ((n+i)/8) (x9|||((((v>>>UInt64.ofNat ((k-1)-i))&&&(1:UInt64)).toUInt8)<<<UInt8.ofNat (7-((n+i)%8)))))⟩] [(0,pp wb 0),(1,Ux (v)),(2,Nx (k)),(6,Nx (i)),(7,Nx (k)),(8,Nx (i))] [0,1,2,4,5] ⟨rfl,rfl,rfl,rfl,rfl,rfl,trivial⟩ ⟨?_,?_,?_,?_,?_,?_,?_,?_,?_,?_,?_,?_,?_,?_,?_,?_,?_,?_,?_,?_,?_,?_,?_,?_,?_,?_,?_,?_,?_,trivial⟩ ?_
  ·rintro f M-⟨i0,-⟩
   exact aT dS
  ·rintro f M ⟨k0,-⟩-
   exact aT eS
  ·rintro f M ⟨k0,-⟩-
   exact aT aY
  ·rintro f M ⟨k0,-⟩-
   exact aT (fQ 0)
  ·rintro f M-⟨i0,-⟩
   exact aT dS
  ·rintro f M ⟨k0,-⟩-
   exact aT eS
  ·rintro f M ⟨k0,-⟩-
   exact aT aY
  ·rintro f M ⟨k0,-⟩-
   exact aT (cY 0)
  ·rintro f M ⟨k0,-⟩-
   exact gO (aA (d:=33) rfl k0) rfl (aKc (a:=((n+i:Nat):Int)) (b:=(8:Int)) rfl rfl (by decide) (cW (uX _ 8) (by omega))) (.refl _)
  ·rintro f M ⟨k0,k1,-⟩-
   exact vS (L':=aK hG 5 p c ys::M) (aA (d:=34) (aA (d:=29) rfl k0) k1) rfl (eL 0 (F:=hG) (j:=(n+i)/8) (m:=ys.length) (xs:=ys) rfl rfl rfl aJh (by omega) rfl) (aB 0 rfl) (by rfl)
  ·rintro f M ⟨k0,-⟩-
   exact vS (L':=aK hG 5 p c ys::M) (aA (d:=35) rfl k0) rfl (bI tt5.ok rfl (lF 0 (F:=hG) rfl hx10)) (aB 0 rfl) (by rfl)
  ·rintro f M-⟨i0,-⟩
   exact aT aU
  ·rintro f M-⟨i0,-⟩
   exact aT aU
  ·rintro f M ⟨k0,-⟩-
   exact gO (aA (d:=38) rfl k0) rfl (eZ (congrArg (Value.int .i64) (by omega)) (oX (a:=((k:Nat):Int)) (b:=(1:Int)) rfl rfl (rD (by omega)))) (.refl _)
  ·rintro f M-⟨i0,-⟩
   exact aT aU
  ·rintro f M ⟨k0,k1,-⟩-
   exact gO (aA (d:=40) (aA (d:=39) rfl k0) k1) rfl (eZ (congrArg (Value.int .i64) (by omega)) (oX (a:=((k-1:Nat):Int)) (b:=((i:Nat):Int)) rfl rfl (rD (by omega)))) (.refl _)
  ·rintro f M ⟨k0,k1,-⟩-
   exact gO (aA (d:=41) (aA (d:=37) rfl k0) k1) rfl (wV (a:=((v).toNat:Int)) (b:=(((k-1)-i:Nat):Int)) rfl rfl (by omega) (tY _ ((k-1)-i) (by omega))) (.refl _)
  ·rintro f M ⟨k0,-⟩-
   exact gO (aA (d:=42) rfl k0) rfl (aQi (a:=((v>>>UInt64.ofNat ((k-1)-i)).toNat:Int)) (b:=((1:UInt64).toNat:Int)) rfl rfl (aUp _ _)) (.refl _)
  ·rintro f M ⟨k0,-⟩-
   exact gO (aA (d:=43) rfl k0) rfl (gC (a:=(((v>>>UInt64.ofNat ((k-1)-i))&&&(1:UInt64)).toNat:Int)) rfl ⟨_,aUl⟩ aUm (aDb _)) (.refl _)
  ·rintro f M-⟨i0,-⟩
   exact aT dS
  ·rintro f M ⟨k0,-⟩-
   exact aT eS
  ·rintro f M ⟨k0,-⟩-
   exact aT aY
  ·rintro f M ⟨k0,-⟩-
   exact aT (cY 0)
  ·rintro f M ⟨k0,-⟩-
   exact gO (aA (d:=48) rfl k0) rfl (lR (a:=((n+i:Nat):Int)) (b:=(8:Int)) rfl rfl (by decide) (gG _ 8)) (.refl _)
  ·rintro f M ⟨k0,-⟩-
   exact gO (aA (d:=49) rfl k0) rfl (eZ (congrArg (Value.int .i64) (by omega)) (oX (a:=(7:Int)) (b:=(((n+i)%8:Nat):Int)) rfl rfl (rD (by omega)))) (.refl _)
  ·rintro f M ⟨k0,k1,-⟩-
   exact gO (aA (d:=50) (aA (d:=44) rfl k0) k1) rfl (aKd (a:=((((v>>>UInt64.ofNat ((k-1)-i))&&&(1:UInt64)).toUInt8).toNat:Int)) (b:=((7-((n+i)%8):Nat):Int)) rfl rfl (by omega) (aPr _ (7-((n+i)%8)) (by omega))) (.refl _)
  ·rintro f M ⟨k0,k1,-⟩-
   exact gO (aA (d:=51) (aA (d:=36) rfl k0) k1) rfl (aWb (a:=((x9).toNat:Int)) (b:=(((((v>>>UInt64.ofNat ((k-1)-i))&&&(1:UInt64)).toUInt8)<<<UInt8.ofNat (7-((n+i)%8))).toNat:Int)) rfl rfl (aZt _ _)) (.refl _)
  ·rintro f M ⟨k0,k1,-⟩-
   exact vS (L':=aK hG 5 p c ys::M) (aA (d:=34) (aA (d:=29) rfl k0) k1) rfl (eL 0 (F:=hG) (j:=(n+i)/8) (m:=ys.length) (xs:=ys) rfl rfl rfl aJh (by omega) rfl) (aB 0 rfl) (by rfl)
  ·rintro f M ⟨k0,k1,-⟩-
   refine dL (aA (d:=52) (aA (d:=53) rfl k0) k1) ?_
   refine lu (mP 0 (F:=hG) (p:=p) (k:=(n+i)/8) (xs:=ys) (z:=(x9|||((((v>>>UInt64.ofNat ((k-1)-i))&&&(1:UInt64)).toUInt8)<<<UInt8.ofNat (7-((n+i)%8))))) tt5.ok rfl rfl rfl rfl (by omega)) ?_
   refine aH ?_
   exact bC (aA (d:=52) (aA (d:=53) rfl k0) k1) trivial (aB 0 rfl)
  rintro fa11 ⟨-,-,-,-,-,-,-,-,-,-,-,-,-,-,-,-,-,-,-,-,-,-,-,-,-,-,-,-,-,-⟩ ⟨j0,j1,j2,j3,j4,-⟩
  refine jD ?_
  refine aD (d:=0) j0 (aD (d:=1) j1 (aD (d:=2) j2 (aD (d:=7) j3 (aD (d:=8) j4 (bA (aC (lE dS ?_)))))))
  refine lE eS (lE aY (lE (cY 0) (lv (v:=Nx ((n+i)+1)) (bO rfl rfl (cW (by omega) (by omega))) (lE eS (lE aY ?_)))))
  refine lu (mS 0 (#[sB p ys c,Nx ((n+i)+1)])) (aH (aP (bA (aC ?_))))
  refine lv (v:=Nx (i+1)) (bO rfl rfl (cW (by omega) (by omega))) (lE aU (aH ?_))
  exact bG ⟨(i+1,(ys.set ((n+i)/8) (x9|||((((v>>>UInt64.ofNat ((k-1)-i))&&&(1:UInt64)).toUInt8)<<<UInt8.ofNat (7-((n+i)%8))))),p,c),⟨⟨rfl,rfl,rfl,rfl,rfl⟩,by simp only[sB,List.length_set];rfl,⟨by omega,by simp only[sB,List.length_set];omega,by rw[←aGq (by omega) hgr hx10];exact hput⟩⟩,(show k-(i+1)<k-i from by omega)⟩
 refine cK (aF (aF (cL (mZ Tryz.results140 ?_))))
 intro w hw
 have hik:i=k:=by omega
 rw[hik,Nat.sub_self]at hput
 have hy:ys=fB v k xs n:=hput
 rw[hik,hy]at hw
 exact⟨_,_,rfl,hw⟩
theorem aLo(β:Base)(w:World)(hw:St β [] w)(wb:Nat)(p:Option Addr)(m c n:Nat)(hc:Cs β.heap ⟨wb,0,none⟩ [.slice p m c,Nx n])(k:Nat)(hn:n+k≤1048576):oP Tryz.prog 139 #[pp wb 0,Nx k] β w (Ix 0):=by
 refine enter (n:=12) Tryz.func139 rfl Tryz.ntmps139 rfl ?_ hw
 refine bD (lE bN (aN (eR (aC (lE dS (lE eS (lE ofa ?_)))))))
 refine lv (v:=Nx (n)) (bI tt2.ok rfl (bH.imp (kB hc) (fun _ h=>Cs.sub (vs:=[Nx (n)]) 1 h rfl))) (lE aU (lE opn (lE oQ (aN ?_))))
 refine cN _ rfl (fun hc1=> ?_) (fun hc1=> ?_)
 ·exact absurd hc1 (by omega)
 refine eB (bD (lE bN (aN (aV (dJ Tryz.results139 rfl ?_)))))
 intro w hw
 exact⟨rfl,aG [] rfl hw⟩
theorem bCl(β:Base)(w:World)(wb:Nat)(p:Option Addr)(c:Nat)(xs:List UInt8)(n:Nat)(hw:St β [pt wb (.cells #[sB p xs c,Nx n] 139),aK hG 5 p c xs] w)(hxl:xs.length=(n+7)/8)(v:UInt64)(k:Nat)(hk:k≤64)(hn:n+k≤1048576)(hv:k=64∨v.toNat<2^k):Calls Tryz.prog 120 #[pp wb 0,.int .u64 (v.toNat:Int),Nx k] w fun r w'=>∃p c,r= .returned (Ix 0)∧St β [pt wb (.cells #[sB p (fB v k xs n) c,Nx (n+k)] 139),aK hG 5 p c (fB v k xs n)] w':=by
 refine enter (n:=38) Tryz.func120 rfl Tryz.ntmps120 rfl ?_ hw
 refine bD (lE bN (aN (aL (aJ (bD (lE dS (lv (v:= .bool false) (iV (p:=some (⟨wb,0,none⟩)) rfl rfl bGy) (lE dP (aN ?_)))))))))
 refine cR rfl (bD (lE aU (lE gN (lE fM (eO (s:=14) rfl (fun h=> ?_) (fun h=> ?_))))))
 exact absurd h (by omega)
 refine gE aU (gE oQ (lE dT (lE fM (eO (s:=18) rfl (fun h=> ?_) (fun h=> ?_)))))
 exact absurd h (by omega)
 refine gE aU (gE gN (gE fM (eO (s:=21) rfl (fun hg1=> ?_) (fun hg1=> ?_))))
 ·refine gE aU (gE aU ?_)
  refine cU (v:=Ux (v>>>UInt64.ofNat k)) rfl rfl rfl rfl rfl (wV (a:=((v).toNat:Int)) (b:=((k:Nat):Int)) rfl rfl (by omega) (tY _ k (by omega))) ?_
  refine gE oQ (gE eF (lE dT (lE dP (aN (cN _ rfl (fun hc2=> ?_) (fun hc2=> ?_))))))
  ·exact absurd hc2 (aTw hv (by omega))
  refine cG (aP (kM (lE dS (lE aU (gI gH (fun w β1 sb kn hw1=>aLo β1 w hw1 wb _ _ _ n (kn _ (cD 0 rfl rfl)) k (by omega)) ?_)))))
  refine lE bN (aN (eR (aC (lE aU (lE fD (aN (dN rfl (aC (lE dS (lE aU (lE aU ?_)))))))))))
  refine aX rfl rfl rfl (cT (vs:=[pp wb 0,Ux (v),Nx (k)]) bGz.ok rfl rfl) ?_
  intro w hw
  obtain⟨β1,sb,kn,hw1,back⟩:=St.frame (L:=[_,_]) (M:=[]) hw
  refine(aMb β1 w wb _ _ xs n hw1 hxl v k (by omega) (by omega)).mono ?_
  rintro e w' ⟨p3,c4,rfl,hw'⟩
  refine⟨_,rfl,_,back _ _ hw',?_⟩
  refine eY (lE aU (lE bN (aN (aV (dJ Tryz.results120 rfl ?_)))))
  intro w hw
  exact⟨_,_,rfl,hw⟩
 refine iP (iP (iP (iP (gE dT (lE dT (lE dP (aN (cR rfl (cG (aP (kM (lE dS (lE aU ?_)))))))))))))
 refine gI gH (fun w β1 sb kn hw1=>aLo β1 w hw1 wb _ _ _ n (kn _ (cD 0 rfl rfl)) k (by omega)) (lE bN (aN (eR (aC (lE aU ?_)))))
 refine lE fD (aN (dN rfl (aC (lE dS (lE aU (lE aU (aX rfl rfl rfl (cT (vs:=[pp wb 0,Ux (v),Nx (k)]) bGz.ok rfl rfl) ?_)))))))
 intro w hw
 obtain⟨β1,sb,kn,hw1,back⟩:=St.frame (L:=[_,_]) (M:=[]) hw
 refine(aMb β1 w wb _ _ xs n hw1 hxl v k (by omega) (by omega)).mono ?_
 rintro e w' ⟨p5,c6,rfl,hw'⟩
 refine⟨_,rfl,_,back _ _ hw',?_⟩
 refine eY (lE aU (lE bN (aN (aV (dJ Tryz.results120 rfl ?_)))))
 intro w hw
 exact⟨_,_,rfl,hw⟩
theorem jZ(β:Base)(w:World)(wb:Nat)(p:Option Addr)(c:Nat)(xs:List UInt8)(n:Nat)(hw:St β [pt wb (.cells #[sB p xs c,Nx n] 139),aK hG 5 p c xs] w)(hxl:xs.length=(n+7)/8)(v:Int)(k:Nat)(hk:k≤64)(hn:n+k≤1048576)(hv:k=64∨(0≤v∧v<2^k∧k<64)):Calls Tryz.prog 95 #[pp wb 0,Ix v,Nx k] w fun r w'=>∃p c,r= .returned (.tuple #[])∧St β [pt wb (.cells #[sB p (fB (U v) k xs n) c,Nx (n+k)] 139),aK hG 5 p c (fB (U v) k xs n)] w':=by
 refine enter (n:=13) Tryz.func95 rfl Tryz.ntmps95 rfl ?_ hw
 refine aC (lE dS (lE eS (lE aY (lE aU (lv (v:=Ux (U (v))) (gC (a:=(v)) rfl ⟨_,aYv⟩ aUl (tG _)) (lE aU ?_))))))
 refine aX rfl rfl rfl (cT (vs:=[pp wb 0,Ux (U (v)),Nx (k)]) bJn.ok rfl rfl) ?_
 intro w hw
 obtain⟨β1,sb,kn,hw1,back⟩:=St.frame (L:=[_,_]) (M:=[]) hw
 refine(bCl β1 w wb _ _ xs n hw1 hxl (U (v)) k (by omega) (by omega) (aPc hv)).mono ?_
 rintro e w' ⟨p1,c2,rfl,hw'⟩
 refine⟨_,rfl,_,back _ _ hw',?_⟩
 refine aH (mZ Tryz.results95 ?_)
 intro w hw
 exact⟨_,_,rfl,hw⟩
theorem aTz(β:Base)(w:World)(wb:Nat)(p:Option Addr)(c:Nat)(xs:List UInt8)(n:Nat)(hw:St β [pt wb (.cells #[sB p xs c,Nx n] 139),aK hG 5 p c xs] w)(hxl:xs.length=(n+7)/8)(a:KAm)(k:Nat)(hk:k<64)(hn:n+4*k≤1048576)(hv:∀x∈[a.a0,a.a1,a.a2,a.a3],0≤x∧x<2^k):Calls Tryz.prog 94 #[pp wb 0,.agg (eK a),Nx k] w fun r w'=>∃p c,r= .returned (.tuple #[])∧St β [pt wb (.cells #[sB p (amB a k xs n) c,Nx (n+k+k+k+k)] 139),aK hG 5 p c (amB a k xs n)] w':=by
 have hv0:k=64∨(0≤a.a0∧a.a0<2^k∧k<64):= .inr ⟨(hv _ (by simp)).1,(hv _ (by simp)).2,hk⟩
 have hv1:k=64∨(0≤a.a1∧a.a1<2^k∧k<64):= .inr ⟨(hv _ (by simp)).1,(hv _ (by simp)).2,hk⟩
 have hv2:k=64∨(0≤a.a2∧a.a2<2^k∧k<64):= .inr ⟨(hv _ (by simp)).1,(hv _ (by simp)).2,hk⟩
 have hv3:k=64∨(0≤a.a3∧a.a3<2^k∧k<64):= .inr ⟨(hv _ (by simp)).1,(hv _ (by simp)).2,hk⟩
 refine enter (n:=17) Tryz.func94 rfl Tryz.ntmps94 rfl ?_ hw
 refine bD (mL fun b1=> ?_)
 refine eY (lE (dK 0) (lE aU (aN (aJ (mU 5 (eH 4 (bD (lE gN (aN (aL (dN rfl (eB (aL (aJ (bD ?_)))))))))))))))
 refine lv (v:=Ix (a.a0)) (fP (cs:=(eK a)) (k:=0) rfl rfl qY.ok rfl (by decide) tt2.ok) (lE bN (xJ (lE dS (lE aU (lE aU ?_)))))
 refine aX rfl rfl rfl (cT (vs:=[pp wb 0,Ix (a.a0),Nx (k)]) nP.ok rfl rfl) ?_
 intro w hw
 replace hw:=hw.perm (L':=_::_::_::[]) (by exact(((aB 0 rfl).trans (aB 2 rfl)).trans (aB 2 rfl)))
 obtain⟨β1,sb,kn,hw1,back⟩:=St.frame (L:=[_,_]) (M:=_::[]) hw
 refine(jZ β1 w wb _ _ xs n hw1 hxl a.a0 k (by omega) (by omega) hv0).mono ?_
 rintro e w' ⟨p2,c3,rfl,hw'⟩
 refine⟨_,rfl,_,back _ _ hw',?_⟩
 refine aH (aP (bA (aC (lE rF (lE aU (aH (bG (eH 3 (bD (lE gN (aN (aL (dN rfl (eB (aL (aJ (bD ?_)))))))))))))))))
 refine lv (v:=Ix (a.a1)) (fP (cs:=(eK a)) (k:=1) rfl rfl qY.ok rfl (by decide) tt2.ok) (lE bN (xJ (lE dS (lE aU (lE aU ?_)))))
 refine aX rfl rfl rfl (cT (vs:=[pp wb 0,Ix (a.a1),Nx (k)]) nP.ok rfl rfl) ?_
 intro w hw
 obtain⟨β1,sb,kn,hw1,back⟩:=St.frame (L:=[_,_]) (M:=_::[]) hw
 refine(jZ β1 w wb _ _ (fB (U a.a0) k xs n) (n+k) hw1 (dI hxl) a.a1 k (by omega) (by omega) hv1).mono ?_
 rintro e w' ⟨p4,c5,rfl,hw'⟩
 refine⟨_,rfl,_,back _ _ hw',?_⟩
 refine aH (aP (bA (aC (lE rF (lE aU (aH (bG (eH 2 (bD (lE gN (aN (aL (dN rfl (eB (aL (aJ (bD ?_)))))))))))))))))
 refine lv (v:=Ix (a.a2)) (fP (cs:=(eK a)) (k:=2) rfl rfl qY.ok rfl (by decide) tt2.ok) (lE bN (xJ (lE dS (lE aU (lE aU ?_)))))
 refine aX rfl rfl rfl (cT (vs:=[pp wb 0,Ix (a.a2),Nx (k)]) nP.ok rfl rfl) ?_
 intro w hw
 obtain⟨β1,sb,kn,hw1,back⟩:=St.frame (L:=[_,_]) (M:=_::[]) hw
 refine(jZ β1 w wb _ _ (fB (U a.a1) k (fB (U a.a0) k xs n) (n+k)) (n+k+k) hw1 (dI (dI hxl)) a.a2 k (by omega) (by omega) hv2).mono ?_
 rintro e w' ⟨p6,c7,rfl,hw'⟩
 refine⟨_,rfl,_,back _ _ hw',?_⟩
 refine aH (aP (bA (aC (lE rF (lE aU (aH (bG (eH 1 (bD (lE gN (aN (aL (dN rfl (eB (aL (aJ (bD ?_)))))))))))))))))
 refine lv (v:=Ix (a.a3)) (fP (cs:=(eK a)) (k:=3) rfl rfl qY.ok rfl (by decide) tt2.ok) (lE bN (xJ (lE dS (lE aU (lE aU ?_)))))
 refine aX rfl rfl rfl (cT (vs:=[pp wb 0,Ix (a.a3),Nx (k)]) nP.ok rfl rfl) ?_
 intro w hw
 obtain⟨β1,sb,kn,hw1,back⟩:=St.frame (L:=[_,_]) (M:=_::[]) hw
 refine(jZ β1 w wb _ _ (fB (U a.a2) k (fB (U a.a1) k (fB (U a.a0) k xs n) (n+k)) (n+k+k)) (n+k+k+k) hw1 (dI (dI (dI hxl))) a.a3 k (by omega) (by omega) hv3).mono ?_
 rintro e w' ⟨p8,c9,rfl,hw'⟩
 refine⟨_,rfl,_,back _ _ hw',?_⟩
 refine aH (aP (bA (aC (lE rF (lE aU (aH (bG (eH 0 (bD (lE gN (aN (aL (cR rfl (cK (aF ?_)))))))))))))))
 refine aF (cL (mZ Tryz.results94 ?_))
 intro w hw
 exact⟨_,_,rfl,aG (L':=[pt wb (.cells #[sB p8 (fB (U a.a3) k (fB (U a.a2) k (fB (U a.a1) k (fB (U a.a0) k xs n) (n+k)) (n+k+k)) (n+k+k+k)) c9,Nx (n+k+k+k+k)] 139),aK hG 5 p8 c9 (fB (U a.a3) k (fB (U a.a2) k (fB (U a.a1) k (fB (U a.a0) k xs n) (n+k)) (n+k+k)) (n+k+k+k))]) [true,true,false] rfl hw⟩
theorem aJv(β:Base)(w:World)(wb:Nat)(p:Option Addr)(c:Nat)(xs:List UInt8)(n:Nat)(hw:St β [pt wb (.cells #[sB p xs c,Nx n] 139),aK hG 5 p c xs] w)(hxl:xs.length=(n+7)/8)(au nu:Int)(v:Value)(al:List KAct)(hs:Sl cJ.R β.heap v al)(hfo:∀x∈al,x.formed=true)(hl:al.length≤16)(hau:0≤au∧au<128)(hnu:0≤nu∧nu<2199023255552)(hn:n+(57+225*al.length)≤1048576):Calls Tryz.prog 58 #[pp wb 0,.agg #[Ix au,Ix nu,v]] w fun r w'=>∃p c,r= .returned (.tuple #[])∧St β [pt wb (.cells #[sB p (fI au nu al xs n) c,Nx (n+(57+225*al.length))] 139),aK hG 5 p c (fI au nu al xs n)] w':=by
 obtain⟨va,vc,rfl,vl,vm,ve⟩:=hs.get
 have hfa:7=64∨(0≤au∧au<2^7∧7<64):= .inr ⟨hau.1,hau.2,by decide⟩
 have hfn:41=64∨(0≤nu∧nu<2^41∧41<64):= .inr ⟨hnu.1,hnu.2,by decide⟩
 have hfl:9=64∨(0≤((al.length:Nat):Int)∧((al.length:Nat):Int)<2^9∧9<64):= .inr ⟨by omega,by omega,by decide⟩
 refine enter (n:=48) Tryz.func58 rfl Tryz.ntmps58 rfl ?_ hw
 refine bD (mL fun b1=> ?_)
 refine eY (lE dS (lE aY (lE (cY 0) (aX rfl rfl rfl (cT (vs:=[pp wb 0,Ix (au),.int .i64 (7)]) nP.ok rfl rfl) ?_))))
 intro w hw
 replace hw:=hw.perm (L':=_::_::_::[]) (by exact(((aB 0 rfl).trans (aB 2 rfl)).trans (aB 2 rfl)))
 obtain⟨β1,sb,kn,hw1,back⟩:=St.frame (L:=[_,_]) (M:=_::[]) hw
 refine(jZ β1 w wb _ _ xs n hw1 hxl au 7 (by omega) (by omega) hfa).mono ?_
 rintro e w' ⟨p2,c3,rfl,hw'⟩
 refine⟨_,rfl,_,back _ _ hw',?_⟩
 refine eY (lE dS (lE aY (lE (cY 2) (aX rfl rfl rfl (cT (vs:=[pp wb 0,Ix (nu),.int .i64 (41)]) nP.ok rfl rfl) ?_))))
 intro w hw
 obtain⟨β1,sb,kn,hw1,back⟩:=St.frame (L:=[_,_]) (M:=_::[]) hw
 refine(jZ β1 w wb _ _ (fB (U au) 7 xs n) (n+7) hw1 (dI hxl) nu 41 (by omega) (by omega) hfn).mono ?_
 rintro e w' ⟨p4,c5,rfl,hw'⟩
 refine⟨_,rfl,_,back _ _ hw',?_⟩
 refine eY (lE dS (lE aY (lE (fQ 2) (lE gY (aX rfl rfl rfl (cT (vs:=[pp wb 0,Nx (al.length),.int .i64 (9)]) nP.ok rfl rfl) ?_)))))
 intro w hw
 obtain⟨β1,sb,kn,hw1,back⟩:=St.frame (L:=[_,_]) (M:=_::[]) hw
 refine(jZ β1 w wb _ _ (fB (U nu) 41 (fB (U au) 7 xs n) (n+7)) (n+7+41) hw1 (dI (dI hxl)) ((al.length:Nat):Int) 9 (by omega) (by omega) hfl).mono ?_
 rintro e w' ⟨p6,c7,rfl,hw'⟩
 refine⟨_,rfl,_,back _ _ hw',?_⟩
 refine eY (lE aY (lE (fQ 2) (lE gY (lE aU (aN (aJ ?_))))))
 refine cZ (fun(x_:Nat×List UInt8×Option Addr×Nat) f L=>match x_ with|(k,ys,p,c)=>(f 0=pp wb 0∧f 20=sB va al (vc)∧f 21=Nx (al.length)∧f 22=Nx (k))∧L=[pt wb (.cells #[sB p ys c,Nx (n+7+41+9+225*k)] 139),aK hG 5 p c ys,pt b1 (.cells #[Ix (au),Ix (nu),sB va al (vc)] 80)]∧(k≤al.length∧ys.length=(n+7+41+9+225*k+7)/8∧uE (al.drop k) ys (n+7+41+9+225*k)=fI au nu al xs n)) (fun(k,ys,p,c)=>al.length-k) (0,(fB (U ((al.length:Nat):Int)) 9 (fB (U nu) 41 (fB (U au) 7 xs n) (n+7)) (n+7+41)),p6,c7) ?_ ?_
 ·exact⟨⟨rfl,rfl,rfl,rfl⟩,rfl,⟨by omega,dI (dI (dI hxl)),rfl⟩⟩
 rintro⟨k,ys,p,c⟩ f0 L0 ⟨⟨hs0,hs20,hs21,hs22⟩,hL,⟨hk,hyl,hrun⟩⟩
 subst L0
 refine bJ 0 hs0 (bJ 20 hs20 (bJ 21 hs21 (bJ 22 hs22 (bD (lE gN (aN (aL (cN _ rfl (fun hc8=> ?_) (fun hc8=> ?_)))))))))
 ·refine eB (aL (aJ (bD ?_)))
  obtain⟨x9,hx10⟩:=kX al k (by omega)
  obtain⟨ha11,cs12,hc13,rfl⟩:=ve _ _ hx10
  refine lE (sW wR ha11) ?_
  refine lv (v:= .agg #[Bx (x9.kind),Ix (x9.owner),Ix (x9.other),Ix (x9.hold),Ix (x9.a.a0),Ix (x9.a.a1),Ix (x9.a.a2),Ix (x9.a.a3)]) (fV aOr.ok rfl (kB hc13) rfl) ?_
  refine gB fun b15=>lu (mS 0 (#[Bx (x9.kind),Ix (x9.owner),Ix (x9.other),Ix (x9.hold),Ix (x9.a.a0),Ix (x9.a.a1),Ix (x9.a.a2),Ix (x9.a.a3)])) ?_
  refine aN (aL ?_)
  obtain⟨hv1,hv2,hv3,hva⟩:=wY (hfo _ (List.mem_of_getElem? hx10))
  have hklt:=(List.getElem?_eq_some_iff.1 hx10).1
  refine aC (lE dS (lE aY (lE (cY 0) ?_)))
  refine lv (v:=Nx (x9.kind.toNat)) (gC (a:=((x9.kind).toNat:Int)) rfl ⟨_,aUm⟩ aYv (cW rfl (by have:=(x9.kind).toNat_lt;omega))) ?_
  refine aX rfl rfl rfl (cT (vs:=[pp wb 0,Nx (x9.kind.toNat),.int .i64 (3)]) nP.ok rfl rfl) ?_
  intro w hw
  replace hw:=hw.perm (L':=_::_::_::_::[]) (by exact((((aB 3 rfl).trans (aB 1 rfl)).trans (aB 3 rfl)).trans (aB 3 rfl)))
  obtain⟨β1,sb,kn,hw1,back⟩:=St.frame (L:=[_,_]) (M:=_::_::[]) hw
  refine(jZ β1 w wb _ _ ys (n+7+41+9+225*k) hw1 hyl ((x9.kind.toNat:Nat):Int) 3 (by omega) (by omega) hv1).mono ?_
  rintro e w' ⟨p16,c17,rfl,hw'⟩
  refine⟨_,rfl,_,back _ _ hw',?_⟩
  refine eY (lE dS (lE aY (lE (cY 2) (aX rfl rfl rfl (cT (vs:=[pp wb 0,Ix (x9.owner),.int .i64 (17)]) nP.ok rfl rfl) ?_))))
  intro w hw
  obtain⟨β1,sb,kn,hw1,back⟩:=St.frame (L:=[_,_]) (M:=_::_::[]) hw
  refine(jZ β1 w wb _ _ (fB (U ((x9.kind.toNat:Nat):Int)) 3 ys (n+7+41+9+225*k)) (n+7+41+9+225*k+3) hw1 (dI hyl) x9.owner 17 (by omega) (by omega) hv2).mono ?_
  rintro e w' ⟨p18,c19,rfl,hw'⟩
  refine⟨_,rfl,_,back _ _ hw',?_⟩
  refine eY (lE dS (lE aY (lE (cY 2) (aX rfl rfl rfl (cT (vs:=[pp wb 0,Ix (x9.other),.int .i64 (17)]) nP.ok rfl rfl) ?_))))
  intro w hw
  obtain⟨β1,sb,kn,hw1,back⟩:=St.frame (L:=[_,_]) (M:=_::_::[]) hw
  refine(jZ β1 w wb _ _ (fB (U x9.owner) 17 (fB (U ((x9.kind.toNat:Nat):Int)) 3 ys (n+7+41+9+225*k)) (n+7+41+9+225*k+3)) (n+7+41+9+225*k+3+17) hw1 (dI (dI hyl)) x9.other 17 (by omega) (by omega) hv3).mono ?_
  rintro e w' ⟨p20,c21,rfl,hw'⟩
  refine⟨_,rfl,_,back _ _ hw',?_⟩
  refine eY (lE dS (lE aY (lE (cY 2) (aX rfl rfl rfl (cT (vs:=[pp wb 0,Ix (x9.hold),.int .i64 (64)]) nP.ok rfl rfl) ?_))))
  intro w hw
  obtain⟨β1,sb,kn,hw1,back⟩:=St.frame (L:=[_,_]) (M:=_::_::[]) hw
  refine(jZ β1 w wb _ _ (fB (U x9.other) 17 (fB (U x9.owner) 17 (fB (U ((x9.kind.toNat:Nat):Int)) 3 ys (n+7+41+9+225*k)) (n+7+41+9+225*k+3)) (n+7+41+9+225*k+3+17)) (n+7+41+9+225*k+3+17+17) hw1 (dI (dI (dI hyl))) x9.hold 64 (by omega) (by omega) (.inl rfl)).mono ?_
  rintro e w' ⟨p22,c23,rfl,hw'⟩
  refine⟨_,rfl,_,back _ _ hw',?_⟩
  refine xJ (lE dS (lE aY (lE (dK 2) (aX rfl rfl rfl (cT (vs:=[pp wb 0,.agg (eK x9.a),.int .i64 (31)]) aYw.ok rfl rfl) ?_))))
  intro w hw
  obtain⟨β1,sb,kn,hw1,back⟩:=St.frame (L:=[_,_]) (M:=_::_::[]) hw
  refine(aTz β1 w wb _ _ (fB (U x9.hold) 64 (fB (U x9.other) 17 (fB (U x9.owner) 17 (fB (U ((x9.kind.toNat:Nat):Int)) 3 ys (n+7+41+9+225*k)) (n+7+41+9+225*k+3)) (n+7+41+9+225*k+3+17)) (n+7+41+9+225*k+3+17+17)) (n+7+41+9+225*k+3+17+17+64) hw1 (dI (dI (dI (dI hyl)))) x9.a 31 (by omega) (by omega) hva).mono ?_
  rintro e w' ⟨p24,c25,rfl,hw'⟩
  refine⟨_,rfl,_,back _ _ hw',?_⟩
  refine aH (aP (bA (aC (lv (v:=Nx (k+1)) (bO rfl rfl (cW (by omega) (by omega))) (lE aU (aH ?_))))))
  refine dD (L':=[pt wb (.cells #[sB p24 (amB x9.a 31 (fB (U x9.hold) 64 (fB (U x9.other) 17 (fB (U x9.owner) 17 (fB (U ((x9.kind.toNat:Nat):Int)) 3 ys (n+7+41+9+225*k)) (n+7+41+9+225*k+3)) (n+7+41+9+225*k+3+17)) (n+7+41+9+225*k+3+17+17)) (n+7+41+9+225*k+3+17+17+64)) c25,Nx (n+7+41+9+225*k+3+17+17+64+31+31+31+31)] 139),aK hG 5 p24 c25 (amB x9.a 31 (fB (U x9.hold) 64 (fB (U x9.other) 17 (fB (U x9.owner) 17 (fB (U ((x9.kind.toNat:Nat):Int)) 3 ys (n+7+41+9+225*k)) (n+7+41+9+225*k+3)) (n+7+41+9+225*k+3+17)) (n+7+41+9+225*k+3+17+17)) (n+7+41+9+225*k+3+17+17+64)),pt b1 (.cells #[Ix (au),Ix (nu),sB va al (vc)] 80)]) [true,true,false,true] rfl ?_
  exact bG ⟨(k+1,(amB x9.a 31 (fB (U x9.hold) 64 (fB (U x9.other) 17 (fB (U x9.owner) 17 (fB (U ((x9.kind.toNat:Nat):Int)) 3 ys (n+7+41+9+225*k)) (n+7+41+9+225*k+3)) (n+7+41+9+225*k+3+17)) (n+7+41+9+225*k+3+17+17)) (n+7+41+9+225*k+3+17+17+64)),p24,c25),⟨⟨rfl,rfl,rfl,rfl⟩,by rw[show n+7+41+9+225*(k+1)=n+7+41+9+225*k+3+17+17+64+31+31+31+31 by omega],⟨by omega,by rw[show n+7+41+9+225*(k+1)=n+7+41+9+225*k+225 by omega];exact aEv hyl,by rw[show n+7+41+9+225*(k+1)=n+7+41+9+225*k+225 by omega,←hrun,aMe hx10];rfl⟩⟩,(show al.length-(k+1)<al.length-k from by omega)⟩
 refine cK (aF (aF (cL (mZ Tryz.results58 ?_))))
 intro w hw
 have hke:k=al.length:=by omega
 have hy:ys=fI au nu al xs n:=by rw[←hrun,hke,List.drop_length];rfl
 rw[hke,hy,show n+7+41+9+225*al.length=n+(57+225*al.length) by omega]at hw
 exact⟨_,_,rfl,aG (L':=[pt wb (.cells #[sB p (fI au nu al xs n) c,Nx (n+(57+225*al.length))] 139),aK hG 5 p c (fI au nu al xs n)]) [true,true,false] rfl hw⟩
theorem aCp(β:Base)(w:World)(wb:Nat)(p:Option Addr)(c:Nat)(xs:List UInt8)(n:Nat)(hw:St β [pt wb (.cells #[sB p xs c,Nx n] 139),aK hG 5 p c xs] w)(hxl:xs.length≤1048576):Calls Tryz.prog 59 #[pp wb 0] w fun r w'=>∃p c,r= .returned (sB p xs c)∧St β [rB p xs c] w':=by
 refine enter (n:=10) Tryz.func59 rfl Tryz.ntmps59 rfl ?_ hw
 refine bD (lE iO (aN (eR (aC (lE dS (lv (v:= .bool false) (iV (p:=some (⟨wb,0,none⟩)) rfl rfl bGy) (aN (cR rfl (eB (bD ?_))))))))))
 refine lE dS (lE eS (lE aY (lE (fQ 0) ?_)))
 refine pV (cT (vs:=[sB p xs c]) bHa.ok rfl rfl) rfl fun w β1 sb kn hw1 back=>(lQ β1 w hw1 xs _ (by omega) (kn _ (jK 1 (F:=hG) (m:=xs.length) rfl rfl))).mono ?_
 rintro e w' ⟨p1,c2,rfl,hw'⟩
 refine⟨_,rfl,_,back _ _ hw',?_⟩
 refine lE iO (aN (aV (dJ Tryz.results59 rfl ?_)))
 intro w hw
 exact⟨_,_,rfl,aG (L':=[rB p1 xs c2]) [true,false,false] rfl hw⟩
theorem aJg(β:Base)(w:World)(hw:St β [] w)(au nu:Int)(v:Value)(al:List KAct)(hs:Sl cJ.R β.heap v al)(hfo:∀x∈al,x.formed=true)(hl:al.length≤16)(hau:0≤au∧au<128)(hnu:0≤nu∧nu<2199023255552):Calls Tryz.prog 37 #[.agg #[Ix au,Ix nu,v]] w fun r w'=>∃p c,r= .returned (sB p (fI au nu al [] 0) c)∧St β [rB p (fI au nu al [] 0) c] w':=by
 obtain⟨va,vc,rfl,vl,vm,ve⟩:=hs.get
 refine enter (n:=8) Tryz.func37 rfl Tryz.ntmps37 rfl ?_ hw
 refine bD (mL fun b1=> ?_)
 refine lE iO (eY (gB fun b2=>aN (aL (iK (r:=aK hG 5 none 0 []) (eA _ _ _) (aC (lE (dK 2) ?_))))))
 refine aX rfl rfl rfl (cT (vs:=[pp b2 0,.agg #[Ix (au),Ix (nu),sB va al (vc)]]) bHb.ok rfl rfl) ?_
 intro w hw
 replace hw:=hw.perm (L':=_::_::_::[]) (by exact(((aB 2 rfl).trans (aB 1 rfl)).trans (aB 2 rfl)))
 obtain⟨β1,sb,kn,hw1,back⟩:=St.frame (L:=[_,_]) (M:=_::[]) hw
 refine(aJv β1 w b2 none 0 [] 0 hw1 rfl au nu _ al (Sl.mono _ _ _ _ _ sb (⟨⟨_,_,rfl,vl,vm,ve⟩⟩:Sl cJ.R _ _ al)) hfo hl hau hnu (by omega)).mono ?_
 rintro e w' ⟨p3,c4,rfl,hw'⟩
 refine⟨_,rfl,_,back _ _ hw',?_⟩
 refine eY (lE aY (aX rfl rfl rfl (cT (vs:=[pp b2 0]) bHc.ok rfl rfl) ?_))
 intro w hw
 obtain⟨β1,sb,kn,hw1,back⟩:=St.frame (L:=[_,_]) (M:=_::[]) hw
 refine(aCp β1 w b2 _ _ (fI au nu al [] 0) _ hw1 (by rw[aBg (n:=0) rfl];omega)).mono ?_
 rintro e w' ⟨p5,c6,rfl,hw'⟩
 refine⟨_,rfl,_,back _ _ hw',?_⟩
 refine lE iO (aN (aV (dJ Tryz.results37 rfl ?_)))
 intro w hw
 exact⟨_,_,rfl,aG (L':=[rB p5 ((fI au nu al [] 0)) c6]) [true,false] rfl hw⟩
open Go Go.Sl Go.Td Go.Jn
instance bJo:CfC Tryz.prog 57:={}
theorem bHd:Tryz.prog.underlying 23=some (.pointer (Tryz.prog.pointee 23)):=by kernel_rfl
instance tt90:FldC Tryz.prog 91 0 0 1 false:={}
instance bJp:TyC Tryz.prog 89 false 1:={}
theorem bJq:Tryz.prog.underlying 89=some (.pointer (Tryz.prog.pointee 89)):=by kernel_rfl
instance tt93:CfC Tryz.prog 40:={}
instance tt94:FldC Tryz.prog 91 2 9 1 false:={}
instance bJr:TyC Tryz.prog 4 false 1:={}
theorem aIn(β:Base)(w:World)(hw:St β [] w)(dn:Bool)(at0 e0:Int)(v:Value)(xs:List Int)(hs:Sl aZ.R β.heap v xs)(hn:xs.length≤1048576):Calls Tryz.prog 36 #[.agg #[.bool dn,Ix at0,Ix e0,v]] w fun r w'=>∃p c,r= .returned (.agg #[.bool dn,Ix at0,Ix e0,sB p xs c])∧St β [aK aZ 3 p c xs] w':=by
 obtain⟨va,vc,rfl,vl,vm,ve⟩:=hs.get
 refine enter (n:=8) Tryz.func36 rfl Tryz.ntmps36 rfl ?_ hw
 refine bD (mL fun b1=> ?_)
 refine gB fun b2=>eY (lE aY (lE (fQ 1) ?_))
 refine pV (cT (vs:=[sB va xs (vc)]) bJo.ok rfl rfl) rfl fun w β1 sb kn hw1 back=>(aMq β1 w hw1 _ xs (Sl.mono _ _ _ _ _ sb (⟨⟨_,_,rfl,vl,vm,ve⟩⟩:Sl aZ.R _ _ xs)) (by omega)).mono ?_
 rintro e w' ⟨p3,c4,rfl,hw'⟩
 refine⟨_,rfl,_,back _ _ hw',?_⟩
 refine lE aY (lu (mS 2 (#[.bool (dn),Ix (at0),Ix (e0),sB p3 xs c4])) (eY (lE (dK 2) (lu (mS 1 (#[.bool (dn),Ix (at0),Ix (e0),sB p3 xs c4])) ?_))))
 refine aN (aV ?_)
 refine gK (m:=[.agg #[.bool (dn),Ix (at0),Ix (e0),sB p3 xs c4]]) Tryz.results36 ⟨bS aEp.ok rfl (cD 1 rfl rfl) rfl,trivial⟩ rfl ?_
 intro w hw
 exact⟨_,_,rfl,aG (L':=[aK aZ 3 p3 c4 xs]) [true,false,false] rfl hw⟩
theorem mN(β:Base)(w:World)(hw:St β [] w)(H jb mp mh mm:Nat)(s:KSt)(dn:Bool)(hc:Cs β.heap ⟨H,0,none⟩ [pp jb 0,.map (some mp),.map (some mh),Ix s.last,Ix s.su.a0,Ix s.su.a1,Ix s.su.a2,Ix s.su.a3,.map (some mm),.bool dn]):oP Tryz.prog 40 #[pp H 0] β w (.bool true):=by
 refine enter (n:=12) Tryz.func40 rfl Tryz.ntmps40 rfl ?_ hw
 refine bD (lE dP (eY (lE dS (lv (v:= .bool true) (mX (p:=some (⟨H,0,none⟩)) rfl rfl bHd) (lE fM (gE dS (gE eS (gE ofa ?_))))))))
 refine cU (v:=pp jb 0) rfl rfl rfl rfl rfl (bI bJp.ok rfl (bH.imp (kB hc) (fun _ h=>Cs.sub (vs:=[pp jb 0]) 0 h rfl))) ?_
 refine cU (v:= .bool true) rfl rfl rfl rfl rfl (mX (p:=some (⟨jb,0,none⟩)) rfl rfl bJq) (lE eF (lE dP (aN (aV ?_))))
 refine dJ Tryz.results40 rfl ?_
 intro w hw
 exact⟨rfl,aG [] rfl hw⟩
theorem aBn(β:Base)(w:World)(hw:St β [] w)(H jb mp mh mm:Nat)(s:KSt)(hc:Cs β.heap ⟨H,0,none⟩ [pp jb 0,.map (some mp),.map (some mh),Ix s.last,Ix s.su.a0,Ix s.su.a1,Ix s.su.a2,Ix s.su.a3,.map (some mm),.bool false]):oP Tryz.prog 32 #[pp H 0] β w (Ix 0):=by
 refine enter (n:=12) Tryz.func32 rfl Tryz.ntmps32 rfl ?_ hw
 refine bD (lE bN (aN (aL (aJ (bD (lE dS (gI gH (fun w β1 sb kn hw1=>mN β1 w hw1 _ _ _ _ _ s _ (Cs.mono _ _ _ _ sb hc)) ?_)))))))
 refine lE mB (lE dP (aN (cR rfl (bD (lE dS (lE eS (lE ofa ?_)))))))
 refine lv (v:= .bool false) (bI bJr.ok rfl (bH.imp (kB hc) (fun _ h=>Cs.sub (vs:=[.bool false]) 9 h rfl))) (lE dP (aN (cR rfl ?_)))
 refine cG (aP (kM (lE bN (aN (aV (dJ Tryz.results32 rfl ?_))))))
 intro w hw
 exact⟨rfl,aG [] rfl hw⟩
end Go.Proofs
