/-
 The reference's house and the program's side by side: walked. Printed by a program of my own.
-/
import Derived.Test.YtjejfkajcbdgjaaGreatTdAsk
import Derived.Test.YtjejfkajcbdgjaaGreatTd23
set_option linter.all false
set_option maxHeartbeats 4000000
namespace Go.Proofs
open Go Go.Sl Go.Td Go.Jn
theorem aGm(β:Base)(w:World)(H J:Nat)(X:KHs)(dn:Bool)(hw:St β [fY H J X dn] w)(l:List Int)(h:sJ X=l):Calls Tryz.prog 14 #[pp H 0] w fun r w'=>∃p c,r= .returned (sB p l c)∧St β [aK aZ 3 p c l,fY H J X dn] w':=by
 subst h;exact aIo β w H J X dn hw
theorem aIf(β:Base)(w:World)(H J:Nat)(X:KHs)(dn:Bool)(hw:St β [fY H J X dn] w)(l:List KHo)(h:gW X=l):Calls Tryz.prog 13 #[pp H 0] w fun r w'=>∃p c,r= .returned (sB p l c)∧St β [aK fG 104 p c l,fY H J X dn] w':=by
 subst h;exact aBl β w H J X dn hw
instance ty0:FldC Tryz.prog 32 3 3 1 false:={}
instance ty1:TyC Tryz.prog 30 false 1:={}
instance ty2:UndC Tryz.prog 30 47:={}
theorem ty3:lY Tryz.prog 30 47 8=true:=by kernel_rfl
instance ty4:TyC Tryz.prog 47 true 8:={}
instance ty5:ZerC Tryz.prog 47 (.agg #[.int .u8 (0),.int .i64 (0),.int .i64 (0),.int .i64 (0),.int .i64 (0),.int .i64 (0),.int .i64 (0),.int .i64 (0)]):={}
instance ty6:FldC Tryz.prog 47 0 0 1 false:={}
instance ty7:TyC Tryz.prog 5 false 1:={}
instance ty8:FldC Tryz.prog 47 1 1 1 false:={}
instance ty9:TyC Tryz.prog 3 false 1:={}
instance ty10:FldC Tryz.prog 47 2 2 1 false:={}
instance ty11:FldC Tryz.prog 47 3 3 1 false:={}
instance ty12:FldC Tryz.prog 47 4 4 4 true:={}
instance ty13:TyC Tryz.prog 44 true 4:={}
theorem bJy:xC Tryz.prog 120 [(0,1),(1,1),(2,1),(3,1),(4,4)]=true:=by kernel_rfl
instance bHk:ZerC Tryz.prog 120 (.agg #[.int .u8 (0),.int .i64 (0),.int .i64 (0),.int .i64 (0),.int .i64 (0),.int .i64 (0),.int .i64 (0),.int .i64 (0)]):={}
theorem bHl:lY Tryz.prog 69 120 8=true:=by kernel_rfl
theorem bJz:vR Tryz.prog 120 8 64=true:=by kernel_rfl
instance ty18:FldC Tryz.prog 37 0 0 1 false:={}
instance ty19:TyC Tryz.prog 4 false 1:={}
instance ty20:FldC Tryz.prog 66 0 0 1 false:={}
theorem bDg:Tryz.prog.underlying 4=some .bool:=by kernel_rfl
instance ty22:FldC Tryz.prog 37 1 1 1 false:={}
instance ty23:FldC Tryz.prog 66 1 1 1 false:={}
instance ty24:FldC Tryz.prog 37 2 2 1 false:={}
instance ty25:TyC Tryz.prog 34 false 1:={}
instance ty26:FldC Tryz.prog 66 2 2 1 false:={}
instance ty27:FldC Tryz.prog 37 3 3 1 false:={}
instance ty28:TyC Tryz.prog 35 false 1:={}
instance ty29:FldC Tryz.prog 66 3 3 1 false:={}
instance bKa:CfC Tryz.prog 16:={}
instance ty31:FldC Tryz.prog 62 0 0 1 false:={}
instance ty32:TyC Tryz.prog 58 false 1:={}
instance ty33:UndC Tryz.prog 58 128:={}
theorem bKb:lY Tryz.prog 58 128 5=true:=by kernel_rfl
instance bKc:TyC Tryz.prog 128 true 5:={}
instance ty36:ZerC Tryz.prog 128 (.agg #[.int .i64 (0),.int .i64 (0),.int .i64 (0),.int .i64 (0),.int .i64 (0)]):={}
instance ty37:FldC Tryz.prog 128 0 0 1 false:={}
theorem aZa:lY Tryz.prog 35 3 1=true:=by kernel_rfl
instance bKd:ZerC Tryz.prog 3 (.int .i64 (0)):={}
theorem bKe:vR Tryz.prog 3 1 8=true:=by kernel_rfl
instance bKf:CfC Tryz.prog 44:={}
instance ty42:FldC Tryz.prog 128 1 1 4 true:={}
instance ty43:TyC Tryz.prog 43 true 4:={}
theorem bHm:zC Tryz.prog 10000 44=some [.int .i64,.int .i64,.int .i64,.int .i64]:=by kernel_rfl
theorem bHn:gM Tryz.prog 44=true:=by kernel_rfl
theorem bHo:Tryz.prog.eqGuardType Tryz.prog.depth 44=false:=by kernel_rfl
instance bKg:CfC Tryz.prog 13:={}
instance bKh:CfC Tryz.prog 14:={}
instance ty49:UndC Tryz.prog 40 104:={}
instance ty50:FldC Tryz.prog 62 1 1 1 false:={}
instance ty51:TyC Tryz.prog 59 false 1:={}
instance ty52:UndC Tryz.prog 59 130:={}
instance bKi:CfC Tryz.prog 15:={}
instance ty54:FldC Tryz.prog 62 3 3 4 true:={}
theorem bKj:lY Tryz.prog 59 130 6=true:=by kernel_rfl
instance bKk:TyC Tryz.prog 130 true 6:={}
instance ty57:ZerC Tryz.prog 130 (.agg #[.int .i64 (0),.int .i64 (0),.int .i64 (0),.int .i64 (0),.int .i64 (0),.int .i64 (0)]):={}
theorem bKl:lY Tryz.prog 40 104 6=true:=by kernel_rfl
instance bKm:TyC Tryz.prog 104 true 6:={}
instance ty60:FldC Tryz.prog 130 0 0 1 false:={}
instance ty61:FldC Tryz.prog 130 1 1 1 false:={}
instance ty62:FldC Tryz.prog 130 2 2 4 true:={}
theorem bKn:xC Tryz.prog 104 [(0,1),(1,1),(2,4)]=true:=by kernel_rfl
instance bKo:ZerC Tryz.prog 104 (.agg #[.int .i64 (0),.int .i64 (0),.int .i64 (0),.int .i64 (0),.int .i64 (0),.int .i64 (0)]):={}
theorem bKp:zC Tryz.prog 10000 104=some [.int .i64,.int .i64,.int .i64,.int .i64,.int .i64,.int .i64]:=by kernel_rfl
theorem bKq:gM Tryz.prog 104=true:=by kernel_rfl
theorem bKr:Tryz.prog.eqGuardType Tryz.prog.depth 104=false:=by kernel_rfl
instance aZb:CfC Tryz.prog 18:={}
instance ty69:ZerC Tryz.prog 37 (.agg #[.bool false,.int .i64 (0),.int .i64 (0),.slice none 0 0]):={}
instance ty70:TyC Tryz.prog 37 true 4:={}
instance ty71:TyC Tryz.prog 62 true 8:={}
instance ty72:CfC Tryz.prog 51:={}
instance ty73:ZerC Tryz.prog 122 (.agg #[.int .i64 (0),.int .i64 (0),.slice none 0 0,.bool false,.int .i64 (0),.int .i64 (0),.slice none 0 0]):={}
instance ty74:TyC Tryz.prog 122 true 7:={}
instance ty75:FldC Tryz.prog 122 1 1 1 false:={}
instance ty76:FldC Tryz.prog 122 3 3 4 true:={}
instance ty77:TyC Tryz.prog 66 true 4:={}
instance bHp:CfC Tryz.prog 26:={}
instance ty79:UndC Tryz.prog 35 3:={}
theorem aAw(β:Base)(w:World)(hw:St β [] w)(k:UInt8)(au nu:Int)(pa:Option Addr)(ca:Nat)(al:List KAct)(hsa:Sl cJ.R β.heap (sB pa al ca) al):oP Tryz.prog 23 #[.agg #[Bx k,Ix au,Ix nu,sB pa al ca]] β w (sB pa (al.take 18) ca):=by
 obtain⟨-,hsal,hsam,hsae⟩:=gA hsa
 refine enter (n:=10) Tryz.func23 rfl Tryz.ntmps23 rfl ?_ hw
 refine bD (mL fun b1=> ?_)
 refine lE iO (eY (lE aY (lE (fQ 0) (lE aY (lE (fQ 0) (lE gY ?_))))))
 refine lv (v:=Nx (min al.length 18)) (eZ (congrArg (Value.int .i64) (by omega)) (aKa (a:=((al.length:Nat):Int)) (b:=(18:Int)) rfl rfl)) ?_
 obtain⟨zs2,hz3⟩:∃zs,zs=(al.take (min al.length 18)):=⟨_,rfl⟩
 have zl4:zs2.length=min (min al.length 18) (al).length-0:=by rw[hz3];simp;try omega
 have ze5:=(dH.take (min al.length 18) hsae)
 rw[←hz3]at ze5
 refine lv (v:= .slice pa (zs2.length) (ca)) (eZ (by rw[show zs2.length=min al.length 18 by omega]) (kA (a:=pa) (len:=al.length) (cap:=ca) (h:=min al.length 18) ty3 rfl rfl (by omega))) ?_
 refine lE iO (aN (aV (dJ Tryz.results23 rfl ?_)))
 intro w hw
 exact⟨congrArg (fun n:Nat=>Ending.returned (.slice pa n ca)) (show(zs2.length)=(al.take 18).length by simp only[hz3,List.length_take]<;>omega),aG [false] rfl hw⟩
theorem aVp(β:Base)(w:World)(hw:St β [] w)(v:Value)(al:List KAct)(hs:Sl cJ.R β.heap v al)(hal:al.length≤1000):Calls Tryz.prog 25 #[v] w fun r w'=>∃p c,r= .returned (sB p al c)∧St β [aK cJ 120 p c al] w':=by
 obtain⟨va,vc,rfl,vl,vm,ve⟩:=hs.get
 refine enter (n:=28) Tryz.func25 rfl Tryz.ntmps25 rfl ?_ hw
 refine bD (lE iO (eY (lE iO (aN (eR (iK (r:=aK cJ 120 none 0 []) (eA _ _ _) (aC (lE fL (lE gY (lE aU (aN (aJ ?_))))))))))))
 refine jJ [true] rfl ?_
 refine cZ (fun(x_:Nat×List KAct×Option Addr×Nat) f L=>match x_ with|(k,ys,p,c)=>(f 3=sB p ys c∧f 6=sB va al (vc)∧f 7=Nx (al.length)∧f 8=Nx (k))∧L=[aK cJ 120 p c ys]∧(k≤al.length∧ys=al.take k)) (fun(k,ys,p,c)=>al.length-k) (0,[],none,0) ?_ ?_
 ·exact⟨⟨rfl,rfl,rfl,rfl⟩,rfl,⟨Nat.zero_le _,rfl⟩⟩
 rintro⟨k,ys,p,c⟩ f0 L0 ⟨⟨hs3,hs6,hs7,hs8⟩,hL,⟨hk,hys⟩⟩
 subst L0
 refine bJ 3 hs3 (bJ 6 hs6 (bJ 7 hs7 (bJ 8 hs8 ?_)))
 have hyl:ys.length≤100000:=by rw[hys,List.length_take];omega
 refine bD (lE gN (aN (aL (cN _ rfl (fun hc1=> ?_) (fun hc1=> ?_)))))
 ·refine eB (aL (aJ (bD ?_)))
  obtain⟨x2,hx3⟩:=kX al k (by omega)
  obtain⟨ha4,cs5,hc6,rfl⟩:=ve _ _ hx3
  refine lE (sW ty3 ha4) ?_
  refine lv (v:= .agg #[Bx (x2.kind),Ix (x2.owner),Ix (x2.other),Ix (x2.hold),Ix (x2.a.a0),Ix (x2.a.a1),Ix (x2.a.a2),Ix (x2.a.a3)]) (fV ty4.ok rfl (kB hc6) rfl) ?_
  refine gB fun b8=>lu (mS 0 (#[Bx (x2.kind),Ix (x2.owner),Ix (x2.other),Ix (x2.hold),Ix (x2.a.a0),Ix (x2.a.a1),Ix (x2.a.a2),Ix (x2.a.a3)])) (xJ ?_)
  refine lE fL (lE aY (lE (cY 0) (lE aY (lE (cY 0) (lE aY (lE (cY 0) (lE aY (lE (cY 0) (lE aY (lE (dK 0) ?_))))))))))
  refine lv (v:= .agg #[Bx (x2.kind),Ix (x2.owner),Ix (x2.other),Ix (x2.hold),Ix (x2.a.a0),Ix (x2.a.a1),Ix (x2.a.a2),Ix (x2.a.a3)]) (bV bHk.ok bJy (vs:=[(0,Bx (x2.kind)),(1,Ix (x2.owner)),(2,Ix (x2.other)),(3,Ix (x2.hold)),(4,.agg (eK x2.a))]) (cells:= #[Bx (x2.kind),Ix (x2.owner),Ix (x2.other),Ix (x2.hold),Ix (x2.a.a0),Ix (x2.a.a1),Ix (x2.a.a2),Ix (x2.a.a3)]) rfl (by kernel_rfl)) ?_
  refine dA rfl rfl rfl (bZ bHl bHk.ok (cells:= #[Bx (x2.kind),Ix (x2.owner),Ix (x2.other),Ix (x2.hold),Ix (x2.a.a0),Ix (x2.a.a1),Ix (x2.a.a2),Ix (x2.a.a3)]) rfl rfl rfl (by kernel_rfl)) ?_
  rintro _ _ ⟨b9,rfl,rfl⟩
  refine dA rfl rfl rfl (cF (F:=cJ) 2 bHl bJz (p:=p) (m:=ys.length) (xs:=ys) (ys:=[x2]) (ao:=(some ⟨b9,0,none⟩)) (k:=1) (c:=1) rfl rfl rfl rfl rfl (gX (z:=x2) 0 rfl rfl) (by first|omega|simp only[List.length_nil,List.length_cons,List.length_append,List.length_set];omega) (by first|omega|simp only[List.length_nil,List.length_cons,List.length_append,List.length_set];omega)) ?_
  rintro _ _ ⟨rp10,rc11,rfl,rfl⟩
  refine lE iO (aH (aP (bA (aC (lv (v:=Nx (k+1)) (bO rfl rfl (cW (by omega) (by omega))) (lE aU (aH ?_)))))))
  refine dD [false,false,true] rfl ?_
  exact bG ⟨(k+1,(ys++[x2]),rp10,rc11),⟨⟨rfl,rfl,rfl,rfl⟩,rfl,⟨by omega,by rw[hys];exact jR hx3⟩⟩,(show al.length-(k+1)<al.length-k from by omega)⟩
 refine cK (aF (aF (cL (kM (lE fL (lE iO (aN (aV (dJ Tryz.results25 rfl ?_)))))))))
 intro w hw
 have hye:ys=al:=by rw[hys,List.take_of_length_le (by omega)]
 subst hye
 exact⟨_,_,rfl,hw⟩
theorem pO(β:Base)(w:World)(hw:St β [] w)(d:Bool)(a e:Int)(v u:Value)(xs:List Int)(hs:Sl aZ.R β.heap v xs)(ht:Sl aZ.R β.heap u xs):oP Tryz.prog 26 #[.agg #[.bool d,Ix a,Ix e,v],.agg #[.bool d,Ix a,Ix e,u]] β w (.bool true):=by
 obtain⟨va,vc,rfl,vl,vm,ve⟩:=hs.get
 obtain⟨ua,uc,rfl,ul,um,ue⟩:=ht.get
 refine enter (n:=31) Tryz.func26 rfl Tryz.ntmps26 rfl ?_ hw
 refine bD (mL fun b1=> ?_)
 refine mL fun b2=> ?_
 refine lE dP (eY (lE aY (lE (olb 1) (lE aY (lE (olb 0) (lv (v:= .bool ((d==d))) (aVw (a:=d) (b:=d) rfl rfl bDg) ?_))))))
 refine oL (d==d) (decide ((a)=(a))) rfl (fun hb3 hk3=> ?_) (fun z4 z5 z6 z7 z8=> ?_)
 ·refine gE aY (gE (cY 1) (gE aY (gE (cY 0) (gE fD (lE eF ?_)))))
  exact hk3 _ _ _ _ _
 refine oL ((d==d)&&(decide ((a)=(a)))) (decide ((e)=(e))) rfl (fun hb9 hk9=> ?_) (fun z10 z11 z12 z13 z14=> ?_)
 ·refine gE aY (gE (cY 1) (gE aY (gE (cY 0) (gE fD (lE eF ?_)))))
  exact hk9 _ _ _ _ _
 refine oL (((d==d)&&(decide ((a)=(a))))&&(decide ((e)=(e)))) (decide (xs=xs)) rfl (fun hb15 hk15=> ?_) (fun z16 z17 z18 z19 z20=> ?_)
 ·refine gE aY (gE (fQ 1) (gE aY (gE (fQ 0) (eM rfl rfl rfl rfl rfl (cT (vs:=[sB va xs (vc),sB ua xs (uc)]) bKa.ok rfl rfl) ?_))))
  intro w hw
  obtain⟨β1,sb,kn,hw1,back⟩:=St.frame_all hw
  refine(vK β1 w hw1 _ _ xs xs (Sl.mono _ _ _ _ _ sb (⟨⟨_,_,rfl,vl,vm,ve⟩⟩:Sl aZ.R _ _ xs)) (Sl.mono _ _ _ _ _ sb (⟨⟨_,_,rfl,ul,um,ue⟩⟩:Sl aZ.R _ _ xs))).mono ?_
  rintro e w' ⟨rfl,hw'⟩
  refine⟨_,rfl,_,back _ _ hw',?_⟩
  refine lE eF ?_
  exact hk15 _ _ _ _ _
 refine lE dP (aN (aV (dJ Tryz.results26 rfl ?_)))
 intro w hw
 exact⟨congrArg (fun b:Bool=>Ending.returned (.bool b)) (by simp),aG [false,false] rfl hw⟩
theorem aOf(β:Base)(w:World)(H J:Nat)(X:KHs)(dn:Bool)(hw:St β [fY H J X dn] w)(rh:KRh)(p1 p2 p3:Option Addr)(c1 c2 c3:Nat)(hd:List KMh)(hsp1:Sl kF.R β.heap (sB p1 rh.ps c1) rh.ps)(hsp2:Sl fG.R β.heap (sB p2 rh.hs c2) rh.hs)(hsp3:Sl xF.R β.heap (sB p3 hd c3) hd)(hdn:hd.length≤100000)(zs:List (KMh×KMem))(hz:∀z∈zs,HdOf z)(hpool:∀z∈zs,MOk β.heap z)(hhd:hd=zs.map (·.1))(hds:rh.ds=zs.map (·.2))(hrx:RelX X rh)(hgx:Good2 X.s):Calls Tryz.prog 27 #[pp H 0,.agg #[sB p1 rh.ps c1,sB p2 rh.hs c2,Ix rh.last,Ix rh.su.a0,Ix rh.su.a1,Ix rh.su.a2,Ix rh.su.a3,sB p3 hd c3]] w fun r w'=>r= .returned (.bool true)∧St β [fY H J X dn] w':=by
 obtain⟨-,hsp1l,hsp1m,hsp1e⟩:=gA hsp1
 obtain⟨-,hsp2l,hsp2m,hsp2e⟩:=gA hsp2
 obtain⟨-,hsp3l,hsp3m,hsp3e⟩:=gA hsp3
 have hrs:=hrx.s
 have how:=hrs.owners
 have hho:=hrs.holds
 have hpl:=(hrs.rb hgx).pn
 have hhl:=(hrs.rb hgx).hn
 refine enter (n:=140) Tryz.func27 rfl Tryz.ntmps27 rfl ?_ hw
 refine bD (mL fun b1=> ?_)
 refine lE dP (eY (lE iO (aN (eR (iK (r:=aK aZ 3 none 0 []) (eA _ _ _) (aC (lE aY (lE (fQ 1) (lE gY (lE aU (aN ?_)))))))))))
 refine aJ (jJ [true,true,true] rfl ?_)
 refine cZ (fun(x_:Nat×List Int×Option Addr×Nat) f L=>match x_ with|(k,ow,p,c)=>(f 0=pp H 0∧f 3=pp b1 0∧f 5=sB p ow c∧f 22=sB p1 rh.ps (c1)∧f 23=Nx (rh.ps.length)∧f 24=Nx (k))∧L=[aK aZ 3 p c ow,pt b1 (.cells #[sB p1 rh.ps (c1),sB p2 rh.hs (c2),Ix (rh.last),Ix (rh.su.a0),Ix (rh.su.a1),Ix (rh.su.a2),Ix (rh.su.a3),sB p3 hd (c3)] 62),fY H J X dn]∧(k≤rh.ps.length∧ow=(rh.ps.take k).map (·.owner))) (fun(k,ow,p,c)=>rh.ps.length-k) (0,[],none,0) ?_ ?_
 ·exact⟨⟨rfl,rfl,rfl,rfl,rfl,rfl⟩,rfl,⟨Nat.zero_le _,rfl⟩⟩
 rintro⟨k,ow,p,c⟩ f0 L0 ⟨⟨hs0,hs3,hs5,hs22,hs23,hs24⟩,hL,⟨hk,how1⟩⟩
 subst L0
 refine bJ 0 hs0 (bJ 3 hs3 (bJ 5 hs5 (bJ 22 hs22 (bJ 23 hs23 (bJ 24 hs24 ?_)))))
 have hol:ow.length≤rh.ps.length:=by rw[how1,List.length_map,List.length_take];omega
 refine bD (lE gN (aN (aL (cN _ rfl (fun hc2=> ?_) (fun hc2=> ?_)))))
 ·refine eB (aL (aJ (bD ?_)))
  obtain⟨x3,hx4⟩:=kX rh.ps k (by omega)
  obtain⟨ha5,cs6,hc7,rfl⟩:=hsp1e _ _ hx4
  refine lE (sW bKb ha5) (lv (v:= .agg #[Ix (x3.owner),Ix (x3.a.a0),Ix (x3.a.a1),Ix (x3.a.a2),Ix (x3.a.a3)]) (fV bKc.ok rfl (kB hc7) rfl) ?_)
  refine gB fun b9=>lu (mS 0 (#[Ix (x3.owner),Ix (x3.a.a0),Ix (x3.a.a1),Ix (x3.a.a2),Ix (x3.a.a3)])) (eY (lE fL (lE aY (lE (cY 0) ?_))))
  refine dA rfl rfl rfl (bZ aZa bKd.ok (cells:= #[Ix (x3.owner)]) rfl rfl rfl rfl) ?_
  rintro _ _ ⟨b10,rfl,rfl⟩
  refine dA rfl rfl rfl (cF (F:=aZ) 2 aZa bKe (p:=p) (m:=ow.length) (xs:=ow) (ys:=[x3.owner]) (ao:=(some ⟨b10,0,none⟩)) (k:=1) (c:=1) rfl rfl rfl rfl rfl (gX (z:=x3.owner) 0 rfl rfl) (by first|omega|simp only[List.length_nil,List.length_cons,List.length_append,List.length_set];omega) (by first|omega|simp only[List.length_nil,List.length_cons,List.length_append,List.length_set];omega)) ?_
  rintro _ _ ⟨rp11,rc12,rfl,rfl⟩
  refine lE iO (aN (aL ?_))
  refine jS [sv 33 (pp H 0) [] [] [0],sv 34 (pp b9 0) [] [] [1],sv 35 (Ix (x3.owner)) [1] [1] [],sv 36 (.agg (eK (iS X.s.ps x3.owner))) [0,1,2] [0,2] [],sv 37 (pp b9 1) [] [] [1],sv 38 (.agg (eK x3.a)) [4] [4] [],sv 39 (.bool false) (List.range 6) [3,5] []] [u0,u1 [2,5],u0,u0,u1 [3]] [] [(0,pp H 0),(7,pp b9 0),(3,pp b1 0),(5,sB rp11 (ow++[x3.owner]) rc12),(22,sB p1 rh.ps (c1)),(23,Nx (rh.ps.length)),(24,Nx (k))] [0,2,3,4,5,6] ⟨rfl,rfl,rfl,rfl,rfl,rfl,rfl,trivial⟩ ⟨?_,?_,?_,?_,?_,?_,?_,trivial⟩ ?_
  ·rintro f M-⟨i0,-⟩
   exact aT dS
  ·rintro f M-⟨i0,-⟩
   exact aT aY
  ·rintro f M ⟨k0,-⟩-
   exact aT (cY 0)
  ·rintro f M ⟨k0,k1,-⟩-
   refine dL (aA (d:=35) (aA (d:=33) rfl k0) k1) ?_
   refine aX rfl rfl rfl (cT (vs:=[pp H 0,Ix (x3.owner)]) bKf.ok rfl rfl) ?_
   intro w hw
   obtain⟨β1,sb,kn,hw1,back⟩:=St.frame (L:=[_]) (M:=M) hw
   refine(aBt β1 w H J X dn hw1 x3.owner).mono ?_
   rintro e w' ⟨rfl,hw'⟩
   refine⟨_,rfl,_,back _ _ hw',?_⟩
   refine aH ?_
   exact aO (aA (d:=35) (aA (d:=33) rfl k0) k1) rfl (aB 0 rfl)
  ·rintro f M-⟨i0,-⟩
   exact aT aY
  ·rintro f M ⟨k0,-⟩-
   exact aT (dK 0)
  ·rintro f M ⟨k0,k1,-⟩-
   exact gO (aA (d:=38) (aA (d:=36) rfl k0) k1) rfl (fZ (fun q=>q (hrs.purse (List.mem_of_getElem? hx4))) (iA (xs:=oT (iS X.s.ps x3.owner)) (ys:=oT x3.a) bHm bHn bHo rfl rfl rfl rfl (not_congr (kY (x:=(iS X.s.ps x3.owner)) (y:=x3.a))))) (.refl _)
  rintro fa13 ⟨-,-,-,-,-,-,k6,-⟩ ⟨j0,j1,j2,j3,j4,j5,-⟩
  refine jD ?_
  refine aD (d:=0) j0 (aD (d:=3) j1 (aD (d:=5) j2 (aD (d:=22) j3 (aD (d:=23) j4 (aD (d:=24) j5 ?_)))))
  refine aD (d:=39) k6 (bA (cR rfl (cG (aP (bA (aC ?_))))))
  refine lv (v:=Nx (k+1)) (bO rfl rfl (cW (by omega) (by omega))) (lE aU (aH (dD [false,false,true,true,true] rfl ?_)))
  exact bG ⟨(k+1,(ow++[x3.owner]),rp11,rc12),⟨⟨rfl,rfl,rfl,rfl,rfl,rfl⟩,rfl,⟨by omega,by rw[how1,←jR hx4,List.map_append];rfl⟩⟩,(show rh.ps.length-(k+1)<rh.ps.length-k from by omega)⟩
 refine cK (aF (aF (cL (qV ?_))))
 have hoe:ow=rh.ps.map (·.owner):=by rw[how1,List.take_of_length_le (by omega)]
 subst hoe
 refine aC (lE dS (aX rfl rfl rfl (cT (vs:=[pp H 0]) bKg.ok rfl rfl) ?_))
 intro w hw
 replace hw:=hw.perm (L':=_::_::_::[]) (by exact(((aB 1 rfl).trans (aB 1 rfl)).trans (aB 2 rfl)))
 obtain⟨β1,sb,kn,hw1,back⟩:=St.frame (L:=[_]) (M:=_::_::[]) hw
 refine(aIf β1 w H J X dn hw1 _ hho).mono ?_
 rintro e w' ⟨p14,c15,rfl,hw'⟩
 refine⟨_,rfl,_,back _ _ hw',?_⟩
 refine lE iO (aN (eR ?_))
 refine jS [sv 43 (pp H 0) [] [] [0],⟨[0],[0],[],[44],fun f=>f 44=sB (dC (f 44)) (rh.ps.map (·.owner)) (dE (f 44))⟩,sv 45 (sB p (rh.ps.map (·.owner)) c) [] [] [1],sv 46 (.bool true) [0,1,2] [1,2] [],sv 47 (.bool false) [0,1,2,3] [3] [],sv 48 (.bool false) [0,1,2,3,4] [4] [],sv 49 (sB p14 rh.hs c15) (List.range 6) [5] [2],sv 50 (Nx (rh.hs.length)) (List.range 7) [6,5] [],sv 51 (pp b1 1) (List.range 6) [5] [3],sv 52 (sB p2 rh.hs (c2)) [0,1,2,3,4,5,8] [8,5] [],sv 53 (Nx (rh.hs.length)) [0,1,2,3,4,5,8,9] [9,5] [],sv 54 (.bool false) (List.range 11) [7,10,5] [],sv 55 (.bool false) (List.range 12) [5,11] [],sv 56 (.bool false) (List.range 13) [12] [],sv 57 (pp H 0) (List.range 14) [13] [0],sv 58 (.agg (eK X.s.su)) (List.range 15) [14,13] [],sv 59 (pp b1 3) (List.range 14) [13] [3],sv 60 (.agg (eK rh.su)) [0,1,2,3,4,5,6,7,8,9,10,11,12,13,16] [16,13] [],sv 61 (.bool false) (List.range 18) [15,17,13] [],sv 62 (.bool false) (List.range 19) [13,18] []] [u0,u1 [1,15],u1 [3],u1 [9,17]] [⟨(some 1),none,[3],[44],fun f=>aK aZ 3 (dC (f 44)) (dE (f 44)) (rh.ps.map (·.owner))⟩] [(0,pp H 0),(5,sB p (rh.ps.map (·.owner)) c),(8,sB p14 rh.hs c15),(3,pp b1 0)] [0,3,2] ⟨rfl,rfl,rfl,rfl,trivial⟩ ⟨?_,?_,?_,?_,?_,?_,?_,?_,?_,?_,?_,?_,?_,?_,?_,?_,?_,?_,?_,?_,trivial⟩ ?_
 ·rintro f M-⟨i0,-⟩
  exact aT dS
 ·rintro f M ⟨k0,-⟩-
  refine dL (aA (d:=43) rfl k0) ?_
  refine aX rfl rfl rfl (cT (vs:=[pp H 0]) bKh.ok rfl rfl) ?_
  intro w hw
  obtain⟨β1,sb,kn,hw1,back⟩:=St.frame (L:=[_]) (M:=M) hw
  refine(aGm β1 w H J X dn hw1 _ how).mono ?_
  rintro e w' ⟨p18,c19,rfl,hw'⟩
  refine⟨_,rfl,_,back _ _ hw',?_⟩
  refine aH ?_
  exact aO (aA (d:=43) rfl k0) rfl ((aB 0 rfl).trans (aB 1 rfl))
 ·rintro f M-⟨i0,-⟩
  exact aT fL
 ·rintro f M ⟨k0,k1,-⟩-
  have hs44:f 44=sB (dC (f 44)) (rh.ps.map (·.owner)) (dE (f 44)):=k0
  refine dL (aA (d:=45) (aA rfl hs44) k1) ?_
  refine gI gH (fun w β1 sb kn hw1=>vK β1 w hw1 _ _ (rh.ps.map (·.owner)) (rh.ps.map (·.owner)) (kn _ (jK 1 (F:=aZ) (m:=(rh.ps.map (·.owner)).length) rfl rfl)) (kn _ (jK 0 (F:=aZ) (m:=(rh.ps.map (·.owner)).length) rfl rfl))) ?_
  refine aH ?_
  exact aO (aA (d:=45) (aA rfl hs44) k1) (congrArg Value.bool (decide_eq_true rfl)) ((aB 1 rfl).trans (aB 1 rfl))
 ·rintro f M ⟨k0,-⟩-
  exact aT mB
 ·rintro f M ⟨k0,-⟩-
  exact aT fM
 ·rintro f M ⟨k0,-⟩ ⟨i0,-⟩
  exact obG fL
 ·rintro f M ⟨k0,k1,-⟩-
  exact obG gY
 ·rintro f M ⟨k0,-⟩ ⟨i0,-⟩
  exact obG aY
 ·rintro f M ⟨k0,k1,-⟩-
  exact obG (fQ 0)
 ·rintro f M ⟨k0,k1,-⟩-
  exact obG gY
 ·rintro f M ⟨k0,k1,k2,-⟩-
  exact obg (L':=M) (v:= .bool false) (aA (d:=48) (aA (d:=53) (aA (d:=50) rfl k0) k1) k2) (fZ (fun q=>q rfl) (aBi (a:=((rh.hs.length:Nat):Int)) (b:=((rh.hs.length:Nat):Int)) rfl rfl)) rfl rfl rfl rfl (.refl _) (by rfl)
 ·rintro f M ⟨k0,k1,-⟩-
  exact aT dT
 ·rintro f M ⟨k0,-⟩-
  exact aT fM
 ·rintro f M ⟨k0,-⟩ ⟨i0,-⟩
  exact obG dS
 ·rintro f M ⟨k0,k1,-⟩-
  refine dL (aA (d:=56) (aA (d:=57) rfl k0) k1) ?_
  refine eM rfl rfl rfl rfl rfl (cT (vs:=[pp H 0]) bKi.ok rfl rfl) ?_
  intro w hw
  obtain⟨β1,sb,kn,hw1,back⟩:=St.frame (L:=[_]) (M:=M) hw
  refine(aAc β1 w H J X dn hw1).mono ?_
  rintro e w' ⟨rfl,hw'⟩
  refine⟨_,rfl,_,back _ _ hw',?_⟩
  refine aH ?_
  exact aO (aA (d:=56) (aA (d:=57) rfl k0) k1) rfl (aB 0 rfl)
 ·rintro f M ⟨k0,-⟩ ⟨i0,-⟩
  exact obG aY
 ·rintro f M ⟨k0,k1,-⟩-
  exact obG (dK 0)
 ·rintro f M ⟨k0,k1,k2,-⟩-
  exact obg (L':=M) (v:= .bool false) (aA (d:=56) (aA (d:=60) (aA (d:=58) rfl k0) k1) k2) (fZ (fun q=>q hrs.u.symm) (iA (xs:=oT X.s.su) (ys:=oT rh.su) bHm bHn bHo rfl rfl rfl rfl (not_congr (kY (x:=X.s.su) (y:=rh.su))))) rfl rfl rfl rfl (.refl _) (by rfl)
 ·rintro f M ⟨k0,k1,-⟩-
  exact aT dT
 rintro fa20 ⟨-,-,-,-,-,-,-,-,-,-,-,-,-,-,-,-,-,-,-,k19,-⟩ ⟨j0,j1,j2,-⟩
 refine jD ?_
 refine aD (d:=0) j0 (aD (d:=3) j1 (aD (d:=8) j2 (aD (d:=62) k19 (bA (cR rfl (eB (eR (aC (lE aY ?_)))))))))
 refine lE (fQ 3) (lE gY (lE aU (aN (aJ (jJ [true,true,false,true,false] rfl ?_)))))
 refine cZ (fun(k2:Nat) f L=>(f 0=pp H 0∧f 3=pp b1 0∧f 8=sB p14 rh.hs c15∧f 64=sB p2 rh.hs (c2)∧f 65=Nx (rh.hs.length)∧f 66=Nx (k2))∧L=[aK fG 104 p14 c15 rh.hs,fY H J X dn,pt b1 (.cells #[sB p1 rh.ps (c1),sB p2 rh.hs (c2),Ix (rh.last),Ix (rh.su.a0),Ix (rh.su.a1),Ix (rh.su.a2),Ix (rh.su.a3),sB p3 hd (c3)] 62)]∧(k2≤rh.hs.length)) (fun k2=>rh.hs.length-k2) 0 ?_ ?_
 ·exact⟨⟨rfl,rfl,rfl,rfl,rfl,rfl⟩,rfl,Nat.zero_le _⟩
 rintro k2 f0 L0 ⟨⟨hs0,hs3,hs8,hs64,hs65,hs66⟩,hL,hk2⟩
 subst L0
 refine bJ 0 hs0 (bJ 3 hs3 (bJ 8 hs8 (bJ 64 hs64 (bJ 65 hs65 (bJ 66 hs66 (bD (lE gN (aN (aL (cN _ rfl (fun hc21=> ?_) (fun hc21=> ?_)))))))))))
 ·refine eB (aL (aJ (bD (lE aU ?_))))
  obtain⟨x22,hx23⟩:=kX rh.hs k2 (by omega)
  obtain⟨ha24,cs25,hc26,rfl⟩:=hsp2e _ _ hx23
  refine lE (sW bKj ha24) ?_
  refine lv (v:= .agg #[Ix (x22.number),Ix (x22.owner),Ix (x22.a.a0),Ix (x22.a.a1),Ix (x22.a.a2),Ix (x22.a.a3)]) (fV bKk.ok rfl (kB hc26) rfl) ?_
  refine gB fun b28=>lE bN (lu (mS 0 (#[Ix (x22.number),Ix (x22.owner),Ix (x22.a.a0),Ix (x22.a.a1),Ix (x22.a.a2),Ix (x22.a.a3)])) (aN (aL ?_)))
  refine gS (by kernel_rfl) (by kernel_rfl) (qE fL (qE aU ?_))
  refine dU (v:= .pointer (some ((ba p14).add (k2*6)))) rfl rfl rfl (eL 1 (F:=fG) rfl rfl rfl bKl (by omega) rfl) ?_
  obtain⟨x29,hx30⟩:∃x_,rh.hs[k2]? =some x_:=⟨_,List.getElem?_eq_getElem (by first|omega|decide)⟩
  refine dU (v:= .agg #[Ix (x29.number),Ix (x29.owner),Ix (x29.a.a0),Ix (x29.a.a1),Ix (x29.a.a2),Ix (x29.a.a3)]) rfl rfl rfl (fV bKm.ok rfl (lF 1 (F:=fG) rfl hx30) rfl) ?_
  refine qE aY (qE (cY 0) (qE aY (qE (cY 0) (qE aY (qE (dK 0) ?_)))))
  refine dU (v:= .agg #[Ix (x22.number),Ix (x22.owner),Ix (x22.a.a0),Ix (x22.a.a1),Ix (x22.a.a2),Ix (x22.a.a3)]) rfl rfl rfl (bV bKo.ok bKn (vs:=[(0,Ix (x22.number)),(1,Ix (x22.owner)),(2,.agg (eK x22.a))]) (cells:= #[Ix (x22.number),Ix (x22.owner),Ix (x22.a.a0),Ix (x22.a.a1),Ix (x22.a.a2),Ix (x22.a.a3)]) rfl rfl) ?_
  refine dU (v:= .bool false) rfl rfl rfl (fZ (fun q=>q (by have h1:=hx30;rw[hx23]at h1;injection h1 with h1;exact h1.symm)) (iA (xs:=hoE x29) (ys:=hoE x22) bKp bKq bKr rfl rfl rfl rfl (not_congr (aRb (x:=x29) (y:=x22))))) ?_
  refine lB (bA (cR rfl (cG (aP (bA (aC (lv (v:=Nx (k2+1)) (bO rfl rfl (cW (by omega) (by omega))) (lE aU ?_))))))))
  refine aH (dD [false,true,true,true] rfl ?_)
  exact bG ⟨k2+1,⟨⟨rfl,rfl,rfl,rfl,rfl,rfl⟩,rfl,(by omega)⟩,(show rh.hs.length-(k2+1)<rh.hs.length-k2 from by omega)⟩
 refine cK (aF (aF (cL (qV (bD (lE aU (aN (aJ (jJ [false,true,true] rfl ?_)))))))))
 refine cZ (fun(j:Nat) f L=>(f 0=pp H 0∧f 3=pp b1 0∧f 84=Nx (j))∧L=[fY H J X dn,pt b1 (.cells #[sB p1 rh.ps (c1),sB p2 rh.hs (c2),Ix (rh.last),Ix (rh.su.a0),Ix (rh.su.a1),Ix (rh.su.a2),Ix (rh.su.a3),sB p3 hd (c3)] 62)]∧(j≤66)) (fun j=>66-j) 0 ?_ ?_
 ·exact⟨⟨rfl,rfl,rfl⟩,rfl,Nat.zero_le _⟩
 rintro j f0 L0 ⟨⟨hs0,hs3,hs84⟩,hL,hj⟩
 subst L0
 refine bJ 0 hs0 (bJ 3 hs3 (bJ 84 hs84 (bD (lE gN (aN (aL (cN _ rfl (fun hc31=> ?_) (fun hc31=> ?_))))))))
 ·refine eB (aL (aJ (bD (lE aU (lE bN (aN (aL ?_)))))))
  rcases hfz:mE hd ((j:Nat):Int)with _|m
  ·have hlx:uS X ((j:Nat):Int)=(0,dR,false):=by rw[hrx.last,hds,aKj hz (hhd▸hfz)]
   refine aC (lE dS (lE aU (aX rfl rfl rfl (cT (vs:=[pp H 0,Nx (j)]) aZb.ok rfl rfl) ?_)))
   intro w hw
   obtain⟨β1,sb,kn,hw1,back⟩:=St.frame (L:=[_]) (M:=_::[]) hw
   refine(uR β1 w H J X dn hw1 ((j:Nat):Int) hlx).mono ?_
   rintro e w' ⟨p32,c33,rfl,hw'⟩
   refine⟨_,rfl,_,back _ _ hw',?_⟩
   refine lE oM (lE pW (lE rG (lE yA (gB fun b34=>lE bN (lu (mS 0 (#[.bool false,.int .i64 (0),.int .i64 (0),.slice p32 (0) c33])) (lE dP ?_))))))
   refine eY (lE (dK 3) (lE aU ?_))
   refine gI gH (fun w β1 sb kn hw1=>vH β1 w hw1 _ _ _ _ _ _ _ _ _ hd (Sl.mono _ _ _ _ _ sb hsp3) (by omega) ((j:Nat):Int) xE false (by rw[hfz];rfl) (by rw[hfz];rfl)) ?_
   refine lE oM (lE rG (lE yA (gB fun b35=> ?_)))
   refine lu (mS 0 (#[.int .i64 (0),.int .i64 (0),.slice none 0 0,.bool false,.int .i64 (0),.int .i64 (0),.slice none 0 0])) (lE dP (aN (eR ?_)))
   refine aC (lE fM (lE fM ?_))
   refine lv (v:= .bool false) (aWc (c:=false) (show(!(false==false))=false by simp) (aKb (a:=false) (b:=false) rfl rfl bDg)) ?_
   refine lE fM (gE aU (gE aY (gE (cY 0) (gE lO (lE dT (lE fM (gE (dK 1) (gE aY (gE (dK 0) ?_)))))))))
   refine eM rfl rfl rfl rfl rfl (cT (vs:=[.agg #[.bool false,.int .i64 (0),.int .i64 (0),.slice p32 (0) c33],.agg #[.bool false,.int .i64 (0),.int .i64 (0),.slice none 0 0]]) bHp.ok rfl rfl) ?_
   intro w hw
   obtain⟨β1,sb,kn,hw1,back⟩:=St.frame_all hw
   refine(pO β1 w hw1 false 0 0 _ _ [] (kn _ (jK 2 (F:=aZ) (m:=0) rfl rfl)) (Sl.nil _ _)).mono ?_
   rintro e w' ⟨rfl,hw'⟩
   refine⟨_,rfl,_,back _ _ hw',?_⟩
   refine gE mB (lE dT (aN (cR rfl (eB (eR (aC (lE aY (lE (fQ 1) (lE gY (lE aU (aN (aJ (jJ [true,true,true,true,true] rfl ?_)))))))))))))
   refine cZ (fun(x_:Nat×List Int) f L=>match x_ with|(i,ys)=>(f 0=pp H 0∧f 3=pp b1 0∧f 11=Nx (j)∧f 13=pp b34 0∧f 15=pp b35 0∧f 84=Nx (j)∧f 118=Nx (0)∧f 119=Nx (i))∧L=[pt b35 (.cells #[.int .i64 (0),.int .i64 (0),.slice none 0 0,.bool false,.int .i64 (0),.int .i64 (0),.slice none 0 0] 122),pt b34 (.cells #[.bool false,.int .i64 (0),.int .i64 (0),.slice p32 (0) c33] 37),aK aZ 3 p32 c33 ys,fY H J X dn,pt b1 (.cells #[sB p1 rh.ps (c1),sB p2 rh.hs (c2),Ix (rh.last),Ix (rh.su.a0),Ix (rh.su.a1),Ix (rh.su.a2),Ix (rh.su.a3),sB p3 hd (c3)] 62)]∧(i≤([]:List Int).length∧ys.length=([]:List Int).length)) (fun(i,ys)=>([]:List Int).length-i) (0,([]:List Int)) ?_ ?_
   ·exact⟨⟨rfl,rfl,rfl,rfl,rfl,rfl,rfl,rfl⟩,rfl,⟨Nat.zero_le _,rfl⟩⟩
   rintro⟨i,ys⟩ f0 L0 ⟨⟨hs0,hs3,hs11,hs13,hs15,hs84,hs118,hs119⟩,hL,⟨hi,hyl⟩⟩
   subst L0
   refine bJ 0 hs0 (bJ 3 hs3 (bJ 11 hs11 (bJ 13 hs13 (bJ 15 hs15 (bJ 84 hs84 (bJ 118 hs118 (bJ 119 hs119 (bD (lE gN (aN (aL ?_)))))))))))
   refine cN _ rfl (fun hc36=> ?_) (fun hc36=> ?_)
   ·refine eB (aL (aJ (bD (lE aU (lE bN (xJ (lE aY (lE (fQ 1) (lE aU ?_)))))))))
    refine lv (v:= .pointer (some ((ba p32).add (i*1)))) (eL 2 (F:=aZ) rfl (by omega) rfl aZa (by omega) rfl) ?_
    refine lu (mP 2 (F:=aZ) (p:=p32) (k:=i) (xs:=ys) (z:=(-5)) ty9.ok rfl rfl rfl rfl (by omega)) (aH (aP (bA (aC ?_))))
    refine lE opn (lE aU (aH ?_))
    exact bG ⟨(i+1,(ys.set i (-5))),⟨⟨rfl,rfl,rfl,rfl,rfl,rfl,rfl,rfl⟩,rfl,⟨by omega,by simp only[sB,List.length_set];exact hyl⟩⟩,(show([]:List Int).length-(i+1)<([]:List Int).length-i from by omega)⟩
   refine cK (aF (aF (cL (kM (lE dS (lE aU (aX rfl rfl rfl (cT (vs:=[pp H 0,Nx (j)]) aZb.ok rfl rfl) ?_)))))))
   intro w hw
   replace hw:=hw.perm (L':=_::_::_::_::_::[]) (by exact(((((aB 4 rfl).trans (aB 3 rfl)).trans (aB 3 rfl)).trans (aB 3 rfl)).trans (aB 4 rfl)))
   obtain⟨β1,sb,kn,hw1,back⟩:=St.frame (L:=[_]) (M:=_::_::_::_::[]) hw
   refine(uR β1 w H J X dn hw1 ((j:Nat):Int) hlx).mono ?_
   rintro e w' ⟨p37,c38,rfl,hw'⟩
   refine⟨_,rfl,_,back _ _ hw',?_⟩
   refine lE oM (lE pW (lE rG (lE yA (gB fun b39=>lE bN (lu (mS 0 (#[.bool false,.int .i64 (0),.int .i64 (0),.slice p37 (0) c38])) (lE dP ?_))))))
   refine eY (lE (dK 0) (lE aY (lE (dK 3) ?_)))
   refine gI gH (fun w β1 sb kn hw1=>pO β1 w hw1 false 0 0 _ _ [] (kn _ (jK 1 (F:=aZ) (m:=0) rfl rfl)) (Sl.nil _ _)) (lE mB (aN ?_))
   refine cR rfl (cG (aP (bA (aC (lv (v:=Nx (j+1)) (bO rfl rfl (cW (by omega) (by omega))) (lE aU (aH ?_)))))))
   refine dD [false,false,true,false,false,false,true] rfl ?_
   exact bG ⟨j+1,⟨⟨rfl,rfl,rfl⟩,rfl,(by omega)⟩,(show 66-(j+1)<66-j from by omega)⟩
  obtain⟨mm,hmz,hrf⟩:=aKk hz (hhd▸hfz)
  rw[←hds]at hrf
  have hmo:=hpool _ hmz
  have hma:=hmo.holds
  obtain⟨hmn,hml,hmx,hme⟩:=gA hma
  have hlx:uS X ((j:Nat):Int)=(m.number,(⟨m.done,m.at_,m.e,mm.r.holds⟩:KRes),true):=by rw[hrx.last,hrf,show m.number=mm.d.number from hmo.nu,show m.done=mm.r.done from hmo.dn,show m.at_=mm.r.at_ from hmo.at_,show m.e=mm.r.e from hmo.e]
  simp only[]at hmn hml hmx hme hma
  refine aC (lE dS (lE aU (aX rfl rfl rfl (cT (vs:=[pp H 0,Nx (j)]) aZb.ok rfl rfl) ?_)))
  intro w hw
  obtain⟨β1,sb,kn,hw1,back⟩:=St.frame (L:=[_]) (M:=_::[]) hw
  refine(uR β1 w H J X dn hw1 ((j:Nat):Int) hlx).mono ?_
  rintro e w' ⟨p40,c41,rfl,hw'⟩
  refine⟨_,rfl,_,back _ _ hw',?_⟩
  refine lE oM (lE pW (lE rG (lE yA (gB fun b42=>lE bN (lu (mS 0 (#[.bool (m.done),Ix (m.at_),Ix (m.e),sB p40 mm.r.holds c41])) (lE dP (eY ?_)))))))
  refine lE (dK 3) (lE aU ?_)
  refine gI gH (fun w β1 sb kn hw1=>vH β1 w hw1 _ _ _ _ _ _ _ _ _ hd (Sl.mono _ _ _ _ _ sb hsp3) (by omega) ((j:Nat):Int) m true (by rw[hfz];rfl) (by rw[hfz];rfl)) ?_
  refine lE oM (lE rG (lE yA (gB fun b43=> ?_)))
  refine lu (mS 0 (#[Ix (m.author),Ix (m.number),.slice m.p (m.n) m.c,.bool (m.done),Ix (m.at_),Ix (m.e),.slice m.q (m.m) m.k])) (lE dP (aN (eR ?_)))
  refine aC (lE fM (lE fM (lv (v:= .bool false) (aKb (a:=true) (b:=true) rfl rfl bDg) (lE fM (gE aU (gE aY (gE (cY 0) ?_)))))))
  refine cU (v:= .bool false) rfl rfl rfl rfl rfl (fZ (fun q=>q rfl) (aBi (a:=(m.number)) (b:=(m.number)) rfl rfl)) (lE dT (lE fM ?_))
  refine gE (dK 1) (gE aY (gE (dK 0) ?_))
  refine eM rfl rfl rfl rfl rfl (cT (vs:=[.agg #[.bool (m.done),Ix (m.at_),Ix (m.e),sB p40 mm.r.holds c41],.agg #[.bool (m.done),Ix (m.at_),Ix (m.e),.slice m.q (m.m) (m.k)]]) bHp.ok rfl rfl) ?_
  intro w hw
  obtain⟨β1,sb,kn,hw1,back⟩:=St.frame_all hw
  refine(pO β1 w hw1 m.done m.at_ m.e _ _ mm.r.holds (kn _ (jK 2 (F:=aZ) (m:=mm.r.holds.length) rfl rfl)) (Sl.mono _ _ _ _ _ sb hma)).mono ?_
  rintro e w' ⟨rfl,hw'⟩
  refine⟨_,rfl,_,back _ _ hw',?_⟩
  refine gE mB (lE dT (aN (cR rfl (eB (eR (aC (lE aY (lE (fQ 1) (lE gY (lE aU (aN (aJ (jJ [true,true,true,true,true] rfl ?_)))))))))))))
  refine cZ (fun(x_:Nat×List Int) f L=>match x_ with|(i,ys)=>(f 0=pp H 0∧f 3=pp b1 0∧f 11=Nx (j)∧f 13=pp b42 0∧f 15=pp b43 0∧f 84=Nx (j)∧f 118=Nx (mm.r.holds.length)∧f 119=Nx (i))∧L=[pt b43 (.cells #[Ix (m.author),Ix (m.number),.slice m.p (m.n) m.c,.bool (m.done),Ix (m.at_),Ix (m.e),.slice m.q (m.m) (m.k)] 122),pt b42 (.cells #[.bool (m.done),Ix (m.at_),Ix (m.e),sB p40 mm.r.holds c41] 37),aK aZ 3 p40 c41 ys,fY H J X dn,pt b1 (.cells #[sB p1 rh.ps (c1),sB p2 rh.hs (c2),Ix (rh.last),Ix (rh.su.a0),Ix (rh.su.a1),Ix (rh.su.a2),Ix (rh.su.a3),sB p3 hd (c3)] 62)]∧(i≤mm.r.holds.length∧ys.length=mm.r.holds.length)) (fun(i,ys)=>mm.r.holds.length-i) (0,mm.r.holds) ?_ ?_
  ·exact⟨⟨rfl,rfl,rfl,rfl,rfl,rfl,rfl,rfl⟩,rfl,⟨Nat.zero_le _,rfl⟩⟩
  rintro⟨i,ys⟩ f0 L0 ⟨⟨hs0,hs3,hs11,hs13,hs15,hs84,hs118,hs119⟩,hL,⟨hi,hyl⟩⟩
  subst L0
  refine bJ 0 hs0 (bJ 3 hs3 (bJ 11 hs11 (bJ 13 hs13 (bJ 15 hs15 (bJ 84 hs84 (bJ 118 hs118 (bJ 119 hs119 (bD (lE gN (aN (aL ?_)))))))))))
  refine cN _ rfl (fun hc44=> ?_) (fun hc44=> ?_)
  ·refine eB (aL (aJ (bD (lE aU (lE bN (xJ (lE aY (lE (fQ 1) (lE aU ?_)))))))))
   refine lv (v:= .pointer (some ((ba p40).add (i*1)))) (eL 2 (F:=aZ) rfl (by omega) rfl aZa (by omega) rfl) ?_
   refine lu (mP 2 (F:=aZ) (p:=p40) (k:=i) (xs:=ys) (z:=(-5)) ty9.ok rfl rfl rfl rfl (by omega)) (aH (aP (bA (aC ?_))))
   refine lv (v:=Nx (i+1)) (bO rfl rfl (cW (by omega) (by omega))) (lE aU (aH ?_))
   exact bG ⟨(i+1,(ys.set i (-5))),⟨⟨rfl,rfl,rfl,rfl,rfl,rfl,rfl,rfl⟩,rfl,⟨by omega,by simp only[sB,List.length_set];exact hyl⟩⟩,(show mm.r.holds.length-(i+1)<mm.r.holds.length-i from by omega)⟩
  refine cK (aF (aF (cL (kM (lE dS (lE aU (aX rfl rfl rfl (cT (vs:=[pp H 0,Nx (j)]) aZb.ok rfl rfl) ?_)))))))
  intro w hw
  replace hw:=hw.perm (L':=_::_::_::_::_::[]) (by exact(((((aB 4 rfl).trans (aB 3 rfl)).trans (aB 3 rfl)).trans (aB 3 rfl)).trans (aB 4 rfl)))
  obtain⟨β1,sb,kn,hw1,back⟩:=St.frame (L:=[_]) (M:=_::_::_::_::[]) hw
  refine(uR β1 w H J X dn hw1 ((j:Nat):Int) hlx).mono ?_
  rintro e w' ⟨p45,c46,rfl,hw'⟩
  refine⟨_,rfl,_,back _ _ hw',?_⟩
  refine lE oM (lE pW (lE rG (lE yA (gB fun b47=>lE bN (lu (mS 0 (#[.bool (m.done),Ix (m.at_),Ix (m.e),sB p45 mm.r.holds c46])) (lE dP (eY ?_)))))))
  refine lE (dK 0) (lE aY (lE (dK 3) ?_))
  refine gI gH (fun w β1 sb kn hw1=>pO β1 w hw1 m.done m.at_ m.e _ _ mm.r.holds (kn _ (jK 1 (F:=aZ) (m:=mm.r.holds.length) rfl rfl)) (Sl.mono _ _ _ _ _ sb hma)) ?_
  refine lE mB (aN (cR rfl (cG (aP (bA (aC (lv (v:=Nx (j+1)) (bO rfl rfl (cW (by omega) (by omega))) (lE aU (aH ?_)))))))))
  refine dD [false,false,true,false,false,false,true] rfl ?_
  exact bG ⟨j+1,⟨⟨rfl,rfl,rfl⟩,rfl,(by omega)⟩,(show 66-(j+1)<66-j from by omega)⟩
 refine cK (aF (aF (cL (kM (lE dP (aN (aV (dJ Tryz.results27 rfl ?_))))))))
 intro w hw
 replace hw:=aG (L':=[fY H J X dn]) [true,false] rfl hw
 exact⟨rfl,hw⟩
end Go.Proofs
