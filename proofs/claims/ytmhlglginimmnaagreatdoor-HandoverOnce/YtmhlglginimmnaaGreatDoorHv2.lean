/-
 Numbers as bytes,read and written: walked. Printed by a program of my own.
-/
import Derived.Test.YtmhlglginimmnaaGreatDoorHvTape
set_option linter.all false
namespace Go.Proofs
open Go Go.Sl Go.Hv
theorem shr1_le(u:UInt64):(u>>>(1:UInt64)).toNat≤9223372036854775807:=by
 have h1:(u>>>(1:UInt64)).toNat=u.toNat/2:=by
  rw[UInt64.toNat_shiftRight]
  show u.toNat>>>(1%64)=_
  rw[Nat.shiftRight_eq_div_pow]
 have:=u.toNat_lt
 omega
theorem and1_le(u:UInt64):(u&&&(1:UInt64)).toNat≤1:=by
 rw[UInt64.toNat_and]
 exact Nat.and_le_right
instance vt8:UndC Tryz.prog 22 5:={}
instance vt9:TyC Tryz.prog 5 false 1:={}
instance vt10:TyC Tryz.prog 3 false 1:={}
instance vt11:CfC Tryz.prog 45:={}
instance vt12:CfC Tryz.prog 68:={}
set_option maxHeartbeats 4000000 in
theorem tget_ok(β:Base)(w:World)(H:PHeap)(hH:Sub H β.heap)(T:Nat)(n:Int)(hn: -9223372036854775808≤n∧n≤9223372036854775807)(rest:List UInt8)(hw:St β [tpR H T (vint n++rest)] w):Calls Tryz.prog 68 #[pp T 0] w fun r w'=>r= .returned (Ix n)∧St β [tpR H T rest] w':=by
 obtain⟨va,vc,hvs0,hw⟩:=St.openTp hw
 obtain⟨-,hvl,hvm,hveH⟩:=sl_open hvs0
 have hve:Elems BytF.R β.heap va (vint n++rest):=Elems.mono _ _ _ _ _ hH hveH
 have hvs:Sl BytF.R β.heap (sB va (vint n++rest) vc) (vint n++rest):=Sl.mono _ _ _ _ _ hH hvs0
 refine enter (n:=53) Tryz.func68 rfl Tryz.ntmps68 rfl ?_ hw
 refine csr (lE oai (lnc (lE oai (lE oai (lnf (cs2 (c_region (lE omp (lE onp (lE ofp (lE (ols 0) (lE oln (lE omi (lnf (c_block ?_)))))))))))))))
 refine c_loop (fun(x_:Nat×UInt64) f L=>match x_ with|(k,u)=>(f 0=pp T 0∧f 3=Ux (u)∧f 4=Nx (7*k)∧f 10=sB va (vint n++rest) (vc)∧f 11=Nx ((vint n++rest).length)∧f 12=Nx (k))∧L=[pt T (.cells #[sB va (vint n++rest) (vc),.bool false] 112)]∧(VRd (zz n) k u ((vint n++rest).drop k) rest)) (fun(k,u)=>(vint n++rest).length-k) (0,0) ?_ ?_
 ·exact⟨⟨rfl,rfl,rfl,rfl,rfl,rfl⟩,rfl,(VRd.start (zz_lt hn) rest)⟩
 rintro⟨k,u⟩ f0 L0 ⟨⟨hs0,hs3,hs4,hs10,hs11,hs12⟩,hL,hv⟩
 subst L0
 refine rbs 0 hs0 (rbs 3 hs3 (rbs 4 hs4 (rbs 10 hs10 (rbs 11 hs11 (rbs 12 hs12 ?_)))))
 have hk9:=hv.k9
 have hkl:=hv.lt_len
 refine csr (lv (v:= .bool true) (ev_t (by omega) (e_lss (a:=((k:Nat):Int)) (b:=(((vint n++rest).length:Nat):Int)) rfl rfl)) (lnf ?_))
 refine c_seq (c_yes rfl (csk (c_seq (c_block (csr (lE omi ?_))))))
 obtain⟨x1,hx2⟩:=getx (vint n++rest) k (by omega)
 obtain⟨ha3,cs4,hc5,rfl⟩:=hve _ _ hx2
 refine lE (oia vt5 ha3) (lv (v:=Bx (x1)) (e_load1 vt9.ok rfl (kB hc5)) (lE oai (lE oai (lnc (lE omi (lE omi ?_))))))
 refine lv (v:=Bx (x1&&&127)) (e_and (a:=((x1).toNat:Int)) (b:=((127:UInt8).toNat:Int)) rfl rfl (bx_and _ _)) ?_
 refine lv (v:=Ux ((x1&&&127).toUInt64)) (e_conv (a:=((x1&&&127).toNat:Int)) rfl ⟨_,vt4⟩ vt1 (ux_of8 _)) (lE omi ?_)
 refine lv (v:=Ux (((x1&&&127).toUInt64)<<<UInt64.ofNat (7*k))) (e_shl (a:=(((x1&&&127).toUInt64).toNat:Int)) (b:=((7*k:Nat):Int)) rfl rfl (by omega) (ux_shl _ (7*k) (by omega))) ?_
 refine lv (v:=Ux (u|||(((x1&&&127).toUInt64)<<<UInt64.ofNat (7*k)))) (e_or (a:=((u).toNat:Int)) (b:=((((x1&&&127).toUInt64)<<<UInt64.ofNat (7*k)).toNat:Int)) rfl rfl (ux_or _ _)) ?_
 refine lE oai (lnc (lE omi (lv (v:=Nx ((7*k)+7)) (e_add rfl rfl (i64n (by omega) (by omega))) (lE oai (lnc (lE omi (lE olt (lnf ?_))))))))
 refine c_if _ rfl (fun hc7=> ?_) (fun hc7=> ?_)
 ·refine c_seq ?_
  have hcl:x1.toNat<128:=by have:=hc7;omega
  obtain⟨hul,hrest⟩:=hv.last (drop_cons hx2) hcl
  refine c_region (lE omp (lE omp (lE onp (lE ofp (lE (ols 0) (lE omi (lv (v:=Nx (k+1)) (e_add rfl rfl (i64n (by omega) (by omega))) ?_)))))))
  obtain⟨zs8,hz9⟩:∃zs,zs=((vint n++rest).drop (k+1)):=⟨_,rfl⟩
  have zl10:zs8.length=((vint n++rest)).length-(k+1):=by rw[hz9];simp;try omega
  have ze11:=(Elems.drop (cap:=vc) (k+1) (by first|omega|(simp;omega)) hve)
  rw[←hz9]at ze11
  refine lv (v:= .slice (adv va vc (k+1) 1) (zs8.length) ((vc-(k+1)))) (ev_eq (by rw[show zs8.length=((vint n++rest).length)-(k+1) by omega]) (e_slice_lo (a:=va) (len:=(vint n++rest).length) (cap:=vc) (l:=k+1) vt5 rfl rfl (by omega))) ?_
  refine lE onp (lE ofp (lu (mS 0 (#[sB (adv va vc (k+1) 1) zs8 ((vc-(k+1))),.bool false])) (lnf (c_seq ?_))))
  obtain⟨uu,huu⟩:∃z,z=u|||(((x1&&&127).toUInt64)<<<UInt64.ofNat (7*k)):=⟨_,rfl⟩
  rw[←huu]at hul
  have hs1:(uu>>>(1:UInt64)).toNat≤9223372036854775807:=shr1_le uu
  have hs2:(uu&&&(1:UInt64)).toNat≤1:=and1_le uu
  refine rbs 3 (v:=Ux uu) (by rw[huu];rfl) (c_region (lE omi ?_))
  refine lv (v:=Ux (uu>>>(1:UInt64))) (e_shr (a:=((uu).toNat:Int)) (b:=((1:Nat):Int)) rfl rfl (by decide) (ux_shr _ 1 (by decide))) ?_
  refine lv (v:=Nx ((uu>>>(1:UInt64)).toNat)) (e_conv (a:=((uu>>>(1:UInt64)).toNat:Int)) rfl ⟨_,vt1⟩ vt0 (i64n rfl (by omega))) ?_
  refine lE omi (lv (v:=Ux (uu&&&(1:UInt64))) (e_and (a:=((uu).toNat:Int)) (b:=((1:UInt64).toNat:Int)) rfl rfl (ux_and _ _)) ?_)
  refine lv (v:=Nx ((uu&&&(1:UInt64)).toNat)) (e_conv (a:=((uu&&&(1:UInt64)).toNat:Int)) rfl ⟨_,vt1⟩ vt0 (i64n rfl (by omega))) ?_
  refine lv (v:=Ix (0-(((uu&&&(1:UInt64)).toNat:Nat):Int))) (e_neg (a:=(((uu&&&(1:UInt64)).toNat:Nat):Int)) rfl (i64w (by omega))) ?_
  refine lv (v:=Ix (uz uu.toNat)) (e_xor (a:=(((uu>>>(1:UInt64)).toNat:Nat):Int)) (b:=(0-(((uu&&&(1:UInt64)).toNat:Nat):Int))) rfl rfl (dec_xor _)) ?_
  refine lE oai (lnf (c_ret (f_block_ret (f_then_ret (f_then_ret (f_block_ret (f_then_ret (ret1 Tryz.results68 rfl ?_))))))))
  intro w hw
  have hz:zs8=rest:=by rw[hz9];exact hrest
  have hsl:Sl BytF.R H (sB (adv va vc (k+1) 1) rest (vc-(k+1))) rest:=⟨_,_,rfl,by rw[←hz,hz9,List.length_drop];omega,by omega,by rw[←hrest];exact Elems.drop (cap:=vc) (k+1) (by omega) hveH⟩
  rw[hz]at hw
  exact⟨congrArg (fun z:Int=>Ending.returned (Ix z)) (by rw[hul];exact uz_zz n),St.closeTp hsl hw⟩
 refine c_skip (f_block (f_then (c_region (lv (v:=Nx (k+1)) (e_add rfl rfl (i64n (by omega) (by omega))) (lE omi (l_nil ?_))))))
 exact f_cut ⟨(k+1,u|||(((x1&&&127).toUInt64)<<<UInt64.ofNat (7*k))),⟨⟨rfl,rfl,rfl,rfl,rfl,rfl⟩,rfl,(hv.more (drop_cons hx2) (by have:=hc7;omega))⟩,(show(vint n++rest).length-(k+1)<(vint n++rest).length-k from by omega)⟩
theorem twrite_ok(β:Base)(w:World)(T:Nat)(p:Option Addr)(c:Nat)(bad:Bool)(xs:List UInt8)(hw:St β [pt T (.cells #[sB p xs c,.bool bad] 112),rowF BytF 5 p c xs] w)(hxl:xs.length≤1000000)(q:Addr)(n:Int)(hq:Cs β.heap q [Ix n])(hn: -9223372036854775808≤n∧n≤9223372036854775807):Calls Tryz.prog 42 #[pp T 0,.pointer (some q)] w fun r w'=>∃p c,r= .returned (.tuple #[])∧St β [pt T (.cells #[sB p (xs++vint n) c,.bool bad] 112),rowF BytF 5 p c (xs++vint n)] w':=by
 refine enter (n:=9) Tryz.func42 rfl Tryz.ntmps42 rfl ?_ hw
 refine c_region (lE omp (lE omp (lE onp (lv (v:=Ix (n)) (e_load1 vt10.ok rfl (kB hq)) ?_))))
 refine l_call rfl rfl rfl (cl0 (vs:=[pp T 0,Ix (n)]) vt11.ok rfl rfl) ?_
 intro w hw
 replace hw:=hw.perm (L':=_::_::[]) (by exact((perm_front 1 rfl).trans (perm_front 1 rfl)))
 obtain⟨β1,sb,kn,hw1,back⟩:=St.frame (L:=[_,_]) (M:=[]) hw
 refine(tput_ok β1 w T p c bad xs hw1 (by omega) n hn).mono ?_
 rintro e w' ⟨p1,c2,rfl,hw'⟩
 refine⟨_,rfl,_,back _ _ hw',?_⟩
 clear hw hw1 hw' back kn sb
 refine l_nil (end0 Tryz.results42 ?_)
 intro w hw
 exact⟨_,_,rfl,hw⟩
theorem tread0_ok(β:Base)(w:World)(H:PHeap)(hH:Sub H β.heap)(T:Nat)(n:Int)(hn: -9223372036854775808≤n∧n≤9223372036854775807)(rest:List UInt8)(b ty:Nat)(m:Int)(hw:St β [tpR H T (vint n++rest),pt b (.cells #[Ix m] ty)] w):Calls Tryz.prog 66 #[pp T 0,pp b 0] w fun r w'=>r= .returned (.tuple #[])∧St β [tpR H T rest,pt b (.cells #[Ix n] ty)] w':=by
 refine enter (n:=8) Tryz.func66 rfl Tryz.ntmps66 rfl ?_ hw
 refine c_region (lE omp (lE omp (l_call rfl rfl rfl (cl0 (vs:=[pp T 0]) vt12.ok rfl rfl) ?_)))
 intro w hw
 replace hw:=hw.perm (L':=_::_::[]) (by exact((perm_front 1 rfl).trans (perm_front 1 rfl)))
 obtain⟨β1,sb,kn,hw1,back⟩:=St.frame (L:=[_]) (M:=_::[]) hw
 refine(tget_ok β1 w H (hH.trans sb) T n hn rest hw1).mono ?_
 rintro e w' ⟨rfl,hw'⟩
 refine⟨_,rfl,_,back _ _ hw',?_⟩
 clear hw hw1 hw' back kn sb
 refine lE onp (lu (mS 1 (#[Ix (n)])) (l_nil (end0 Tryz.results66 ?_)))
 intro w hw
 exact⟨rfl,hw⟩
end Go.Proofs
