/-
 Numbers as bytes: walked. Printed by a program of my own.
-/
import Derived.Test.YtmhlglginimmnaaGreatDoorProg
import Derived.Test.YtmhlglginimmnaaGreatDoorSlSortF
set_option linter.all false
namespace Go.Proofs
open Go Go.Sl Go.Hv
theorem bx_or(a b:UInt8):IntKind.u8.wrap ((BitVec.ofInt IntKind.u8.bits (a.toNat:Int)|||BitVec.ofInt IntKind.u8.bits (b.toNat:Int)).toNat:Int)=((a|||b).toNat:Int):=by
 show IntKind.u8.wrap ((BitVec.ofInt 8 (a.toNat:Int)|||BitVec.ofInt 8 (b.toNat:Int)).toNat:Int)=_
 rw[BitVec.ofInt_natCast,BitVec.ofInt_natCast,u8w,BitVec.toNat_or,BitVec.toNat_ofNat,BitVec.toNat_ofNat,UInt8.toNat_or,Nat.mod_eq_of_lt a.toNat_lt,Nat.mod_eq_of_lt b.toNat_lt]
 have:a.toNat|||b.toNat<2^8:=Nat.or_lt_two_pow a.toNat_lt b.toNat_lt
 omega
theorem bx_and(a b:UInt8):IntKind.u8.wrap ((BitVec.ofInt IntKind.u8.bits (a.toNat:Int)&&&BitVec.ofInt IntKind.u8.bits (b.toNat:Int)).toNat:Int)=((a&&&b).toNat:Int):=by
 show IntKind.u8.wrap ((BitVec.ofInt 8 (a.toNat:Int)&&&BitVec.ofInt 8 (b.toNat:Int)).toNat:Int)=_
 rw[BitVec.ofInt_natCast,BitVec.ofInt_natCast,u8w,BitVec.toNat_and,BitVec.toNat_ofNat,BitVec.toNat_ofNat,UInt8.toNat_and,Nat.mod_eq_of_lt a.toNat_lt,Nat.mod_eq_of_lt b.toNat_lt]
 have:a.toNat&&&b.toNat≤a.toNat:=Nat.and_le_left
 have:=a.toNat_lt
 omega
theorem shr7_lt{u:UInt64}(h:¬u.toNat<128):(u>>>7).toNat<u.toNat:=by
 have:(u>>>7).toNat=u.toNat/128:=by
  rw[UInt64.toNat_shiftRight]
  show u.toNat>>>(7%64)=_
  rw[Nat.shiftRight_eq_div_pow]
 omega
theorem sl_open{α:Type}{R:Rp α}{h:PHeap}{p:Option Addr}{n c:Nat}{xs:List α}(hs:Sl R h (.slice p n c) xs):n=xs.length∧n≤c∧c≤9223372036854775807∧Elems R h p xs:=by
 obtain⟨a,c',e,h1,h2,h3⟩:=hs
 injection e with e1 e2 e3
 subst e1;subst e3
 exact⟨e2,by omega,h2,h3⟩
theorem vt0:Tryz.prog.underlying 3=some (.int .i64):=by kernel_rfl
theorem vt1:Tryz.prog.underlying 143=some (.int .u64):=by kernel_rfl
instance vt2:FldC Tryz.prog 112 0 0 1 false:={}
instance vt3:TyC Tryz.prog 22 false 1:={}
theorem vt4:Tryz.prog.underlying 5=some (.int .u8):=by kernel_rfl
theorem vt5:slB Tryz.prog 22 5 1=true:=by kernel_rfl
instance vt6:ZerC Tryz.prog 5 (.int .u8 (0)):={}
theorem vt7:elB Tryz.prog 5 1 1=true:=by kernel_rfl
set_option maxHeartbeats 4000000 in
theorem tput_ok(β:Base)(w:World)(T:Nat)(p:Option Addr)(c:Nat)(bad:Bool)(xs:List UInt8)(hw:St β [pt T (.cells #[sB p xs c,.bool bad] 112),rowF BytF 5 p c xs] w)(hxl:xs.length≤1000000)(n:Int)(hn: -9223372036854775808≤n∧n≤9223372036854775807):Calls Tryz.prog 45 #[pp T 0,Ix n] w fun r w'=>∃p c,r= .returned (.tuple #[])∧St β [pt T (.cells #[sB p (xs++vint n) c,.bool bad] 112),rowF BytF 5 p c (xs++vint n)] w':=by
 refine enter (n:=39) Tryz.func45 rfl Tryz.ntmps45 rfl ?_ hw
 refine csr (lE omi (lv (v:=Ux (U (n))) (e_conv (a:=(n)) rfl ⟨_,vt0⟩ vt1 (ux_of _)) ?_))
 refine lv (v:=Ux ((U (n))<<<(1:UInt64))) (e_shl (a:=((U (n)).toNat:Int)) (b:=((1:Nat):Int)) rfl rfl (by decide) (ux_shl _ 1 (by decide))) ?_
 refine lE omi (lv (v:=Ix (sgn (n))) (e_shr (a:=(n)) (b:=(63:Int)) rfl rfl (by decide) (shr63 (by omega))) ?_)
 refine lv (v:=Ux (U (sgn (n)))) (e_conv (a:=(sgn (n))) rfl ⟨_,vt0⟩ vt1 (ux_of _)) ?_
 refine lv (v:=Ux (((U (n))<<<(1:UInt64))^^^(U (sgn (n))))) (e_xor (a:=(((U (n))<<<(1:UInt64)).toNat:Int)) (b:=((U (sgn (n))).toNat:Int)) rfl rfl (ux_xor _ _)) ?_
 refine lE oai (lnf (c_seq (c_block ?_)))
 refine c_loop (fun(x_:UInt64×List UInt8×Option Addr×Nat) f L=>match x_ with|(u,ys,p,c)=>(f 0=pp T 0∧f 4=Ux (u))∧L=[pt T (.cells #[sB p ys c,.bool (bad)] 112),rowF BytF 5 p c ys]∧(ys++vn u.toNat=xs++vint n∧ys.length≤1048576)) (fun(u,ys,p,c)=>u.toNat) ((((U (n))<<<(1:UInt64))^^^(U (sgn (n)))),xs,p,c) ?_ ?_
 ·exact⟨⟨rfl,rfl⟩,rfl,⟨by rw[zz_u hn],by omega⟩⟩
 rintro⟨u,ys,p,c⟩ f0 L0 ⟨⟨hs0,hs4⟩,hL,⟨hy,hyl⟩⟩
 subst L0
 refine rbs 0 hs0 (rbs 4 hs4 (cs2 (c_region (lE omi (lE oge (lnf (c_if _ rfl (fun hc1=> ?_) (fun hc1=> ?_))))))))
 ·refine csk (c_seq (c_block ?_))
  have hc_:¬u.toNat<128:=by have:=hc1;omega
  refine c_region (lE omp (lE omp (lE onp (lE ofp (lE (ols 0) (lE omi ?_))))))
  refine lv (v:=Bx (u.toUInt8)) (e_conv (a:=((u).toNat:Int)) rfl ⟨_,vt1⟩ vt4 (bx_of64 _)) ?_
  refine lv (v:=Bx (u.toUInt8|||128)) (e_or (a:=((u.toUInt8).toNat:Int)) (b:=((128:UInt8).toNat:Int)) rfl rfl (bx_or _ _)) ?_
  refine l_mv rfl rfl rfl (m_slices vt5 vt6.ok (cells:= #[Bx (u.toUInt8|||128)]) rfl rfl rfl rfl) ?_
  rintro _ _ ⟨b2,rfl,rfl⟩
  refine l_mv rfl rfl rfl (m_appendFlN (F:=BytF) 2 vt5 vt7 (p:=p) (m:=ys.length) (xs:=ys) (ys:=[(u.toUInt8|||128:UInt8)]) (ao:=(some ⟨b2,0,none⟩)) (k:=1) (c:=1) rfl rfl rfl rfl rfl (k_ptFl (z:=(u.toUInt8|||128:UInt8)) 0 rfl rfl) (by first|omega|simp only[List.length_nil,List.length_cons,List.length_append,List.length_set];omega) (by first|omega|simp only[List.length_nil,List.length_cons,List.length_append,List.length_set];omega)) ?_
  rintro _ _ ⟨rp3,rc4,rfl,rfl⟩
  refine lE onp (lE ofp (lu (mS 1 (#[sB rp3 (ys++[(u.toUInt8|||128:UInt8)]) rc4,.bool (bad)])) (l_nil (f_block (f_then (c_region (lE omi ?_)))))))
  refine lv (v:=Ux (u>>>(7:UInt64))) (e_shr (a:=((u).toNat:Int)) (b:=((7:Nat):Int)) rfl rfl (by decide) (ux_shr _ 7 (by decide))) ?_
  refine lE oai (l_nil (f_mask [false,true,true] rfl ?_))
  exact f_cut ⟨(u>>>7,(ys++[(u.toUInt8|||128:UInt8)]),rp3,rc4),⟨⟨rfl,rfl⟩,rfl,⟨by rw[vput_next hc_];exact hy,by have:=congrArg List.length hy;rw[vn_big hc_,List.length_append,List.length_append,List.length_cons]at this;have:=vn_pos (u.toNat/128);have:=vint_len10 hn;rw[List.length_append];show _+1≤_;omega⟩⟩,(shr7_lt hc_)⟩
 refine c_exit (f_then_exit (f_then_exit (f_exit (f_then ?_))))
 have hc_:u.toNat<128:=by have:=hc1;omega
 refine c_region (lE omp (lE omp (lE onp (lE ofp (lE (ols 0) (lE omi ?_))))))
 refine lv (v:=Bx (u.toUInt8)) (e_conv (a:=((u).toNat:Int)) rfl ⟨_,vt1⟩ vt4 (bx_of64 _)) ?_
 refine l_mv rfl rfl rfl (m_slices vt5 vt6.ok (cells:= #[Bx (u.toUInt8)]) rfl rfl rfl rfl) ?_
 rintro _ _ ⟨b5,rfl,rfl⟩
 refine l_mv rfl rfl rfl (m_appendFlN (F:=BytF) 2 vt5 vt7 (p:=p) (m:=ys.length) (xs:=ys) (ys:=[(u.toUInt8:UInt8)]) (ao:=(some ⟨b5,0,none⟩)) (k:=1) (c:=1) rfl rfl rfl rfl rfl (k_ptFl (z:=(u.toUInt8:UInt8)) 0 rfl rfl) (by first|omega|simp only[List.length_nil,List.length_cons,List.length_append,List.length_set];omega) (by first|omega|simp only[List.length_nil,List.length_cons,List.length_append,List.length_set];omega)) ?_
 rintro _ _ ⟨rp6,rc7,rfl,rfl⟩
 refine lE onp (lE ofp (lu (mS 1 (#[sB rp6 (ys++[(u.toUInt8:UInt8)]) rc7,.bool (bad)])) (l_nil (end0 Tryz.results45 ?_))))
 intro w hw
 replace hw:=hw.perm (L':=[pt T (.cells #[sB rp6 (ys++[(u.toUInt8:UInt8)]) rc7,.bool (bad)] 112),rowF BytF 5 rp6 rc7 (ys++[(u.toUInt8:UInt8)]),pt b5 (.cells #[Bx (u.toUInt8)] 5)]) (by exact(perm_ix [1,2,0] 3 rfl (by kernel_rfl) (by kernel_rfl)))
 replace hw:=st_mask (L':=[pt T (.cells #[sB rp6 (ys++[(u.toUInt8:UInt8)]) rc7,.bool (bad)] 112),rowF BytF 5 rp6 rc7 (ys++[(u.toUInt8:UInt8)])]) [true,true,false] rfl hw
 have he:ys++[u.toUInt8]=xs++vint n:=by rw[vput_last hc_];exact hy
 rw[he]at hw
 exact⟨_,_,rfl,hw⟩
end Go.Proofs
