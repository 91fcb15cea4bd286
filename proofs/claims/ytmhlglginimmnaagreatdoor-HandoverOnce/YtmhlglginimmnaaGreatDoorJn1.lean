/-
 The journal's small functions,walked. Printed by a program of my own.
-/
import Derived.Test.YtmhlglginimmnaaGreatDoorHvOpn
import Derived.Test.YtmhlglginimmnaaGreatDoorProg
set_option linter.all false
namespace Go.Proofs
open Go Go.Sl Go.Jn
theorem rec_bad{e:Int}{xs:Bs}{a:Option Addr}{c:Nat}(h:rbad xs):Ending.returned (.tuple #[.int .i64 0,.slice none 0 0,.bool false])= .returned (.tuple #[Nx (recN xs),sB (recA a c xs) (recP xs) (recC c xs),.bool (recB e xs)]):=by
 unfold recN recA recP recC recB
 simp[h]
theorem rec_good{e:Int}{xs:Bs}{a:Option Addr}{c:Nat}(h:¬rbad xs):
  Ending.returned (.tuple #[Nx (rno xs).toNat,sB (adv a c 16 1) (rpl xs) (c-16),.bool (decide (((rsum xs).toNat:Int)=((chkU e ((rno xs).toNat:Int) (rpl xs)).toNat:Int)))])=
  .returned (.tuple #[Nx (recN xs),sB (recA a c xs) (recP xs) (recC c xs),.bool (recB e xs)]):=by
 unfold recN recA recP recC recB
 simp only[sB,rB,if_neg h]
 rw[ux_eq]
theorem bool_d{p q:Prop}[Decidable p][Decidable q](h:p↔q):Ending.returned (.bool (decide p))= .returned (.bool (decide q)):=by rw[decide_eq_decide.2 h]
instance tf0:CfC Tryz.prog 130:={}
theorem tf1:Tryz.prog.underlying 3=some (.int .i64):=by kernel_rfl
theorem tf2:Tryz.prog.underlying 143=some (.int .u64):=by kernel_rfl
instance tf3:CfC Tryz.prog 108:={}
instance tf4:ZerC Tryz.prog 143 (.int .u64 (0)):={}
instance tf5:TyC Tryz.prog 143 false 1:={}
instance tf6:TyC Tryz.prog 9 false 1:={}
theorem tf7:Tryz.prog.underlying 9=some .string:=by kernel_rfl
theorem tf8:Tryz.prog.underlying 5=some (.int .u8):=by kernel_rfl
instance tf9:CfC Tryz.prog 141:={}
instance tf10:CfC Tryz.prog 140:={}
instance tf11:UndC Tryz.prog 22 5:={}
theorem tf12:slB Tryz.prog 22 5 1=true:=by kernel_rfl
instance tf13:TyC Tryz.prog 5 false 1:={}
instance tf14:ZerC Tryz.prog 5 (.int .u8 (0)):={}
theorem tf15:elB Tryz.prog 5 1 1=true:=by kernel_rfl
instance tf16:CfC Tryz.prog 129:={}
instance tf17:CfC Tryz.prog 94:={}
instance tf18:CfC Tryz.prog 107:={}
instance tf19:CfC Tryz.prog 109:={}
instance tf20:FldC Tryz.prog 60 0 0 1 false:={}
instance tf21:TyC Tryz.prog 22 false 1:={}
instance tf22:FldC Tryz.prog 60 1 1 1 false:={}
instance tf23:FldC Tryz.prog 60 2 2 1 false:={}
instance tf24:FldC Tryz.prog 60 3 3 1 false:={}
instance tf25:TyC Tryz.prog 3 false 1:={}
instance tf26:CfC Tryz.prog 95:={}
instance tf27:ZerC Tryz.prog 124 (.agg #[.pointer none,.pointer none]):={}
instance tf28:ArrC Tryz.prog 124 2 123 1:={}
instance tf29:TyC Tryz.prog 124 true 2:={}
theorem mix_ok(β:Base)(w:World)(hw:St β [] w)(x:UInt64):Ret Tryz.prog 130 #[Ux x] β w (Ux (mixU x)):=by
 refine enter (n:=17) Tryz.func130 rfl Tryz.ntmps130 rfl ?_ hw
 refine csr (lE oai (lnc (lE omi (lE omi ?_))))
 refine lv (v:=Ux (x>>>(30:UInt64))) (e_shr (a:=((x).toNat:Int)) (b:=((30:Nat):Int)) rfl rfl (by decide) (ux_shr _ 30 (by decide))) ?_
 refine lv (v:=Ux (x^^^(x>>>(30:UInt64)))) (e_xor (a:=((x).toNat:Int)) (b:=((x>>>(30:UInt64)).toNat:Int)) rfl rfl (ux_xor _ _)) ?_
 refine lv (v:=Ux ((x^^^(x>>>(30:UInt64)))*(13787848793156543929:UInt64))) (e_mul (a:=((x^^^(x>>>(30:UInt64))).toNat:Int)) (b:=((13787848793156543929:UInt64).toNat:Int)) rfl rfl (ux_mul _ _)) ?_
 refine lE oai (lnc (lE omi (lE omi ?_)))
 refine lv (v:=Ux (((x^^^(x>>>(30:UInt64)))*(13787848793156543929:UInt64))>>>(27:UInt64))) (e_shr (a:=(((x^^^(x>>>(30:UInt64)))*(13787848793156543929:UInt64)).toNat:Int)) (b:=((27:Nat):Int)) rfl rfl (by decide) (ux_shr _ 27 (by decide))) ?_
 refine lv (v:=Ux (((x^^^(x>>>(30:UInt64)))*(13787848793156543929:UInt64))^^^(((x^^^(x>>>(30:UInt64)))*(13787848793156543929:UInt64))>>>(27:UInt64)))) (e_xor (a:=(((x^^^(x>>>(30:UInt64)))*(13787848793156543929:UInt64)).toNat:Int)) (b:=((((x^^^(x>>>(30:UInt64)))*(13787848793156543929:UInt64))>>>(27:UInt64)).toNat:Int)) rfl rfl (ux_xor _ _)) ?_
 refine lv (v:=Ux ((((x^^^(x>>>(30:UInt64)))*(13787848793156543929:UInt64))^^^(((x^^^(x>>>(30:UInt64)))*(13787848793156543929:UInt64))>>>(27:UInt64)))*(10723151780598845931:UInt64))) (e_mul (a:=((((x^^^(x>>>(30:UInt64)))*(13787848793156543929:UInt64))^^^(((x^^^(x>>>(30:UInt64)))*(13787848793156543929:UInt64))>>>(27:UInt64))).toNat:Int)) (b:=((10723151780598845931:UInt64).toNat:Int)) rfl rfl (ux_mul _ _)) ?_
 refine lE oai (lnc (lE omi (lE omi ?_)))
 refine lv (v:=Ux (((((x^^^(x>>>(30:UInt64)))*(13787848793156543929:UInt64))^^^(((x^^^(x>>>(30:UInt64)))*(13787848793156543929:UInt64))>>>(27:UInt64)))*(10723151780598845931:UInt64))>>>(31:UInt64))) (e_shr (a:=(((((x^^^(x>>>(30:UInt64)))*(13787848793156543929:UInt64))^^^(((x^^^(x>>>(30:UInt64)))*(13787848793156543929:UInt64))>>>(27:UInt64)))*(10723151780598845931:UInt64)).toNat:Int)) (b:=((31:Nat):Int)) rfl rfl (by decide) (ux_shr _ 31 (by decide))) ?_
 refine lv (v:=Ux (((((x^^^(x>>>(30:UInt64)))*(13787848793156543929:UInt64))^^^(((x^^^(x>>>(30:UInt64)))*(13787848793156543929:UInt64))>>>(27:UInt64)))*(10723151780598845931:UInt64))^^^(((((x^^^(x>>>(30:UInt64)))*(13787848793156543929:UInt64))^^^(((x^^^(x>>>(30:UInt64)))*(13787848793156543929:UInt64))>>>(27:UInt64)))*(10723151780598845931:UInt64))>>>(31:UInt64)))) (e_xor (a:=(((((x^^^(x>>>(30:UInt64)))*(13787848793156543929:UInt64))^^^(((x^^^(x>>>(30:UInt64)))*(13787848793156543929:UInt64))>>>(27:UInt64)))*(10723151780598845931:UInt64)).toNat:Int)) (b:=((((((x^^^(x>>>(30:UInt64)))*(13787848793156543929:UInt64))^^^(((x^^^(x>>>(30:UInt64)))*(13787848793156543929:UInt64))>>>(27:UInt64)))*(10723151780598845931:UInt64))>>>(31:UInt64)).toNat:Int)) rfl rfl (ux_xor _ _)) ?_
 refine lE oai (lnf (c_ret (ret1 Tryz.results130 rfl ?_)))
 intro w hw
 exact⟨rfl,st_mask [] rfl hw⟩
theorem chain_ok(β:Base)(w:World)(hw:St β [] w)(x y:UInt64):Ret Tryz.prog 108 #[Ux x,Ux y] β w (Ux (chainU x y)):=by
 refine enter (n:=11) Tryz.func108 rfl Tryz.ntmps108 rfl ?_ hw
 refine csr (lE oai (lnc (lE omi ?_)))
 refine lv (v:=Ux (x*(11400714819323198485:UInt64))) (e_mul (a:=((x).toNat:Int)) (b:=((11400714819323198485:UInt64).toNat:Int)) rfl rfl (ux_mul _ _)) ?_
 refine lE omi (lv (v:=Ux ((x*(11400714819323198485:UInt64))+y)) (e_add rfl rfl (ux_add _ _)) ?_)
 refine lv (v:=Ux (((x*(11400714819323198485:UInt64))+y)+(1:UInt64))) (e_add rfl rfl (ux_add _ _)) ?_
 refine lcR clA (fun w β1 sb kn hw1=>mix_ok β1 w hw1 (((x*(11400714819323198485:UInt64))+y)+(1:UInt64))) (lE oai (lnf (c_ret ?_)))
 refine ret1 Tryz.results108 rfl ?_
 intro w hw
 exact⟨rfl,st_mask [] rfl hw⟩
theorem tick_ok(β:Base)(w:World)(hw:St β [] w)(t:Int):Ret Tryz.prog 95 #[Ix t] β w (Ux (tickU t)):=by
 refine enter (n:=6) Tryz.func95 rfl Tryz.ntmps95 rfl ?_ hw
 refine csr (lE oai (lnc (lE omi (lv (v:=Ux (U (t))) (e_conv (a:=(t)) rfl ⟨_,tf1⟩ tf2 (ux_of _)) ?_))))
 refine lcR clA (fun w β1 sb kn hw1=>chain_ok β1 w hw1 (0:UInt64) (U (t))) (lE oai (lnf (c_ret (ret1 Tryz.results95 rfl ?_))))
 intro w hw
 exact⟨rfl,st_mask [] rfl hw⟩
theorem sequence_ok(β:Base)(w:World)(hw:St β [] w)(v:Value)(xs:List UInt64)(hs:SeqOf Tryz.prog β v (fun x=>[Ux x]) (· =xs)):Ret Tryz.prog 140 #[v] β w (Ux (seqU xs)):=by
 refine enterM (n:=14) Tryz.func140 rfl Tryz.ntmps140 rfl ?_ hw
 refine csr (lE oai (lnc (alE fun b1=>lu (mS 0 (#[.int .u64 (0)])) (lnf (cs2 (c_region (lv e_move (lnf (c_block ?_)))))))))
 refine c_range (α:=UInt64) (enc:=fun x=>[Ux x]) (S:=(· =xs)) (ps:=[6]) (I:=fun(pre:List (UInt64)) (L:List Res)=>L=[pt b1 (.cells #[Ux (seqF 0 pre)] 143)]∧(True)) (X:=fun _ _ _=>False) rfl (hs) (fun _=>rfl) rfl ⟨rfl,trivial⟩ ?_ ?_ ?_
 ·rintro l β1 pre x M ext hpre ⟨rfl,-⟩
  refine c_region (lE oai (l_nil (f_cut (fun β2 ext2=> ?_))))
  refine c_block (c_region (lE (oli 0) ?_))
  refine lv (v:=Ux ((seqF 0 pre)*(11400714819323198485:UInt64))) (e_mul (a:=((seqF 0 pre).toNat:Int)) (b:=((11400714819323198485:UInt64).toNat:Int)) rfl rfl (ux_mul _ _)) ?_
  refine lE omi (lv (v:=Ux (((seqF 0 pre)*(11400714819323198485:UInt64))+x)) (e_add rfl rfl (ux_add _ _)) ?_)
  refine lv (v:=Ux ((((seqF 0 pre)*(11400714819323198485:UInt64))+x)+(1:UInt64))) (e_add rfl rfl (ux_add _ _)) ?_
  refine lu (mS 0 (#[Ux ((((seqF 0 pre)*(11400714819323198485:UInt64))+x)+(1:UInt64))])) (l_nil (f_block ?_))
  exact fun a w ha hw=>⟨_,⟨(by rw[seqF_snoc];rfl),trivial⟩,hw⟩
 ·rintro D ys M hS ⟨rfl,-⟩
  subst hS
  refine f_block (ftc (lE (oli 0) (lcR clA (fun w β1 sb kn hw1=>mix_ok β1 w hw1 (seqF 0 ys)) (lE oai (lnf (c_ret ?_))))))
  refine retM 1 rfl Tryz.results140 (v:=Ux (mixU (seqF 0 ys))) rfl ?_
  intro w hw
  exact⟨rfl,st_mask [false,false] rfl hw⟩
 intro D c pre M h;exact h.elim
theorem bytes_ok(β:Base)(w:World)(hw:St β [] w)(s:ByteArray):Calls Tryz.prog 141 #[.string s] w fun e w'=>∃b,e= .returned (.func (.func 144) #[] #[pp b 0])∧St β [pt b (.cells #[.string s] 9)] w':=by
 refine enter (n:=4) Tryz.func141 rfl Tryz.ntmps141 rfl ?_ hw
 refine csr (l_mv rfl rfl rfl (m_box (v:= .string (s)) rfl) ?_)
 rintro _ _ ⟨b1,rfl,rfl⟩
 refine lv e_assign (lnc (lv (v:= .func (.func 144) #[] #[pp b1 0]) (e_func (u:=[]) (v:=[pp b1 0]) rfl rfl) (lE oaf (lnf (c_ret ?_)))))
 refine ret1 Tryz.results141 rfl ?_
 intro w hw
 exact⟨_,rfl,hw⟩
theorem bytes_seq(β:Base)(b:Nat)(s:ByteArray)(hb:Cs β.heap ⟨b,0,none⟩ [.string s])(hs:s.size≤9223372036854775807):SeqOf Tryz.prog β (.func (.func 144) #[] #[pp b 0]) (fun x:UInt64=>[Ux x]) (· =wordsB s):=by
 refine⟨144,[],[pp b 0],rfl,by kernel_rfl,fun β₁ ext l J X hY M w hJ hw=> ?_⟩
 have hb1:=Cs.mono _ _ _ _ ext.sub hb
 refine enter (n:=17) Tryz.func144 rfl Tryz.ntmps144 rfl ?_ hw
 refine csr (lv (v:= .string (s)) (e_load1 tf6.ok rfl (kB hb1)) (lv (v:=Nx ((s).size)) (e_len_s (s:=s) rfl tf7) (lE omi (lnf (c_block ?_)))))
 refine c_loop (fun(x_:Nat×List Res) f L=>match x_ with|(k,M)=>(f 0=yfn l∧f 1= .pointer (some (⟨b,0,none⟩))∧f 5=Nx ((s).size)∧f 6=Nx (k))∧L=(M)∧(k≤s.size∧J ((wordsB s).take (k)) M)) (fun(k,M)=>s.size-k) (0,M) ?_ ?_
 ·exact⟨⟨rfl,rfl,rfl,rfl⟩,rfl,⟨by omega,by simpa using hJ⟩⟩
 rintro⟨k,M⟩ f0 L0 ⟨⟨hs0,hs1,hs5,hs6⟩,hL,⟨hk,hJ⟩⟩
 subst L0
 refine rbs 0 hs0 (rbs 1 hs1 (rbs 5 hs5 (rbs 6 hs6 (csr (lE olt (lnf (c_seq (c_if _ rfl (fun hc1=> ?_) (fun hc1=> ?_)))))))))
 ·refine csk (c_seq (c_block (csr (lE omi (lE oai (lnc (lv e_move (lv (v:= .string (s)) (e_load1 tf6.ok rfl (kB hb1)) (lE omi ?_)))))))))
  obtain⟨c2,hc3⟩:∃c,(s).data.toList[k]? =some c:=⟨_,List.getElem?_eq_getElem (by simp;omega)⟩
  refine lv (v:=Bx (c2)) (e_index_s (s:=s) (k:=k) (c:=c2) rfl rfl tf7 hc3) ?_
  refine lv (v:=Ux (c2.toUInt64)) (e_conv (a:=((c2).toNat:Int)) rfl ⟨_,tf8⟩ tf2 (ux_of8 _)) ?_
  refine l_yield (own:=[]) (M:=M) (d:=14) (enc:=fun x=>[Ux x]) (pre:=(wordsB s).take k) (x:=c2.toUInt64) rfl rfl rfl rfl hY (⟨_,rfl,take_prefix (by simp[wordsB,hc3])⟩) hJ (fun M1 hJ1=> ?_) (fun M1 hX1=> ?_)
  ·refine lE ont (lnf (c_no rfl (c_skip (f_block (f_then (c_region (lv (v:=Nx (k+1)) (e_add rfl rfl (i64n (by omega) (by omega))) (lE omi (l_nil ?_)))))))))
   exact f_cut ⟨(k+1,M1),⟨⟨rfl,rfl,rfl,rfl⟩,rfl,⟨by omega,by rw[take_succ (a:=c2.toUInt64) (by simp[wordsB,hc3])];exact hJ1⟩⟩,(show s.size-(k+1)<s.size-k from by omega)⟩
  refine lE ont (lnf (c_yes rfl (c_ret (f_block_ret (f_then_ret (f_then_ret (f_block_ret (ret0 Tryz.results144 ?_))))))))
  intro w hw
  exact⟨⟨_,rfl⟩,.inr ⟨_,M1,hX1,st_mask [] rfl hw⟩⟩
 refine c_exit (f_then_exit (f_then_exit (f_exit (end0 Tryz.results144 ?_))))
 intro w hw
 exact⟨⟨_,rfl⟩,.inl ⟨_,M,rfl,(by rw[List.take_of_length_le (by simp[wordsB];omega)]at hJ;exact hJ),st_mask [] rfl hw⟩⟩
theorem name_ok(β:Base)(w:World)(hw:St β [] w)(s:ByteArray)(hs:s.size≤9223372036854775807):Ret Tryz.prog 129 #[.string s] β w (Ux (seqU (wordsB s))):=by
 refine enter (n:=6) Tryz.func129 rfl Tryz.ntmps129 rfl ?_ hw
 refine csr (lE oai (lnc (lv e_move (lcf (cl0 (vs:=[.string (s)]) tf9.ok rfl rfl) rfl fun w β1 sb kn hw1 back=>(bytes_ok β1 w hw1 s).mono ?_))))
 rintro e w' ⟨b1,rfl,hw'⟩
 refine⟨_,rfl,_,back _ _ hw',?_⟩
 clear hw1 hw' back kn sb
 refine l_call rfl rfl rfl (cl0 (vs:=[.func (.func 144) #[] #[pp b1 0]]) tf10.ok rfl rfl) ?_
 intro w hw
 obtain⟨β1,sb,kn,hw1,back⟩:=St.frame_all hw
 have hsq:=bytes_seq β1 b1 s (kn _ (k_pt 0 (cs:= #[.string (s)]) (vs:=[.string (s)]) rfl rfl)) (by omega)
 refine(sequence_ok β1 w hw1 _ (wordsB s) hsq).mono ?_
 rintro e w' ⟨rfl,hw'⟩
 refine⟨_,rfl,_,back _ _ hw',?_⟩
 clear hw hw1 hw' back kn sb
 refine lE oai (lnf (c_ret (ret1 Tryz.results129 rfl ?_)))
 intro w hw
 exact⟨rfl,st_mask [false] rfl hw⟩
set_option maxHeartbeats 4000000 in
theorem word_ok(β:Base)(w:World)(hw:St β [] w)(xs:Bs)(v:Value)(hs:Sl U8R β.heap v xs):Ret Tryz.prog 109 #[v] β w (Ux (wordU xs)):=by
 obtain⟨va,vc,rfl,vl,vm,ve⟩:=hs.get
 refine enter (n:=19) Tryz.func109 rfl Tryz.ntmps109 rfl ?_ hw
 refine csr (lE oai (lnc (lE oai (lnf (cs2 (c_region (lE oms (lE oln (lE omi (lnf (c_block ?_)))))))))))
 refine c_loop (fun(k:Nat) f L=>(f 3=Ux (wordF 0 (xs.take k))∧f 6=sB va xs (vc)∧f 7=Nx (xs.length)∧f 8=Nx (k))∧L=[]∧(k≤xs.length)) (fun k=>xs.length-k) 0 ?_ ?_
 ·exact⟨⟨rfl,rfl,rfl,rfl⟩,rfl,(by omega)⟩
 rintro k f0 L0 ⟨⟨hs3,hs6,hs7,hs8⟩,hL,hk⟩
 subst L0
 refine rbs 3 hs3 (rbs 6 hs6 (rbs 7 hs7 (rbs 8 hs8 (csr (lE olt (lnf (c_seq (c_if _ rfl (fun hc1=> ?_) (fun hc1=> ?_)))))))))
 ·refine csk (c_seq (c_block (csr ?_)))
  obtain⟨x2,hx3⟩:=getx xs k (by omega)
  obtain⟨ha4,cs5,hc6,rfl⟩:=ve _ _ hx3
  refine lE (oia tf12 ha4) (lv (v:=Bx (x2)) (e_load1 tf13.ok rfl (kB hc6)) (lE oai (lnr (lE omi ?_))))
  refine lv (v:=Ux ((wordF 0 (xs.take k))<<<(8:UInt64))) (e_shl (a:=((wordF 0 (xs.take k)).toNat:Int)) (b:=((8:Nat):Int)) rfl rfl (by decide) (ux_shl _ 8 (by decide))) ?_
  refine lE omi (lv (v:=Ux (x2.toUInt64)) (e_conv (a:=((x2).toNat:Int)) rfl ⟨_,tf8⟩ tf2 (ux_of8 _)) ?_)
  refine lv (v:=Ux (((wordF 0 (xs.take k))<<<(8:UInt64))|||x2.toUInt64)) (e_or (a:=(((wordF 0 (xs.take k))<<<(8:UInt64)).toNat:Int)) (b:=((x2.toUInt64).toNat:Int)) rfl rfl (ux_or _ _)) ?_
  refine lE oai (l_nil (f_block (f_then (c_region (lv (v:=Nx (k+1)) (e_add rfl rfl (i64n (by omega) (by omega))) (lE omi (l_nil ?_)))))))
  exact f_cut ⟨k+1,⟨⟨(show Ux (((wordF 0 (xs.take k))<<<(8:UInt64))|||x2.toUInt64)=Ux (wordF 0 (xs.take (k+1))) by rw[take_succ hx3,wordF_snoc]),rfl,rfl,rfl⟩,rfl,(by omega)⟩,(show xs.length-(k+1)<xs.length-k from by omega)⟩
 refine c_exit (f_then_exit (f_then_exit (f_exit (ftc (lE omi (lE oai (lnf (c_ret (ret1 Tryz.results109 rfl ?_)))))))))
 intro w hw
 rw[List.take_of_length_le (show xs.length≤k by omega)]
 exact⟨rfl,st_mask [] rfl hw⟩
set_option maxHeartbeats 4000000 in
theorem appended_ok(β:Base)(w:World)(p0:Option Addr)(c0:Nat)(bs:Bs)(n:UInt64)(sz:Nat)(hsz:sz≤8)(hbs:bs.length≤1099511627776)(hw:St β [rB p0 bs c0] w):Calls Tryz.prog 94 #[sB p0 bs c0,Ux n,Nx sz] w fun r w'=>∃p c,r= .returned (sB p (bs++be sz n) c)∧St β [rB p (bs++be sz n) c] w':=by
 refine enter (n:=23) Tryz.func94 rfl Tryz.ntmps94 rfl ?_ hw
 refine csr (lE oas (lnf (cs2 (c_region (lE omi (lE omn (lE oai (lnf (c_block ?_)))))))))
 refine c_loop (fun(x_:Nat×Bs×Option Addr×Nat) f L=>match x_ with|(r,ys,p,c)=>(f 0=sB p ys c∧f 1=Ux (n)∧f 7=Ix (((r:Nat):Int)-1))∧L=[rB p ys c]∧(r≤sz∧ys++be r n=bs++be sz n)) (fun(r,ys,p,c)=>r) (sz,bs,p0,c0) ?_ ?_
 ·exact⟨⟨rfl,rfl,rfl⟩,rfl,⟨by omega,rfl⟩⟩
 rintro⟨r,ys,p,c⟩ f0 L0 ⟨⟨hs0,hs1,hs7⟩,hL,⟨hr,he⟩⟩
 subst L0
 refine rbs 0 hs0 (rbs 1 hs1 (rbs 7 hs7 ?_))
 have hyl:=congrArg List.length he
 simp only[List.length_append,be_length]at hyl
 refine cs2 (c_region (lE omi (lE oge (lnf (c_if _ rfl (fun hc1=> ?_) (fun hc1=> ?_))))))
 ·refine csk (c_seq (c_block ?_))
  obtain⟨q,hq⟩:∃q,r=q+1:=⟨r-1,by omega⟩
  subst hq
  refine rbs 7 (v:=Nx q) (congrArg (Value.int .i64) (by omega)) (c_region (lE oms (lE omi (lE omi ?_))))
  refine lv (v:=Nx (8*q)) (e_mul (a:=(8:Int)) (b:=((q:Nat):Int)) rfl rfl (i64n (by omega) (by omega))) ?_
  refine lv (v:=Ux (n>>>UInt64.ofNat (8*q))) (e_shr (a:=((n).toNat:Int)) (b:=((8*q:Nat):Int)) rfl rfl (by omega) (ux_shr _ (8*q) (by omega))) ?_
  refine lv (v:=Bx ((n>>>UInt64.ofNat (8*q)).toUInt8)) (e_conv (a:=((n>>>UInt64.ofNat (8*q)).toNat:Int)) rfl ⟨_,tf2⟩ tf8 (bx_of64 _)) ?_
  refine l_mv rfl rfl rfl (m_slices tf12 tf14.ok (cells:= #[Bx ((n>>>UInt64.ofNat (8*q)).toUInt8)]) rfl rfl rfl rfl) ?_
  rintro _ _ ⟨b2,rfl,rfl⟩
  refine l_mv rfl rfl rfl (m_appendE (enc:=fun c:UInt8=>Bx c) 1 bx_cell tf12 tf15 (v:=sB p ys c) (xs:=ys) (ys:=[((n>>>UInt64.ofNat (8*q)).toUInt8)]) (ao:=some ⟨b2,0,none⟩) (c:=1) rfl rfl (by first|rfl|simp) rfl (by first|rfl|simp) (k_ptE 0 (xs:=[((n>>>UInt64.ofNat (8*q)).toUInt8)]) rfl) (by first|omega|(simp only[List.length_append,List.length_nil,List.length_cons,be_length]at*;omega)) (by first|omega|(simp only[List.length_append,List.length_nil,List.length_cons,be_length]at*;omega))) ?_
  rintro _ _ ⟨rp3,rc4,rfl,rfl⟩
  refine lE oas (l_nil (f_block (f_then (c_region (lE omi (lE omn (lE oai (l_nil (f_mask [false,true] rfl ?_)))))))))
  exact f_cut ⟨(q,(ys++[(n>>>UInt64.ofNat (8*q)).toUInt8]),rp3,rc4),⟨⟨rfl,rfl,(congrArg (Value.int .i64) (by omega))⟩,rfl,⟨by omega,by rw[←he];simp[be]⟩⟩,(show q<q+1 from Nat.lt_succ_self q)⟩
 refine c_exit (f_then_exit (f_then_exit (f_exit (ftc (lE oms (lE oas (lnf (c_ret (ret1 Tryz.results94 rfl ?_)))))))))
 intro w hw
 have hz:r=0:=by omega
 subst hz
 have he:ys=bs++be sz n:=by simpa[be]using he
 subst he
 exact⟨_,_,rfl,st_mask [true] rfl hw⟩
theorem appended0_ok(β:Base)(w:World)(hw:St β [] w)(n:UInt64)(sz:Nat)(hsz:sz≤8):Calls Tryz.prog 94 #[.slice none 0 0,Ux n,Nx sz] w fun r w'=>∃p c,r= .returned (sB p (be sz n) c)∧St β [rB p (be sz n) c] w':=by
 exact appended_ok β w none 0 [] n sz hsz (by simp) (hw.emp (row_nil _ _ _))
theorem check_ok(β:Base)(w:World)(hw:St β [] w)(e n:Int)(xs:Bs)(v:Value)(hs:Sl U8R β.heap v xs):Ret Tryz.prog 107 #[Ix e,Ix n,v] β w (Ux (chkU e n xs)):=by
 obtain⟨va,vc,rfl,vl,vm,ve⟩:=hs.get
 refine enter (n:=16) Tryz.func107 rfl Tryz.ntmps107 rfl ?_ hw
 refine csr (lE oai (lnc (lE oms ?_)))
 refine lv (v:= .string (str xs)) (e_bytesStr (a:=va) (bs:=xs) (m:=xs.length) (c:=vc) rfl (by first|rfl|simp) tf11.ok tf8 tf7 (Knows.of_base (Elems.mono _ _ _) ve)) ?_
 refine lcR clA (fun w β1 sb kn hw1=>name_ok β1 w hw1 (str xs) (show(xs.length:Nat)≤_ by omega)) (lE omi ?_)
 refine lv (v:=Ux (U (n))) (e_conv (a:=(n)) rfl ⟨_,tf1⟩ tf2 (ux_of _)) (lcR clA (fun w β1 sb kn hw1=>chain_ok β1 w hw1 (nameU xs) (U (n))) ?_)
 refine lE omi (lv (v:=Ux (U (e))) (e_conv (a:=(e)) rfl ⟨_,tf1⟩ tf2 (ux_of _)) ?_)
 refine lcR clA (fun w β1 sb kn hw1=>chain_ok β1 w hw1 (chainU (nameU xs) (U (n))) (U (e))) (lE oai (lnf (c_ret (ret1 Tryz.results107 rfl ?_))))
 intro w hw
 exact⟨rfl,st_mask [] rfl hw⟩
set_option maxHeartbeats 4000000 in
theorem form_ok(β:Base)(w:World)(hw:St β [] w)(e n:Int)(xs:Bs)(v:Value)(hx:xs.length≤1048576)(hs:Sl U8R β.heap v xs):Calls Tryz.prog 93 #[Ix e,Ix n,v] w fun r w'=>∃p c,r= .returned (sB p (formB e n xs) c)∧St β [rB p (formB e n xs) c] w':=by
 obtain⟨va,vc,rfl,vl,vm,ve⟩:=hs.get
 refine enter (n:=29) Tryz.func93 rfl Tryz.ntmps93 rfl ?_ hw
 refine csr (lE oas (lnc (lE oms (lE oln ?_))))
 refine lv (v:=Ux (U ((xs.length:Nat):Int))) (e_conv (a:=((xs.length:Nat):Int)) rfl ⟨_,tf1⟩ tf2 (ux_of _)) (lE oai (lnc (lE omi ?_)))
 refine lcf (cl0 (vs:=[.slice none 0 0,Ux (U ((xs.length:Nat):Int)),.int .i64 (4)]) tf17.ok rfl rfl) rfl fun w β1 sb kn hw1 back=>(appended0_ok β1 w hw1 (U ((xs.length:Nat):Int)) 4 (by decide)).mono ?_
 rintro e w' ⟨p1,c2,rfl,hw'⟩
 refine⟨_,rfl,_,back _ _ hw',?_⟩
 clear hw1 hw' back kn sb
 refine lE omi (lv (v:=Ux (~~~(U ((xs.length:Nat):Int)))) (e_not64 (a:=U ((xs.length:Nat):Int)) rfl) ?_)
 refine l_call rfl rfl rfl (cl0 (vs:=[sB p1 (be 4 (U ((xs.length:Nat):Int))) c2,Ux (~~~(U ((xs.length:Nat):Int))),.int .i64 (4)]) tf17.ok rfl rfl) ?_
 intro w hw
 replace hw:=hw.perm (L':=_::[]) (by exact(perm_front 0 rfl))
 obtain⟨β1,sb,kn,hw1,back⟩:=St.frame (L:=[_]) (M:=[]) hw
 refine(appended_ok β1 w _ _ (be 4 (U ((xs.length:Nat):Int))) (~~~(U ((xs.length:Nat):Int))) 4 (by decide) (by simp only[List.length_append,be_length];omega) hw1).mono ?_
 rintro e w' ⟨p3,c4,rfl,hw'⟩
 refine⟨_,rfl,_,back _ _ hw',?_⟩
 clear hw hw1 hw' back kn sb
 refine lE oas (lnc (lE oms (lE omi (lv (v:=Ux (U (n))) (e_conv (a:=(n)) rfl ⟨_,tf1⟩ tf2 (ux_of _)) ?_))))
 refine l_call rfl rfl rfl (cl0 (vs:=[sB p3 ((be 4 (U ((xs.length:Nat):Int)))++be 4 (~~~(U ((xs.length:Nat):Int)))) c4,Ux (U (n)),.int .i64 (8)]) tf17.ok rfl rfl) ?_
 intro w hw
 replace hw:=hw.perm (L':=_::[]) (by exact(perm_front 0 rfl))
 obtain⟨β1,sb,kn,hw1,back⟩:=St.frame (L:=[_]) (M:=[]) hw
 refine(appended_ok β1 w _ _ ((be 4 (U ((xs.length:Nat):Int)))++be 4 (~~~(U ((xs.length:Nat):Int)))) (U (n)) 8 (by decide) (by simp only[List.length_append,be_length];omega) hw1).mono ?_
 rintro e w' ⟨p5,c6,rfl,hw'⟩
 refine⟨_,rfl,_,back _ _ hw',?_⟩
 clear hw hw1 hw' back kn sb
 refine lE oms ?_
 refine l_mv rfl rfl rfl (m_appendE (enc:=fun c:UInt8=>Bx c) 0 bx_cell tf12 tf15 (v:=sB p5 (((be 4 (U ((xs.length:Nat):Int)))++be 4 (~~~(U ((xs.length:Nat):Int))))++be 8 (U (n))) c6) (xs:=((be 4 (U ((xs.length:Nat):Int)))++be 4 (~~~(U ((xs.length:Nat):Int))))++be 8 (U (n))) (ys:=xs) (ao:=va) (c:=vc) rfl rfl (by first|rfl|simp) rfl (by first|rfl|simp) (Knows.of_base (Elems.mono _ _ _) ve) (by first|omega|(simp only[List.length_append,List.length_nil,List.length_cons,be_length]at*;omega)) (by first|omega|(simp only[List.length_append,List.length_nil,List.length_cons,be_length]at*;omega))) ?_
 rintro _ _ ⟨rp7,rc8,rfl,rfl⟩
 refine lE oas (lnc (lE oms (lE omi (lE omi (lE oms ?_)))))
 refine lcR clA (fun w β1 sb kn hw1=>check_ok β1 w hw1 (e) (n) xs _ (Sl.mono _ _ _ _ _ sb (⟨⟨_,_,rfl,vl,vm,ve⟩⟩:Sl U8R _ _ xs))) ?_
 refine l_call rfl rfl rfl (cl0 (vs:=[sB rp7 ((((be 4 (U ((xs.length:Nat):Int)))++be 4 (~~~(U ((xs.length:Nat):Int))))++be 8 (U (n)))++xs) rc8,Ux (chkU (e) (n) xs),.int .i64 (8)]) tf17.ok rfl rfl) ?_
 intro w hw
 replace hw:=hw.perm (L':=_::[]) (by exact(perm_front 0 rfl))
 obtain⟨β1,sb,kn,hw1,back⟩:=St.frame (L:=[_]) (M:=[]) hw
 refine(appended_ok β1 w _ _ ((((be 4 (U ((xs.length:Nat):Int)))++be 4 (~~~(U ((xs.length:Nat):Int))))++be 8 (U (n)))++xs) (chkU (e) (n) xs) 8 (by decide) (by simp only[List.length_append,be_length];omega) hw1).mono ?_
 rintro e w' ⟨p9,c10,rfl,hw'⟩
 refine⟨_,rfl,_,back _ _ hw',?_⟩
 clear hw hw1 hw' back kn sb
 refine lE oas (lnf (c_ret (ret1 Tryz.results93 rfl ?_)))
 intro w hw
 exact⟨_,_,rfl,st_mask [true] rfl hw⟩
theorem clone_ok(β:Base)(w:World)(hw:St β [] w)(xs:Bs)(v:Value)(hx:xs.length≤1048576)(hs:Sl U8R β.heap v xs):Calls Tryz.prog 64 #[v] w fun r w'=>∃p c,r= .returned (sB p xs c)∧St β [rB p xs c] w':=by
 obtain⟨va,vc,rfl,vl,vm,ve⟩:=hs.get
 refine enter (n:=8) Tryz.func64 rfl Tryz.ntmps64 rfl ?_ hw
 refine csr (lE oas (lnf (cs2 ?_)))
 cases va with
 |none=>
  have hxs:xs=[]:=by cases xs with|nil=>rfl|cons a l=>exact absurd (elems_some ve (by simp)) (by simp)
  subst hxs
  refine c_region (lE oms (lv (v:= .bool true) (e_eql_snil (a:=none) rfl rfl tf11.ok) (lnf (c_yes rfl (csr (lE oas (lnf (c_ret (f_then_ret ?_)))))))))
  refine ret1 Tryz.results64 rfl ?_
  intro w hw
  exact⟨none,0,rfl,hw.emp (row_nil _ _ _)⟩
 |some ad=>
  refine c_region (lE oms (lv (v:= .bool false) (e_eql_snil (a:=(some ad)) rfl rfl tf11.ok) (lnf (c_no rfl (csk (csr ?_))))))
  refine l_mv rfl rfl rfl (m_slice0 tf12) ?_
  rintro _ _ ⟨b1,rfl,rfl⟩
  refine lE oms (l_conseq 0 (r':=row (.slice (some ⟨b1,0,none⟩) 0 0) 5 1 0 (BX [])) rfl (fun a h=>pt_row (m:=0) (by decide) rfl a h) ?_)
  refine l_mv rfl rfl rfl (m_appendE (enc:=fun c:UInt8=>Bx c) 0 bx_cell tf12 tf15 (v:= .slice (some ⟨b1,0,none⟩) 0 0) (xs:=[]) (ys:=xs) (ao:=(some ad)) (c:=vc) rfl rfl (by first|rfl|simp) rfl (by first|rfl|simp) (Knows.of_base (Elems.mono _ _ _) ve) (by first|omega|(simp only[List.length_append,List.length_nil,List.length_cons,be_length]at*;omega)) (by first|omega|(simp only[List.length_append,List.length_nil,List.length_cons,be_length]at*;omega))) ?_
  rintro _ _ ⟨rp2,rc3,rfl,rfl⟩
  refine lE oas (lnf (c_ret (ret1 Tryz.results64 rfl ?_)))
  intro w hw
  exact⟨_,_,rfl,st_mask [true] rfl hw⟩
set_option maxHeartbeats 4000000 in
theorem record_ok(β:Base)(w:World)(hw:St β [] w)(e:Int)(xs:Bs)(a:Option Addr)(c:Nat)(hl:xs.length≤c)(hm:c≤9223372036854775807)(he:Elems U8R β.heap a xs):Ret Tryz.prog 98 #[Ix e,sB a xs c] β w (.tuple #[Nx (recN xs),sB (recA a c xs) (recP xs) (recC c xs),.bool (recB e xs)]):=by
 refine enter (n:=68) Tryz.func98 rfl Tryz.ntmps98 rfl ?_ hw
 refine csr (lE oai (lE oas (lE oab (lnf (cs2 (c_region (lE oms (lE oln (lE olt (lnf (c_if _ rfl (fun hc1=> ?_) (fun hc1=> ?_))))))))))))
 ·refine csr (lE oai (lE oas (lE oab (lnf (c_ret (f_then_ret ?_))))))
  refine ret3 (v:= .int .i64 (0)) (v':= .slice none 0 0) (v'':= .bool false) Tryz.results98 rfl rfl rfl ?_
  intro w hw
  exact⟨rec_bad (.inl hc1),st_mask [] rfl hw⟩
 refine csk (c_seq (c_quiet (by kernel_rfl) (by kernel_rfl) (qE oms ?_)))
 obtain⟨zs2,hz3⟩:∃zs,zs=(xs.take 4):=⟨_,rfl⟩
 have zl4:zs2.length=min 4 (xs).length-0:=by rw[hz3];simp;try omega
 have ze5:=(Elems.take 4 he)
 rw[←hz3]at ze5
 refine q_val (v:= .slice a (zs2.length) (c)) rfl rfl rfl (ev_eq (by rw[show zs2.length=4 by omega]) (e_slice_hi (a:=a) (len:=xs.length) (cap:=c) (h:=4) tf12 rfl rfl (by omega))) ?_
 refine q_call (v:=Ux (wordU zs2)) rfl rfl rfl (cl0 (vs:=[sB a zs2 (c)]) tf19.ok rfl rfl) (fun w hw=> ?_) ?_
 ·obtain⟨β1,sb,kn,hw1,back⟩:=St.frame_all hw
  exact(word_ok β1 w hw1 zs2 _ (Sl.mono _ _ _ _ _ sb (⟨⟨_,_,rfl,by omega,by omega,ze5⟩⟩:Sl U8R _ _ zs2))).mono (fun e w' ⟨he,hw'⟩=>⟨he,st_mask [] rfl (back _ _ hw')⟩)
 refine qE oms ?_
 obtain⟨zs6,hz7⟩:∃zs,zs=((xs.take 8).drop 4):=⟨_,rfl⟩
 have zl8:zs6.length=min 8 (xs).length-4:=by rw[hz7];simp;try omega
 have ze9:=(Elems.drop (cap:=c) 4 (by first|omega|(simp;omega)) (Elems.take 8 he))
 rw[←hz7]at ze9
 refine q_val (v:= .slice (adv a c 4 1) (zs6.length) ((c-4))) rfl rfl rfl (ev_eq (by rw[show zs6.length=8-4 by omega]) (e_slice_lh (a:=a) (len:=xs.length) (cap:=c) (l:=4) (h:=8) tf12 rfl rfl rfl (by omega) (by omega))) ?_
 refine q_call (v:=Ux (wordU zs6)) rfl rfl rfl (cl0 (vs:=[sB (adv a c 4 1) zs6 ((c-4))]) tf19.ok rfl rfl) (fun w hw=> ?_) ?_
 ·obtain⟨β1,sb,kn,hw1,back⟩:=St.frame_all hw
  exact(word_ok β1 w hw1 zs6 _ (Sl.mono _ _ _ _ _ sb (⟨⟨_,_,rfl,by omega,by omega,ze9⟩⟩:Sl U8R _ _ zs6))).mono (fun e w' ⟨he,hw'⟩=>⟨he,st_mask [] rfl (back _ _ hw')⟩)
 refine qE oms ?_
 obtain⟨zs10,hz11⟩:∃zs,zs=((xs.take 16).drop 8):=⟨_,rfl⟩
 have zl12:zs10.length=min 16 (xs).length-8:=by rw[hz11];simp;try omega
 have ze13:=(Elems.drop (cap:=c) 8 (by first|omega|(simp;omega)) (Elems.take 16 he))
 rw[←hz11]at ze13
 refine q_val (v:= .slice (adv a c 8 1) (zs10.length) ((c-8))) rfl rfl rfl (ev_eq (by rw[show zs10.length=16-8 by omega]) (e_slice_lh (a:=a) (len:=xs.length) (cap:=c) (l:=8) (h:=16) tf12 rfl rfl rfl (by omega) (by omega))) ?_
 refine q_call (v:=Ux (wordU zs10)) rfl rfl rfl (cl0 (vs:=[sB (adv a c 8 1) zs10 ((c-8))]) tf19.ok rfl rfl) (fun w hw=> ?_) ?_
 ·obtain⟨β1,sb,kn,hw1,back⟩:=St.frame_all hw
  exact(word_ok β1 w hw1 zs10 _ (Sl.mono _ _ _ _ _ sb (⟨⟨_,_,rfl,by omega,by omega,ze13⟩⟩:Sl U8R _ _ zs10))).mono (fun e w' ⟨he,hw'⟩=>⟨he,st_mask [] rfl (back _ _ hw')⟩)
 refine qE oai (qE oai (qE oai (q_nil (fts (csr (lE omi (lE omi ?_)))))))
 refine lv (v:=Ux ((wordU zs2)^^^(wordU zs6))) (e_xor (a:=((wordU zs2).toNat:Int)) (b:=((wordU zs6).toNat:Int)) rfl rfl (ux_xor _ _)) ?_
 refine lE onq (lE omb (l_split (s:=28) rfl (fun hg14=> ?_) (fun hg14=> ?_)))
 ·refine skE (skE (lE oktb (lE omb ?_)))
  iterate 6 refine skE ?_
  refine lE oktb (lE omb (skE (skE (lE oktb (lnf (c_yes rfl (csr (lE oai (lE oas (lE oab (lnf (c_ret (f_then_ret ?_)))))))))))))
  refine ret3 (v:= .int .i64 (0)) (v':= .slice none 0 0) (v'':= .bool false) Tryz.results98 rfl rfl rfl ?_
  intro w hw
  subst hz3
  subst hz7
  subst hz11
  exact⟨rec_bad (.inr (.inl hg14)),st_mask [] rfl hw⟩
 refine gE omi (gE ogt (lE okfb (lE omb (l_split (s:=32) rfl (fun hg15=> ?_) (fun hg15=> ?_)))))
 ·iterate 6 refine skE ?_
  refine lE oktb (lE omb (skE (skE (lE oktb (lnf (c_yes rfl (csr (lE oai (lE oas (lE oab (lnf (c_ret (f_then_ret ?_)))))))))))))
  refine ret3 (v:= .int .i64 (0)) (v':= .slice none 0 0) (v'':= .bool false) Tryz.results98 rfl rfl rfl ?_
  intro w hw
  subst hz3
  subst hz7
  subst hz11
  exact⟨rec_bad (.inr (.inr (.inl hg15))),st_mask [] rfl hw⟩
 refine gE omi ?_
 refine g_val (v:=Nx ((wordU zs2).toNat)) rfl rfl rfl rfl rfl (e_conv (a:=((wordU zs2).toNat:Int)) rfl ⟨_,tf2⟩ tf1 (i64n rfl (by omega))) ?_
 refine gE oms (gE oln (gE omn (gE ogt (lE okfb (lE omb (l_split (s:=40) rfl (fun hg16=> ?_) (fun hg16=> ?_)))))))
 ·refine skE (skE (lE oktb (lnf (c_yes rfl (csr (lE oai (lE oas (lE oab (lnf (c_ret (f_then_ret ?_)))))))))))
  refine ret3 (v:= .int .i64 (0)) (v':= .slice none 0 0) (v'':= .bool false) Tryz.results98 rfl rfl rfl ?_
  intro w hw
  subst hz3
  subst hz7
  subst hz11
  exact⟨rec_bad (.inr (.inr (.inr (.inl hg16)))),st_mask [] rfl hw⟩
 refine gE omi (gE ogt (lE okfb (lnf (c_if _ rfl (fun hc17=> ?_) (fun hc17=> ?_)))))
 ·refine csr (lE oai (lE oas (lE oab (lnf (c_ret (f_then_ret ?_))))))
  refine ret3 (v:= .int .i64 (0)) (v':= .slice none 0 0) (v'':= .bool false) Tryz.results98 rfl rfl rfl ?_
  intro w hw
  subst hz3
  subst hz7
  subst hz11
  exact⟨rec_bad (.inr (.inr (.inr (.inr hc17)))),st_mask [] rfl hw⟩
 refine csk (csr (lE oms (lE omi (lv (v:=Nx ((wordU zs2).toNat)) (e_conv (a:=((wordU zs2).toNat:Int)) rfl ⟨_,tf2⟩ tf1 (i64n rfl (by omega))) ?_))))
 refine lv (v:=Nx (16+((wordU zs2).toNat))) (e_add rfl rfl (i64n (by omega) (by omega))) ?_
 obtain⟨zs18,hz19⟩:∃zs,zs=((xs.take (16+((wordU zs2).toNat))).drop 16):=⟨_,rfl⟩
 have zl20:zs18.length=min (16+((wordU zs2).toNat)) (xs).length-16:=by rw[hz19];simp;try omega
 have ze21:=(Elems.drop (cap:=c) 16 (by first|omega|(simp;omega)) (Elems.take (16+((wordU zs2).toNat)) he))
 rw[←hz19]at ze21
 refine lv (v:= .slice (adv a c 16 1) (zs18.length) ((c-16))) (ev_eq (by rw[show zs18.length=(16+((wordU zs2).toNat))-16 by omega]) (e_slice_lh (a:=a) (len:=xs.length) (cap:=c) (l:=16) (h:=16+((wordU zs2).toNat)) tf12 rfl rfl rfl (by omega) (by omega))) ?_
 refine lE oas (lnc (lE oms (lE omi ?_)))
 refine lv (v:=Nx ((wordU zs2).toNat)) (e_conv (a:=((wordU zs2).toNat:Int)) rfl ⟨_,tf2⟩ tf1 (i64n rfl (by omega))) ?_
 refine lv (v:=Nx (16+((wordU zs2).toNat))) (e_add rfl rfl (i64n (by omega) (by omega))) (lE omi ?_)
 refine lv (v:=Nx ((wordU zs2).toNat)) (e_conv (a:=((wordU zs2).toNat:Int)) rfl ⟨_,tf2⟩ tf1 (i64n rfl (by omega))) ?_
 refine lv (v:=Nx (24+((wordU zs2).toNat))) (e_add rfl rfl (i64n (by omega) (by omega))) ?_
 obtain⟨zs22,hz23⟩:∃zs,zs=((xs.take (24+((wordU zs2).toNat))).drop (16+((wordU zs2).toNat))):=⟨_,rfl⟩
 have zl24:zs22.length=min (24+((wordU zs2).toNat)) (xs).length-(16+((wordU zs2).toNat)):=by rw[hz23];simp;try omega
 have ze25:=(Elems.drop (cap:=c) (16+((wordU zs2).toNat)) (by first|omega|(simp;omega)) (Elems.take (24+((wordU zs2).toNat)) he))
 rw[←hz23]at ze25
 refine lv (v:= .slice (adv a c (16+((wordU zs2).toNat)) 1) (zs22.length) ((c-(16+((wordU zs2).toNat))))) (ev_eq (by rw[show zs22.length=(24+((wordU zs2).toNat))-(16+((wordU zs2).toNat)) by omega]) (e_slice_lh (a:=a) (len:=xs.length) (cap:=c) (l:=16+((wordU zs2).toNat)) (h:=24+((wordU zs2).toNat)) tf12 rfl rfl rfl (by omega) (by omega))) ?_
 refine lcR clA (fun w β1 sb kn hw1=>word_ok β1 w hw1 zs22 _ (Sl.mono _ _ _ _ _ sb (⟨⟨_,_,rfl,by omega,by omega,ze25⟩⟩:Sl U8R _ _ zs22))) ?_
 refine lE oai (lnc (lE omi (lv (v:=Nx ((wordU zs10).toNat)) (e_conv (a:=((wordU zs10).toNat:Int)) rfl ⟨_,tf2⟩ tf1 (i64n rfl (by omega))) ?_)))
 refine lE oms (lE omi (lE omi (lE omi ?_)))
 refine lv (v:=Nx ((wordU zs10).toNat)) (e_conv (a:=((wordU zs10).toNat:Int)) rfl ⟨_,tf2⟩ tf1 (i64n rfl (by omega))) (lE oms ?_)
 refine lcR clA (fun w β1 sb kn hw1=>check_ok β1 w hw1 (e) (((wordU zs10).toNat:Nat):Int) zs18 _ (Sl.mono _ _ _ _ _ sb (⟨⟨_,_,rfl,by omega,by omega,ze21⟩⟩:Sl U8R _ _ zs18))) ?_
 refine lE oeq_ (lE oai (lE oas (lE oab (lnf (c_ret ?_)))))
 refine ret3 (v:=Nx ((wordU zs10).toNat)) (v':=sB (adv a c 16 1) zs18 ((c-16))) (v'':= .bool (decide (((wordU zs22).toNat:Int)=((chkU (e) (((wordU zs10).toNat:Nat):Int) zs18).toNat:Int)))) Tryz.results98 rfl rfl rfl ?_
 intro w hw
 subst hz3
 subst hz7
 subst hz11
 subst hz19
 subst hz23
 have hok:¬rbad xs:=by
  rintro(q|q|q|q|q)
  ·exact hc1 q
  ·exact hg14 q
  ·exact hg15 q
  ·exact hg16 q
  ·exact hc17 q
 exact⟨rec_good hok,st_mask [] rfl hw⟩
set_option maxHeartbeats 4000000 in
theorem valid_ok(β:Base)(w:World)(hw:St β [] w)(k:KS)(vh va vb:Value)(hH:Sl U8R β.heap vh k.head)(hA:Sl U8R β.heap va k.a)(hB:Sl U8R β.heap vb k.b):Ret Tryz.prog 96 #[.agg #[vh,va,vb,Ix k.power]] β w (.bool (decide k.okP)):=by
 obtain⟨vha,vhc,rfl,vhl,vhm,vhe⟩:=hH.get
 obtain⟨vaa,vac,rfl,val,vam,vae⟩:=hA.get
 obtain⟨vba,vbc,rfl,vbl,vbm,vbe⟩:=hB.get
 refine enter (n:=30) Tryz.func96 rfl Tryz.ntmps96 rfl ?_ hw
 refine csr (bxa fun b1=> ?_)
 refine lE oab (lnc (lE ofp (lE (ols 0) (lE oln (lE oeq_ (lE omb (l_split (s:=7) rfl (fun hg2=> ?_) (fun hg2=> ?_))))))))
 ·refine skE (skE (skE (skE (lE oktb (lE omb (gE ofp (gE (ols 0) (gE oln (gE ole (lE oktb (lE omb ?_)))))))))))
  refine l_split (s:=19) rfl (fun hg3=> ?_) (fun hg3=> ?_)
  ·refine gE ofp (gE (ols 0) (gE oln (gE ole (lE oktb (lE omb (l_split (s:=25) rfl (fun hg4=> ?_) (fun hg4=> ?_)))))))
   ·refine gE ofp (gE (oli 0) (gE oge (lE oktb (lE oab (lnf (c_ret (ret1 Tryz.results96 rfl ?_)))))))
    intro w hw
    exact⟨bool_d (by unfold KS.okP;omega),st_mask [false] rfl hw⟩
   refine skE (skE (skE (lE okfb (lE oab (lnf (c_ret (ret1 Tryz.results96 rfl ?_)))))))
   intro w hw
   exact⟨bool_f (by unfold KS.okP;omega),st_mask [false] rfl hw⟩
  refine skE (skE (skE (skE (lE okfb (lE omb (skE (skE (skE (lE okfb (lE oab (lnf (c_ret (ret1 Tryz.results96 rfl ?_)))))))))))))
  intro w hw
  exact⟨bool_f (by unfold KS.okP;omega),st_mask [false] rfl hw⟩
 refine gE ofp (gE (ols 0) (gE oln (gE oeq_ (lE okfb (lE omb (l_split (s:=13) rfl (fun hg5=> ?_) (fun hg5=> ?_)))))))
 ·refine gE ofp (gE (ols 0) (gE oln (gE ole (lE oktb (lE omb (l_split (s:=19) rfl (fun hg6=> ?_) (fun hg6=> ?_)))))))
  ·refine gE ofp (gE (ols 0) (gE oln (gE ole (lE oktb (lE omb (l_split (s:=25) rfl (fun hg7=> ?_) (fun hg7=> ?_)))))))
   ·refine gE ofp (gE (oli 0) (gE oge (lE oktb (lE oab (lnf (c_ret (ret1 Tryz.results96 rfl ?_)))))))
    intro w hw
    exact⟨bool_d (by unfold KS.okP;omega),st_mask [false] rfl hw⟩
   refine skE (skE (skE (lE okfb (lE oab (lnf (c_ret (ret1 Tryz.results96 rfl ?_)))))))
   intro w hw
   exact⟨bool_f (by unfold KS.okP;omega),st_mask [false] rfl hw⟩
  refine skE (skE (skE (skE (lE okfb (lE omb (skE (skE (skE (lE okfb (lE oab (lnf (c_ret (ret1 Tryz.results96 rfl ?_)))))))))))))
  intro w hw
  exact⟨bool_f (by unfold KS.okP;omega),st_mask [false] rfl hw⟩
 refine skE (skE (skE (skE (lE okfb (lE omb (skE (skE (skE (skE (lE okfb (lE omb (skE (skE (skE (lE okfb (lE oab (lnf (c_ret ?_))))))))))))))))))
 refine ret1 Tryz.results96 rfl ?_
 intro w hw
 exact⟨bool_f (by unfold KS.okP;omega),st_mask [false] rfl hw⟩
set_option maxHeartbeats 4000000 in
theorem epoch_ok(β:Base)(w:World)(hw:St β [] w)(xs:Bs)(v:Value)(hx:xs.length≤4294967296)(hs:Sl U8R β.heap v xs):Ret Tryz.prog 97 #[v] β w (Nx (epochF xs)):=by
 obtain⟨va,vc,rfl,vl,vm,ve⟩:=hs.get
 refine enter (n:=52) Tryz.func97 rfl Tryz.ntmps97 rfl ?_ hw
 refine csr (lv e_assign (lnc (lv e_assign (lnf (cs2 (c_region (lv e_assign (lnf (c_block ?_)))))))))
 refine c_loop (fun(j:Nat) f L=>(f 0=sB va xs (vc)∧f 3=Ux (epLoop xs j)∧f 4=Nx (j*16))∧L=[]∧(j*16≤xs.length)) (fun j=>xs.length-j*16) 0 ?_ ?_
 ·exact⟨⟨rfl,rfl,rfl⟩,rfl,(by omega)⟩
 rintro j f0 L0 ⟨⟨hs0,hs3,hs4⟩,hL,hj⟩
 subst L0
 refine rbs 0 hs0 (rbs 3 hs3 (rbs 4 hs4 ?_))
 have hlt:=epLoop_lt xs j
 refine cs2 (c_region (lv e_move (lv (v:=Nx ((j*16)+16)) (e_add rfl rfl (i64n (by omega) (by omega))) (lv e_move ?_))))
 refine lv (v:=Nx (xs.length)) (e_len rfl tf11.ok) (lv (e_leq rfl rfl) (lnf (c_if _ rfl (fun hc1=> ?_) (fun hc1=> ?_))))
 ·refine csk (c_seq (c_block (c_seq (c_quiet (by kernel_rfl) (by kernel_rfl) (q_val (v:=sB va xs (vc)) rfl rfl rfl e_move ?_)))))
  refine q_val (v:=Nx (j*16)) rfl rfl rfl e_move (q_val (v:=Nx (j*16)) rfl rfl rfl e_move ?_)
  refine q_val (v:=Nx ((j*16)+8)) rfl rfl rfl (e_add rfl rfl (i64n (by omega) (by omega))) ?_
  obtain⟨zs2,hz3⟩:∃zs,zs=((xs.take ((j*16)+8)).drop (j*16)):=⟨_,rfl⟩
  have zl4:zs2.length=min ((j*16)+8) (xs).length-(j*16):=by rw[hz3];simp;try omega
  have ze5:=(Elems.drop (cap:=vc) (j*16) (by first|omega|(simp;omega)) (Elems.take ((j*16)+8) ve))
  rw[←hz3]at ze5
  refine q_val (v:= .slice (adv va vc (j*16) 1) (zs2.length) ((vc-(j*16)))) rfl rfl rfl (ev_eq (by rw[show zs2.length=((j*16)+8)-(j*16) by omega]) (e_slice_lh (a:=va) (len:=xs.length) (cap:=vc) (l:=j*16) (h:=(j*16)+8) tf12 rfl rfl rfl (by omega) (by omega))) ?_
  refine q_call (v:=Ux (wordU zs2)) rfl rfl rfl (cl0 (vs:=[sB (adv va vc (j*16) 1) zs2 ((vc-(j*16)))]) tf19.ok rfl rfl) (fun w hw=> ?_) ?_
  ·obtain⟨β1,sb,kn,hw1,back⟩:=St.frame_all hw
   exact(word_ok β1 w hw1 zs2 _ (Sl.mono _ _ _ _ _ sb (⟨⟨_,_,rfl,by omega,by omega,ze5⟩⟩:Sl U8R _ _ zs2))).mono (fun e w' ⟨he,hw'⟩=>⟨he,st_mask [] rfl (back _ _ hw')⟩)
  refine q_val (v:=sB va xs (vc)) rfl rfl rfl e_move (q_val (v:=Nx (j*16)) rfl rfl rfl e_move ?_)
  refine q_val (v:=Nx ((j*16)+8)) rfl rfl rfl (e_add rfl rfl (i64n (by omega) (by omega))) (q_val (v:=Nx (j*16)) rfl rfl rfl e_move ?_)
  refine q_val (v:=Nx ((j*16)+16)) rfl rfl rfl (e_add rfl rfl (i64n (by omega) (by omega))) ?_
  obtain⟨zs6,hz7⟩:∃zs,zs=((xs.take ((j*16)+16)).drop ((j*16)+8)):=⟨_,rfl⟩
  have zl8:zs6.length=min ((j*16)+16) (xs).length-((j*16)+8):=by rw[hz7];simp;try omega
  have ze9:=(Elems.drop (cap:=vc) ((j*16)+8) (by first|omega|(simp;omega)) (Elems.take ((j*16)+16) ve))
  rw[←hz7]at ze9
  refine q_val (v:= .slice (adv va vc ((j*16)+8) 1) (zs6.length) ((vc-((j*16)+8)))) rfl rfl rfl (ev_eq (by rw[show zs6.length=((j*16)+16)-((j*16)+8) by omega]) (e_slice_lh (a:=va) (len:=xs.length) (cap:=vc) (l:=(j*16)+8) (h:=(j*16)+16) tf12 rfl rfl rfl (by omega) (by omega))) ?_
  refine q_call (v:=Ux (wordU zs6)) rfl rfl rfl (cl0 (vs:=[sB (adv va vc ((j*16)+8) 1) zs6 ((vc-((j*16)+8)))]) tf19.ok rfl rfl) (fun w hw=> ?_) ?_
  ·obtain⟨β1,sb,kn,hw1,back⟩:=St.frame_all hw
   exact(word_ok β1 w hw1 zs6 _ (Sl.mono _ _ _ _ _ sb (⟨⟨_,_,rfl,by omega,by omega,ze9⟩⟩:Sl U8R _ _ zs6))).mono (fun e w' ⟨he,hw'⟩=>⟨he,st_mask [] rfl (back _ _ hw')⟩)
  refine q_val (v:=Ux (wordU zs2)) rfl rfl rfl e_assign (q_val (v:=Ux (wordU zs6)) rfl rfl rfl e_assign (q_nil (ftc (lv e_move (lv e_move ?_)))))
  refine lv (e_gtr rfl rfl) (lv e_move (l_split (s:=30) rfl (fun hg10=> ?_) (fun hg10=> ?_)))
  ·refine g_val (v:=Ux (wordU zs2)) rfl rfl rfl rfl rfl e_move (g_val rfl rfl rfl rfl rfl (e_lss rfl rfl) ?_)
   refine lv (v:= .bool (decide (((wordU zs2).toNat:Int)<(4611686018427387904:Int)))) (e_pick_t rfl) (lv e_move ?_)
   refine l_split (s:=34) rfl (fun hg11=> ?_) (fun hg11=> ?_)
   ·refine g_val (v:=Ux (wordU zs2)) rfl rfl rfl rfl rfl e_move ?_
    refine g_val (v:=Ux ((wordU zs2)%(2:UInt64))) rfl rfl rfl rfl rfl (e_rem (a:=((wordU zs2).toNat:Int)) (b:=((2:UInt64).toNat:Int)) rfl rfl (by decide) (ux_rem _ _)) ?_
    refine g_val (v:=Nx (j*16)) rfl rfl rfl rfl rfl e_move ?_
    refine g_val (v:=Nx ((j*16)/16)) rfl rfl rfl rfl rfl (e_quo (a:=((j*16:Nat):Int)) (b:=(16:Int)) rfl rfl (by decide) (i64n (nat_tdiv _ 16) (by omega))) ?_
    refine g_val (v:=Ux (U (((j*16)/16:Nat):Int))) rfl rfl rfl rfl rfl (e_conv (a:=(((j*16)/16:Nat):Int)) rfl ⟨_,tf1⟩ tf2 (ux_of _)) ?_
    refine g_val rfl rfl rfl rfl rfl (e_eql rfl rfl) ?_
    refine lv (v:= .bool (decide ((((wordU zs2)%(2:UInt64)).toNat:Int)=((U (((j*16)/16:Nat):Int)).toNat:Int)))) (e_pick_t rfl) ?_
    refine lv e_move (l_split (s:=42) rfl (fun hg12=> ?_) (fun hg12=> ?_))
    ·refine g_val (v:=Ux (wordU zs6)) rfl rfl rfl rfl rfl e_move (g_val (v:=Ux (wordU zs2)) rfl rfl rfl rfl rfl e_move ?_)
     refine g_val (v:=Nx ((wordU zs2).toNat)) rfl rfl rfl rfl rfl (e_conv (a:=((wordU zs2).toNat:Int)) rfl ⟨_,tf2⟩ tf1 (i64n rfl (by omega))) ?_
     refine g_call rfl rfl rfl rfl rfl (cl0 (vs:=[Nx ((wordU zs2).toNat)]) tf26.ok rfl rfl) ?_
     intro w hw
     obtain⟨β1,sb,kn,hw1,back⟩:=St.frame_all hw
     refine(tick_ok β1 w hw1 (((wordU zs2).toNat:Nat):Int)).mono ?_
     rintro e w' ⟨rfl,hw'⟩
     refine⟨_,rfl,_,back _ _ hw',?_⟩
     clear hw hw1 hw' back kn sb
     refine g_val rfl rfl rfl rfl rfl (e_eql rfl rfl) ?_
     refine lv (v:= .bool (decide (((wordU zs6).toNat:Int)=((tickU (((wordU zs2).toNat:Nat):Int)).toNat:Int)))) (e_pick_t rfl) (lnf ?_)
     refine c_if _ rfl (fun hc13=> ?_) (fun hc13=> ?_)
     ·refine c_region (lv e_move (lv e_assign (l_nil (f_block (f_then (c_region (lv e_move ?_)))))))
      refine lv (v:=Nx ((j*16)+16)) (e_add rfl rfl (i64n (by omega) (by omega))) (lv e_assign (l_nil ?_))
      exact f_cut ⟨j+1,⟨⟨rfl,(show Ux (wordU zs2)=Ux (epLoop xs (j+1)) by subst hz3;subst hz7;exact congrArg (fun x:UInt64=>Ux x) (ep_yes (by omega) (by omega) hg12 hc13).symm),(congrArg (fun z:Nat=>Nx z) (by omega))⟩,rfl,(by omega)⟩,(show xs.length-(j+1)*16<xs.length-j*16 from by omega)⟩
     refine c_skip (f_block (f_then (c_region (lv e_move (lv (v:=Nx ((j*16)+16)) (e_add rfl rfl (i64n (by omega) (by omega))) (lv e_assign (l_nil ?_)))))))
     exact f_cut ⟨j+1,⟨⟨rfl,(show Ux (epLoop xs j)=Ux (epLoop xs (j+1)) by subst hz3;subst hz7;exact congrArg (fun x:UInt64=>Ux x) (ep_no3 hc13).symm),(congrArg (fun z:Nat=>Nx z) (by omega))⟩,rfl,(by omega)⟩,(show xs.length-(j+1)*16<xs.length-j*16 from by omega)⟩
    refine l_skip rfl rfl rfl rfl rfl rfl (l_skip rfl rfl rfl rfl rfl rfl (l_skip rfl rfl rfl rfl rfl rfl (l_skip rfl rfl rfl rfl rfl rfl ?_)))
    refine l_skip rfl rfl rfl rfl rfl rfl (lv (v:= .bool false) (e_pick_f rfl) (lnf (c_no rfl (c_skip (f_block (f_then (c_region (lv e_move ?_))))))))
    refine lv (v:=Nx ((j*16)+16)) (e_add rfl rfl (i64n (by omega) (by omega))) (lv e_assign (l_nil ?_))
    exact f_cut ⟨j+1,⟨⟨rfl,(show Ux (epLoop xs j)=Ux (epLoop xs (j+1)) by subst hz3;subst hz7;exact congrArg (fun x:UInt64=>Ux x) (ep_no2 hg12).symm),(congrArg (fun z:Nat=>Nx z) (by omega))⟩,rfl,(by omega)⟩,(show xs.length-(j+1)*16<xs.length-j*16 from by omega)⟩
   refine l_skip rfl rfl rfl rfl rfl rfl (l_skip rfl rfl rfl rfl rfl rfl (l_skip rfl rfl rfl rfl rfl rfl (l_skip rfl rfl rfl rfl rfl rfl ?_)))
   refine l_skip rfl rfl rfl rfl rfl rfl (l_skip rfl rfl rfl rfl rfl rfl (lv (v:= .bool false) (e_pick_f rfl) (lv e_move ?_)))
   refine l_skip rfl rfl rfl rfl rfl rfl (l_skip rfl rfl rfl rfl rfl rfl (l_skip rfl rfl rfl rfl rfl rfl (l_skip rfl rfl rfl rfl rfl rfl ?_)))
   refine l_skip rfl rfl rfl rfl rfl rfl (lv (v:= .bool false) (e_pick_f rfl) (lnf (c_no rfl (c_skip (f_block (f_then (c_region (lv e_move ?_))))))))
   refine lv (v:=Nx ((j*16)+16)) (e_add rfl rfl (i64n (by omega) (by omega))) (lv e_assign (l_nil ?_))
   exact f_cut ⟨j+1,⟨⟨rfl,(show Ux (epLoop xs j)=Ux (epLoop xs (j+1)) by subst hz3;subst hz7;exact congrArg (fun x:UInt64=>Ux x) (ep_no1 hg11).symm),(congrArg (fun z:Nat=>Nx z) (by omega))⟩,rfl,(by omega)⟩,(show xs.length-(j+1)*16<xs.length-j*16 from by omega)⟩
  refine l_skip rfl rfl rfl rfl rfl rfl (l_skip rfl rfl rfl rfl rfl rfl (lv (v:= .bool false) (e_pick_f rfl) (lv e_move ?_)))
  refine l_skip rfl rfl rfl rfl rfl rfl (l_skip rfl rfl rfl rfl rfl rfl (l_skip rfl rfl rfl rfl rfl rfl (l_skip rfl rfl rfl rfl rfl rfl ?_)))
  refine l_skip rfl rfl rfl rfl rfl rfl (l_skip rfl rfl rfl rfl rfl rfl (lv (v:= .bool false) (e_pick_f rfl) (lv e_move ?_)))
  refine l_skip rfl rfl rfl rfl rfl rfl (l_skip rfl rfl rfl rfl rfl rfl (l_skip rfl rfl rfl rfl rfl rfl (l_skip rfl rfl rfl rfl rfl rfl ?_)))
  refine l_skip rfl rfl rfl rfl rfl rfl (lv (v:= .bool false) (e_pick_f rfl) (lnf (c_no rfl (c_skip (f_block (f_then (c_region (lv e_move ?_))))))))
  refine lv (v:=Nx ((j*16)+16)) (e_add rfl rfl (i64n (by omega) (by omega))) (lv e_assign (l_nil ?_))
  exact f_cut ⟨j+1,⟨⟨rfl,(show Ux (epLoop xs j)=Ux (epLoop xs (j+1)) by subst hz3;subst hz7;exact congrArg (fun x:UInt64=>Ux x) (ep_no0 hg10).symm),(congrArg (fun z:Nat=>Nx z) (by omega))⟩,rfl,(by omega)⟩,(show xs.length-(j+1)*16<xs.length-j*16 from by omega)⟩
 refine c_exit (f_then_exit (f_then_exit (f_exit (fts ?_))))
 have hlt:=epLoop_lt xs j
 refine c_region (lv e_move (lv (v:=Nx ((epLoop xs j).toNat)) (e_conv (a:=((epLoop xs j).toNat:Int)) rfl ⟨_,tf2⟩ tf1 (i64n rfl (by omega))) ?_))
 refine lv e_assign (lnf (c_ret (ret1 Tryz.results97 rfl ?_)))
 intro w hw
 rw[show j=xs.length/16 by omega]
 exact⟨rfl,st_mask [] rfl hw⟩
theorem areas_ok(β:Base)(w:World)(hw:St β [] w)(S:Nat):Ret Tryz.prog 62 #[pp S 0] β w (.agg #[pp S 1,pp S 2]):=by
 refine enter (n:=10) Tryz.func62 rfl Tryz.ntmps62 rfl ?_ hw
 refine csr (alE fun b1=>lnf (c_seq ?_))
 refine cnz [sv 3 (pp S 0) [] [] [0],sv 4 (pp S 0) [0] [0] [],sv 5 (pp S 1) [0,1] [1] [],sv 6 (pp S 0) [] [] [0],sv 7 (pp S 0) [3] [3] [],sv 8 (pp S 2) [3,4] [4] [],sv 9 (.agg #[pp S 1,pp S 2]) (List.range 6) [2,5] [],⟨(List.range 7),[6],[1],[],fun _=>True⟩] [(some 7,[7])] [⟨(some 7),none,[],[],fun _=>pt b1 (.cells #[pp S 1,pp S 2] 124)⟩] [(0,pp S 0),(2,pp b1 0)] [1] ⟨rfl,rfl,trivial⟩ ⟨?_,?_,?_,?_,?_,?_,?_,?_,trivial⟩ ?_
 ·rintro f M-⟨i0,-⟩
  exact obE omp
 ·rintro f M ⟨k0,-⟩-
  exact obE onp
 ·rintro f M ⟨k0,-⟩-
  exact obE ofp
 ·rintro f M-⟨i0,-⟩
  exact obE omp
 ·rintro f M ⟨k0,-⟩-
  exact obE onp
 ·rintro f M ⟨k0,-⟩-
  exact obE ofp
 ·rintro f M ⟨k0,k1,-⟩-
  exact ob0 (up_cons (d:=8) (up_cons (d:=5) rfl k0) k1) rfl (e_build_a tf27.ok tf28.ok (vs:=[(0,pp S 1),(1,pp S 2)]) (cells:= #[pp S 1,pp S 2]) rfl rfl) (.refl _)
 ·rintro f M ⟨k0,-⟩ ⟨i0,-⟩
  refine obS (up_cons (d:=9) (up_cons (d:=2) rfl i0) k0) ?_
  refine lu (mS 0 (#[pp S 1,pp S 2])) (l_nil ?_)
  exact f_owes_n (up_cons (d:=9) (up_cons (d:=2) rfl i0) k0) trivial (perm_front 0 rfl)
 rintro fa2 ⟨-,-,-,-,-,-,-,-,-⟩ ⟨j0,-⟩
 refine fre ?_
 refine f_rebase (d:=2) j0 (ftr (retG (m:=[.agg #[pp S 1,pp S 2]]) Tryz.results62 ⟨rd_cell tf29.ok rfl (k_pt 0 rfl rfl) rfl,trivial⟩ rfl ?_))
 intro w hw
 exact⟨rfl,st_mask [false] rfl hw⟩
end Go.Proofs
