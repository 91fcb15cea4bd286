/-
 Pairs collected and sorted. Printed by a program of my own.
-/
import Derived.Test.YtmgpmgckbcjalaaGreatBr3
namespace Go.Proofs
open Go Go.Sl Go.Brd
theorem sortP_len(xs:List KP):(sortP xs).length=xs.length:=(sortP_perm xs).length_eq
theorem tf35:tyB Tryz.prog 55 true 2=true:=by kernel_rfl
theorem tf36:tyB Tryz.prog 38 false 1=true:=by kernel_rfl
theorem tf37:slB Tryz.prog 38 55 2=true:=by kernel_rfl
theorem tf38:elB Tryz.prog 55 2 16=true:=by kernel_rfl
theorem tf39:cfB Tryz.prog 99=true:=by kernel_rfl
theorem tf40:cfB Tryz.prog 59=true:=by kernel_rfl
theorem tf41:cfB Tryz.prog 41=true:=by kernel_rfl
theorem appendSeq_ok(β:Base)(w:World)(fn:Value)(S:List KP→Prop)(K:List Res)(hs:SeqK Tryz.prog β fn (fun z:KP=>[.agg #[Ix (z.a),Ix (z.b)]]) S K)(hB:∀l,S l→l.length≤1048576)(hw:St β K w):Calls Tryz.prog 99 #[.slice none 0 0,fn] w fun r w'=>∃p c xs,S xs∧r= .returned (.slice p xs.length c)∧St β [rowF PairF 55 p c xs] w':=by
 refine enterM (n:=13) Tryz.func99 rfl Tryz.ntmps99 rfl ?_ hw
 refine c_seq ?_
 refine c_region ?_
 refine l_mv rfl rfl rfl (m_box (v:= .slice none 0 0) rfl) ?_
 rintro _ _ ⟨b1,rfl,rfl⟩
 refine l_val (v:= .slice none 0 0) rfl rfl rfl (e_assign) ?_
 refine l_nil ?_
 refine f_then ?_
 refine c_seq ?_
 refine c_seq ?_
 refine c_emp (r:=rowF PairF 55 none 0 []) (row_nil _ _ _) ?_
 refine c_region ?_
 refine l_val (v:=fn) rfl rfl rfl (e_move) ?_
 refine l_nil ?_
 refine f_then ?_
 refine c_block ?_
 refine c_rangeK (L:=[rowF PairF 55 none 0 [],pt b1 (.cells #[.slice none 0 0] 38)]) (K:=K) (α:=KP) (enc:=fun z:KP=>[.agg #[Ix (z.a),Ix (z.b)]]) (S:=S) (ps:=[7]) (I:=fun(pre:List (KP)) (L:List Res)=>∃(p:Option Addr),∃(c:Nat),L=[rowF PairF 55 p c pre,pt b1 (.cells #[.slice p (pre.length) c] 38)]∧(True)) (X:=fun _ _ _=>False) rfl (hs) (fun _=>rfl) rfl ⟨none,0,rfl,trivial⟩ ?_ ?_ ?_
 ·rintro l β1 pre x M ext hpre ⟨p,c,rfl,-⟩
  have hpl:pre.length≤1048576:=by obtain⟨l,h1,h2⟩:=hpre;have h3:=h2.length_le;have h4:=hB l h1;rw[List.length_append]at h3;omega
  refine c_region ?_
  refine l_mv rfl rfl rfl (m_alloc tf33) ?_
  rintro _ _ ⟨b2,rfl,rfl⟩
  refine l_mu rfl rfl (m_store 0 tf35 (b:=b2) (o:=0) (T:=55) (cs:= #[.int .i64 (0),.int .i64 (0)]) (cs':= #[Ix (x.a),Ix (x.b)]) (v:= .agg #[Ix (x.a),Ix (x.b)]) rfl rfl rfl rfl rfl rfl rfl) ?_
  refine l_nil ?_
  refine f_cut (fun β2 ext2=> ?_)
  refine c_block ?_
  refine c_region ?_
  refine l_val (v:= .slice p (pre.length) c) rfl rfl rfl (e_load1 tf36 (v:= .slice p (pre.length) c) rfl (k_pt 2 (cs:= #[.slice p (pre.length) c]) (vs:=[.slice p (pre.length) c]) rfl rfl)) ?_
  refine l_val (v:= .agg #[Ix (x.a),Ix (x.b)]) rfl rfl rfl (e_load tf35 (cs:=[Ix (x.a),Ix (x.b)]) rfl (k_pt 0 (cs:= #[Ix (x.a),Ix (x.b)]) (vs:=[Ix (x.a),Ix (x.b)]) rfl rfl) rfl) ?_
  refine l_mv rfl rfl rfl (m_slices tf37 tf33 (vs:=[(0,.agg #[Ix (x.a),Ix (x.b)])]) (cells:= #[Ix (x.a),Ix (x.b)]) rfl rfl rfl rfl) ?_
  rintro _ _ ⟨b3,rfl,rfl⟩
  refine l_mv rfl rfl rfl (m_appendFlN (F:=PairF) 2 tf37 tf38 (p:=p) (m:=pre.length) (xs:=pre) (ys:=[x]) (ao:=(some ⟨b3,0,none⟩)) (k:=1) (c:=1) rfl rfl rfl rfl rfl (k_ptFl (z:=x) 0 rfl rfl) (by first|omega|simp only[List.length_nil,List.length_cons,List.length_append,List.length_set];omega) (by first|omega|simp only[List.length_nil,List.length_cons,List.length_append,List.length_set];omega)) ?_
  rintro _ _ ⟨rp4,rc5,rfl,rfl⟩
  refine l_mu rfl rfl (m_store 3 tf36 (b:=b1) (o:=0) (T:=38) (cs:= #[.slice p (pre.length) c]) (cs':= #[.slice rp4 ((pre++[x]).length) rc5]) (v:= .slice rp4 ((pre++[x]).length) rc5) rfl rfl rfl rfl rfl rfl rfl) ?_
  refine l_nil ?_
  refine f_block ?_
  refine f_mask (L':=[rowF PairF 55 rp4 rc5 (pre++[x]),pt b1 (.cells #[.slice rp4 ((pre++[x]).length) rc5] 38)]) [false,false,true,true] rfl ?_
  exact fun a w ha hw=>⟨_,⟨rp4,rc5,rfl,trivial⟩,hw⟩
 ·rintro D1 ys1 M hS1 ⟨p,c,rfl,-⟩
  refine f_block ?_
  refine f_then ?_
  refine c_seq ?_
  refine c_region ?_
  refine l_val (v:= .slice p (ys1.length) c) rfl rfl rfl (e_load1 tf36 (v:= .slice p (ys1.length) c) rfl (k_pt 1 (cs:= #[.slice p (ys1.length) c]) (vs:=[.slice p (ys1.length) c]) rfl rfl)) ?_
  refine l_val (v:= .slice p (ys1.length) c) rfl rfl rfl (e_assign) ?_
  refine l_nil ?_
  refine f_then ?_
  refine c_ret ?_
  refine retM 2 rfl Tryz.results99 (v:= .slice p (ys1.length) c) rfl ?_
  intro w hw
  exact⟨p,c,ys1,hS1,rfl,st_mask [true,false,false] rfl hw⟩
 ·intro D c pre M h;exact h.elim
theorem collect_ok(β:Base)(w:World)(fn:Value)(S:List KP→Prop)(K:List Res)(hs:SeqK Tryz.prog β fn (fun z:KP=>[.agg #[Ix (z.a),Ix (z.b)]]) S K)(hB:∀l,S l→l.length≤1048576)(hw:St β K w):Calls Tryz.prog 59 #[fn] w fun r w'=>∃p c xs,S xs∧r= .returned (.slice p xs.length c)∧St β [rowF PairF 55 p c xs] w':=by
 refine enter (n:=5) Tryz.func59 rfl Tryz.ntmps59 rfl ?_ hw
 refine c_seq ?_
 refine c_region ?_
 refine l_val (v:= .slice none 0 0) rfl rfl rfl (e_assign) ?_
 refine l_nil ?_
 refine f_then ?_
 refine c_seq ?_
 refine c_region ?_
 refine l_val (v:=fn) rfl rfl rfl (e_move) ?_
 refine l_call rfl rfl rfl (cl_value (fst:=[]) (cap:=[]) (vs:=[.slice none 0 0,fn]) (all:=[.slice none 0 0,fn]) tf39 rfl rfl rfl) ?_
 intro w hw
 refine(appendSeq_ok β w fn S K hs hB hw).mono ?_
 rintro e w' ⟨p,c,xs,hS,rfl,hw'⟩
 refine⟨_,rfl,_,hw',?_⟩
 clear hw hw'
 refine l_val (v:= .slice p (xs.length) c) rfl rfl rfl (e_assign) ?_
 refine l_nil ?_
 refine f_then ?_
 refine c_ret ?_
 refine ret1 Tryz.results59 (v:= .slice p (xs.length) c) rfl ?_
 intro w hw
 exact⟨p,c,xs,hS,rfl,st_mask [true] rfl hw⟩
theorem sorted_ok(β:Base)(w:World)(fn:Value)(S:List KP→Prop)(K:List Res)(hs:SeqK Tryz.prog β fn (fun z:KP=>[.agg #[Ix (z.a),Ix (z.b)]]) S K)(hB:∀l,S l→l.length≤1048576)(hw:St β K w):Calls Tryz.prog 43 #[fn,.func (.func 42) #[] #[]] w fun r w'=>∃p c xs,S xs∧r= .returned (.slice p (sortP xs).length c)∧St β [rowF PairF 55 p c (sortP xs)] w':=by
 refine enter (n:=12) Tryz.func43 rfl Tryz.ntmps43 rfl ?_ hw
 refine c_seq ?_
 refine c_region ?_
 refine l_val (v:= .slice none 0 0) rfl rfl rfl (e_assign) ?_
 refine l_nil ?_
 refine f_then ?_
 refine c_seq ?_
 refine c_region ?_
 refine l_val (v:=fn) rfl rfl rfl (e_move) ?_
 refine l_call rfl rfl rfl (cl_value (fst:=[]) (cap:=[]) (vs:=[fn]) (all:=[fn]) tf40 rfl rfl rfl) ?_
 intro w hw
 refine(collect_ok β w fn S K hs hB hw).mono ?_
 rintro e w' ⟨p,c,xs,hS,rfl,hw'⟩
 refine⟨_,rfl,_,hw',?_⟩
 clear hw hw'
 refine l_val (v:= .slice p (xs.length) c) rfl rfl rfl (e_assign) ?_
 refine l_nil ?_
 refine f_then ?_
 refine c_seq ?_
 have hxl:=hB _ hS
 refine c_region ?_
 refine l_val (v:= .slice p (xs.length) c) rfl rfl rfl (e_move) ?_
 refine l_val (v:= .func (.func 42) #[] #[]) rfl rfl rfl (e_move) ?_
 refine l_call rfl rfl rfl (cl_value (fst:=[]) (cap:=[]) (vs:=[.slice p (xs.length) c,.func (.func 42) #[] #[]]) (all:=[.slice p (xs.length) c,.func (.func 42) #[] #[]]) tf41 rfl rfl rfl) ?_
 intro w hw
 replace hw:=hw.perm (L':=_::[]) (by exact(perm_front 0 rfl))
 obtain⟨β1,sb,kn,hw1,back⟩:=St.frame (L:=[_]) (M:=[]) hw
 refine(sortP_ok β1 w _ _ xs hw1 (by omega)).mono ?_
 rintro e w' ⟨rfl,hw'⟩
 refine⟨_,rfl,_,back _ _ hw',?_⟩
 clear hw hw1 hw' back kn sb
 refine l_nil ?_
 refine f_then ?_
 refine c_seq ?_
 refine c_region ?_
 refine l_val (v:= .slice p (xs.length) c) rfl rfl rfl (e_move) ?_
 refine l_val (v:= .slice p (xs.length) c) rfl rfl rfl (e_assign) ?_
 refine l_nil ?_
 refine f_then ?_
 refine c_ret ?_
 refine ret1 Tryz.results43 (v:= .slice p (xs.length) c) rfl ?_
 intro w hw
 exact⟨p,c,xs,hS,by rw[sortP_len],st_mask [true] rfl hw⟩
end Go.Proofs
