/-
 Areas: walked. Printed by a program of my own.
-/
import Derived.Test.YtmgpmgckbcjalaaGreatProg
import Derived.Test.YtmgpmgckbcjalaaGreatBrDef
namespace Go.Proofs
open Go Go.Sl Go.Brd
theorem tf0:fldB Tryz.prog 32 0 0 2 true=true:=by kernel_rfl
theorem tf1:fldB Tryz.prog 30 0 0 1 false=true:=by kernel_rfl
theorem tf2:tyB Tryz.prog 3 false 1=true:=by kernel_rfl
theorem tf3:fldB Tryz.prog 32 1 2 2 true=true:=by kernel_rfl
theorem tf4:cfB Tryz.prog 52=true:=by kernel_rfl
theorem tf5:fldB Tryz.prog 30 1 1 1 false=true:=by kernel_rfl
theorem tf6:(Tryz.prog.info? 32).bind (·.zero)=some (.agg #[.int .i64 (0),.int .i64 (0),.int .i64 (0),.int .i64 (0)]):=by kernel_rfl
theorem tf7:stB Tryz.prog 30 [(0,1),(1,1)]=true:=by kernel_rfl
theorem tf8:(Tryz.prog.info? 30).bind (·.zero)=some (.agg #[.int .i64 (0),.int .i64 (0)]):=by kernel_rfl
theorem tf9:stB Tryz.prog 32 [(0,2),(2,2)]=true:=by kernel_rfl
theorem tf10:tyB Tryz.prog 32 true 4=true:=by kernel_rfl
theorem tf11:cfB Tryz.prog 33=true:=by kernel_rfl
theorem tf12:cfB Tryz.prog 49=true:=by kernel_rfl
theorem tf13:cfB Tryz.prog 35=true:=by kernel_rfl
theorem span_ok(β:Base)(w:World)(hw:St β [] w)(l h:Int):Calls Tryz.prog 52 #[Ix l,Ix h] w fun r w'=>r= .returned (.bool (decide (okSpan l h)))∧St β [] w':=by
 refine enter (n:=16) Tryz.func52 rfl Tryz.ntmps52 rfl ?_ hw
 refine c_seq ?_
 refine c_region ?_
 refine l_val (v:= .bool false) rfl rfl rfl (e_assign) ?_
 refine l_nil ?_
 refine f_then ?_
 refine c_seq ?_
 refine c_region ?_
 refine l_val (v:=Ix (l)) rfl rfl rfl (e_move) ?_
 refine l_val (v:= .bool (decide ((-2097152:Int)≤(l)))) rfl rfl rfl (e_leq (a:=(-2097152:Int)) (b:=(l)) rfl rfl) ?_
 refine l_val (v:= .bool (decide ((-2097152:Int)≤(l)))) rfl rfl rfl (e_move) ?_
 refine l_split (s:=7) (p:=(-2097152:Int)≤(l)) rfl (fun hg1=> ?_) (fun hg1=> ?_)
 ·
  refine g_val (v:=Ix (l)) rfl rfl rfl rfl rfl (e_move) ?_
  refine g_val (v:=Ix (h)) rfl rfl rfl rfl rfl (e_move) ?_
  refine g_val (v:= .bool (decide ((l)≤(h)))) rfl rfl rfl rfl rfl (e_leq (a:=(l)) (b:=(h)) rfl rfl) ?_
  refine l_val (v:= .bool (decide ((l)≤(h)))) rfl rfl rfl (e_pick_t rfl) ?_
  refine l_val (v:= .bool (decide ((l)≤(h)))) rfl rfl rfl (e_move) ?_
  refine l_split (s:=12) (p:=(l)≤(h)) rfl (fun hg2=> ?_) (fun hg2=> ?_)
  ·
   refine g_val (v:=Ix (h)) rfl rfl rfl rfl rfl (e_move) ?_
   refine g_val (v:= .bool (decide ((h)≤(2097152:Int)))) rfl rfl rfl rfl rfl (e_leq (a:=(h)) (b:=(2097152:Int)) rfl rfl) ?_
   refine l_val (v:= .bool (decide ((h)≤(2097152:Int)))) rfl rfl rfl (e_pick_t rfl) ?_
   refine l_val (v:= .bool (decide ((h)≤(2097152:Int)))) rfl rfl rfl (e_assign) ?_
   refine l_nil ?_
   refine f_then ?_
   refine c_ret ?_
   refine ret1 Tryz.results52 (v:= .bool (decide ((h)≤(2097152:Int)))) rfl ?_
   intro w hw
   exact⟨congrArg (fun b:Bool=>Ending.returned (.bool b)) (decide_eq_decide.2 ⟨fun q=>by unfold okSpan;omega,fun q=>by unfold okSpan at q;omega⟩),st_mask [] rfl hw⟩
  ·
   refine l_skip rfl rfl rfl rfl rfl rfl ?_
   refine l_skip rfl rfl rfl rfl rfl rfl ?_
   refine l_val (v:= .bool false) rfl rfl rfl (e_pick_f rfl) ?_
   refine l_val (v:= .bool false) rfl rfl rfl (e_assign) ?_
   refine l_nil ?_
   refine f_then ?_
   refine c_ret ?_
   refine ret1 Tryz.results52 (v:= .bool false) rfl ?_
   intro w hw
   exact⟨congrArg (fun b:Bool=>Ending.returned (.bool b)) ((decide_eq_false (fun q=>by unfold okSpan at q;omega)).symm),st_mask [] rfl hw⟩
 ·
  refine l_skip rfl rfl rfl rfl rfl rfl ?_
  refine l_skip rfl rfl rfl rfl rfl rfl ?_
  refine l_skip rfl rfl rfl rfl rfl rfl ?_
  refine l_val (v:= .bool false) rfl rfl rfl (e_pick_f rfl) ?_
  refine l_val (v:= .bool false) rfl rfl rfl (e_move) ?_
  refine l_skip rfl rfl rfl rfl rfl rfl ?_
  refine l_skip rfl rfl rfl rfl rfl rfl ?_
  refine l_val (v:= .bool false) rfl rfl rfl (e_pick_f rfl) ?_
  refine l_val (v:= .bool false) rfl rfl rfl (e_assign) ?_
  refine l_nil ?_
  refine f_then ?_
  refine c_ret ?_
  refine ret1 Tryz.results52 (v:= .bool false) rfl ?_
  intro w hw
  exact⟨congrArg (fun b:Bool=>Ending.returned (.bool b)) ((decide_eq_false (fun q=>by unfold okSpan at q;omega)).symm),st_mask [] rfl hw⟩
theorem avalid_ok(β:Base)(w:World)(hw:St β [] w)(a:KA):Calls Tryz.prog 33 #[.agg (aC a)] w fun r w'=>r= .returned (.bool (decide (okA a)))∧St β [] w':=by
 refine enter (n:=19) Tryz.func33 rfl Tryz.ntmps33 rfl ?_ hw
 refine c_seq ?_
 refine c_region ?_
 refine l_mv rfl rfl rfl (m_box (v:= .agg (aC a)) rfl) ?_
 rintro _ _ ⟨b1,rfl,rfl⟩
 refine l_val (v:= .bool false) rfl rfl rfl (e_assign) ?_
 refine l_nil ?_
 refine f_then ?_
 refine c_seq ?_
 refine c_region ?_
 refine l_val (v:= .pointer (some ⟨b1,0,none⟩)) rfl rfl rfl (e_fieldPt (b:=b1) (o:=0) rfl tf0) ?_
 refine l_val (v:= .pointer (some ⟨b1,0,none⟩)) rfl rfl rfl (e_fieldPt (b:=b1) (o:=0) rfl tf1) ?_
 refine l_val (v:=Ix (a.lx)) rfl rfl rfl (e_load1 tf2 (v:=Ix (a.lx)) rfl (k_pt 0 (cs:=(aC a)) (vs:=[Ix (a.lx)]) rfl rfl)) ?_
 refine l_val (v:= .pointer (some ⟨b1,2,none⟩)) rfl rfl rfl (e_fieldPt (b:=b1) (o:=0) rfl tf3) ?_
 refine l_val (v:= .pointer (some ⟨b1,2,none⟩)) rfl rfl rfl (e_fieldPt (b:=b1) (o:=2) rfl tf1) ?_
 refine l_val (v:=Ix (a.hx)) rfl rfl rfl (e_load1 tf2 (v:=Ix (a.hx)) rfl (k_pt 0 (cs:=(aC a)) (vs:=[Ix (a.hx)]) rfl rfl)) ?_
 refine l_call rfl rfl rfl (cl_value (fst:=[]) (cap:=[]) (vs:=[Ix (a.lx),Ix (a.hx)]) (all:=[Ix (a.lx),Ix (a.hx)]) tf4 rfl rfl rfl) ?_
 intro w hw
 obtain⟨β1,sb,kn,hw1,back⟩:=St.frame_all hw
 refine(span_ok β1 w hw1 a.lx a.hx).mono ?_
 rintro e w' ⟨rfl,hw'⟩
 refine⟨_,rfl,_,back _ _ hw',?_⟩
 clear hw hw1 hw' back kn sb
 refine l_val (v:= .bool (decide (okSpan a.lx a.hx))) rfl rfl rfl (e_move) ?_
 refine l_split (s:=10) (p:=okSpan a.lx a.hx) rfl (fun hg2=> ?_) (fun hg2=> ?_)
 ·
  refine g_val (v:= .pointer (some ⟨b1,0,none⟩)) rfl rfl rfl rfl rfl (e_fieldPt (b:=b1) (o:=0) rfl tf0) ?_
  refine g_val (v:= .pointer (some ⟨b1,1,none⟩)) rfl rfl rfl rfl rfl (e_fieldPt (b:=b1) (o:=0) rfl tf5) ?_
  refine g_val (v:=Ix (a.ly)) rfl rfl rfl rfl rfl (e_load1 tf2 (v:=Ix (a.ly)) rfl (k_pt 0 (cs:=(aC a)) (vs:=[Ix (a.ly)]) rfl rfl)) ?_
  refine g_val (v:= .pointer (some ⟨b1,2,none⟩)) rfl rfl rfl rfl rfl (e_fieldPt (b:=b1) (o:=0) rfl tf3) ?_
  refine g_val (v:= .pointer (some ⟨b1,3,none⟩)) rfl rfl rfl rfl rfl (e_fieldPt (b:=b1) (o:=2) rfl tf5) ?_
  refine g_val (v:=Ix (a.hy)) rfl rfl rfl rfl rfl (e_load1 tf2 (v:=Ix (a.hy)) rfl (k_pt 0 (cs:=(aC a)) (vs:=[Ix (a.hy)]) rfl rfl)) ?_
  refine g_call rfl rfl rfl rfl rfl (cl_value (fst:=[]) (cap:=[]) (vs:=[Ix (a.ly),Ix (a.hy)]) (all:=[Ix (a.ly),Ix (a.hy)]) tf4 rfl rfl rfl) ?_
  intro w hw
  obtain⟨β1,sb,kn,hw1,back⟩:=St.frame_all hw
  refine(span_ok β1 w hw1 a.ly a.hy).mono ?_
  rintro e w' ⟨rfl,hw'⟩
  refine⟨_,rfl,_,back _ _ hw',?_⟩
  clear hw hw1 hw' back kn sb
  refine l_val (v:= .bool (decide (okSpan a.ly a.hy))) rfl rfl rfl (e_pick_t rfl) ?_
  refine l_val (v:= .bool (decide (okSpan a.ly a.hy))) rfl rfl rfl (e_assign) ?_
  refine l_nil ?_
  refine f_then ?_
  refine c_ret ?_
  refine ret1 Tryz.results33 (v:= .bool (decide (okSpan a.ly a.hy))) rfl ?_
  intro w hw
  exact⟨congrArg (fun b:Bool=>Ending.returned (.bool b)) (show decide (okSpan a.ly a.hy)=decide (okA a) by unfold okA;simp_all),st_mask [false] rfl hw⟩
 ·
  refine l_skip rfl rfl rfl rfl rfl rfl ?_
  refine l_skip rfl rfl rfl rfl rfl rfl ?_
  refine l_skip rfl rfl rfl rfl rfl rfl ?_
  refine l_skip rfl rfl rfl rfl rfl rfl ?_
  refine l_skip rfl rfl rfl rfl rfl rfl ?_
  refine l_skip rfl rfl rfl rfl rfl rfl ?_
  refine l_skip rfl rfl rfl rfl rfl rfl ?_
  refine l_val (v:= .bool false) rfl rfl rfl (e_pick_f rfl) ?_
  refine l_val (v:= .bool false) rfl rfl rfl (e_assign) ?_
  refine l_nil ?_
  refine f_then ?_
  refine c_ret ?_
  refine ret1 Tryz.results33 (v:= .bool false) rfl ?_
  intro w hw
  exact⟨congrArg (fun b:Bool=>Ending.returned (.bool b)) (show false=decide (okA a) by unfold okA;simp_all),st_mask [false] rfl hw⟩
theorem common_ok(β:Base)(w:World)(hw:St β [] w)(a b:KA):Calls Tryz.prog 49 #[.agg (aC a),.agg (aC b)] w fun r w'=>r= .returned (.agg (aC (comA a b)))∧St β [] w':=by
 refine enter (n:=36) Tryz.func49 rfl Tryz.ntmps49 rfl ?_ hw
 refine c_seq ?_
 refine c_region ?_
 refine l_mv rfl rfl rfl (m_box (v:= .agg (aC a)) rfl) ?_
 rintro _ _ ⟨b1,rfl,rfl⟩
 refine l_mv rfl rfl rfl (m_box (v:= .agg (aC b)) rfl) ?_
 rintro _ _ ⟨b2,rfl,rfl⟩
 refine l_mv rfl rfl rfl (m_alloc tf6) ?_
 rintro _ _ ⟨b3,rfl,rfl⟩
 refine l_nil ?_
 refine f_then ?_
 refine c_seq ?_
 refine c_region ?_
 refine l_val (v:= .pointer (some ⟨b1,0,none⟩)) rfl rfl rfl (e_fieldPt (b:=b1) (o:=0) rfl tf0) ?_
 refine l_val (v:= .pointer (some ⟨b1,0,none⟩)) rfl rfl rfl (e_fieldPt (b:=b1) (o:=0) rfl tf1) ?_
 refine l_val (v:=Ix (a.lx)) rfl rfl rfl (e_load1 tf2 (v:=Ix (a.lx)) rfl (k_pt 2 (cs:=(aC a)) (vs:=[Ix (a.lx)]) rfl rfl)) ?_
 refine l_val (v:= .pointer (some ⟨b2,0,none⟩)) rfl rfl rfl (e_fieldPt (b:=b2) (o:=0) rfl tf0) ?_
 refine l_val (v:= .pointer (some ⟨b2,0,none⟩)) rfl rfl rfl (e_fieldPt (b:=b2) (o:=0) rfl tf1) ?_
 refine l_val (v:=Ix (b.lx)) rfl rfl rfl (e_load1 tf2 (v:=Ix (b.lx)) rfl (k_pt 1 (cs:=(aC b)) (vs:=[Ix (b.lx)]) rfl rfl)) ?_
 refine l_val (v:=Ix (max (a.lx) (b.lx))) rfl rfl rfl (e_max (a:=(a.lx)) (b:=(b.lx)) rfl rfl) ?_
 refine l_val (v:= .pointer (some ⟨b1,0,none⟩)) rfl rfl rfl (e_fieldPt (b:=b1) (o:=0) rfl tf0) ?_
 refine l_val (v:= .pointer (some ⟨b1,1,none⟩)) rfl rfl rfl (e_fieldPt (b:=b1) (o:=0) rfl tf5) ?_
 refine l_val (v:=Ix (a.ly)) rfl rfl rfl (e_load1 tf2 (v:=Ix (a.ly)) rfl (k_pt 2 (cs:=(aC a)) (vs:=[Ix (a.ly)]) rfl rfl)) ?_
 refine l_val (v:= .pointer (some ⟨b2,0,none⟩)) rfl rfl rfl (e_fieldPt (b:=b2) (o:=0) rfl tf0) ?_
 refine l_val (v:= .pointer (some ⟨b2,1,none⟩)) rfl rfl rfl (e_fieldPt (b:=b2) (o:=0) rfl tf5) ?_
 refine l_val (v:=Ix (b.ly)) rfl rfl rfl (e_load1 tf2 (v:=Ix (b.ly)) rfl (k_pt 1 (cs:=(aC b)) (vs:=[Ix (b.ly)]) rfl rfl)) ?_
 refine l_val (v:=Ix (max (a.ly) (b.ly))) rfl rfl rfl (e_max (a:=(a.ly)) (b:=(b.ly)) rfl rfl) ?_
 refine l_val (v:= .agg #[Ix (max (a.lx) (b.lx)),Ix (max (a.ly) (b.ly))]) rfl rfl rfl (e_build tf8 tf7 (vs:=[(0,Ix (max (a.lx) (b.lx))),(1,Ix (max (a.ly) (b.ly)))]) (cells:= #[Ix (max (a.lx) (b.lx)),Ix (max (a.ly) (b.ly))]) rfl rfl) ?_
 refine l_val (v:= .pointer (some ⟨b1,2,none⟩)) rfl rfl rfl (e_fieldPt (b:=b1) (o:=0) rfl tf3) ?_
 refine l_val (v:= .pointer (some ⟨b1,2,none⟩)) rfl rfl rfl (e_fieldPt (b:=b1) (o:=2) rfl tf1) ?_
 refine l_val (v:=Ix (a.hx)) rfl rfl rfl (e_load1 tf2 (v:=Ix (a.hx)) rfl (k_pt 2 (cs:=(aC a)) (vs:=[Ix (a.hx)]) rfl rfl)) ?_
 refine l_val (v:= .pointer (some ⟨b2,2,none⟩)) rfl rfl rfl (e_fieldPt (b:=b2) (o:=0) rfl tf3) ?_
 refine l_val (v:= .pointer (some ⟨b2,2,none⟩)) rfl rfl rfl (e_fieldPt (b:=b2) (o:=2) rfl tf1) ?_
 refine l_val (v:=Ix (b.hx)) rfl rfl rfl (e_load1 tf2 (v:=Ix (b.hx)) rfl (k_pt 1 (cs:=(aC b)) (vs:=[Ix (b.hx)]) rfl rfl)) ?_
 refine l_val (v:=Ix (min (a.hx) (b.hx))) rfl rfl rfl (e_min (a:=(a.hx)) (b:=(b.hx)) rfl rfl) ?_
 refine l_val (v:= .pointer (some ⟨b1,2,none⟩)) rfl rfl rfl (e_fieldPt (b:=b1) (o:=0) rfl tf3) ?_
 refine l_val (v:= .pointer (some ⟨b1,3,none⟩)) rfl rfl rfl (e_fieldPt (b:=b1) (o:=2) rfl tf5) ?_
 refine l_val (v:=Ix (a.hy)) rfl rfl rfl (e_load1 tf2 (v:=Ix (a.hy)) rfl (k_pt 2 (cs:=(aC a)) (vs:=[Ix (a.hy)]) rfl rfl)) ?_
 refine l_val (v:= .pointer (some ⟨b2,2,none⟩)) rfl rfl rfl (e_fieldPt (b:=b2) (o:=0) rfl tf3) ?_
 refine l_val (v:= .pointer (some ⟨b2,3,none⟩)) rfl rfl rfl (e_fieldPt (b:=b2) (o:=2) rfl tf5) ?_
 refine l_val (v:=Ix (b.hy)) rfl rfl rfl (e_load1 tf2 (v:=Ix (b.hy)) rfl (k_pt 1 (cs:=(aC b)) (vs:=[Ix (b.hy)]) rfl rfl)) ?_
 refine l_val (v:=Ix (min (a.hy) (b.hy))) rfl rfl rfl (e_min (a:=(a.hy)) (b:=(b.hy)) rfl rfl) ?_
 refine l_val (v:= .agg #[Ix (min (a.hx) (b.hx)),Ix (min (a.hy) (b.hy))]) rfl rfl rfl (e_build tf8 tf7 (vs:=[(0,Ix (min (a.hx) (b.hx))),(1,Ix (min (a.hy) (b.hy)))]) (cells:= #[Ix (min (a.hx) (b.hx)),Ix (min (a.hy) (b.hy))]) rfl rfl) ?_
 refine l_val (v:= .agg #[Ix (max (a.lx) (b.lx)),Ix (max (a.ly) (b.ly)),Ix (min (a.hx) (b.hx)),Ix (min (a.hy) (b.hy))]) rfl rfl rfl (e_build tf6 tf9 (vs:=[(0,.agg #[Ix (max (a.lx) (b.lx)),Ix (max (a.ly) (b.ly))]),(1,.agg #[Ix (min (a.hx) (b.hx)),Ix (min (a.hy) (b.hy))])]) (cells:= #[Ix (max (a.lx) (b.lx)),Ix (max (a.ly) (b.ly)),Ix (min (a.hx) (b.hx)),Ix (min (a.hy) (b.hy))]) rfl rfl) ?_
 refine l_mu rfl rfl (m_store 0 tf10 (b:=b3) (o:=0) (T:=32) (cs:= #[.int .i64 (0),.int .i64 (0),.int .i64 (0),.int .i64 (0)]) (cs':= #[Ix (max (a.lx) (b.lx)),Ix (max (a.ly) (b.ly)),Ix (min (a.hx) (b.hx)),Ix (min (a.hy) (b.hy))]) (v:= .agg #[Ix (max (a.lx) (b.lx)),Ix (max (a.ly) (b.ly)),Ix (min (a.hx) (b.hx)),Ix (min (a.hy) (b.hy))]) rfl rfl rfl rfl rfl rfl rfl) ?_
 refine l_nil ?_
 refine f_then ?_
 refine c_ret ?_
 refine retG (l:=[.cell 4 32]) (m:=[.agg #[Ix (max (a.lx) (b.lx)),Ix (max (a.ly) (b.ly)),Ix (min (a.hx) (b.hx)),Ix (min (a.hy) (b.hy))]]) (v:= .agg #[Ix (max (a.lx) (b.lx)),Ix (max (a.ly) (b.ly)),Ix (min (a.hx) (b.hx)),Ix (min (a.hy) (b.hy))]) Tryz.results49 ⟨rd_cell tf10 (cs:=[Ix (max (a.lx) (b.lx)),Ix (max (a.ly) (b.ly)),Ix (min (a.hx) (b.hx)),Ix (min (a.hy) (b.hy))]) rfl (k_pt 0 (cs:= #[Ix (max (a.lx) (b.lx)),Ix (max (a.ly) (b.ly)),Ix (min (a.hx) (b.hx)),Ix (min (a.hy) (b.hy))]) (vs:=[Ix (max (a.lx) (b.lx)),Ix (max (a.ly) (b.ly)),Ix (min (a.hx) (b.hx)),Ix (min (a.hy) (b.hy))]) rfl rfl) rfl,trivial⟩ rfl ?_
 intro w hw
 exact⟨rfl,st_mask [false,false,false] rfl hw⟩
set_option maxHeartbeats 4000000 in
theorem meet_ok(β:Base)(w:World)(hw:St β [] w)(a b:KA):Calls Tryz.prog 35 #[.agg (aC a),.agg (aC b)] w fun r w'=>r= .returned (.bool (decide (meetA a b)))∧St β [] w':=by
 refine enter (n:=17) Tryz.func35 rfl Tryz.ntmps35 rfl ?_ hw
 refine c_seq ?_
 refine c_region ?_
 refine l_mv rfl rfl rfl (m_box (v:= .agg (aC a)) rfl) ?_
 rintro _ _ ⟨b1,rfl,rfl⟩
 refine l_mv rfl rfl rfl (m_box (v:= .agg (aC b)) rfl) ?_
 rintro _ _ ⟨b2,rfl,rfl⟩
 refine l_val (v:= .bool false) rfl rfl rfl (e_assign) ?_
 refine l_nil ?_
 refine f_then ?_
 refine c_seq ?_
 refine c_region ?_
 refine l_val (v:= .agg (aC a)) rfl rfl rfl (e_load tf10 (cs:=(areaE a)) rfl (k_pt 1 (cs:=(aC a)) (vs:=(areaE a)) rfl rfl) rfl) ?_
 refine l_call rfl rfl rfl (cl_value (fst:=[]) (cap:=[]) (vs:=[.agg (aC a)]) (all:=[.agg (aC a)]) tf11 rfl rfl rfl) ?_
 intro w hw
 obtain⟨β1,sb,kn,hw1,back⟩:=St.frame_all hw
 refine(avalid_ok β1 w hw1 a).mono ?_
 rintro e w' ⟨rfl,hw'⟩
 refine⟨_,rfl,_,back _ _ hw',?_⟩
 clear hw hw1 hw' back kn sb
 refine l_val (v:= .bool (decide (okA a))) rfl rfl rfl (e_move) ?_
 refine l_split (s:=7) (p:=okA a) rfl (fun hg3=> ?_) (fun hg3=> ?_)
 ·
  refine g_val (v:= .agg (aC b)) rfl rfl rfl rfl rfl (e_load tf10 (cs:=(areaE b)) rfl (k_pt 0 (cs:=(aC b)) (vs:=(areaE b)) rfl rfl) rfl) ?_
  refine g_call rfl rfl rfl rfl rfl (cl_value (fst:=[]) (cap:=[]) (vs:=[.agg (aC b)]) (all:=[.agg (aC b)]) tf11 rfl rfl rfl) ?_
  intro w hw
  obtain⟨β1,sb,kn,hw1,back⟩:=St.frame_all hw
  refine(avalid_ok β1 w hw1 b).mono ?_
  rintro e w' ⟨rfl,hw'⟩
  refine⟨_,rfl,_,back _ _ hw',?_⟩
  clear hw hw1 hw' back kn sb
  refine l_val (v:= .bool (decide (okA b))) rfl rfl rfl (e_pick_t rfl) ?_
  refine l_val (v:= .bool (decide (okA b))) rfl rfl rfl (e_move) ?_
  refine l_split (s:=11) (p:=okA b) rfl (fun hg4=> ?_) (fun hg4=> ?_)
  ·
   refine g_val (v:= .agg (aC a)) rfl rfl rfl rfl rfl (e_load tf10 (cs:=(areaE a)) rfl (k_pt 1 (cs:=(aC a)) (vs:=(areaE a)) rfl rfl) rfl) ?_
   refine g_val (v:= .agg (aC b)) rfl rfl rfl rfl rfl (e_load tf10 (cs:=(areaE b)) rfl (k_pt 0 (cs:=(aC b)) (vs:=(areaE b)) rfl rfl) rfl) ?_
   refine g_call rfl rfl rfl rfl rfl (cl_value (fst:=[]) (cap:=[]) (vs:=[.agg (aC a),.agg (aC b)]) (all:=[.agg (aC a),.agg (aC b)]) tf12 rfl rfl rfl) ?_
   intro w hw
   obtain⟨β1,sb,kn,hw1,back⟩:=St.frame_all hw
   refine(common_ok β1 w hw1 a b).mono ?_
   rintro e w' ⟨rfl,hw'⟩
   refine⟨_,rfl,_,back _ _ hw',?_⟩
   clear hw hw1 hw' back kn sb
   refine g_call rfl rfl rfl rfl rfl (cl_value (fst:=[]) (cap:=[]) (vs:=[.agg (aC (comA a b))]) (all:=[.agg (aC (comA a b))]) tf11 rfl rfl rfl) ?_
   intro w hw
   obtain⟨β1,sb,kn,hw1,back⟩:=St.frame_all hw
   refine(avalid_ok β1 w hw1 (comA a b)).mono ?_
   rintro e w' ⟨rfl,hw'⟩
   refine⟨_,rfl,_,back _ _ hw',?_⟩
   clear hw hw1 hw' back kn sb
   refine l_val (v:= .bool (decide (okA (comA a b)))) rfl rfl rfl (e_pick_t rfl) ?_
   refine l_val (v:= .bool (decide (okA (comA a b)))) rfl rfl rfl (e_assign) ?_
   refine l_nil ?_
   refine f_then ?_
   refine c_ret ?_
   refine ret1 Tryz.results35 (v:= .bool (decide (okA (comA a b)))) rfl ?_
   intro w hw
   exact⟨congrArg (fun b:Bool=>Ending.returned (.bool b)) (show decide (okA (comA a b))=decide (meetA a b) by unfold meetA;simp_all),st_mask [false,false] rfl hw⟩
  ·
   refine l_skip rfl rfl rfl rfl rfl rfl ?_
   refine l_skip rfl rfl rfl rfl rfl rfl ?_
   refine l_skip rfl rfl rfl rfl rfl rfl ?_
   refine l_skip rfl rfl rfl rfl rfl rfl ?_
   refine l_val (v:= .bool false) rfl rfl rfl (e_pick_f rfl) ?_
   refine l_val (v:= .bool false) rfl rfl rfl (e_assign) ?_
   refine l_nil ?_
   refine f_then ?_
   refine c_ret ?_
   refine ret1 Tryz.results35 (v:= .bool false) rfl ?_
   intro w hw
   exact⟨congrArg (fun b:Bool=>Ending.returned (.bool b)) (show false=decide (meetA a b) by unfold meetA;simp_all),st_mask [false,false] rfl hw⟩
 ·
  refine l_skip rfl rfl rfl rfl rfl rfl ?_
  refine l_skip rfl rfl rfl rfl rfl rfl ?_
  refine l_val (v:= .bool false) rfl rfl rfl (e_pick_f rfl) ?_
  refine l_val (v:= .bool false) rfl rfl rfl (e_move) ?_
  refine l_skip rfl rfl rfl rfl rfl rfl ?_
  refine l_skip rfl rfl rfl rfl rfl rfl ?_
  refine l_skip rfl rfl rfl rfl rfl rfl ?_
  refine l_skip rfl rfl rfl rfl rfl rfl ?_
  refine l_val (v:= .bool false) rfl rfl rfl (e_pick_f rfl) ?_
  refine l_val (v:= .bool false) rfl rfl rfl (e_assign) ?_
  refine l_nil ?_
  refine f_then ?_
  refine c_ret ?_
  refine ret1 Tryz.results35 (v:= .bool false) rfl ?_
  intro w hw
  exact⟨congrArg (fun b:Bool=>Ending.returned (.bool b)) (show false=decide (meetA a b) by unfold meetA;simp_all),st_mask [false,false] rfl hw⟩
theorem commonR_ok(β:Base)(w:World)(hw:St β [] w)(a b:KA):Calls Tryz.prog 23 #[.agg (aC a),.agg (aC b)] w fun r w'=>r= .returned (.tuple #[.agg (aC (comR a b)),.bool (decide (meetA a b))])∧St β [] w':=by
 refine enter (n:=14) Tryz.func23 rfl Tryz.ntmps23 rfl ?_ hw
 refine c_seq ?_
 refine c_region ?_
 refine l_mv rfl rfl rfl (m_box (v:= .agg (aC a)) rfl) ?_
 rintro _ _ ⟨b1,rfl,rfl⟩
 refine l_mv rfl rfl rfl (m_box (v:= .agg (aC b)) rfl) ?_
 rintro _ _ ⟨b2,rfl,rfl⟩
 refine l_mv rfl rfl rfl (m_alloc tf6) ?_
 rintro _ _ ⟨b3,rfl,rfl⟩
 refine l_val (v:= .bool false) rfl rfl rfl (e_assign) ?_
 refine l_nil ?_
 refine f_then ?_
 refine c_seq ?_
 refine c_seq ?_
 refine c_region ?_
 refine l_val (v:= .agg (aC a)) rfl rfl rfl (e_load tf10 (cs:=(areaE a)) rfl (k_pt 2 (cs:=(aC a)) (vs:=(areaE a)) rfl rfl) rfl) ?_
 refine l_val (v:= .agg (aC b)) rfl rfl rfl (e_load tf10 (cs:=(areaE b)) rfl (k_pt 1 (cs:=(aC b)) (vs:=(areaE b)) rfl rfl) rfl) ?_
 refine l_call rfl rfl rfl (cl_value (fst:=[]) (cap:=[]) (vs:=[.agg (aC a),.agg (aC b)]) (all:=[.agg (aC a),.agg (aC b)]) tf13 rfl rfl rfl) ?_
 intro w hw
 obtain⟨β1,sb,kn,hw1,back⟩:=St.frame_all hw
 refine(meet_ok β1 w hw1 a b).mono ?_
 rintro e w' ⟨rfl,hw'⟩
 refine⟨_,rfl,_,back _ _ hw',?_⟩
 clear hw hw1 hw' back kn sb
 refine l_val (v:= .bool (decide (¬(meetA a b)))) rfl rfl rfl (e_not_p (p:=meetA a b) rfl) ?_
 refine l_nil ?_
 refine f_then ?_
 refine c_if (¬(meetA a b)) rfl (fun hc4=> ?_) (fun hc4=> ?_)
 ·
  refine c_seq ?_
  refine c_region ?_
  refine l_val (v:= .agg #[.int .i64 (0),.int .i64 (0),.int .i64 (0),.int .i64 (0)]) rfl rfl rfl (e_build tf6 tf9 (vs:=[]) (cells:= #[.int .i64 (0),.int .i64 (0),.int .i64 (0),.int .i64 (0)]) rfl rfl) ?_
  refine l_mu rfl rfl (m_store 0 tf10 (b:=b3) (o:=0) (T:=32) (cs:= #[.int .i64 (0),.int .i64 (0),.int .i64 (0),.int .i64 (0)]) (cs':= #[.int .i64 (0),.int .i64 (0),.int .i64 (0),.int .i64 (0)]) (v:= .agg #[.int .i64 (0),.int .i64 (0),.int .i64 (0),.int .i64 (0)]) rfl rfl rfl rfl rfl rfl rfl) ?_
  refine l_val (v:= .bool false) rfl rfl rfl (e_assign) ?_
  refine l_nil ?_
  refine f_then ?_
  refine c_ret ?_
  refine f_then_ret ?_
  refine retG (l:=[.cell 4 32,.tmp 5]) (m:=[.agg #[.int .i64 (0),.int .i64 (0),.int .i64 (0),.int .i64 (0)],.bool false]) (v:= .tuple #[.agg #[.int .i64 (0),.int .i64 (0),.int .i64 (0),.int .i64 (0)],.bool false]) Tryz.results23 ⟨rd_cell tf10 (cs:=[.int .i64 (0),.int .i64 (0),.int .i64 (0),.int .i64 (0)]) rfl (k_pt 0 (cs:= #[.int .i64 (0),.int .i64 (0),.int .i64 (0),.int .i64 (0)]) (vs:=[.int .i64 (0),.int .i64 (0),.int .i64 (0),.int .i64 (0)]) rfl rfl) rfl,rd_tmp (v:= .bool false) rfl,trivial⟩ rfl ?_
  intro w hw
  exact⟨by rw[show comR a b=zeroA from if_neg (by simpa using hc4),decide_eq_false (by simpa using hc4)]<;>rfl,st_mask [false,false,false] rfl hw⟩
 ·
  refine c_skip ?_
  refine f_then ?_
  refine c_seq ?_
  refine c_region ?_
  refine l_val (v:= .agg (aC a)) rfl rfl rfl (e_load tf10 (cs:=(areaE a)) rfl (k_pt 2 (cs:=(aC a)) (vs:=(areaE a)) rfl rfl) rfl) ?_
  refine l_val (v:= .agg (aC b)) rfl rfl rfl (e_load tf10 (cs:=(areaE b)) rfl (k_pt 1 (cs:=(aC b)) (vs:=(areaE b)) rfl rfl) rfl) ?_
  refine l_call rfl rfl rfl (cl_value (fst:=[]) (cap:=[]) (vs:=[.agg (aC a),.agg (aC b)]) (all:=[.agg (aC a),.agg (aC b)]) tf12 rfl rfl rfl) ?_
  intro w hw
  obtain⟨β1,sb,kn,hw1,back⟩:=St.frame_all hw
  refine(common_ok β1 w hw1 a b).mono ?_
  rintro e w' ⟨rfl,hw'⟩
  refine⟨_,rfl,_,back _ _ hw',?_⟩
  clear hw hw1 hw' back kn sb
  refine l_mu rfl rfl (m_store 0 tf10 (b:=b3) (o:=0) (T:=32) (cs:= #[.int .i64 (0),.int .i64 (0),.int .i64 (0),.int .i64 (0)]) (cs':=(aC (comA a b))) (v:= .agg (aC (comA a b))) rfl rfl rfl rfl rfl rfl rfl) ?_
  refine l_val (v:= .bool true) rfl rfl rfl (e_assign) ?_
  refine l_nil ?_
  refine f_then ?_
  refine c_ret ?_
  refine retG (l:=[.cell 4 32,.tmp 5]) (m:=[.agg (aC (comA a b)),.bool true]) (v:= .tuple #[.agg (aC (comA a b)),.bool true]) Tryz.results23 ⟨rd_cell tf10 (cs:=(areaE (comA a b))) rfl (k_pt 0 (cs:=(aC (comA a b))) (vs:=(areaE (comA a b))) rfl rfl) rfl,rd_tmp (v:= .bool true) rfl,trivial⟩ rfl ?_
  intro w hw
  exact⟨by rw[show comR a b=comA a b from if_pos (by simpa using hc4),decide_eq_true (by simpa using hc4)]<;>rfl,st_mask [false,false,false] rfl hw⟩
set_option maxHeartbeats 4000000 in
theorem join_ok(β:Base)(w:World)(hw:St β [] w)(a b:KA):Calls Tryz.prog 24 #[.agg (aC a),.agg (aC b)] w fun r w'=>r= .returned (.agg (aC (joinR a b)))∧St β [] w':=by
 refine enter (n:=45) Tryz.func24 rfl Tryz.ntmps24 rfl ?_ hw
 refine c_seq ?_
 refine c_region ?_
 refine l_mv rfl rfl rfl (m_box (v:= .agg (aC a)) rfl) ?_
 rintro _ _ ⟨b1,rfl,rfl⟩
 refine l_mv rfl rfl rfl (m_box (v:= .agg (aC b)) rfl) ?_
 rintro _ _ ⟨b2,rfl,rfl⟩
 refine l_mv rfl rfl rfl (m_alloc tf6) ?_
 rintro _ _ ⟨b3,rfl,rfl⟩
 refine l_nil ?_
 refine f_then ?_
 refine c_seq ?_
 refine c_seq ?_
 refine c_region ?_
 refine l_val (v:= .agg (aC a)) rfl rfl rfl (e_load tf10 (cs:=(areaE a)) rfl (k_pt 2 (cs:=(aC a)) (vs:=(areaE a)) rfl rfl) rfl) ?_
 refine l_call rfl rfl rfl (cl_value (fst:=[]) (cap:=[]) (vs:=[.agg (aC a)]) (all:=[.agg (aC a)]) tf11 rfl rfl rfl) ?_
 intro w hw
 obtain⟨β1,sb,kn,hw1,back⟩:=St.frame_all hw
 refine(avalid_ok β1 w hw1 a).mono ?_
 rintro e w' ⟨rfl,hw'⟩
 refine⟨_,rfl,_,back _ _ hw',?_⟩
 clear hw hw1 hw' back kn sb
 refine l_val (v:= .bool (decide (¬(okA a)))) rfl rfl rfl (e_not_p (p:=okA a) rfl) ?_
 refine l_val (v:= .bool (decide (¬(okA a)))) rfl rfl rfl (e_move) ?_
 refine l_split (s:=8) (p:=¬(okA a)) rfl (fun hg4=> ?_) (fun hg4=> ?_)
 ·
  refine l_skip rfl rfl rfl rfl rfl rfl ?_
  refine l_skip rfl rfl rfl rfl rfl rfl ?_
  refine l_skip rfl rfl rfl rfl rfl rfl ?_
  refine l_val (v:= .bool true) rfl rfl rfl (e_pick_t rfl) ?_
  refine l_nil ?_
  refine f_then ?_
  refine c_yes rfl ?_
  refine c_seq ?_
  refine c_region ?_
  refine l_val (v:= .agg #[.int .i64 (0),.int .i64 (0),.int .i64 (0),.int .i64 (0)]) rfl rfl rfl (e_build tf6 tf9 (vs:=[]) (cells:= #[.int .i64 (0),.int .i64 (0),.int .i64 (0),.int .i64 (0)]) rfl rfl) ?_
  refine l_mu rfl rfl (m_store 0 tf10 (b:=b3) (o:=0) (T:=32) (cs:= #[.int .i64 (0),.int .i64 (0),.int .i64 (0),.int .i64 (0)]) (cs':= #[.int .i64 (0),.int .i64 (0),.int .i64 (0),.int .i64 (0)]) (v:= .agg #[.int .i64 (0),.int .i64 (0),.int .i64 (0),.int .i64 (0)]) rfl rfl rfl rfl rfl rfl rfl) ?_
  refine l_nil ?_
  refine f_then ?_
  refine c_ret ?_
  refine f_then_ret ?_
  refine retG (l:=[.cell 4 32]) (m:=[.agg #[.int .i64 (0),.int .i64 (0),.int .i64 (0),.int .i64 (0)]]) (v:= .agg #[.int .i64 (0),.int .i64 (0),.int .i64 (0),.int .i64 (0)]) Tryz.results24 ⟨rd_cell tf10 (cs:=[.int .i64 (0),.int .i64 (0),.int .i64 (0),.int .i64 (0)]) rfl (k_pt 0 (cs:= #[.int .i64 (0),.int .i64 (0),.int .i64 (0),.int .i64 (0)]) (vs:=[.int .i64 (0),.int .i64 (0),.int .i64 (0),.int .i64 (0)]) rfl rfl) rfl,trivial⟩ rfl ?_
  intro w hw
  exact⟨by rw[show joinR a b=zeroA from if_neg (by simp_all)]<;>rfl,st_mask [false,false,false] rfl hw⟩
 ·
  refine g_val (v:= .agg (aC b)) rfl rfl rfl rfl rfl (e_load tf10 (cs:=(areaE b)) rfl (k_pt 1 (cs:=(aC b)) (vs:=(areaE b)) rfl rfl) rfl) ?_
  refine g_call rfl rfl rfl rfl rfl (cl_value (fst:=[]) (cap:=[]) (vs:=[.agg (aC b)]) (all:=[.agg (aC b)]) tf11 rfl rfl rfl) ?_
  intro w hw
  obtain⟨β1,sb,kn,hw1,back⟩:=St.frame_all hw
  refine(avalid_ok β1 w hw1 b).mono ?_
  rintro e w' ⟨rfl,hw'⟩
  refine⟨_,rfl,_,back _ _ hw',?_⟩
  clear hw hw1 hw' back kn sb
  refine g_val (v:= .bool (decide (¬(okA b)))) rfl rfl rfl rfl rfl (e_not_p (p:=okA b) rfl) ?_
  refine l_val (v:= .bool (decide (¬(okA b)))) rfl rfl rfl (e_pick_f rfl) ?_
  refine l_nil ?_
  refine f_then ?_
  refine c_if (¬(okA b)) rfl (fun hc5=> ?_) (fun hc5=> ?_)
  ·
   refine c_seq ?_
   refine c_region ?_
   refine l_val (v:= .agg #[.int .i64 (0),.int .i64 (0),.int .i64 (0),.int .i64 (0)]) rfl rfl rfl (e_build tf6 tf9 (vs:=[]) (cells:= #[.int .i64 (0),.int .i64 (0),.int .i64 (0),.int .i64 (0)]) rfl rfl) ?_
   refine l_mu rfl rfl (m_store 0 tf10 (b:=b3) (o:=0) (T:=32) (cs:= #[.int .i64 (0),.int .i64 (0),.int .i64 (0),.int .i64 (0)]) (cs':= #[.int .i64 (0),.int .i64 (0),.int .i64 (0),.int .i64 (0)]) (v:= .agg #[.int .i64 (0),.int .i64 (0),.int .i64 (0),.int .i64 (0)]) rfl rfl rfl rfl rfl rfl rfl) ?_
   refine l_nil ?_
   refine f_then ?_
   refine c_ret ?_
   refine f_then_ret ?_
   refine retG (l:=[.cell 4 32]) (m:=[.agg #[.int .i64 (0),.int .i64 (0),.int .i64 (0),.int .i64 (0)]]) (v:= .agg #[.int .i64 (0),.int .i64 (0),.int .i64 (0),.int .i64 (0)]) Tryz.results24 ⟨rd_cell tf10 (cs:=[.int .i64 (0),.int .i64 (0),.int .i64 (0),.int .i64 (0)]) rfl (k_pt 0 (cs:= #[.int .i64 (0),.int .i64 (0),.int .i64 (0),.int .i64 (0)]) (vs:=[.int .i64 (0),.int .i64 (0),.int .i64 (0),.int .i64 (0)]) rfl rfl) rfl,trivial⟩ rfl ?_
   intro w hw
   exact⟨by rw[show joinR a b=zeroA from if_neg (by simp_all)]<;>rfl,st_mask [false,false,false] rfl hw⟩
  ·
   refine c_skip ?_
   refine f_then ?_
   refine c_seq ?_
   refine c_region ?_
   refine l_val (v:= .pointer (some ⟨b1,0,none⟩)) rfl rfl rfl (e_fieldPt (b:=b1) (o:=0) rfl tf0) ?_
   refine l_val (v:= .pointer (some ⟨b1,0,none⟩)) rfl rfl rfl (e_fieldPt (b:=b1) (o:=0) rfl tf1) ?_
   refine l_val (v:=Ix (a.lx)) rfl rfl rfl (e_load1 tf2 (v:=Ix (a.lx)) rfl (k_pt 2 (cs:=(aC a)) (vs:=[Ix (a.lx)]) rfl rfl)) ?_
   refine l_val (v:= .pointer (some ⟨b2,0,none⟩)) rfl rfl rfl (e_fieldPt (b:=b2) (o:=0) rfl tf0) ?_
   refine l_val (v:= .pointer (some ⟨b2,0,none⟩)) rfl rfl rfl (e_fieldPt (b:=b2) (o:=0) rfl tf1) ?_
   refine l_val (v:=Ix (b.lx)) rfl rfl rfl (e_load1 tf2 (v:=Ix (b.lx)) rfl (k_pt 1 (cs:=(aC b)) (vs:=[Ix (b.lx)]) rfl rfl)) ?_
   refine l_val (v:=Ix (min (a.lx) (b.lx))) rfl rfl rfl (e_min (a:=(a.lx)) (b:=(b.lx)) rfl rfl) ?_
   refine l_val (v:= .pointer (some ⟨b1,0,none⟩)) rfl rfl rfl (e_fieldPt (b:=b1) (o:=0) rfl tf0) ?_
   refine l_val (v:= .pointer (some ⟨b1,1,none⟩)) rfl rfl rfl (e_fieldPt (b:=b1) (o:=0) rfl tf5) ?_
   refine l_val (v:=Ix (a.ly)) rfl rfl rfl (e_load1 tf2 (v:=Ix (a.ly)) rfl (k_pt 2 (cs:=(aC a)) (vs:=[Ix (a.ly)]) rfl rfl)) ?_
   refine l_val (v:= .pointer (some ⟨b2,0,none⟩)) rfl rfl rfl (e_fieldPt (b:=b2) (o:=0) rfl tf0) ?_
   refine l_val (v:= .pointer (some ⟨b2,1,none⟩)) rfl rfl rfl (e_fieldPt (b:=b2) (o:=0) rfl tf5) ?_
   refine l_val (v:=Ix (b.ly)) rfl rfl rfl (e_load1 tf2 (v:=Ix (b.ly)) rfl (k_pt 1 (cs:=(aC b)) (vs:=[Ix (b.ly)]) rfl rfl)) ?_
   refine l_val (v:=Ix (min (a.ly) (b.ly))) rfl rfl rfl (e_min (a:=(a.ly)) (b:=(b.ly)) rfl rfl) ?_
   refine l_val (v:= .agg #[Ix (min (a.lx) (b.lx)),Ix (min (a.ly) (b.ly))]) rfl rfl rfl (e_build tf8 tf7 (vs:=[(0,Ix (min (a.lx) (b.lx))),(1,Ix (min (a.ly) (b.ly)))]) (cells:= #[Ix (min (a.lx) (b.lx)),Ix (min (a.ly) (b.ly))]) rfl rfl) ?_
   refine l_val (v:= .pointer (some ⟨b1,2,none⟩)) rfl rfl rfl (e_fieldPt (b:=b1) (o:=0) rfl tf3) ?_
   refine l_val (v:= .pointer (some ⟨b1,2,none⟩)) rfl rfl rfl (e_fieldPt (b:=b1) (o:=2) rfl tf1) ?_
   refine l_val (v:=Ix (a.hx)) rfl rfl rfl (e_load1 tf2 (v:=Ix (a.hx)) rfl (k_pt 2 (cs:=(aC a)) (vs:=[Ix (a.hx)]) rfl rfl)) ?_
   refine l_val (v:= .pointer (some ⟨b2,2,none⟩)) rfl rfl rfl (e_fieldPt (b:=b2) (o:=0) rfl tf3) ?_
   refine l_val (v:= .pointer (some ⟨b2,2,none⟩)) rfl rfl rfl (e_fieldPt (b:=b2) (o:=2) rfl tf1) ?_
   refine l_val (v:=Ix (b.hx)) rfl rfl rfl (e_load1 tf2 (v:=Ix (b.hx)) rfl (k_pt 1 (cs:=(aC b)) (vs:=[Ix (b.hx)]) rfl rfl)) ?_
   refine l_val (v:=Ix (max (a.hx) (b.hx))) rfl rfl rfl (e_max (a:=(a.hx)) (b:=(b.hx)) rfl rfl) ?_
   refine l_val (v:= .pointer (some ⟨b1,2,none⟩)) rfl rfl rfl (e_fieldPt (b:=b1) (o:=0) rfl tf3) ?_
   refine l_val (v:= .pointer (some ⟨b1,3,none⟩)) rfl rfl rfl (e_fieldPt (b:=b1) (o:=2) rfl tf5) ?_
   refine l_val (v:=Ix (a.hy)) rfl rfl rfl (e_load1 tf2 (v:=Ix (a.hy)) rfl (k_pt 2 (cs:=(aC a)) (vs:=[Ix (a.hy)]) rfl rfl)) ?_
   refine l_val (v:= .pointer (some ⟨b2,2,none⟩)) rfl rfl rfl (e_fieldPt (b:=b2) (o:=0) rfl tf3) ?_
   refine l_val (v:= .pointer (some ⟨b2,3,none⟩)) rfl rfl rfl (e_fieldPt (b:=b2) (o:=2) rfl tf5) ?_
   refine l_val (v:=Ix (b.hy)) rfl rfl rfl (e_load1 tf2 (v:=Ix (b.hy)) rfl (k_pt 1 (cs:=(aC b)) (vs:=[Ix (b.hy)]) rfl rfl)) ?_
   refine l_val (v:=Ix (max (a.hy) (b.hy))) rfl rfl rfl (e_max (a:=(a.hy)) (b:=(b.hy)) rfl rfl) ?_
   refine l_val (v:= .agg #[Ix (max (a.hx) (b.hx)),Ix (max (a.hy) (b.hy))]) rfl rfl rfl (e_build tf8 tf7 (vs:=[(0,Ix (max (a.hx) (b.hx))),(1,Ix (max (a.hy) (b.hy)))]) (cells:= #[Ix (max (a.hx) (b.hx)),Ix (max (a.hy) (b.hy))]) rfl rfl) ?_
   refine l_val (v:= .agg #[Ix (min (a.lx) (b.lx)),Ix (min (a.ly) (b.ly)),Ix (max (a.hx) (b.hx)),Ix (max (a.hy) (b.hy))]) rfl rfl rfl (e_build tf6 tf9 (vs:=[(0,.agg #[Ix (min (a.lx) (b.lx)),Ix (min (a.ly) (b.ly))]),(1,.agg #[Ix (max (a.hx) (b.hx)),Ix (max (a.hy) (b.hy))])]) (cells:= #[Ix (min (a.lx) (b.lx)),Ix (min (a.ly) (b.ly)),Ix (max (a.hx) (b.hx)),Ix (max (a.hy) (b.hy))]) rfl rfl) ?_
   refine l_mu rfl rfl (m_store 0 tf10 (b:=b3) (o:=0) (T:=32) (cs:= #[.int .i64 (0),.int .i64 (0),.int .i64 (0),.int .i64 (0)]) (cs':= #[Ix (min (a.lx) (b.lx)),Ix (min (a.ly) (b.ly)),Ix (max (a.hx) (b.hx)),Ix (max (a.hy) (b.hy))]) (v:= .agg #[Ix (min (a.lx) (b.lx)),Ix (min (a.ly) (b.ly)),Ix (max (a.hx) (b.hx)),Ix (max (a.hy) (b.hy))]) rfl rfl rfl rfl rfl rfl rfl) ?_
   refine l_nil ?_
   refine f_then ?_
   refine c_ret ?_
   refine retG (l:=[.cell 4 32]) (m:=[.agg #[Ix (min (a.lx) (b.lx)),Ix (min (a.ly) (b.ly)),Ix (max (a.hx) (b.hx)),Ix (max (a.hy) (b.hy))]]) (v:= .agg #[Ix (min (a.lx) (b.lx)),Ix (min (a.ly) (b.ly)),Ix (max (a.hx) (b.hx)),Ix (max (a.hy) (b.hy))]) Tryz.results24 ⟨rd_cell tf10 (cs:=[Ix (min (a.lx) (b.lx)),Ix (min (a.ly) (b.ly)),Ix (max (a.hx) (b.hx)),Ix (max (a.hy) (b.hy))]) rfl (k_pt 0 (cs:= #[Ix (min (a.lx) (b.lx)),Ix (min (a.ly) (b.ly)),Ix (max (a.hx) (b.hx)),Ix (max (a.hy) (b.hy))]) (vs:=[Ix (min (a.lx) (b.lx)),Ix (min (a.ly) (b.ly)),Ix (max (a.hx) (b.hx)),Ix (max (a.hy) (b.hy))]) rfl rfl) rfl,trivial⟩ rfl ?_
   intro w hw
   exact⟨by rw[show joinR a b=joinA a b from if_pos (by simp_all)]<;>rfl,st_mask [false,false,false] rfl hw⟩
theorem area_ok(β:Base)(w:World)(hw:St β [] w)(x y u v:Int):Calls Tryz.prog 10 #[Ix x,Ix y,Ix u,Ix v] w fun r w'=>r= .returned (.agg (aC (⟨x,y,u,v⟩)))∧St β [] w':=by
 refine enter (n:=16) Tryz.func10 rfl Tryz.ntmps10 rfl ?_ hw
 refine c_seq ?_
 refine c_region ?_
 refine l_mv rfl rfl rfl (m_alloc tf6) ?_
 rintro _ _ ⟨b1,rfl,rfl⟩
 refine l_nil ?_
 refine f_then ?_
 refine c_seq ?_
 refine c_region ?_
 refine l_val (v:=Ix (x)) rfl rfl rfl (e_move) ?_
 refine l_val (v:=Ix (y)) rfl rfl rfl (e_move) ?_
 refine l_val (v:= .agg #[Ix (x),Ix (y)]) rfl rfl rfl (e_build tf8 tf7 (vs:=[(0,Ix (x)),(1,Ix (y))]) (cells:= #[Ix (x),Ix (y)]) rfl rfl) ?_
 refine l_val (v:=Ix (u)) rfl rfl rfl (e_move) ?_
 refine l_val (v:=Ix (v)) rfl rfl rfl (e_move) ?_
 refine l_val (v:= .agg #[Ix (u),Ix (v)]) rfl rfl rfl (e_build tf8 tf7 (vs:=[(0,Ix (u)),(1,Ix (v))]) (cells:= #[Ix (u),Ix (v)]) rfl rfl) ?_
 refine l_val (v:= .agg #[Ix (x),Ix (y),Ix (u),Ix (v)]) rfl rfl rfl (e_build tf6 tf9 (vs:=[(0,.agg #[Ix (x),Ix (y)]),(1,.agg #[Ix (u),Ix (v)])]) (cells:= #[Ix (x),Ix (y),Ix (u),Ix (v)]) rfl rfl) ?_
 refine l_mu rfl rfl (m_store 0 tf10 (b:=b1) (o:=0) (T:=32) (cs:= #[.int .i64 (0),.int .i64 (0),.int .i64 (0),.int .i64 (0)]) (cs':= #[Ix (x),Ix (y),Ix (u),Ix (v)]) (v:= .agg #[Ix (x),Ix (y),Ix (u),Ix (v)]) rfl rfl rfl rfl rfl rfl rfl) ?_
 refine l_nil ?_
 refine f_then ?_
 refine c_ret ?_
 refine retG (l:=[.cell 8 32]) (m:=[.agg #[Ix (x),Ix (y),Ix (u),Ix (v)]]) (v:= .agg #[Ix (x),Ix (y),Ix (u),Ix (v)]) Tryz.results10 ⟨rd_cell tf10 (cs:=[Ix (x),Ix (y),Ix (u),Ix (v)]) rfl (k_pt 0 (cs:= #[Ix (x),Ix (y),Ix (u),Ix (v)]) (vs:=[Ix (x),Ix (y),Ix (u),Ix (v)]) rfl rfl) rfl,trivial⟩ rfl ?_
 intro w hw
 exact⟨rfl,st_mask [false] rfl hw⟩
end Go.Proofs
