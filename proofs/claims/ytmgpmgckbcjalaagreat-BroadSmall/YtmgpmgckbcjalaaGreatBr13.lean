/-
 The reference's areas, BroadAreas: walked. Printed by a program of my own.
-/
import Derived.Test.YtmgpmgckbcjalaaGreatBrFx
namespace Go.Brd
def rightI(x:Int):Prop:= -2097152≤x∧x≤2097152
instance (x:Int):Decidable (rightI x):=by unfold rightI;infer_instance
end Go.Brd
namespace Go.Proofs
open Go Go.Sl Go.Brd
theorem tf104:cfB Tryz.prog 53=true:=by kernel_rfl
theorem tf105:cfB Tryz.prog 34=true:=by kernel_rfl
theorem tf106:cfB Tryz.prog 32=true:=by kernel_rfl
theorem tf107:cfB Tryz.prog 36=true:=by kernel_rfl
theorem tf108:cfB Tryz.prog 37=true:=by kernel_rfl
theorem tf109:cfB Tryz.prog 9=true:=by kernel_rfl
theorem rright_ok(β:Base)(w:World)(hw:St β [] w)(x:Int):Calls Tryz.prog 53 #[Ix x] w fun r w'=>r= .returned (.bool (decide (rightI x)))∧St β [] w':=by
 refine enter (n:=9) Tryz.func53 rfl Tryz.ntmps53 rfl ?_ hw
 refine c_seq ?_
 refine c_region ?_
 refine l_val (v:= .bool false) rfl rfl rfl (e_assign) ?_
 refine l_nil ?_
 refine f_then ?_
 refine c_seq ?_
 refine c_region ?_
 refine l_val (v:=Ix (x)) rfl rfl rfl (e_move) ?_
 refine l_val (v:= .bool (decide ((-2097152:Int)≤(x)))) rfl rfl rfl (e_geq (a:=(x)) (b:=(-2097152:Int)) rfl rfl) ?_
 refine l_val (v:= .bool (decide ((-2097152:Int)≤(x)))) rfl rfl rfl (e_move) ?_
 refine l_split (s:=5) (p:=(-2097152:Int)≤(x)) rfl (fun hg1=> ?_) (fun hg1=> ?_)
 ·
  refine g_val (v:=Ix (x)) rfl rfl rfl rfl rfl (e_move) ?_
  refine g_val (v:= .bool (decide ((x)≤(2097152:Int)))) rfl rfl rfl rfl rfl (e_leq (a:=(x)) (b:=(2097152:Int)) rfl rfl) ?_
  refine l_val (v:= .bool (decide ((x)≤(2097152:Int)))) rfl rfl rfl (e_pick_t rfl) ?_
  refine l_val (v:= .bool (decide ((x)≤(2097152:Int)))) rfl rfl rfl (e_assign) ?_
  refine l_nil ?_
  refine f_then ?_
  refine c_ret ?_
  refine ret1 Tryz.results53 (v:= .bool (decide ((x)≤(2097152:Int)))) rfl ?_
  intro w hw
  exact⟨congrArg (fun b:Bool=>Ending.returned (.bool b)) (decide_eq_decide.2 ⟨fun q=>by unfold rightI;omega,fun q=>by unfold rightI at q;omega⟩),st_mask [] rfl hw⟩
 ·
  refine l_skip rfl rfl rfl rfl rfl rfl ?_
  refine l_skip rfl rfl rfl rfl rfl rfl ?_
  refine l_val (v:= .bool false) rfl rfl rfl (e_pick_f rfl) ?_
  refine l_val (v:= .bool false) rfl rfl rfl (e_assign) ?_
  refine l_nil ?_
  refine f_then ?_
  refine c_ret ?_
  refine ret1 Tryz.results53 (v:= .bool false) rfl ?_
  intro w hw
  exact⟨congrArg (fun b:Bool=>Ending.returned (.bool b)) ((decide_eq_false (fun q=>by unfold rightI at q;omega)).symm),st_mask [] rfl hw⟩
set_option maxHeartbeats 4000000 in
theorem rvalid_ok(β:Base)(w:World)(hw:St β [] w)(a:KA):Calls Tryz.prog 34 #[.agg (aC a)] w fun r w'=>r= .returned (.bool (decide (okA a)))∧St β [] w':=by
 refine enter (n:=43) Tryz.func34 rfl Tryz.ntmps34 rfl ?_ hw
 refine c_seq ?_
 refine c_region ?_
 refine l_mv rfl rfl rfl (m_box (v:= .agg (aC a)) rfl) ?_
 rintro _ _ ⟨b1,rfl,rfl⟩
 refine l_val (v:= .bool false) rfl rfl rfl (e_assign) ?_
 refine l_nil ?_
 refine f_then ?_
 refine c_seq ?_
 refine c_region ?_
 refine l_val (v:= .pointer (some ⟨b1,0,none⟩)) rfl rfl rfl (e_fieldPt (b:=b1) (o:=0) rfl tf0) ?_
 refine l_val (v:= .pointer (some ⟨b1,0,none⟩)) rfl rfl rfl (e_fieldPt (b:=b1) (o:=0) rfl tf1) ?_
 refine l_val (v:=Ix (a.lx)) rfl rfl rfl (e_load1 tf2 (v:=Ix (a.lx)) rfl (k_pt 0 (cs:=(aC a)) (vs:=[Ix (a.lx)]) rfl rfl)) ?_
 refine l_call rfl rfl rfl (cl_value (fst:=[]) (cap:=[]) (vs:=[Ix (a.lx)]) (all:=[Ix (a.lx)]) tf104 rfl rfl rfl) ?_
 intro w hw
 obtain⟨β1,sb,kn,hw1,back⟩:=St.frame_all hw
 refine(rright_ok β1 w hw1 a.lx).mono ?_
 rintro e w' ⟨rfl,hw'⟩
 refine⟨_,rfl,_,back _ _ hw',?_⟩
 clear hw hw1 hw' back kn sb
 refine l_val (v:= .bool (decide (rightI a.lx))) rfl rfl rfl (e_move) ?_
 refine l_split (s:=7) (p:=rightI a.lx) rfl (fun hg2=> ?_) (fun hg2=> ?_)
 ·
  refine g_val (v:= .pointer (some ⟨b1,0,none⟩)) rfl rfl rfl rfl rfl (e_fieldPt (b:=b1) (o:=0) rfl tf0) ?_
  refine g_val (v:= .pointer (some ⟨b1,1,none⟩)) rfl rfl rfl rfl rfl (e_fieldPt (b:=b1) (o:=0) rfl tf5) ?_
  refine g_val (v:=Ix (a.ly)) rfl rfl rfl rfl rfl (e_load1 tf2 (v:=Ix (a.ly)) rfl (k_pt 0 (cs:=(aC a)) (vs:=[Ix (a.ly)]) rfl rfl)) ?_
  refine g_call rfl rfl rfl rfl rfl (cl_value (fst:=[]) (cap:=[]) (vs:=[Ix (a.ly)]) (all:=[Ix (a.ly)]) tf104 rfl rfl rfl) ?_
  intro w hw
  obtain⟨β1,sb,kn,hw1,back⟩:=St.frame_all hw
  refine(rright_ok β1 w hw1 a.ly).mono ?_
  rintro e w' ⟨rfl,hw'⟩
  refine⟨_,rfl,_,back _ _ hw',?_⟩
  clear hw hw1 hw' back kn sb
  refine l_val (v:= .bool (decide (rightI a.ly))) rfl rfl rfl (e_pick_t rfl) ?_
  refine l_val (v:= .bool (decide (rightI a.ly))) rfl rfl rfl (e_move) ?_
  refine l_split (s:=13) (p:=rightI a.ly) rfl (fun hg3=> ?_) (fun hg3=> ?_)
  ·
   refine g_val (v:= .pointer (some ⟨b1,2,none⟩)) rfl rfl rfl rfl rfl (e_fieldPt (b:=b1) (o:=0) rfl tf3) ?_
   refine g_val (v:= .pointer (some ⟨b1,2,none⟩)) rfl rfl rfl rfl rfl (e_fieldPt (b:=b1) (o:=2) rfl tf1) ?_
   refine g_val (v:=Ix (a.hx)) rfl rfl rfl rfl rfl (e_load1 tf2 (v:=Ix (a.hx)) rfl (k_pt 0 (cs:=(aC a)) (vs:=[Ix (a.hx)]) rfl rfl)) ?_
   refine g_call rfl rfl rfl rfl rfl (cl_value (fst:=[]) (cap:=[]) (vs:=[Ix (a.hx)]) (all:=[Ix (a.hx)]) tf104 rfl rfl rfl) ?_
   intro w hw
   obtain⟨β1,sb,kn,hw1,back⟩:=St.frame_all hw
   refine(rright_ok β1 w hw1 a.hx).mono ?_
   rintro e w' ⟨rfl,hw'⟩
   refine⟨_,rfl,_,back _ _ hw',?_⟩
   clear hw hw1 hw' back kn sb
   refine l_val (v:= .bool (decide (rightI a.hx))) rfl rfl rfl (e_pick_t rfl) ?_
   refine l_val (v:= .bool (decide (rightI a.hx))) rfl rfl rfl (e_move) ?_
   refine l_split (s:=19) (p:=rightI a.hx) rfl (fun hg4=> ?_) (fun hg4=> ?_)
   ·
    refine g_val (v:= .pointer (some ⟨b1,2,none⟩)) rfl rfl rfl rfl rfl (e_fieldPt (b:=b1) (o:=0) rfl tf3) ?_
    refine g_val (v:= .pointer (some ⟨b1,3,none⟩)) rfl rfl rfl rfl rfl (e_fieldPt (b:=b1) (o:=2) rfl tf5) ?_
    refine g_val (v:=Ix (a.hy)) rfl rfl rfl rfl rfl (e_load1 tf2 (v:=Ix (a.hy)) rfl (k_pt 0 (cs:=(aC a)) (vs:=[Ix (a.hy)]) rfl rfl)) ?_
    refine g_call rfl rfl rfl rfl rfl (cl_value (fst:=[]) (cap:=[]) (vs:=[Ix (a.hy)]) (all:=[Ix (a.hy)]) tf104 rfl rfl rfl) ?_
    intro w hw
    obtain⟨β1,sb,kn,hw1,back⟩:=St.frame_all hw
    refine(rright_ok β1 w hw1 a.hy).mono ?_
    rintro e w' ⟨rfl,hw'⟩
    refine⟨_,rfl,_,back _ _ hw',?_⟩
    clear hw hw1 hw' back kn sb
    refine l_val (v:= .bool (decide (rightI a.hy))) rfl rfl rfl (e_pick_t rfl) ?_
    refine l_val (v:= .bool (decide (rightI a.hy))) rfl rfl rfl (e_move) ?_
    refine l_split (s:=25) (p:=rightI a.hy) rfl (fun hg5=> ?_) (fun hg5=> ?_)
    ·
     refine g_val (v:= .pointer (some ⟨b1,0,none⟩)) rfl rfl rfl rfl rfl (e_fieldPt (b:=b1) (o:=0) rfl tf0) ?_
     refine g_val (v:= .pointer (some ⟨b1,0,none⟩)) rfl rfl rfl rfl rfl (e_fieldPt (b:=b1) (o:=0) rfl tf1) ?_
     refine g_val (v:=Ix (a.lx)) rfl rfl rfl rfl rfl (e_load1 tf2 (v:=Ix (a.lx)) rfl (k_pt 0 (cs:=(aC a)) (vs:=[Ix (a.lx)]) rfl rfl)) ?_
     refine g_val (v:= .pointer (some ⟨b1,2,none⟩)) rfl rfl rfl rfl rfl (e_fieldPt (b:=b1) (o:=0) rfl tf3) ?_
     refine g_val (v:= .pointer (some ⟨b1,2,none⟩)) rfl rfl rfl rfl rfl (e_fieldPt (b:=b1) (o:=2) rfl tf1) ?_
     refine g_val (v:=Ix (a.hx)) rfl rfl rfl rfl rfl (e_load1 tf2 (v:=Ix (a.hx)) rfl (k_pt 0 (cs:=(aC a)) (vs:=[Ix (a.hx)]) rfl rfl)) ?_
     refine g_val (v:= .bool (decide ((a.lx)≤(a.hx)))) rfl rfl rfl rfl rfl (e_leq (a:=(a.lx)) (b:=(a.hx)) rfl rfl) ?_
     refine l_val (v:= .bool (decide ((a.lx)≤(a.hx)))) rfl rfl rfl (e_pick_t rfl) ?_
     refine l_val (v:= .bool (decide ((a.lx)≤(a.hx)))) rfl rfl rfl (e_move) ?_
     refine l_split (s:=34) (p:=(a.lx)≤(a.hx)) rfl (fun hg6=> ?_) (fun hg6=> ?_)
     ·
      refine g_val (v:= .pointer (some ⟨b1,0,none⟩)) rfl rfl rfl rfl rfl (e_fieldPt (b:=b1) (o:=0) rfl tf0) ?_
      refine g_val (v:= .pointer (some ⟨b1,1,none⟩)) rfl rfl rfl rfl rfl (e_fieldPt (b:=b1) (o:=0) rfl tf5) ?_
      refine g_val (v:=Ix (a.ly)) rfl rfl rfl rfl rfl (e_load1 tf2 (v:=Ix (a.ly)) rfl (k_pt 0 (cs:=(aC a)) (vs:=[Ix (a.ly)]) rfl rfl)) ?_
      refine g_val (v:= .pointer (some ⟨b1,2,none⟩)) rfl rfl rfl rfl rfl (e_fieldPt (b:=b1) (o:=0) rfl tf3) ?_
      refine g_val (v:= .pointer (some ⟨b1,3,none⟩)) rfl rfl rfl rfl rfl (e_fieldPt (b:=b1) (o:=2) rfl tf5) ?_
      refine g_val (v:=Ix (a.hy)) rfl rfl rfl rfl rfl (e_load1 tf2 (v:=Ix (a.hy)) rfl (k_pt 0 (cs:=(aC a)) (vs:=[Ix (a.hy)]) rfl rfl)) ?_
      refine g_val (v:= .bool (decide ((a.ly)≤(a.hy)))) rfl rfl rfl rfl rfl (e_leq (a:=(a.ly)) (b:=(a.hy)) rfl rfl) ?_
      refine l_val (v:= .bool (decide ((a.ly)≤(a.hy)))) rfl rfl rfl (e_pick_t rfl) ?_
      refine l_val (v:= .bool (decide ((a.ly)≤(a.hy)))) rfl rfl rfl (e_assign) ?_
      refine l_nil ?_
      refine f_then ?_
      refine c_ret ?_
      refine ret1 Tryz.results34 (v:= .bool (decide ((a.ly)≤(a.hy)))) rfl ?_
      intro w hw
      exact⟨congrArg (fun b:Bool=>Ending.returned (.bool b)) (decide_eq_decide.2 ⟨fun q=>by unfold okA okSpan;unfold rightI at*;omega,fun q=>by unfold okA okSpan at q;unfold rightI at*;omega⟩),st_mask [false] rfl hw⟩
     ·
      refine l_skip rfl rfl rfl rfl rfl rfl ?_
      refine l_skip rfl rfl rfl rfl rfl rfl ?_
      refine l_skip rfl rfl rfl rfl rfl rfl ?_
      refine l_skip rfl rfl rfl rfl rfl rfl ?_
      refine l_skip rfl rfl rfl rfl rfl rfl ?_
      refine l_skip rfl rfl rfl rfl rfl rfl ?_
      refine l_skip rfl rfl rfl rfl rfl rfl ?_
      refine l_val (v:= .bool false) rfl rfl rfl (e_pick_f rfl) ?_
      refine l_val (v:= .bool false) rfl rfl rfl (e_assign) ?_
      refine l_nil ?_
      refine f_then ?_
      refine c_ret ?_
      refine ret1 Tryz.results34 (v:= .bool false) rfl ?_
      intro w hw
      exact⟨congrArg (fun b:Bool=>Ending.returned (.bool b)) ((decide_eq_false (fun q=>by unfold okA okSpan at q;unfold rightI at*;omega)).symm),st_mask [false] rfl hw⟩
    ·
     refine l_skip rfl rfl rfl rfl rfl rfl ?_
     refine l_skip rfl rfl rfl rfl rfl rfl ?_
     refine l_skip rfl rfl rfl rfl rfl rfl ?_
     refine l_skip rfl rfl rfl rfl rfl rfl ?_
     refine l_skip rfl rfl rfl rfl rfl rfl ?_
     refine l_skip rfl rfl rfl rfl rfl rfl ?_
     refine l_skip rfl rfl rfl rfl rfl rfl ?_
     refine l_val (v:= .bool false) rfl rfl rfl (e_pick_f rfl) ?_
     refine l_val (v:= .bool false) rfl rfl rfl (e_move) ?_
     refine l_skip rfl rfl rfl rfl rfl rfl ?_
     refine l_skip rfl rfl rfl rfl rfl rfl ?_
     refine l_skip rfl rfl rfl rfl rfl rfl ?_
     refine l_skip rfl rfl rfl rfl rfl rfl ?_
     refine l_skip rfl rfl rfl rfl rfl rfl ?_
     refine l_skip rfl rfl rfl rfl rfl rfl ?_
     refine l_skip rfl rfl rfl rfl rfl rfl ?_
     refine l_val (v:= .bool false) rfl rfl rfl (e_pick_f rfl) ?_
     refine l_val (v:= .bool false) rfl rfl rfl (e_assign) ?_
     refine l_nil ?_
     refine f_then ?_
     refine c_ret ?_
     refine ret1 Tryz.results34 (v:= .bool false) rfl ?_
     intro w hw
     exact⟨congrArg (fun b:Bool=>Ending.returned (.bool b)) ((decide_eq_false (fun q=>by unfold okA okSpan at q;unfold rightI at*;omega)).symm),st_mask [false] rfl hw⟩
   ·
    refine l_skip rfl rfl rfl rfl rfl rfl ?_
    refine l_skip rfl rfl rfl rfl rfl rfl ?_
    refine l_skip rfl rfl rfl rfl rfl rfl ?_
    refine l_skip rfl rfl rfl rfl rfl rfl ?_
    refine l_val (v:= .bool false) rfl rfl rfl (e_pick_f rfl) ?_
    refine l_val (v:= .bool false) rfl rfl rfl (e_move) ?_
    refine l_skip rfl rfl rfl rfl rfl rfl ?_
    refine l_skip rfl rfl rfl rfl rfl rfl ?_
    refine l_skip rfl rfl rfl rfl rfl rfl ?_
    refine l_skip rfl rfl rfl rfl rfl rfl ?_
    refine l_skip rfl rfl rfl rfl rfl rfl ?_
    refine l_skip rfl rfl rfl rfl rfl rfl ?_
    refine l_skip rfl rfl rfl rfl rfl rfl ?_
    refine l_val (v:= .bool false) rfl rfl rfl (e_pick_f rfl) ?_
    refine l_val (v:= .bool false) rfl rfl rfl (e_move) ?_
    refine l_skip rfl rfl rfl rfl rfl rfl ?_
    refine l_skip rfl rfl rfl rfl rfl rfl ?_
    refine l_skip rfl rfl rfl rfl rfl rfl ?_
    refine l_skip rfl rfl rfl rfl rfl rfl ?_
    refine l_skip rfl rfl rfl rfl rfl rfl ?_
    refine l_skip rfl rfl rfl rfl rfl rfl ?_
    refine l_skip rfl rfl rfl rfl rfl rfl ?_
    refine l_val (v:= .bool false) rfl rfl rfl (e_pick_f rfl) ?_
    refine l_val (v:= .bool false) rfl rfl rfl (e_assign) ?_
    refine l_nil ?_
    refine f_then ?_
    refine c_ret ?_
    refine ret1 Tryz.results34 (v:= .bool false) rfl ?_
    intro w hw
    exact⟨congrArg (fun b:Bool=>Ending.returned (.bool b)) ((decide_eq_false (fun q=>by unfold okA okSpan at q;unfold rightI at*;omega)).symm),st_mask [false] rfl hw⟩
  ·
   refine l_skip rfl rfl rfl rfl rfl rfl ?_
   refine l_skip rfl rfl rfl rfl rfl rfl ?_
   refine l_skip rfl rfl rfl rfl rfl rfl ?_
   refine l_skip rfl rfl rfl rfl rfl rfl ?_
   refine l_val (v:= .bool false) rfl rfl rfl (e_pick_f rfl) ?_
   refine l_val (v:= .bool false) rfl rfl rfl (e_move) ?_
   refine l_skip rfl rfl rfl rfl rfl rfl ?_
   refine l_skip rfl rfl rfl rfl rfl rfl ?_
   refine l_skip rfl rfl rfl rfl rfl rfl ?_
   refine l_skip rfl rfl rfl rfl rfl rfl ?_
   refine l_val (v:= .bool false) rfl rfl rfl (e_pick_f rfl) ?_
   refine l_val (v:= .bool false) rfl rfl rfl (e_move) ?_
   refine l_skip rfl rfl rfl rfl rfl rfl ?_
   refine l_skip rfl rfl rfl rfl rfl rfl ?_
   refine l_skip rfl rfl rfl rfl rfl rfl ?_
   refine l_skip rfl rfl rfl rfl rfl rfl ?_
   refine l_skip rfl rfl rfl rfl rfl rfl ?_
   refine l_skip rfl rfl rfl rfl rfl rfl ?_
   refine l_skip rfl rfl rfl rfl rfl rfl ?_
   refine l_val (v:= .bool false) rfl rfl rfl (e_pick_f rfl) ?_
   refine l_val (v:= .bool false) rfl rfl rfl (e_move) ?_
   refine l_skip rfl rfl rfl rfl rfl rfl ?_
   refine l_skip rfl rfl rfl rfl rfl rfl ?_
   refine l_skip rfl rfl rfl rfl rfl rfl ?_
   refine l_skip rfl rfl rfl rfl rfl rfl ?_
   refine l_skip rfl rfl rfl rfl rfl rfl ?_
   refine l_skip rfl rfl rfl rfl rfl rfl ?_
   refine l_skip rfl rfl rfl rfl rfl rfl ?_
   refine l_val (v:= .bool false) rfl rfl rfl (e_pick_f rfl) ?_
   refine l_val (v:= .bool false) rfl rfl rfl (e_assign) ?_
   refine l_nil ?_
   refine f_then ?_
   refine c_ret ?_
   refine ret1 Tryz.results34 (v:= .bool false) rfl ?_
   intro w hw
   exact⟨congrArg (fun b:Bool=>Ending.returned (.bool b)) ((decide_eq_false (fun q=>by unfold okA okSpan at q;unfold rightI at*;omega)).symm),st_mask [false] rfl hw⟩
 ·
  refine l_skip rfl rfl rfl rfl rfl rfl ?_
  refine l_skip rfl rfl rfl rfl rfl rfl ?_
  refine l_skip rfl rfl rfl rfl rfl rfl ?_
  refine l_skip rfl rfl rfl rfl rfl rfl ?_
  refine l_val (v:= .bool false) rfl rfl rfl (e_pick_f rfl) ?_
  refine l_val (v:= .bool false) rfl rfl rfl (e_move) ?_
  refine l_skip rfl rfl rfl rfl rfl rfl ?_
  refine l_skip rfl rfl rfl rfl rfl rfl ?_
  refine l_skip rfl rfl rfl rfl rfl rfl ?_
  refine l_skip rfl rfl rfl rfl rfl rfl ?_
  refine l_val (v:= .bool false) rfl rfl rfl (e_pick_f rfl) ?_
  refine l_val (v:= .bool false) rfl rfl rfl (e_move) ?_
  refine l_skip rfl rfl rfl rfl rfl rfl ?_
  refine l_skip rfl rfl rfl rfl rfl rfl ?_
  refine l_skip rfl rfl rfl rfl rfl rfl ?_
  refine l_skip rfl rfl rfl rfl rfl rfl ?_
  refine l_val (v:= .bool false) rfl rfl rfl (e_pick_f rfl) ?_
  refine l_val (v:= .bool false) rfl rfl rfl (e_move) ?_
  refine l_skip rfl rfl rfl rfl rfl rfl ?_
  refine l_skip rfl rfl rfl rfl rfl rfl ?_
  refine l_skip rfl rfl rfl rfl rfl rfl ?_
  refine l_skip rfl rfl rfl rfl rfl rfl ?_
  refine l_skip rfl rfl rfl rfl rfl rfl ?_
  refine l_skip rfl rfl rfl rfl rfl rfl ?_
  refine l_skip rfl rfl rfl rfl rfl rfl ?_
  refine l_val (v:= .bool false) rfl rfl rfl (e_pick_f rfl) ?_
  refine l_val (v:= .bool false) rfl rfl rfl (e_move) ?_
  refine l_skip rfl rfl rfl rfl rfl rfl ?_
  refine l_skip rfl rfl rfl rfl rfl rfl ?_
  refine l_skip rfl rfl rfl rfl rfl rfl ?_
  refine l_skip rfl rfl rfl rfl rfl rfl ?_
  refine l_skip rfl rfl rfl rfl rfl rfl ?_
  refine l_skip rfl rfl rfl rfl rfl rfl ?_
  refine l_skip rfl rfl rfl rfl rfl rfl ?_
  refine l_val (v:= .bool false) rfl rfl rfl (e_pick_f rfl) ?_
  refine l_val (v:= .bool false) rfl rfl rfl (e_assign) ?_
  refine l_nil ?_
  refine f_then ?_
  refine c_ret ?_
  refine ret1 Tryz.results34 (v:= .bool false) rfl ?_
  intro w hw
  exact⟨congrArg (fun b:Bool=>Ending.returned (.bool b)) ((decide_eq_false (fun q=>by unfold okA okSpan at q;unfold rightI at*;omega)).symm),st_mask [false] rfl hw⟩
set_option maxHeartbeats 4000000 in
theorem rcommon_ok(β:Base)(w:World)(hw:St β [] w)(a b:KA):Calls Tryz.prog 32 #[.agg (aC a),.agg (aC b)] w fun r w'=>r= .returned (.tuple #[.agg (aC (comR a b)),.bool (decide (meetA a b))])∧St β [] w':=by
 refine enter (n:=52) Tryz.func32 rfl Tryz.ntmps32 rfl ?_ hw
 refine c_seq ?_
 refine c_region ?_
 refine l_mv rfl rfl rfl (m_box (v:= .agg (aC a)) rfl) ?_
 rintro _ _ ⟨b1,rfl,rfl⟩
 refine l_mv rfl rfl rfl (m_box (v:= .agg (aC b)) rfl) ?_
 rintro _ _ ⟨b2,rfl,rfl⟩
 refine l_mv rfl rfl rfl (m_alloc tf6) ?_
 rintro _ _ ⟨b3,rfl,rfl⟩
 refine l_val (v:= .bool false) rfl rfl rfl (e_assign) ?_
 refine l_nil ?_
 refine f_then ?_
 refine c_seq ?_
 refine c_seq ?_
 refine c_region ?_
 refine l_val (v:= .agg (aC a)) rfl rfl rfl (e_load tf10 (cs:=(areaE a)) rfl (k_pt 2 (cs:=(aC a)) (vs:=(areaE a)) rfl rfl) rfl) ?_
 refine l_call rfl rfl rfl (cl_value (fst:=[]) (cap:=[]) (vs:=[.agg (aC a)]) (all:=[.agg (aC a)]) tf105 rfl rfl rfl) ?_
 intro w hw
 obtain⟨β1,sb,kn,hw1,back⟩:=St.frame_all hw
 refine(rvalid_ok β1 w hw1 a).mono ?_
 rintro e w' ⟨rfl,hw'⟩
 refine⟨_,rfl,_,back _ _ hw',?_⟩
 clear hw hw1 hw' back kn sb
 refine l_val (v:= .bool (decide (¬(okA a)))) rfl rfl rfl (e_not_p (p:=okA a) rfl) ?_
 refine l_val (v:= .bool (decide (¬(okA a)))) rfl rfl rfl (e_move) ?_
 refine l_split (s:=10) (p:=¬(okA a)) rfl (fun hg4=> ?_) (fun hg4=> ?_)
 ·
  refine l_skip rfl rfl rfl rfl rfl rfl ?_
  refine l_skip rfl rfl rfl rfl rfl rfl ?_
  refine l_skip rfl rfl rfl rfl rfl rfl ?_
  refine l_val (v:= .bool true) rfl rfl rfl (e_pick_t rfl) ?_
  refine l_nil ?_
  refine f_then ?_
  refine c_yes rfl ?_
  refine c_seq ?_
  refine c_region ?_
  refine l_val (v:= .agg #[.int .i64 (0),.int .i64 (0),.int .i64 (0),.int .i64 (0)]) rfl rfl rfl (e_build tf6 tf9 (vs:=[]) (cells:= #[.int .i64 (0),.int .i64 (0),.int .i64 (0),.int .i64 (0)]) rfl rfl) ?_
  refine l_mu rfl rfl (m_store 0 tf10 (b:=b3) (o:=0) (T:=32) (cs:= #[.int .i64 (0),.int .i64 (0),.int .i64 (0),.int .i64 (0)]) (cs':= #[.int .i64 (0),.int .i64 (0),.int .i64 (0),.int .i64 (0)]) (v:= .agg #[.int .i64 (0),.int .i64 (0),.int .i64 (0),.int .i64 (0)]) rfl rfl rfl rfl rfl rfl rfl) ?_
  refine l_val (v:= .bool false) rfl rfl rfl (e_assign) ?_
  refine l_nil ?_
  refine f_then ?_
  refine c_ret ?_
  refine f_then_ret ?_
  refine retG (l:=[.cell 4 32,.tmp 5]) (m:=[.agg #[.int .i64 (0),.int .i64 (0),.int .i64 (0),.int .i64 (0)],.bool false]) (v:= .tuple #[.agg #[.int .i64 (0),.int .i64 (0),.int .i64 (0),.int .i64 (0)],.bool false]) Tryz.results32 ⟨rd_cell tf10 (cs:=[.int .i64 (0),.int .i64 (0),.int .i64 (0),.int .i64 (0)]) rfl (k_pt 0 (cs:= #[.int .i64 (0),.int .i64 (0),.int .i64 (0),.int .i64 (0)]) (vs:=[.int .i64 (0),.int .i64 (0),.int .i64 (0),.int .i64 (0)]) rfl rfl) rfl,rd_tmp (v:= .bool false) rfl,trivial⟩ rfl ?_
  intro w hw
  have hm:¬meetA a b:=fun q=>hg4 q.1
  exact⟨by rw[comR_no hm,decide_eq_false hm]<;>rfl,st_mask [false,false,false] rfl hw⟩
 ·
  refine g_val (v:= .agg (aC b)) rfl rfl rfl rfl rfl (e_load tf10 (cs:=(areaE b)) rfl (k_pt 1 (cs:=(aC b)) (vs:=(areaE b)) rfl rfl) rfl) ?_
  refine g_call rfl rfl rfl rfl rfl (cl_value (fst:=[]) (cap:=[]) (vs:=[.agg (aC b)]) (all:=[.agg (aC b)]) tf105 rfl rfl rfl) ?_
  intro w hw
  obtain⟨β1,sb,kn,hw1,back⟩:=St.frame_all hw
  refine(rvalid_ok β1 w hw1 b).mono ?_
  rintro e w' ⟨rfl,hw'⟩
  refine⟨_,rfl,_,back _ _ hw',?_⟩
  clear hw hw1 hw' back kn sb
  refine g_val (v:= .bool (decide (¬(okA b)))) rfl rfl rfl rfl rfl (e_not_p (p:=okA b) rfl) ?_
  refine l_val (v:= .bool (decide (¬(okA b)))) rfl rfl rfl (e_pick_f rfl) ?_
  refine l_nil ?_
  refine f_then ?_
  refine c_if (¬(okA b)) rfl (fun hc5=> ?_) (fun hc5=> ?_)
  ·
   refine c_seq ?_
   refine c_region ?_
   refine l_val (v:= .agg #[.int .i64 (0),.int .i64 (0),.int .i64 (0),.int .i64 (0)]) rfl rfl rfl (e_build tf6 tf9 (vs:=[]) (cells:= #[.int .i64 (0),.int .i64 (0),.int .i64 (0),.int .i64 (0)]) rfl rfl) ?_
   refine l_mu rfl rfl (m_store 0 tf10 (b:=b3) (o:=0) (T:=32) (cs:= #[.int .i64 (0),.int .i64 (0),.int .i64 (0),.int .i64 (0)]) (cs':= #[.int .i64 (0),.int .i64 (0),.int .i64 (0),.int .i64 (0)]) (v:= .agg #[.int .i64 (0),.int .i64 (0),.int .i64 (0),.int .i64 (0)]) rfl rfl rfl rfl rfl rfl rfl) ?_
   refine l_val (v:= .bool false) rfl rfl rfl (e_assign) ?_
   refine l_nil ?_
   refine f_then ?_
   refine c_ret ?_
   refine f_then_ret ?_
   refine retG (l:=[.cell 4 32,.tmp 5]) (m:=[.agg #[.int .i64 (0),.int .i64 (0),.int .i64 (0),.int .i64 (0)],.bool false]) (v:= .tuple #[.agg #[.int .i64 (0),.int .i64 (0),.int .i64 (0),.int .i64 (0)],.bool false]) Tryz.results32 ⟨rd_cell tf10 (cs:=[.int .i64 (0),.int .i64 (0),.int .i64 (0),.int .i64 (0)]) rfl (k_pt 0 (cs:= #[.int .i64 (0),.int .i64 (0),.int .i64 (0),.int .i64 (0)]) (vs:=[.int .i64 (0),.int .i64 (0),.int .i64 (0),.int .i64 (0)]) rfl rfl) rfl,rd_tmp (v:= .bool false) rfl,trivial⟩ rfl ?_
   intro w hw
   have hm:¬meetA a b:=fun q=>hc5 q.2.1
   exact⟨by rw[comR_no hm,decide_eq_false hm]<;>rfl,st_mask [false,false,false] rfl hw⟩
  ·
   refine c_skip ?_
   refine f_then ?_
   refine c_seq ?_
   refine c_region ?_
   refine l_val (v:= .pointer (some ⟨b1,0,none⟩)) rfl rfl rfl (e_fieldPt (b:=b1) (o:=0) rfl tf0) ?_
   refine l_val (v:= .pointer (some ⟨b1,0,none⟩)) rfl rfl rfl (e_fieldPt (b:=b1) (o:=0) rfl tf1) ?_
   refine l_val (v:=Ix (a.lx)) rfl rfl rfl (e_load1 tf2 (v:=Ix (a.lx)) rfl (k_pt 2 (cs:=(aC a)) (vs:=[Ix (a.lx)]) rfl rfl)) ?_
   refine l_val (v:= .pointer (some ⟨b2,0,none⟩)) rfl rfl rfl (e_fieldPt (b:=b2) (o:=0) rfl tf0) ?_
   refine l_val (v:= .pointer (some ⟨b2,0,none⟩)) rfl rfl rfl (e_fieldPt (b:=b2) (o:=0) rfl tf1) ?_
   refine l_val (v:=Ix (b.lx)) rfl rfl rfl (e_load1 tf2 (v:=Ix (b.lx)) rfl (k_pt 1 (cs:=(aC b)) (vs:=[Ix (b.lx)]) rfl rfl)) ?_
   refine l_val (v:=Ix (max (a.lx) (b.lx))) rfl rfl rfl (e_max (a:=(a.lx)) (b:=(b.lx)) rfl rfl) ?_
   refine l_val (v:= .pointer (some ⟨b1,0,none⟩)) rfl rfl rfl (e_fieldPt (b:=b1) (o:=0) rfl tf0) ?_
   refine l_val (v:= .pointer (some ⟨b1,1,none⟩)) rfl rfl rfl (e_fieldPt (b:=b1) (o:=0) rfl tf5) ?_
   refine l_val (v:=Ix (a.ly)) rfl rfl rfl (e_load1 tf2 (v:=Ix (a.ly)) rfl (k_pt 2 (cs:=(aC a)) (vs:=[Ix (a.ly)]) rfl rfl)) ?_
   refine l_val (v:= .pointer (some ⟨b2,0,none⟩)) rfl rfl rfl (e_fieldPt (b:=b2) (o:=0) rfl tf0) ?_
   refine l_val (v:= .pointer (some ⟨b2,1,none⟩)) rfl rfl rfl (e_fieldPt (b:=b2) (o:=0) rfl tf5) ?_
   refine l_val (v:=Ix (b.ly)) rfl rfl rfl (e_load1 tf2 (v:=Ix (b.ly)) rfl (k_pt 1 (cs:=(aC b)) (vs:=[Ix (b.ly)]) rfl rfl)) ?_
   refine l_val (v:=Ix (max (a.ly) (b.ly))) rfl rfl rfl (e_max (a:=(a.ly)) (b:=(b.ly)) rfl rfl) ?_
   refine l_val (v:= .agg #[Ix (max (a.lx) (b.lx)),Ix (max (a.ly) (b.ly))]) rfl rfl rfl (e_build tf8 tf7 (vs:=[(0,Ix (max (a.lx) (b.lx))),(1,Ix (max (a.ly) (b.ly)))]) (cells:= #[Ix (max (a.lx) (b.lx)),Ix (max (a.ly) (b.ly))]) rfl rfl) ?_
   refine l_val (v:= .pointer (some ⟨b1,2,none⟩)) rfl rfl rfl (e_fieldPt (b:=b1) (o:=0) rfl tf3) ?_
   refine l_val (v:= .pointer (some ⟨b1,2,none⟩)) rfl rfl rfl (e_fieldPt (b:=b1) (o:=2) rfl tf1) ?_
   refine l_val (v:=Ix (a.hx)) rfl rfl rfl (e_load1 tf2 (v:=Ix (a.hx)) rfl (k_pt 2 (cs:=(aC a)) (vs:=[Ix (a.hx)]) rfl rfl)) ?_
   refine l_val (v:= .pointer (some ⟨b2,2,none⟩)) rfl rfl rfl (e_fieldPt (b:=b2) (o:=0) rfl tf3) ?_
   refine l_val (v:= .pointer (some ⟨b2,2,none⟩)) rfl rfl rfl (e_fieldPt (b:=b2) (o:=2) rfl tf1) ?_
   refine l_val (v:=Ix (b.hx)) rfl rfl rfl (e_load1 tf2 (v:=Ix (b.hx)) rfl (k_pt 1 (cs:=(aC b)) (vs:=[Ix (b.hx)]) rfl rfl)) ?_
   refine l_val (v:=Ix (min (a.hx) (b.hx))) rfl rfl rfl (e_min (a:=(a.hx)) (b:=(b.hx)) rfl rfl) ?_
   refine l_val (v:= .pointer (some ⟨b1,2,none⟩)) rfl rfl rfl (e_fieldPt (b:=b1) (o:=0) rfl tf3) ?_
   refine l_val (v:= .pointer (some ⟨b1,3,none⟩)) rfl rfl rfl (e_fieldPt (b:=b1) (o:=2) rfl tf5) ?_
   refine l_val (v:=Ix (a.hy)) rfl rfl rfl (e_load1 tf2 (v:=Ix (a.hy)) rfl (k_pt 2 (cs:=(aC a)) (vs:=[Ix (a.hy)]) rfl rfl)) ?_
   refine l_val (v:= .pointer (some ⟨b2,2,none⟩)) rfl rfl rfl (e_fieldPt (b:=b2) (o:=0) rfl tf3) ?_
   refine l_val (v:= .pointer (some ⟨b2,3,none⟩)) rfl rfl rfl (e_fieldPt (b:=b2) (o:=2) rfl tf5) ?_
   refine l_val (v:=Ix (b.hy)) rfl rfl rfl (e_load1 tf2 (v:=Ix (b.hy)) rfl (k_pt 1 (cs:=(aC b)) (vs:=[Ix (b.hy)]) rfl rfl)) ?_
   refine l_val (v:=Ix (min (a.hy) (b.hy))) rfl rfl rfl (e_min (a:=(a.hy)) (b:=(b.hy)) rfl rfl) ?_
   refine l_val (v:= .agg #[Ix (min (a.hx) (b.hx)),Ix (min (a.hy) (b.hy))]) rfl rfl rfl (e_build tf8 tf7 (vs:=[(0,Ix (min (a.hx) (b.hx))),(1,Ix (min (a.hy) (b.hy)))]) (cells:= #[Ix (min (a.hx) (b.hx)),Ix (min (a.hy) (b.hy))]) rfl rfl) ?_
   refine l_val (v:= .agg #[Ix (max (a.lx) (b.lx)),Ix (max (a.ly) (b.ly)),Ix (min (a.hx) (b.hx)),Ix (min (a.hy) (b.hy))]) rfl rfl rfl (e_build tf6 tf9 (vs:=[(0,.agg #[Ix (max (a.lx) (b.lx)),Ix (max (a.ly) (b.ly))]),(1,.agg #[Ix (min (a.hx) (b.hx)),Ix (min (a.hy) (b.hy))])]) (cells:= #[Ix (max (a.lx) (b.lx)),Ix (max (a.ly) (b.ly)),Ix (min (a.hx) (b.hx)),Ix (min (a.hy) (b.hy))]) rfl rfl) ?_
   refine l_mv rfl rfl rfl (m_alloc tf6) ?_
   rintro _ _ ⟨b6,rfl,rfl⟩
   refine l_mu rfl rfl (m_store 0 tf10 (b:=b6) (o:=0) (T:=32) (cs:= #[.int .i64 (0),.int .i64 (0),.int .i64 (0),.int .i64 (0)]) (cs':= #[Ix (max (a.lx) (b.lx)),Ix (max (a.ly) (b.ly)),Ix (min (a.hx) (b.hx)),Ix (min (a.hy) (b.hy))]) (v:= .agg #[Ix (max (a.lx) (b.lx)),Ix (max (a.ly) (b.ly)),Ix (min (a.hx) (b.hx)),Ix (min (a.hy) (b.hy))]) rfl rfl rfl rfl rfl rfl rfl) ?_
   refine l_nil ?_
   refine f_then ?_
   refine c_seq ?_
   refine c_seq ?_
   refine c_region ?_
   refine l_val (v:= .agg #[Ix (max (a.lx) (b.lx)),Ix (max (a.ly) (b.ly)),Ix (min (a.hx) (b.hx)),Ix (min (a.hy) (b.hy))]) rfl rfl rfl (e_load tf10 (cs:=[Ix (max (a.lx) (b.lx)),Ix (max (a.ly) (b.ly)),Ix (min (a.hx) (b.hx)),Ix (min (a.hy) (b.hy))]) rfl (k_pt 0 (cs:= #[Ix (max (a.lx) (b.lx)),Ix (max (a.ly) (b.ly)),Ix (min (a.hx) (b.hx)),Ix (min (a.hy) (b.hy))]) (vs:=[Ix (max (a.lx) (b.lx)),Ix (max (a.ly) (b.ly)),Ix (min (a.hx) (b.hx)),Ix (min (a.hy) (b.hy))]) rfl rfl) rfl) ?_
   refine l_call rfl rfl rfl (cl_value (fst:=[]) (cap:=[]) (vs:=[.agg #[Ix (max (a.lx) (b.lx)),Ix (max (a.ly) (b.ly)),Ix (min (a.hx) (b.hx)),Ix (min (a.hy) (b.hy))]]) (all:=[.agg #[Ix (max (a.lx) (b.lx)),Ix (max (a.ly) (b.ly)),Ix (min (a.hx) (b.hx)),Ix (min (a.hy) (b.hy))]]) tf105 rfl rfl rfl) ?_
   intro w hw
   obtain⟨β1,sb,kn,hw1,back⟩:=St.frame_all hw
   refine(rvalid_ok β1 w hw1 (comA a b)).mono ?_
   rintro e w' ⟨rfl,hw'⟩
   refine⟨_,rfl,_,back _ _ hw',?_⟩
   clear hw hw1 hw' back kn sb
   refine l_val (v:= .bool (decide (¬(okA (comA a b))))) rfl rfl rfl (e_not_p (p:=okA (comA a b)) rfl) ?_
   refine l_nil ?_
   refine f_then ?_
   refine c_if (¬(okA (comA a b))) rfl (fun hc7=> ?_) (fun hc7=> ?_)
   ·
    refine c_seq ?_
    refine c_region ?_
    refine l_val (v:= .agg #[.int .i64 (0),.int .i64 (0),.int .i64 (0),.int .i64 (0)]) rfl rfl rfl (e_build tf6 tf9 (vs:=[]) (cells:= #[.int .i64 (0),.int .i64 (0),.int .i64 (0),.int .i64 (0)]) rfl rfl) ?_
    refine l_mu rfl rfl (m_store 1 tf10 (b:=b3) (o:=0) (T:=32) (cs:= #[.int .i64 (0),.int .i64 (0),.int .i64 (0),.int .i64 (0)]) (cs':= #[.int .i64 (0),.int .i64 (0),.int .i64 (0),.int .i64 (0)]) (v:= .agg #[.int .i64 (0),.int .i64 (0),.int .i64 (0),.int .i64 (0)]) rfl rfl rfl rfl rfl rfl rfl) ?_
    refine l_val (v:= .bool false) rfl rfl rfl (e_assign) ?_
    refine l_nil ?_
    refine f_then ?_
    refine c_ret ?_
    refine f_then_ret ?_
    refine retG (l:=[.cell 4 32,.tmp 5]) (m:=[.agg #[.int .i64 (0),.int .i64 (0),.int .i64 (0),.int .i64 (0)],.bool false]) (v:= .tuple #[.agg #[.int .i64 (0),.int .i64 (0),.int .i64 (0),.int .i64 (0)],.bool false]) Tryz.results32 ⟨rd_cell tf10 (cs:=[.int .i64 (0),.int .i64 (0),.int .i64 (0),.int .i64 (0)]) rfl (k_pt 1 (cs:= #[.int .i64 (0),.int .i64 (0),.int .i64 (0),.int .i64 (0)]) (vs:=[.int .i64 (0),.int .i64 (0),.int .i64 (0),.int .i64 (0)]) rfl rfl) rfl,rd_tmp (v:= .bool false) rfl,trivial⟩ rfl ?_
    intro w hw
    have hm:¬meetA a b:=fun q=>hc7 q.2.2
    exact⟨by rw[comR_no hm,decide_eq_false hm]<;>rfl,st_mask [false,false,false,false] rfl hw⟩
   ·
    refine c_skip ?_
    refine f_then ?_
    refine c_seq ?_
    refine c_region ?_
    refine l_val (v:= .agg #[Ix (max (a.lx) (b.lx)),Ix (max (a.ly) (b.ly)),Ix (min (a.hx) (b.hx)),Ix (min (a.hy) (b.hy))]) rfl rfl rfl (e_load tf10 (cs:=[Ix (max (a.lx) (b.lx)),Ix (max (a.ly) (b.ly)),Ix (min (a.hx) (b.hx)),Ix (min (a.hy) (b.hy))]) rfl (k_pt 0 (cs:= #[Ix (max (a.lx) (b.lx)),Ix (max (a.ly) (b.ly)),Ix (min (a.hx) (b.hx)),Ix (min (a.hy) (b.hy))]) (vs:=[Ix (max (a.lx) (b.lx)),Ix (max (a.ly) (b.ly)),Ix (min (a.hx) (b.hx)),Ix (min (a.hy) (b.hy))]) rfl rfl) rfl) ?_
    refine l_mu rfl rfl (m_store 1 tf10 (b:=b3) (o:=0) (T:=32) (cs:= #[.int .i64 (0),.int .i64 (0),.int .i64 (0),.int .i64 (0)]) (cs':= #[Ix (max (a.lx) (b.lx)),Ix (max (a.ly) (b.ly)),Ix (min (a.hx) (b.hx)),Ix (min (a.hy) (b.hy))]) (v:= .agg #[Ix (max (a.lx) (b.lx)),Ix (max (a.ly) (b.ly)),Ix (min (a.hx) (b.hx)),Ix (min (a.hy) (b.hy))]) rfl rfl rfl rfl rfl rfl rfl) ?_
    refine l_val (v:= .bool true) rfl rfl rfl (e_assign) ?_
    refine l_nil ?_
    refine f_then ?_
    refine c_ret ?_
    refine retG (l:=[.cell 4 32,.tmp 5]) (m:=[.agg #[Ix (max (a.lx) (b.lx)),Ix (max (a.ly) (b.ly)),Ix (min (a.hx) (b.hx)),Ix (min (a.hy) (b.hy))],.bool true]) (v:= .tuple #[.agg #[Ix (max (a.lx) (b.lx)),Ix (max (a.ly) (b.ly)),Ix (min (a.hx) (b.hx)),Ix (min (a.hy) (b.hy))],.bool true]) Tryz.results32 ⟨rd_cell tf10 (cs:=[Ix (max (a.lx) (b.lx)),Ix (max (a.ly) (b.ly)),Ix (min (a.hx) (b.hx)),Ix (min (a.hy) (b.hy))]) rfl (k_pt 1 (cs:= #[Ix (max (a.lx) (b.lx)),Ix (max (a.ly) (b.ly)),Ix (min (a.hx) (b.hx)),Ix (min (a.hy) (b.hy))]) (vs:=[Ix (max (a.lx) (b.lx)),Ix (max (a.ly) (b.ly)),Ix (min (a.hx) (b.hx)),Ix (min (a.hy) (b.hy))]) rfl rfl) rfl,rd_tmp (v:= .bool true) rfl,trivial⟩ rfl ?_
    intro w hw
    have hm:meetA a b:=⟨(Decidable.not_not.1 hg4),(Decidable.not_not.1 hc5),(Decidable.not_not.1 hc7)⟩
    exact⟨by rw[comR_yes hm,decide_eq_true hm]<;>rfl,st_mask [false,false,false,false] rfl hw⟩
theorem rmeet_ok(β:Base)(w:World)(hw:St β [] w)(a b:KA):Calls Tryz.prog 36 #[.agg (aC a),.agg (aC b)] w fun r w'=>r= .returned (.bool (decide (meetA a b)))∧St β [] w':=by
 refine enter (n:=14) Tryz.func36 rfl Tryz.ntmps36 rfl ?_ hw
 refine c_seq ?_
 refine c_region ?_
 refine l_mv rfl rfl rfl (m_box (v:= .agg (aC a)) rfl) ?_
 rintro _ _ ⟨b1,rfl,rfl⟩
 refine l_mv rfl rfl rfl (m_box (v:= .agg (aC b)) rfl) ?_
 rintro _ _ ⟨b2,rfl,rfl⟩
 refine l_val (v:= .bool false) rfl rfl rfl (e_assign) ?_
 refine l_nil ?_
 refine f_then ?_
 refine c_seq ?_
 refine c_region ?_
 refine l_val (v:= .agg (aC a)) rfl rfl rfl (e_load tf10 (cs:=(areaE a)) rfl (k_pt 1 (cs:=(aC a)) (vs:=(areaE a)) rfl rfl) rfl) ?_
 refine l_val (v:= .agg (aC b)) rfl rfl rfl (e_load tf10 (cs:=(areaE b)) rfl (k_pt 0 (cs:=(aC b)) (vs:=(areaE b)) rfl rfl) rfl) ?_
 refine l_call rfl rfl rfl (cl_value (fst:=[]) (cap:=[]) (vs:=[.agg (aC a),.agg (aC b)]) (all:=[.agg (aC a),.agg (aC b)]) tf106 rfl rfl rfl) ?_
 intro w hw
 obtain⟨β1,sb,kn,hw1,back⟩:=St.frame_all hw
 refine(rcommon_ok β1 w hw1 a b).mono ?_
 rintro e w' ⟨rfl,hw'⟩
 refine⟨_,rfl,_,back _ _ hw',?_⟩
 clear hw hw1 hw' back kn sb
 refine l_val (v:= .tuple #[.agg (aC (comR a b)),.bool (decide (meetA a b))]) rfl rfl rfl (e_move) ?_
 refine l_val (v:= .agg (aC (comR a b))) rfl rfl rfl (e_extract (vs:= #[.agg (aC (comR a b)),.bool (decide (meetA a b))]) rfl rfl) ?_
 refine l_val (v:= .bool (decide (meetA a b))) rfl rfl rfl (e_extract (vs:= #[.agg (aC (comR a b)),.bool (decide (meetA a b))]) rfl rfl) ?_
 refine l_mv rfl rfl rfl (m_alloc tf6) ?_
 rintro _ _ ⟨b3,rfl,rfl⟩
 refine l_mu rfl rfl (m_store 0 tf10 (b:=b3) (o:=0) (T:=32) (cs:= #[.int .i64 (0),.int .i64 (0),.int .i64 (0),.int .i64 (0)]) (cs':=(aC (comR a b))) (v:= .agg (aC (comR a b))) rfl rfl rfl rfl rfl rfl rfl) ?_
 refine l_val (v:= .bool (decide (meetA a b))) rfl rfl rfl (e_assign) ?_
 refine l_nil ?_
 refine f_then ?_
 refine c_seq ?_
 refine c_region ?_
 refine l_val (v:= .bool (decide (meetA a b))) rfl rfl rfl (e_move) ?_
 refine l_val (v:= .bool (decide (meetA a b))) rfl rfl rfl (e_assign) ?_
 refine l_nil ?_
 refine f_then ?_
 refine c_ret ?_
 refine ret1 Tryz.results36 (v:= .bool (decide (meetA a b))) rfl ?_
 intro w hw
 exact⟨rfl,st_mask [false,false,false] rfl hw⟩
set_option maxHeartbeats 4000000 in
theorem rjoin_ok(β:Base)(w:World)(hw:St β [] w)(a b:KA):Calls Tryz.prog 37 #[.agg (aC a),.agg (aC b)] w fun r w'=>r= .returned (.agg (aC (joinR a b)))∧St β [] w':=by
 refine enter (n:=45) Tryz.func37 rfl Tryz.ntmps37 rfl ?_ hw
 refine c_seq ?_
 refine c_region ?_
 refine l_mv rfl rfl rfl (m_box (v:= .agg (aC a)) rfl) ?_
 rintro _ _ ⟨b1,rfl,rfl⟩
 refine l_mv rfl rfl rfl (m_box (v:= .agg (aC b)) rfl) ?_
 rintro _ _ ⟨b2,rfl,rfl⟩
 refine l_mv rfl rfl rfl (m_alloc tf6) ?_
 rintro _ _ ⟨b3,rfl,rfl⟩
 refine l_nil ?_
 refine f_then ?_
 refine c_seq ?_
 refine c_seq ?_
 refine c_region ?_
 refine l_val (v:= .agg (aC a)) rfl rfl rfl (e_load tf10 (cs:=(areaE a)) rfl (k_pt 2 (cs:=(aC a)) (vs:=(areaE a)) rfl rfl) rfl) ?_
 refine l_call rfl rfl rfl (cl_value (fst:=[]) (cap:=[]) (vs:=[.agg (aC a)]) (all:=[.agg (aC a)]) tf105 rfl rfl rfl) ?_
 intro w hw
 obtain⟨β1,sb,kn,hw1,back⟩:=St.frame_all hw
 refine(rvalid_ok β1 w hw1 a).mono ?_
 rintro e w' ⟨rfl,hw'⟩
 refine⟨_,rfl,_,back _ _ hw',?_⟩
 clear hw hw1 hw' back kn sb
 refine l_val (v:= .bool (decide (¬(okA a)))) rfl rfl rfl (e_not_p (p:=okA a) rfl) ?_
 refine l_val (v:= .bool (decide (¬(okA a)))) rfl rfl rfl (e_move) ?_
 refine l_split (s:=8) (p:=¬(okA a)) rfl (fun hg4=> ?_) (fun hg4=> ?_)
 ·
  refine l_skip rfl rfl rfl rfl rfl rfl ?_
  refine l_skip rfl rfl rfl rfl rfl rfl ?_
  refine l_skip rfl rfl rfl rfl rfl rfl ?_
  refine l_val (v:= .bool true) rfl rfl rfl (e_pick_t rfl) ?_
  refine l_nil ?_
  refine f_then ?_
  refine c_yes rfl ?_
  refine c_seq ?_
  refine c_region ?_
  refine l_val (v:= .agg #[.int .i64 (0),.int .i64 (0),.int .i64 (0),.int .i64 (0)]) rfl rfl rfl (e_build tf6 tf9 (vs:=[]) (cells:= #[.int .i64 (0),.int .i64 (0),.int .i64 (0),.int .i64 (0)]) rfl rfl) ?_
  refine l_mu rfl rfl (m_store 0 tf10 (b:=b3) (o:=0) (T:=32) (cs:= #[.int .i64 (0),.int .i64 (0),.int .i64 (0),.int .i64 (0)]) (cs':= #[.int .i64 (0),.int .i64 (0),.int .i64 (0),.int .i64 (0)]) (v:= .agg #[.int .i64 (0),.int .i64 (0),.int .i64 (0),.int .i64 (0)]) rfl rfl rfl rfl rfl rfl rfl) ?_
  refine l_nil ?_
  refine f_then ?_
  refine c_ret ?_
  refine f_then_ret ?_
  refine retG (l:=[.cell 4 32]) (m:=[.agg #[.int .i64 (0),.int .i64 (0),.int .i64 (0),.int .i64 (0)]]) (v:= .agg #[.int .i64 (0),.int .i64 (0),.int .i64 (0),.int .i64 (0)]) Tryz.results37 ⟨rd_cell tf10 (cs:=[.int .i64 (0),.int .i64 (0),.int .i64 (0),.int .i64 (0)]) rfl (k_pt 0 (cs:= #[.int .i64 (0),.int .i64 (0),.int .i64 (0),.int .i64 (0)]) (vs:=[.int .i64 (0),.int .i64 (0),.int .i64 (0),.int .i64 (0)]) rfl rfl) rfl,trivial⟩ rfl ?_
  intro w hw
  exact⟨by rw[show joinR a b=zeroA from if_neg (by simp_all)]<;>rfl,st_mask [false,false,false] rfl hw⟩
 ·
  refine g_val (v:= .agg (aC b)) rfl rfl rfl rfl rfl (e_load tf10 (cs:=(areaE b)) rfl (k_pt 1 (cs:=(aC b)) (vs:=(areaE b)) rfl rfl) rfl) ?_
  refine g_call rfl rfl rfl rfl rfl (cl_value (fst:=[]) (cap:=[]) (vs:=[.agg (aC b)]) (all:=[.agg (aC b)]) tf105 rfl rfl rfl) ?_
  intro w hw
  obtain⟨β1,sb,kn,hw1,back⟩:=St.frame_all hw
  refine(rvalid_ok β1 w hw1 b).mono ?_
  rintro e w' ⟨rfl,hw'⟩
  refine⟨_,rfl,_,back _ _ hw',?_⟩
  clear hw hw1 hw' back kn sb
  refine g_val (v:= .bool (decide (¬(okA b)))) rfl rfl rfl rfl rfl (e_not_p (p:=okA b) rfl) ?_
  refine l_val (v:= .bool (decide (¬(okA b)))) rfl rfl rfl (e_pick_f rfl) ?_
  refine l_nil ?_
  refine f_then ?_
  refine c_if (¬(okA b)) rfl (fun hc5=> ?_) (fun hc5=> ?_)
  ·
   refine c_seq ?_
   refine c_region ?_
   refine l_val (v:= .agg #[.int .i64 (0),.int .i64 (0),.int .i64 (0),.int .i64 (0)]) rfl rfl rfl (e_build tf6 tf9 (vs:=[]) (cells:= #[.int .i64 (0),.int .i64 (0),.int .i64 (0),.int .i64 (0)]) rfl rfl) ?_
   refine l_mu rfl rfl (m_store 0 tf10 (b:=b3) (o:=0) (T:=32) (cs:= #[.int .i64 (0),.int .i64 (0),.int .i64 (0),.int .i64 (0)]) (cs':= #[.int .i64 (0),.int .i64 (0),.int .i64 (0),.int .i64 (0)]) (v:= .agg #[.int .i64 (0),.int .i64 (0),.int .i64 (0),.int .i64 (0)]) rfl rfl rfl rfl rfl rfl rfl) ?_
   refine l_nil ?_
   refine f_then ?_
   refine c_ret ?_
   refine f_then_ret ?_
   refine retG (l:=[.cell 4 32]) (m:=[.agg #[.int .i64 (0),.int .i64 (0),.int .i64 (0),.int .i64 (0)]]) (v:= .agg #[.int .i64 (0),.int .i64 (0),.int .i64 (0),.int .i64 (0)]) Tryz.results37 ⟨rd_cell tf10 (cs:=[.int .i64 (0),.int .i64 (0),.int .i64 (0),.int .i64 (0)]) rfl (k_pt 0 (cs:= #[.int .i64 (0),.int .i64 (0),.int .i64 (0),.int .i64 (0)]) (vs:=[.int .i64 (0),.int .i64 (0),.int .i64 (0),.int .i64 (0)]) rfl rfl) rfl,trivial⟩ rfl ?_
   intro w hw
   exact⟨by rw[show joinR a b=zeroA from if_neg (by simp_all)]<;>rfl,st_mask [false,false,false] rfl hw⟩
  ·
   refine c_skip ?_
   refine f_then ?_
   refine c_seq ?_
   refine c_region ?_
   refine l_val (v:= .pointer (some ⟨b1,0,none⟩)) rfl rfl rfl (e_fieldPt (b:=b1) (o:=0) rfl tf0) ?_
   refine l_val (v:= .pointer (some ⟨b1,0,none⟩)) rfl rfl rfl (e_fieldPt (b:=b1) (o:=0) rfl tf1) ?_
   refine l_val (v:=Ix (a.lx)) rfl rfl rfl (e_load1 tf2 (v:=Ix (a.lx)) rfl (k_pt 2 (cs:=(aC a)) (vs:=[Ix (a.lx)]) rfl rfl)) ?_
   refine l_val (v:= .pointer (some ⟨b2,0,none⟩)) rfl rfl rfl (e_fieldPt (b:=b2) (o:=0) rfl tf0) ?_
   refine l_val (v:= .pointer (some ⟨b2,0,none⟩)) rfl rfl rfl (e_fieldPt (b:=b2) (o:=0) rfl tf1) ?_
   refine l_val (v:=Ix (b.lx)) rfl rfl rfl (e_load1 tf2 (v:=Ix (b.lx)) rfl (k_pt 1 (cs:=(aC b)) (vs:=[Ix (b.lx)]) rfl rfl)) ?_
   refine l_val (v:=Ix (min (a.lx) (b.lx))) rfl rfl rfl (e_min (a:=(a.lx)) (b:=(b.lx)) rfl rfl) ?_
   refine l_val (v:= .pointer (some ⟨b1,0,none⟩)) rfl rfl rfl (e_fieldPt (b:=b1) (o:=0) rfl tf0) ?_
   refine l_val (v:= .pointer (some ⟨b1,1,none⟩)) rfl rfl rfl (e_fieldPt (b:=b1) (o:=0) rfl tf5) ?_
   refine l_val (v:=Ix (a.ly)) rfl rfl rfl (e_load1 tf2 (v:=Ix (a.ly)) rfl (k_pt 2 (cs:=(aC a)) (vs:=[Ix (a.ly)]) rfl rfl)) ?_
   refine l_val (v:= .pointer (some ⟨b2,0,none⟩)) rfl rfl rfl (e_fieldPt (b:=b2) (o:=0) rfl tf0) ?_
   refine l_val (v:= .pointer (some ⟨b2,1,none⟩)) rfl rfl rfl (e_fieldPt (b:=b2) (o:=0) rfl tf5) ?_
   refine l_val (v:=Ix (b.ly)) rfl rfl rfl (e_load1 tf2 (v:=Ix (b.ly)) rfl (k_pt 1 (cs:=(aC b)) (vs:=[Ix (b.ly)]) rfl rfl)) ?_
   refine l_val (v:=Ix (min (a.ly) (b.ly))) rfl rfl rfl (e_min (a:=(a.ly)) (b:=(b.ly)) rfl rfl) ?_
   refine l_val (v:= .agg #[Ix (min (a.lx) (b.lx)),Ix (min (a.ly) (b.ly))]) rfl rfl rfl (e_build tf8 tf7 (vs:=[(0,Ix (min (a.lx) (b.lx))),(1,Ix (min (a.ly) (b.ly)))]) (cells:= #[Ix (min (a.lx) (b.lx)),Ix (min (a.ly) (b.ly))]) rfl rfl) ?_
   refine l_val (v:= .pointer (some ⟨b1,2,none⟩)) rfl rfl rfl (e_fieldPt (b:=b1) (o:=0) rfl tf3) ?_
   refine l_val (v:= .pointer (some ⟨b1,2,none⟩)) rfl rfl rfl (e_fieldPt (b:=b1) (o:=2) rfl tf1) ?_
   refine l_val (v:=Ix (a.hx)) rfl rfl rfl (e_load1 tf2 (v:=Ix (a.hx)) rfl (k_pt 2 (cs:=(aC a)) (vs:=[Ix (a.hx)]) rfl rfl)) ?_
   refine l_val (v:= .pointer (some ⟨b2,2,none⟩)) rfl rfl rfl (e_fieldPt (b:=b2) (o:=0) rfl tf3) ?_
   refine l_val (v:= .pointer (some ⟨b2,2,none⟩)) rfl rfl rfl (e_fieldPt (b:=b2) (o:=2) rfl tf1) ?_
   refine l_val (v:=Ix (b.hx)) rfl rfl rfl (e_load1 tf2 (v:=Ix (b.hx)) rfl (k_pt 1 (cs:=(aC b)) (vs:=[Ix (b.hx)]) rfl rfl)) ?_
   refine l_val (v:=Ix (max (a.hx) (b.hx))) rfl rfl rfl (e_max (a:=(a.hx)) (b:=(b.hx)) rfl rfl) ?_
   refine l_val (v:= .pointer (some ⟨b1,2,none⟩)) rfl rfl rfl (e_fieldPt (b:=b1) (o:=0) rfl tf3) ?_
   refine l_val (v:= .pointer (some ⟨b1,3,none⟩)) rfl rfl rfl (e_fieldPt (b:=b1) (o:=2) rfl tf5) ?_
   refine l_val (v:=Ix (a.hy)) rfl rfl rfl (e_load1 tf2 (v:=Ix (a.hy)) rfl (k_pt 2 (cs:=(aC a)) (vs:=[Ix (a.hy)]) rfl rfl)) ?_
   refine l_val (v:= .pointer (some ⟨b2,2,none⟩)) rfl rfl rfl (e_fieldPt (b:=b2) (o:=0) rfl tf3) ?_
   refine l_val (v:= .pointer (some ⟨b2,3,none⟩)) rfl rfl rfl (e_fieldPt (b:=b2) (o:=2) rfl tf5) ?_
   refine l_val (v:=Ix (b.hy)) rfl rfl rfl (e_load1 tf2 (v:=Ix (b.hy)) rfl (k_pt 1 (cs:=(aC b)) (vs:=[Ix (b.hy)]) rfl rfl)) ?_
   refine l_val (v:=Ix (max (a.hy) (b.hy))) rfl rfl rfl (e_max (a:=(a.hy)) (b:=(b.hy)) rfl rfl) ?_
   refine l_val (v:= .agg #[Ix (max (a.hx) (b.hx)),Ix (max (a.hy) (b.hy))]) rfl rfl rfl (e_build tf8 tf7 (vs:=[(0,Ix (max (a.hx) (b.hx))),(1,Ix (max (a.hy) (b.hy)))]) (cells:= #[Ix (max (a.hx) (b.hx)),Ix (max (a.hy) (b.hy))]) rfl rfl) ?_
   refine l_val (v:= .agg #[Ix (min (a.lx) (b.lx)),Ix (min (a.ly) (b.ly)),Ix (max (a.hx) (b.hx)),Ix (max (a.hy) (b.hy))]) rfl rfl rfl (e_build tf6 tf9 (vs:=[(0,.agg #[Ix (min (a.lx) (b.lx)),Ix (min (a.ly) (b.ly))]),(1,.agg #[Ix (max (a.hx) (b.hx)),Ix (max (a.hy) (b.hy))])]) (cells:= #[Ix (min (a.lx) (b.lx)),Ix (min (a.ly) (b.ly)),Ix (max (a.hx) (b.hx)),Ix (max (a.hy) (b.hy))]) rfl rfl) ?_
   refine l_mu rfl rfl (m_store 0 tf10 (b:=b3) (o:=0) (T:=32) (cs:= #[.int .i64 (0),.int .i64 (0),.int .i64 (0),.int .i64 (0)]) (cs':= #[Ix (min (a.lx) (b.lx)),Ix (min (a.ly) (b.ly)),Ix (max (a.hx) (b.hx)),Ix (max (a.hy) (b.hy))]) (v:= .agg #[Ix (min (a.lx) (b.lx)),Ix (min (a.ly) (b.ly)),Ix (max (a.hx) (b.hx)),Ix (max (a.hy) (b.hy))]) rfl rfl rfl rfl rfl rfl rfl) ?_
   refine l_nil ?_
   refine f_then ?_
   refine c_ret ?_
   refine retG (l:=[.cell 4 32]) (m:=[.agg #[Ix (min (a.lx) (b.lx)),Ix (min (a.ly) (b.ly)),Ix (max (a.hx) (b.hx)),Ix (max (a.hy) (b.hy))]]) (v:= .agg #[Ix (min (a.lx) (b.lx)),Ix (min (a.ly) (b.ly)),Ix (max (a.hx) (b.hx)),Ix (max (a.hy) (b.hy))]) Tryz.results37 ⟨rd_cell tf10 (cs:=[Ix (min (a.lx) (b.lx)),Ix (min (a.ly) (b.ly)),Ix (max (a.hx) (b.hx)),Ix (max (a.hy) (b.hy))]) rfl (k_pt 0 (cs:= #[Ix (min (a.lx) (b.lx)),Ix (min (a.ly) (b.ly)),Ix (max (a.hx) (b.hx)),Ix (max (a.hy) (b.hy))]) (vs:=[Ix (min (a.lx) (b.lx)),Ix (min (a.ly) (b.ly)),Ix (max (a.hx) (b.hx)),Ix (max (a.hy) (b.hy))]) rfl rfl) rfl,trivial⟩ rfl ?_
   intro w hw
   exact⟨by rw[show joinR a b=joinA a b from if_pos (by simp_all)]<;>rfl,st_mask [false,false,false] rfl hw⟩
set_option maxHeartbeats 4000000 in
theorem two_ok(β:Base)(w:World)(hw:St β [] w)(a b:KA):Calls Tryz.prog 9 #[.agg (aC a),.agg (aC b)] w fun r w'=>r= .returned (.bool true)∧St β [] w':=by
 refine enter (n:=54) Tryz.func9 rfl Tryz.ntmps9 rfl ?_ hw
 refine c_seq ?_
 refine c_region ?_
 refine l_mv rfl rfl rfl (m_box (v:= .agg (aC a)) rfl) ?_
 rintro _ _ ⟨b1,rfl,rfl⟩
 refine l_mv rfl rfl rfl (m_box (v:= .agg (aC b)) rfl) ?_
 rintro _ _ ⟨b2,rfl,rfl⟩
 refine l_val (v:= .bool false) rfl rfl rfl (e_assign) ?_
 refine l_nil ?_
 refine f_then ?_
 refine c_seq ?_
 refine c_region ?_
 refine l_val (v:= .agg (aC a)) rfl rfl rfl (e_load tf10 (cs:=(areaE a)) rfl (k_pt 1 (cs:=(aC a)) (vs:=(areaE a)) rfl rfl) rfl) ?_
 refine l_val (v:= .agg (aC b)) rfl rfl rfl (e_load tf10 (cs:=(areaE b)) rfl (k_pt 0 (cs:=(aC b)) (vs:=(areaE b)) rfl rfl) rfl) ?_
 refine l_call rfl rfl rfl (cl_value (fst:=[]) (cap:=[]) (vs:=[.agg (aC a),.agg (aC b)]) (all:=[.agg (aC a),.agg (aC b)]) tf78 rfl rfl rfl) ?_
 intro w hw
 obtain⟨β1,sb,kn,hw1,back⟩:=St.frame_all hw
 refine(commonR_ok β1 w hw1 a b).mono ?_
 rintro e w' ⟨rfl,hw'⟩
 refine⟨_,rfl,_,back _ _ hw',?_⟩
 clear hw hw1 hw' back kn sb
 refine l_val (v:= .tuple #[.agg (aC (comR a b)),.bool (decide (meetA a b))]) rfl rfl rfl (e_move) ?_
 refine l_val (v:= .agg (aC (comR a b))) rfl rfl rfl (e_extract (vs:= #[.agg (aC (comR a b)),.bool (decide (meetA a b))]) rfl rfl) ?_
 refine l_val (v:= .bool (decide (meetA a b))) rfl rfl rfl (e_extract (vs:= #[.agg (aC (comR a b)),.bool (decide (meetA a b))]) rfl rfl) ?_
 refine l_mv rfl rfl rfl (m_alloc tf6) ?_
 rintro _ _ ⟨b3,rfl,rfl⟩
 refine l_mu rfl rfl (m_store 0 tf10 (b:=b3) (o:=0) (T:=32) (cs:= #[.int .i64 (0),.int .i64 (0),.int .i64 (0),.int .i64 (0)]) (cs':=(aC (comR a b))) (v:= .agg (aC (comR a b))) rfl rfl rfl rfl rfl rfl rfl) ?_
 refine l_val (v:= .bool (decide (meetA a b))) rfl rfl rfl (e_assign) ?_
 refine l_nil ?_
 refine f_then ?_
 refine c_seq ?_
 refine c_region ?_
 refine l_val (v:= .agg (aC a)) rfl rfl rfl (e_load tf10 (cs:=(areaE a)) rfl (k_pt 2 (cs:=(aC a)) (vs:=(areaE a)) rfl rfl) rfl) ?_
 refine l_val (v:= .agg (aC b)) rfl rfl rfl (e_load tf10 (cs:=(areaE b)) rfl (k_pt 1 (cs:=(aC b)) (vs:=(areaE b)) rfl rfl) rfl) ?_
 refine l_call rfl rfl rfl (cl_value (fst:=[]) (cap:=[]) (vs:=[.agg (aC a),.agg (aC b)]) (all:=[.agg (aC a),.agg (aC b)]) tf106 rfl rfl rfl) ?_
 intro w hw
 obtain⟨β1,sb,kn,hw1,back⟩:=St.frame_all hw
 refine(rcommon_ok β1 w hw1 a b).mono ?_
 rintro e w' ⟨rfl,hw'⟩
 refine⟨_,rfl,_,back _ _ hw',?_⟩
 clear hw hw1 hw' back kn sb
 refine l_val (v:= .tuple #[.agg (aC (comR a b)),.bool (decide (meetA a b))]) rfl rfl rfl (e_move) ?_
 refine l_val (v:= .agg (aC (comR a b))) rfl rfl rfl (e_extract (vs:= #[.agg (aC (comR a b)),.bool (decide (meetA a b))]) rfl rfl) ?_
 refine l_val (v:= .bool (decide (meetA a b))) rfl rfl rfl (e_extract (vs:= #[.agg (aC (comR a b)),.bool (decide (meetA a b))]) rfl rfl) ?_
 refine l_mv rfl rfl rfl (m_alloc tf6) ?_
 rintro _ _ ⟨b4,rfl,rfl⟩
 refine l_mu rfl rfl (m_store 0 tf10 (b:=b4) (o:=0) (T:=32) (cs:= #[.int .i64 (0),.int .i64 (0),.int .i64 (0),.int .i64 (0)]) (cs':=(aC (comR a b))) (v:= .agg (aC (comR a b))) rfl rfl rfl rfl rfl rfl rfl) ?_
 refine l_val (v:= .bool (decide (meetA a b))) rfl rfl rfl (e_assign) ?_
 refine l_nil ?_
 refine f_then ?_
 refine c_seq ?_
 refine c_quiet (by kernel_rfl) (by kernel_rfl) ?_
 refine q_val (v:= .agg (aC a)) rfl rfl rfl (e_load tf10 (cs:=(areaE a)) rfl (k_pt 3 (cs:=(aC a)) (vs:=(areaE a)) rfl rfl) rfl) ?_
 refine q_call (v:= .bool (decide (okA a))) rfl rfl rfl (cl_value (fst:=[]) (cap:=[]) (vs:=[.agg (aC a)]) (all:=[.agg (aC a)]) tf11 rfl rfl rfl) (fun w hw=> ?_) ?_
 ·obtain⟨β1,sb,kn,hw1,back⟩:=St.frame_all hw
  exact(avalid_ok β1 w hw1 a).mono (fun e w' ⟨he,hw'⟩=>⟨he,st_mask [true,true,true,true] rfl (back _ _ hw')⟩)
 refine q_val (v:= .agg (aC a)) rfl rfl rfl (e_load tf10 (cs:=(areaE a)) rfl (k_pt 3 (cs:=(aC a)) (vs:=(areaE a)) rfl rfl) rfl) ?_
 refine q_call (v:= .bool (decide (okA a))) rfl rfl rfl (cl_value (fst:=[]) (cap:=[]) (vs:=[.agg (aC a)]) (all:=[.agg (aC a)]) tf105 rfl rfl rfl) (fun w hw=> ?_) ?_
 ·obtain⟨β1,sb,kn,hw1,back⟩:=St.frame_all hw
  exact(rvalid_ok β1 w hw1 a).mono (fun e w' ⟨he,hw'⟩=>⟨he,st_mask [true,true,true,true] rfl (back _ _ hw')⟩)
 refine q_val (v:= .bool (((decide (okA a))==(decide (okA a))))) rfl rfl rfl (e_eql_b (a:=decide (okA a)) (b:=decide (okA a)) rfl rfl tf99) ?_
 refine q_val (v:= .bool (((decide (okA a))==(decide (okA a))))) rfl rfl rfl (e_move) ?_
 refine q_splitb (s:=26) (b:=((decide (okA a))==(decide (okA a)))) rfl (fun h=> ?_) (fun h=> ?_)
 rotate_left;(rw[(show(((decide (okA a))==(decide (okA a))))=true from by simp)]at h;cases h)
 refine qg_val (v:= .agg (aC a)) rfl rfl rfl rfl rfl (e_load tf10 (cs:=(areaE a)) rfl (k_pt 3 (cs:=(aC a)) (vs:=(areaE a)) rfl rfl) rfl) ?_
 refine qg_val (v:= .agg (aC b)) rfl rfl rfl rfl rfl (e_load tf10 (cs:=(areaE b)) rfl (k_pt 2 (cs:=(aC b)) (vs:=(areaE b)) rfl rfl) rfl) ?_
 refine qg_call (v:= .bool (decide (meetA a b))) rfl rfl rfl rfl rfl (cl_value (fst:=[]) (cap:=[]) (vs:=[.agg (aC a),.agg (aC b)]) (all:=[.agg (aC a),.agg (aC b)]) tf13 rfl rfl rfl) (fun w hw=> ?_) ?_
 ·obtain⟨β1,sb,kn,hw1,back⟩:=St.frame_all hw
  exact(meet_ok β1 w hw1 a b).mono (fun e w' ⟨he,hw'⟩=>⟨he,st_mask [true,true,true,true] rfl (back _ _ hw')⟩)
 refine qg_val (v:= .agg (aC a)) rfl rfl rfl rfl rfl (e_load tf10 (cs:=(areaE a)) rfl (k_pt 3 (cs:=(aC a)) (vs:=(areaE a)) rfl rfl) rfl) ?_
 refine qg_val (v:= .agg (aC b)) rfl rfl rfl rfl rfl (e_load tf10 (cs:=(areaE b)) rfl (k_pt 2 (cs:=(aC b)) (vs:=(areaE b)) rfl rfl) rfl) ?_
 refine qg_call (v:= .bool (decide (meetA a b))) rfl rfl rfl rfl rfl (cl_value (fst:=[]) (cap:=[]) (vs:=[.agg (aC a),.agg (aC b)]) (all:=[.agg (aC a),.agg (aC b)]) tf107 rfl rfl rfl) (fun w hw=> ?_) ?_
 ·obtain⟨β1,sb,kn,hw1,back⟩:=St.frame_all hw
  exact(rmeet_ok β1 w hw1 a b).mono (fun e w' ⟨he,hw'⟩=>⟨he,st_mask [true,true,true,true] rfl (back _ _ hw')⟩)
 refine qg_val (v:= .bool (((decide (meetA a b))==(decide (meetA a b))))) rfl rfl rfl rfl rfl (e_eql_b (a:=decide (meetA a b)) (b:=decide (meetA a b)) rfl rfl tf99) ?_
 refine q_val (v:= .bool (((decide (meetA a b))==(decide (meetA a b))))) rfl rfl rfl (e_pick_t rfl) ?_
 refine q_val (v:= .bool (((decide (meetA a b))==(decide (meetA a b))))) rfl rfl rfl (e_move) ?_
 refine q_splitb (s:=35) (b:=((decide (meetA a b))==(decide (meetA a b)))) rfl (fun h=> ?_) (fun h=> ?_)
 rotate_left;(rw[(show(((decide (meetA a b))==(decide (meetA a b))))=true from by simp)]at h;cases h)
 refine qg_val (v:= .agg (aC (comR a b))) rfl rfl rfl rfl rfl (e_load tf10 (cs:=(areaE (comR a b))) rfl (k_pt 1 (cs:=(aC (comR a b))) (vs:=(areaE (comR a b))) rfl rfl) rfl) ?_
 refine qg_val (v:= .agg (aC (comR a b))) rfl rfl rfl rfl rfl (e_load tf10 (cs:=(areaE (comR a b))) rfl (k_pt 0 (cs:=(aC (comR a b))) (vs:=(areaE (comR a b))) rfl rfl) rfl) ?_
 refine qg_val (v:= .bool (decide ((comR a b)=(comR a b)))) rfl rfl rfl rfl rfl (e_eql_t (xs:=areaE (comR a b)) (ys:=areaE (comR a b)) tf79 tf80 tf81 rfl rfl rfl rfl (area_eq (x:=(comR a b)) (y:=(comR a b)))) ?_
 refine q_val (v:= .bool (decide ((comR a b)=(comR a b)))) rfl rfl rfl (e_pick_t rfl) ?_
 refine q_val (v:= .bool (decide ((comR a b)=(comR a b)))) rfl rfl rfl (e_move) ?_
 refine q_split (s:=40) (p:=(comR a b)=(comR a b)) rfl (fun h=> ?_) (fun h=> ?_)
 rotate_left;exact absurd rfl h
 refine qg_val (v:= .bool (decide (meetA a b))) rfl rfl rfl rfl rfl (e_move) ?_
 refine qg_val (v:= .bool (decide (meetA a b))) rfl rfl rfl rfl rfl (e_move) ?_
 refine qg_val (v:= .bool (((decide (meetA a b))==(decide (meetA a b))))) rfl rfl rfl rfl rfl (e_eql_b (a:=decide (meetA a b)) (b:=decide (meetA a b)) rfl rfl tf99) ?_
 refine q_val (v:= .bool (((decide (meetA a b))==(decide (meetA a b))))) rfl rfl rfl (e_pick_t rfl) ?_
 refine q_val (v:= .bool (((decide (meetA a b))==(decide (meetA a b))))) rfl rfl rfl (e_move) ?_
 refine q_splitb (s:=45) (b:=((decide (meetA a b))==(decide (meetA a b)))) rfl (fun h=> ?_) (fun h=> ?_)
 rotate_left;(rw[(show(((decide (meetA a b))==(decide (meetA a b))))=true from by simp)]at h;cases h)
 refine qg_val (v:= .agg (aC a)) rfl rfl rfl rfl rfl (e_load tf10 (cs:=(areaE a)) rfl (k_pt 3 (cs:=(aC a)) (vs:=(areaE a)) rfl rfl) rfl) ?_
 refine qg_val (v:= .agg (aC b)) rfl rfl rfl rfl rfl (e_load tf10 (cs:=(areaE b)) rfl (k_pt 2 (cs:=(aC b)) (vs:=(areaE b)) rfl rfl) rfl) ?_
 refine qg_call (v:= .agg (aC (joinR a b))) rfl rfl rfl rfl rfl (cl_value (fst:=[]) (cap:=[]) (vs:=[.agg (aC a),.agg (aC b)]) (all:=[.agg (aC a),.agg (aC b)]) tf82 rfl rfl rfl) (fun w hw=> ?_) ?_
 ·obtain⟨β1,sb,kn,hw1,back⟩:=St.frame_all hw
  exact(join_ok β1 w hw1 a b).mono (fun e w' ⟨he,hw'⟩=>⟨he,st_mask [true,true,true,true] rfl (back _ _ hw')⟩)
 refine qg_val (v:= .agg (aC a)) rfl rfl rfl rfl rfl (e_load tf10 (cs:=(areaE a)) rfl (k_pt 3 (cs:=(aC a)) (vs:=(areaE a)) rfl rfl) rfl) ?_
 refine qg_val (v:= .agg (aC b)) rfl rfl rfl rfl rfl (e_load tf10 (cs:=(areaE b)) rfl (k_pt 2 (cs:=(aC b)) (vs:=(areaE b)) rfl rfl) rfl) ?_
 refine qg_call (v:= .agg (aC (joinR a b))) rfl rfl rfl rfl rfl (cl_value (fst:=[]) (cap:=[]) (vs:=[.agg (aC a),.agg (aC b)]) (all:=[.agg (aC a),.agg (aC b)]) tf108 rfl rfl rfl) (fun w hw=> ?_) ?_
 ·obtain⟨β1,sb,kn,hw1,back⟩:=St.frame_all hw
  exact(rjoin_ok β1 w hw1 a b).mono (fun e w' ⟨he,hw'⟩=>⟨he,st_mask [true,true,true,true] rfl (back _ _ hw')⟩)
 refine qg_val (v:= .bool (decide ((joinR a b)=(joinR a b)))) rfl rfl rfl rfl rfl (e_eql_t (xs:=areaE (joinR a b)) (ys:=areaE (joinR a b)) tf79 tf80 tf81 rfl rfl rfl rfl (area_eq (x:=(joinR a b)) (y:=(joinR a b)))) ?_
 refine q_val (v:= .bool (decide ((joinR a b)=(joinR a b)))) rfl rfl rfl (e_pick_t rfl) ?_
 refine q_val (v:= .bool (decide ((joinR a b)=(joinR a b)))) rfl rfl rfl (e_assign) ?_
 refine q_nil ?_
 refine f_then ?_
 refine c_ret ?_
 refine ret1 Tryz.results9 (v:= .bool (decide ((joinR a b)=(joinR a b)))) rfl ?_
 intro w hw
 exact⟨congrArg (fun b:Bool=>Ending.returned (.bool b)) (decide_eq_true rfl),st_mask [false,false,false,false] rfl hw⟩
end Go.Proofs
