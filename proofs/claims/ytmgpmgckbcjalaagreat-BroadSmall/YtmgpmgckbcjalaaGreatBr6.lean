/-
 Spaces: walked. Printed by a program of my own.
-/
import Derived.Test.YtmgpmgckbcjalaaGreatBr5
import Derived.Test.YtmgpmgckbcjalaaGreatBrSp
namespace Go.Proofs
open Go Go.Sl Go.Brd
theorem tf47:stB Tryz.prog 73 [(0,1),(1,1)]=true:=by kernel_rfl
theorem tf48:(Tryz.prog.info? 73).bind (·.zero)=some (.agg #[.map none,.map none]):=by kernel_rfl
theorem tf49:Tryz.prog.underlying 34=some (.pointer (Tryz.prog.pointee 34)):=by kernel_rfl
theorem tf50:fldB Tryz.prog 73 0 0 1 false=true:=by kernel_rfl
theorem tf51:tyB Tryz.prog 70 false 1=true:=by kernel_rfl
theorem tf52:Tryz.prog.underlying 70=some (.map 3 32):=by kernel_rfl
theorem tf53:cfB Tryz.prog 38=true:=by kernel_rfl
theorem tf54:cfB Tryz.prog 40=true:=by kernel_rfl
theorem new_ok(β:Base)(w:World)(hw:St β [] w):Calls Tryz.prog 11 #[] w fun r w'=>∃b,r= .returned (.pointer (some ⟨b,0,none⟩))∧St β [spcR b ⟨[],[]⟩] w':=by
 refine enter (n:=5) Tryz.func11 rfl Tryz.ntmps11 rfl ?_ hw
 refine c_seq ?_
 refine c_region ?_
 refine l_val (v:= .pointer none) rfl rfl rfl (e_assign) ?_
 refine l_nil ?_
 refine f_then ?_
 refine c_seq ?_
 refine c_region ?_
 refine l_mv rfl rfl rfl (m_mkmap (K:=ArM)) ?_
 rintro _ _ ⟨b1,rfl,rfl⟩
 refine l_mv rfl rfl rfl (m_mkmap (K:=ToM)) ?_
 rintro _ _ ⟨b2,rfl,rfl⟩
 refine l_val (v:= .agg #[.map (some b1),.map (some b2)]) rfl rfl rfl (e_build tf48 tf47 (vs:=[(0,.map (some b1)),(1,.map (some b2))]) (cells:= #[.map (some b1),.map (some b2)]) rfl rfl) ?_
 refine l_mv rfl rfl rfl (m_box (v:= .agg #[.map (some b1),.map (some b2)]) rfl) ?_
 rintro _ _ ⟨b3,rfl,rfl⟩
 refine l_val (v:= .pointer (some ⟨b3,0,none⟩)) rfl rfl rfl (e_assign) ?_
 refine l_nil ?_
 refine f_then ?_
 refine c_ret ?_
 refine ret1 Tryz.results11 (v:= .pointer (some ⟨b3,0,none⟩)) rfl ?_
 intro w hw
 replace hw:=hw.perm (L':=[pt b3 (.cells #[.map (some b1),.map (some b2)] 73),mpR ArM b1 [],mpR ToM b2 []]) (by exact(perm_ix [0,2,1] 3 rfl (by kernel_rfl) (by kernel_rfl)))
 exact⟨b3,rfl,St.closeSpc (M:=[]) (az:=[]) (tz:=[]) (s:=⟨[],[]⟩) hw (.refl _) (.refl _)⟩
theorem right_ok(β:Base)(w:World)(hw:St β [] w)(b ma mt:Nat)(hc:Cs β.heap ⟨b,0,none⟩ [.map (some ma),.map (some mt)]):Calls Tryz.prog 38 #[.pointer (some ⟨b,0,none⟩)] w fun r w'=>r= .returned (.bool true)∧St β [] w':=by
 refine enter (n:=12) Tryz.func38 rfl Tryz.ntmps38 rfl ?_ hw
 refine c_seq ?_
 refine c_region ?_
 refine l_val (v:= .bool false) rfl rfl rfl (e_assign) ?_
 refine l_nil ?_
 refine f_then ?_
 refine c_seq ?_
 refine c_region ?_
 refine l_val (v:= .pointer (some (⟨b,0,none⟩))) rfl rfl rfl (e_move) ?_
 refine l_val (v:= .bool true) rfl rfl rfl (e_neq_pnil (p:=some (⟨b,0,none⟩)) rfl rfl tf49) ?_
 refine l_val (v:= .bool true) rfl rfl rfl (e_move) ?_
 refine g_val (v:= .pointer (some (⟨b,0,none⟩))) rfl rfl rfl rfl rfl (e_move) ?_
 refine g_val (v:= .pointer (some (⟨b,0,none⟩))) rfl rfl rfl rfl rfl (e_nil (a:=⟨b,0,none⟩) rfl) ?_
 refine g_val (v:= .pointer (some ((⟨b,0,none⟩:Addr).add 0))) rfl rfl rfl rfl rfl (e_fieldAddr (a:=⟨b,0,none⟩) rfl tf50) ?_
 refine g_val (v:= .map (some ma)) rfl rfl rfl rfl rfl (e_load1 tf51 (v:= .map (some ma)) rfl (Knows.imp (Knows.of_base (Cs.mono _ _) hc) (fun _ h=>Cs.sub (vs:=[.map (some ma)]) 0 h rfl))) ?_
 refine g_val (v:= .bool true) rfl rfl rfl rfl rfl (e_neq_mnil (b:=some ma) rfl rfl tf52) ?_
 refine l_val (v:= .bool true) rfl rfl rfl (e_pick_t rfl) ?_
 refine l_val (v:= .bool true) rfl rfl rfl (e_assign) ?_
 refine l_nil ?_
 refine f_then ?_
 refine c_ret ?_
 refine ret1 Tryz.results38 (v:= .bool true) rfl ?_
 intro w hw
 exact⟨rfl,st_mask [] rfl hw⟩
set_option maxHeartbeats 4000000 in
theorem put_ok'(β:Base)(w:World)(b:Nat)(s:KSp)(hw:St β [spcR b s] w)(hk:s.ok)(id:Int)(a:KA):Calls Tryz.prog 12 #[.pointer (some ⟨b,0,none⟩),Ix id,.agg (aC a)] w fun r w'=>r= .returned (Ix (errPut s id a))∧St β [spcR b (putX s id a)] w':=by
 refine enter (n:=48) Tryz.func12 rfl Tryz.ntmps12 rfl ?_ hw
 refine c_seq ?_
 refine c_openSpc rfl (fun ma mt az tz hpa hpt=> ?_)
 have hal:=hpa.length_eq
 have htl:=hpt.length_eq
 have hkf:=hk.few
 have hkm:=hk.many
 refine c_region ?_
 refine l_mv rfl rfl rfl (m_box (v:= .agg (aC a)) rfl) ?_
 rintro _ _ ⟨b1,rfl,rfl⟩
 refine l_val (v:= .int .i64 (0)) rfl rfl rfl (e_assign) ?_
 refine l_nil ?_
 refine f_then ?_
 refine c_seq ?_
 refine c_seq ?_
 refine c_region ?_
 refine l_val (v:= .pointer (some ⟨b,0,none⟩)) rfl rfl rfl (e_move) ?_
 refine l_call rfl rfl rfl (cl_value (fst:=[]) (cap:=[]) (vs:=[.pointer (some ⟨b,0,none⟩)]) (all:=[.pointer (some ⟨b,0,none⟩)]) tf53 rfl rfl rfl) ?_
 intro w hw
 obtain⟨β1,sb,kn,hw1,back⟩:=St.frame_all hw
 refine(right_ok β1 w hw1 _ _ _ (kn _ (k_pt 1 (o:=0) (cs:= #[.map (some ma),.map (some mt)]) (vs:=[.map (some ma),.map (some mt)]) rfl rfl))).mono ?_
 rintro e w' ⟨rfl,hw'⟩
 refine⟨_,rfl,_,back _ _ hw',?_⟩
 clear hw hw1 hw' back kn sb
 refine l_val (v:= .bool false) rfl rfl rfl (e_not (a:=true) rfl) ?_
 refine l_nil ?_
 refine f_then ?_
 refine c_no rfl ?_
 refine c_skip ?_
 refine f_then ?_
 refine c_seq ?_
 refine c_seq ?_
 refine c_region ?_
 refine l_val (v:=Ix (id)) rfl rfl rfl (e_move) ?_
 refine l_val (v:= .bool (decide ((id)<(0:Int)))) rfl rfl rfl (e_lss (a:=(id)) (b:=(0:Int)) rfl rfl) ?_
 refine l_val (v:= .bool (decide ((id)<(0:Int)))) rfl rfl rfl (e_move) ?_
 refine l_split (s:=14) (p:=(id)<(0:Int)) rfl (fun hg2=> ?_) (fun hg2=> ?_)
 ·
  refine l_skip rfl rfl rfl rfl rfl rfl ?_
  refine l_skip rfl rfl rfl rfl rfl rfl ?_
  refine l_val (v:= .bool true) rfl rfl rfl (e_pick_t rfl) ?_
  refine l_val (v:= .bool true) rfl rfl rfl (e_move) ?_
  refine l_skip rfl rfl rfl rfl rfl rfl ?_
  refine l_skip rfl rfl rfl rfl rfl rfl ?_
  refine l_skip rfl rfl rfl rfl rfl rfl ?_
  refine l_val (v:= .bool true) rfl rfl rfl (e_pick_t rfl) ?_
  refine l_nil ?_
  refine f_then ?_
  refine c_yes rfl ?_
  refine c_seq ?_
  refine c_region ?_
  refine l_val (v:= .int .i64 (2)) rfl rfl rfl (e_assign) ?_
  refine l_nil ?_
  refine f_then ?_
  refine c_ret ?_
  refine f_then_ret ?_
  refine ret1 Tryz.results12 (v:= .int .i64 (2)) rfl ?_
  intro w hw
  have he:errPut s id a=2:=if_neg (fun q=>by unfold argS at q;simp_all<;>omega)
  have hx:putX s id a=s:=if_neg (by rw[he];decide)
  replace hw:=hw.perm (L':=[pt b (.cells #[.map (some ma),.map (some mt)] 73),mpR ArM ma az,mpR ToM mt (tz.map tg),pt b1 (.cells (aC a) 32)]) (by exact(perm_ix [1,2,3,0] 4 rfl (by kernel_rfl) (by kernel_rfl)))
  have hs:=St.closeSpc (M:=[pt b1 (.cells (aC a) 32)]) hw hpa hpt
  exact⟨by rw[he],by rw[hx];exact st_mask [true,false] rfl hs⟩
 ·
  refine g_val (v:=Ix (id)) rfl rfl rfl rfl rfl (e_move) ?_
  refine g_val (v:= .bool (decide ((65536:Int)<(id)))) rfl rfl rfl rfl rfl (e_gtr (a:=(id)) (b:=(65536:Int)) rfl rfl) ?_
  refine l_val (v:= .bool (decide ((65536:Int)<(id)))) rfl rfl rfl (e_pick_f rfl) ?_
  refine l_val (v:= .bool (decide ((65536:Int)<(id)))) rfl rfl rfl (e_move) ?_
  refine l_split (s:=18) (p:=(65536:Int)<(id)) rfl (fun hg3=> ?_) (fun hg3=> ?_)
  ·
   refine l_skip rfl rfl rfl rfl rfl rfl ?_
   refine l_skip rfl rfl rfl rfl rfl rfl ?_
   refine l_skip rfl rfl rfl rfl rfl rfl ?_
   refine l_val (v:= .bool true) rfl rfl rfl (e_pick_t rfl) ?_
   refine l_nil ?_
   refine f_then ?_
   refine c_yes rfl ?_
   refine c_seq ?_
   refine c_region ?_
   refine l_val (v:= .int .i64 (2)) rfl rfl rfl (e_assign) ?_
   refine l_nil ?_
   refine f_then ?_
   refine c_ret ?_
   refine f_then_ret ?_
   refine ret1 Tryz.results12 (v:= .int .i64 (2)) rfl ?_
   intro w hw
   have he:errPut s id a=2:=if_neg (fun q=>by unfold argS at q;simp_all<;>omega)
   have hx:putX s id a=s:=if_neg (by rw[he];decide)
   replace hw:=hw.perm (L':=[pt b (.cells #[.map (some ma),.map (some mt)] 73),mpR ArM ma az,mpR ToM mt (tz.map tg),pt b1 (.cells (aC a) 32)]) (by exact(perm_ix [1,2,3,0] 4 rfl (by kernel_rfl) (by kernel_rfl)))
   have hs:=St.closeSpc (M:=[pt b1 (.cells (aC a) 32)]) hw hpa hpt
   exact⟨by rw[he],by rw[hx];exact st_mask [true,false] rfl hs⟩
  ·
   refine g_val (v:= .agg (aC a)) rfl rfl rfl rfl rfl (e_load tf10 (cs:=(areaE a)) rfl (k_pt 0 (cs:=(aC a)) (vs:=(areaE a)) rfl rfl) rfl) ?_
   refine g_call rfl rfl rfl rfl rfl (cl_value (fst:=[]) (cap:=[]) (vs:=[.agg (aC a)]) (all:=[.agg (aC a)]) tf11 rfl rfl rfl) ?_
   intro w hw
   obtain⟨β1,sb,kn,hw1,back⟩:=St.frame_all hw
   refine(avalid_ok β1 w hw1 a).mono ?_
   rintro e w' ⟨rfl,hw'⟩
   refine⟨_,rfl,_,back _ _ hw',?_⟩
   clear hw hw1 hw' back kn sb
   refine g_val (v:= .bool (decide (¬(okA a)))) rfl rfl rfl rfl rfl (e_not_p (p:=okA a) rfl) ?_
   refine l_val (v:= .bool (decide (¬(okA a)))) rfl rfl rfl (e_pick_f rfl) ?_
   refine l_nil ?_
   refine f_then ?_
   refine c_if (¬(okA a)) rfl (fun hc4=> ?_) (fun hc4=> ?_)
   ·
    refine c_seq ?_
    refine c_region ?_
    refine l_val (v:= .int .i64 (2)) rfl rfl rfl (e_assign) ?_
    refine l_nil ?_
    refine f_then ?_
    refine c_ret ?_
    refine f_then_ret ?_
    refine ret1 Tryz.results12 (v:= .int .i64 (2)) rfl ?_
    intro w hw
    have he:errPut s id a=2:=if_neg (fun q=>by unfold argS at q;simp_all<;>omega)
    have hx:putX s id a=s:=if_neg (by rw[he];decide)
    replace hw:=hw.perm (L':=[pt b (.cells #[.map (some ma),.map (some mt)] 73),mpR ArM ma az,mpR ToM mt (tz.map tg),pt b1 (.cells (aC a) 32)]) (by exact(perm_ix [1,2,3,0] 4 rfl (by kernel_rfl) (by kernel_rfl)))
    have hs:=St.closeSpc (M:=[pt b1 (.cells (aC a) 32)]) hw hpa hpt
    exact⟨by rw[he],by rw[hx];exact st_mask [true,false] rfl hs⟩
   ·
    refine c_skip ?_
    refine f_then ?_
    refine c_seq ?_
    refine c_seq ?_
    refine c_region ?_
    refine l_val (v:= .pointer (some ⟨b,0,none⟩)) rfl rfl rfl (e_move) ?_
    refine l_val (v:= .pointer (some ⟨b,0,none⟩)) rfl rfl rfl (e_nil (a:=⟨b,0,none⟩) rfl) ?_
    refine l_val (v:= .pointer (some ⟨b,0,none⟩)) rfl rfl rfl (e_fieldPt (b:=b) (o:=0) rfl tf50) ?_
    refine l_val (v:= .map (some ma)) rfl rfl rfl (e_load1 tf51 (v:= .map (some ma)) rfl (k_pt 1 (cs:= #[.map (some ma),.map (some mt)]) (vs:=[.map (some ma)]) rfl rfl)) ?_
    refine l_val (v:=Ix (id)) rfl rfl rfl (e_move) ?_
    refine l_val (v:= .tuple #[.agg (aC ((ArM.look az (id)).getD zeroA)),.bool ((ArM.look az (id)).isSome)]) rfl rfl rfl (e_look2 (K:=ArM) (b:=ma) (ks:=az) (k:=(id)) rfl rfl rfl (Knows.of_res 2 rfl (mpR.mono _ _ _) fun _ h=>h)) ?_
    refine l_val (v:= .tuple #[.agg (aC ((ArM.look az (id)).getD zeroA)),.bool ((ArM.look az (id)).isSome)]) rfl rfl rfl (e_move) ?_
    refine l_val (v:= .agg (aC ((ArM.look az (id)).getD zeroA))) rfl rfl rfl (e_extract (vs:= #[.agg (aC ((ArM.look az (id)).getD zeroA)),.bool ((ArM.look az (id)).isSome)]) rfl rfl) ?_
    refine l_val (v:= .bool ((ArM.look az (id)).isSome)) rfl rfl rfl (e_extract (vs:= #[.agg (aC ((ArM.look az (id)).getD zeroA)),.bool ((ArM.look az (id)).isSome)]) rfl rfl) ?_
    refine l_mv rfl rfl rfl (m_alloc tf6) ?_
    rintro _ _ ⟨b5,rfl,rfl⟩
    refine l_mu rfl rfl (m_store 0 tf10 (b:=b5) (o:=0) (T:=32) (cs:= #[.int .i64 (0),.int .i64 (0),.int .i64 (0),.int .i64 (0)]) (cs':=(aC ((ArM.look az (id)).getD zeroA))) (v:= .agg (aC ((ArM.look az (id)).getD zeroA))) rfl rfl rfl rfl rfl rfl rfl) ?_
    refine l_val (v:= .bool ((ArM.look az (id)).isSome)) rfl rfl rfl (e_assign) ?_
    refine l_nil ?_
    refine f_then ?_
    refine c_seq ?_
    refine c_region ?_
    refine l_val (v:= .bool ((ArM.look az (id)).isSome)) rfl rfl rfl (e_move) ?_
    refine l_val (v:= .bool (!((ArM.look az (id)).isSome))) rfl rfl rfl (e_not rfl) ?_
    refine l_val (v:= .bool (!((ArM.look az (id)).isSome))) rfl rfl rfl (e_move) ?_
    refine l_splitb (s:=34) (b:= !((ArM.look az (id)).isSome)) rfl (fun hg6=> ?_) (fun hg6=> ?_)
    ·
     refine g_val (v:= .pointer (some ⟨b,0,none⟩)) rfl rfl rfl rfl rfl (e_move) ?_
     refine g_val (v:= .pointer (some ⟨b,0,none⟩)) rfl rfl rfl rfl rfl (e_nil (a:=⟨b,0,none⟩) rfl) ?_
     refine g_val (v:= .pointer (some ⟨b,0,none⟩)) rfl rfl rfl rfl rfl (e_fieldPt (b:=b) (o:=0) rfl tf50) ?_
     refine g_val (v:= .map (some ma)) rfl rfl rfl rfl rfl (e_load1 tf51 (v:= .map (some ma)) rfl (k_pt 2 (cs:= #[.map (some ma),.map (some mt)]) (vs:=[.map (some ma)]) rfl rfl)) ?_
     refine g_val (v:=Nx (az.length)) rfl rfl rfl rfl rfl (e_mlen (K:=ArM) (b:=ma) (ks:=az) rfl rfl (Knows.of_res 3 rfl (mpR.mono _ _ _) fun _ h=>h)) ?_
     refine g_val (v:= .bool (decide (((az.length:Nat):Int)=(128:Int)))) rfl rfl rfl rfl rfl (e_eql (a:=((az.length:Nat):Int)) (b:=(128:Int)) rfl rfl) ?_
     refine l_val (v:= .bool (decide (((az.length:Nat):Int)=(128:Int)))) rfl rfl rfl (e_pick_t rfl) ?_
     refine l_nil ?_
     refine f_then ?_
     refine c_if (((az.length:Nat):Int)=(128:Int)) rfl (fun hc7=> ?_) (fun hc7=> ?_)
     ·
      refine c_seq ?_
      refine c_region ?_
      refine l_val (v:= .int .i64 (4)) rfl rfl rfl (e_assign) ?_
      refine l_nil ?_
      refine f_then ?_
      refine c_ret ?_
      refine f_then_ret ?_
      refine ret1 Tryz.results12 (v:= .int .i64 (4)) rfl ?_
      intro w hw
      have he:errPut s id a=4:=by rw[errPut,if_pos (by unfold argS;simp_all),if_pos (by rw[look_has hpa]at*;simp_all;omega)]
      have hx:putX s id a=s:=if_neg (by rw[he];decide)
      replace hw:=hw.perm (L':=[pt b (.cells #[.map (some ma),.map (some mt)] 73),mpR ArM ma az,mpR ToM mt (tz.map tg),pt b5 (.cells (aC ((ArM.look az (id)).getD zeroA)) 32),pt b1 (.cells (aC a) 32)]) (by exact(perm_ix [2,3,4,0,1] 5 rfl (by kernel_rfl) (by kernel_rfl)))
      have hs:=St.closeSpc (M:=[pt b5 (.cells (aC ((ArM.look az (id)).getD zeroA)) 32),pt b1 (.cells (aC a) 32)]) hw hpa hpt
      exact⟨by rw[he],by rw[hx];exact st_mask [true,false,false] rfl hs⟩
     ·
      refine c_skip ?_
      refine f_then ?_
      refine c_seq ?_
      refine c_any [⟨[],[],[0],[42],fun f=>f 42= .pointer (some ⟨b,0,none⟩)⟩,⟨[0],[0],[],[43],fun f=>f 43= .pointer (some ⟨b,0,none⟩)⟩,⟨[0,1],[1],[],[44],fun f=>f 44= .pointer (some ⟨b,0,none⟩)⟩,⟨[0,1,2],[2],[],[45],fun f=>f 45= .map (some ma)⟩,⟨[],[],[1],[46],fun f=>f 46=Ix (id)⟩,⟨[],[],[2],[47],fun f=>f 47= .agg (aC a)⟩,⟨[0,1,2,3,4,5],[3,4,5],[],[],fun _=>True⟩] [⟨none,none,[],[],fun _=>pt b5 (.cells (aC ((ArM.look az (id)).getD zeroA)) 32)⟩,⟨none,none,[5],[],fun _=>pt b1 (.cells (aC a) 32)⟩,⟨none,none,[3],[],fun _=>pt b (.cells #[.map (some ma),.map (some mt)] 73)⟩,⟨none,(some 6),[6],[],fun _=>mpR ArM ma az⟩,⟨none,none,[],[],fun _=>mpR ToM mt (tz.map tg)⟩,⟨(some 6),none,[],[],fun _=>mpR ArM ma (ArM.put az (id) a)⟩] [(0,.pointer (some ⟨b,0,none⟩)),(1,Ix (id)),(5,.pointer (some ⟨b1,0,none⟩))] [] [] (by kernel_rfl) (by kernel_rfl) (by kernel_rfl) (by kernel_rfl) rfl ⟨rfl,rfl,rfl,trivial⟩ ⟨?_,?_,?_,?_,?_,?_,?_,trivial⟩ ?_
      ·rintro f M-⟨i0,-⟩
       have hs0:f 0= .pointer (some ⟨b,0,none⟩):=i0
       refine ob_start (L':=M) (by rfl) (up_cons rfl hs0) ?_
       refine l_val (v:= .pointer (some ⟨b,0,none⟩)) rfl rfl rfl (e_move) ?_
       refine l_nil ?_
       exact f_owes_d (up_cons rfl hs0) rfl (List.Perm.refl _)
      ·rintro f M ⟨k0,-⟩-
       have hs42:f 42= .pointer (some ⟨b,0,none⟩):=k0
       refine ob_start (L':=M) (by rfl) (up_cons rfl hs42) ?_
       refine l_val (v:= .pointer (some ⟨b,0,none⟩)) rfl rfl rfl (e_nil (a:=⟨b,0,none⟩) rfl) ?_
       refine l_nil ?_
       exact f_owes_d (up_cons rfl hs42) rfl (List.Perm.refl _)
      ·rintro f M ⟨k0,-⟩-
       have hs43:f 43= .pointer (some ⟨b,0,none⟩):=k0
       refine ob_start (L':=M) (by rfl) (up_cons rfl hs43) ?_
       refine l_val (v:= .pointer (some ⟨b,0,none⟩)) rfl rfl rfl (e_fieldPt (b:=b) (o:=0) rfl tf50) ?_
       refine l_nil ?_
       exact f_owes_d (up_cons rfl hs43) rfl (List.Perm.refl _)
      ·rintro f M ⟨k0,-⟩-
       have hs44:f 44= .pointer (some ⟨b,0,none⟩):=k0
       refine ob_start (L':=pt b (.cells #[.map (some ma),.map (some mt)] 73)::M) (by rfl) (up_cons rfl hs44) ?_
       refine l_val (v:= .map (some ma)) rfl rfl rfl (e_load1 tf51 (v:= .map (some ma)) rfl (k_pt 0 (cs:= #[.map (some ma),.map (some mt)]) (vs:=[.map (some ma)]) rfl rfl)) ?_
       refine l_nil ?_
       exact f_owes_d (up_cons rfl hs44) rfl (perm_front 0 rfl)
      ·rintro f M-⟨i0,-⟩
       have hs1:f 1=Ix (id):=i0
       refine ob_start (L':=M) (by rfl) (up_cons rfl hs1) ?_
       refine l_val (v:=Ix (id)) rfl rfl rfl (e_move) ?_
       refine l_nil ?_
       exact f_owes_d (up_cons rfl hs1) rfl (List.Perm.refl _)
      ·rintro f M-⟨i0,-⟩
       have hs5:f 5= .pointer (some ⟨b1,0,none⟩):=i0
       refine ob_start (L':=pt b1 (.cells (aC a) 32)::M) (by rfl) (up_cons rfl hs5) ?_
       refine l_val (v:= .agg (aC a)) rfl rfl rfl (e_load tf10 (cs:=(areaE a)) rfl (k_pt 0 (cs:=(aC a)) (vs:=(areaE a)) rfl rfl) rfl) ?_
       refine l_nil ?_
       exact f_owes_d (up_cons rfl hs5) rfl (perm_front 0 rfl)
      ·rintro f M ⟨k0,k1,k2,-⟩-
       have hs45:f 45= .map (some ma):=k0
       have hs46:f 46=Ix (id):=k1
       have hs47:f 47= .agg (aC a):=k2
       refine ob_start (L':=mpR ArM ma az::M) (by rfl) (up_cons (up_cons (up_cons rfl hs45) hs46) hs47) ?_
       refine l_mu rfl rfl (m_mput (K:=ArM) (b:=ma) (ks:=az) (k:=(id)) (v:=a) 0 rfl rfl rfl rfl rfl) ?_
       refine l_nil ?_
       exact f_owes_n (up_cons (up_cons (up_cons rfl hs45) hs46) hs47) trivial (perm_front 0 rfl)
      rintro fa8 ⟨-,-,-,-,-,-,-,-⟩-
      refine f_re (L':=[pt b5 (.cells (aC ((ArM.look az (id)).getD zeroA)) 32),pt b1 (.cells (aC a) 32),pt b (.cells #[.map (some ma),.map (some mt)] 73),mpR ToM mt (tz.map tg),mpR ArM ma (ArM.put az (id) a)]) (by rfl) ?_
      refine f_then ?_
      refine c_seq ?_
      refine c_region ?_
      refine l_val (v:= .int .i64 (0)) rfl rfl rfl (e_assign) ?_
      refine l_nil ?_
      refine f_then ?_
      refine c_ret ?_
      refine ret1 Tryz.results12 (v:= .int .i64 (0)) rfl ?_
      intro w hw
      have he:errPut s id a=0:=by rw[errPut,if_pos (by unfold argS;simp_all),if_neg (by rw[look_has hpa]at*;simp_all<;>omega)]
      have hx:putX s id a=putS s id a:=if_pos he
      replace hw:=hw.perm (L':=[pt b (.cells #[.map (some ma),.map (some mt)] 73),mpR ArM ma (ArM.put az (id) a),mpR ToM mt (tz.map tg),pt b5 (.cells (aC ((ArM.look az (id)).getD zeroA)) 32),pt b1 (.cells (aC a) 32)]) (by exact(perm_ix [2,4,3,0,1] 5 rfl (by kernel_rfl) (by kernel_rfl)))
      have hs:=St.closeSpc (M:=[pt b5 (.cells (aC ((ArM.look az (id)).getD zeroA)) 32),pt b1 (.cells (aC a) 32)]) hw (put_has hk.keys hpa id a) (s:=putS s id a) hpt
      exact⟨by rw[he],by rw[hx];exact st_mask [true,false,false] rfl hs⟩
    ·
     refine l_skip rfl rfl rfl rfl rfl rfl ?_
     refine l_skip rfl rfl rfl rfl rfl rfl ?_
     refine l_skip rfl rfl rfl rfl rfl rfl ?_
     refine l_skip rfl rfl rfl rfl rfl rfl ?_
     refine l_skip rfl rfl rfl rfl rfl rfl ?_
     refine l_skip rfl rfl rfl rfl rfl rfl ?_
     refine l_val (v:= .bool false) rfl rfl rfl (e_pick_f rfl) ?_
     refine l_nil ?_
     refine f_then ?_
     refine c_no rfl ?_
     refine c_skip ?_
     refine f_then ?_
     refine c_seq ?_
     refine c_any [⟨[],[],[0],[42],fun f=>f 42= .pointer (some ⟨b,0,none⟩)⟩,⟨[0],[0],[],[43],fun f=>f 43= .pointer (some ⟨b,0,none⟩)⟩,⟨[0,1],[1],[],[44],fun f=>f 44= .pointer (some ⟨b,0,none⟩)⟩,⟨[0,1,2],[2],[],[45],fun f=>f 45= .map (some ma)⟩,⟨[],[],[1],[46],fun f=>f 46=Ix (id)⟩,⟨[],[],[2],[47],fun f=>f 47= .agg (aC a)⟩,⟨[0,1,2,3,4,5],[3,4,5],[],[],fun _=>True⟩] [⟨none,none,[],[],fun _=>pt b5 (.cells (aC ((ArM.look az (id)).getD zeroA)) 32)⟩,⟨none,none,[5],[],fun _=>pt b1 (.cells (aC a) 32)⟩,⟨none,none,[3],[],fun _=>pt b (.cells #[.map (some ma),.map (some mt)] 73)⟩,⟨none,(some 6),[6],[],fun _=>mpR ArM ma az⟩,⟨none,none,[],[],fun _=>mpR ToM mt (tz.map tg)⟩,⟨(some 6),none,[],[],fun _=>mpR ArM ma (ArM.put az (id) a)⟩] [(0,.pointer (some ⟨b,0,none⟩)),(1,Ix (id)),(5,.pointer (some ⟨b1,0,none⟩))] [] [] (by kernel_rfl) (by kernel_rfl) (by kernel_rfl) (by kernel_rfl) rfl ⟨rfl,rfl,rfl,trivial⟩ ⟨?_,?_,?_,?_,?_,?_,?_,trivial⟩ ?_
     ·rintro f M-⟨i0,-⟩
      have hs0:f 0= .pointer (some ⟨b,0,none⟩):=i0
      refine ob_start (L':=M) (by rfl) (up_cons rfl hs0) ?_
      refine l_val (v:= .pointer (some ⟨b,0,none⟩)) rfl rfl rfl (e_move) ?_
      refine l_nil ?_
      exact f_owes_d (up_cons rfl hs0) rfl (List.Perm.refl _)
     ·rintro f M ⟨k0,-⟩-
      have hs42:f 42= .pointer (some ⟨b,0,none⟩):=k0
      refine ob_start (L':=M) (by rfl) (up_cons rfl hs42) ?_
      refine l_val (v:= .pointer (some ⟨b,0,none⟩)) rfl rfl rfl (e_nil (a:=⟨b,0,none⟩) rfl) ?_
      refine l_nil ?_
      exact f_owes_d (up_cons rfl hs42) rfl (List.Perm.refl _)
     ·rintro f M ⟨k0,-⟩-
      have hs43:f 43= .pointer (some ⟨b,0,none⟩):=k0
      refine ob_start (L':=M) (by rfl) (up_cons rfl hs43) ?_
      refine l_val (v:= .pointer (some ⟨b,0,none⟩)) rfl rfl rfl (e_fieldPt (b:=b) (o:=0) rfl tf50) ?_
      refine l_nil ?_
      exact f_owes_d (up_cons rfl hs43) rfl (List.Perm.refl _)
     ·rintro f M ⟨k0,-⟩-
      have hs44:f 44= .pointer (some ⟨b,0,none⟩):=k0
      refine ob_start (L':=pt b (.cells #[.map (some ma),.map (some mt)] 73)::M) (by rfl) (up_cons rfl hs44) ?_
      refine l_val (v:= .map (some ma)) rfl rfl rfl (e_load1 tf51 (v:= .map (some ma)) rfl (k_pt 0 (cs:= #[.map (some ma),.map (some mt)]) (vs:=[.map (some ma)]) rfl rfl)) ?_
      refine l_nil ?_
      exact f_owes_d (up_cons rfl hs44) rfl (perm_front 0 rfl)
     ·rintro f M-⟨i0,-⟩
      have hs1:f 1=Ix (id):=i0
      refine ob_start (L':=M) (by rfl) (up_cons rfl hs1) ?_
      refine l_val (v:=Ix (id)) rfl rfl rfl (e_move) ?_
      refine l_nil ?_
      exact f_owes_d (up_cons rfl hs1) rfl (List.Perm.refl _)
     ·rintro f M-⟨i0,-⟩
      have hs5:f 5= .pointer (some ⟨b1,0,none⟩):=i0
      refine ob_start (L':=pt b1 (.cells (aC a) 32)::M) (by rfl) (up_cons rfl hs5) ?_
      refine l_val (v:= .agg (aC a)) rfl rfl rfl (e_load tf10 (cs:=(areaE a)) rfl (k_pt 0 (cs:=(aC a)) (vs:=(areaE a)) rfl rfl) rfl) ?_
      refine l_nil ?_
      exact f_owes_d (up_cons rfl hs5) rfl (perm_front 0 rfl)
     ·rintro f M ⟨k0,k1,k2,-⟩-
      have hs45:f 45= .map (some ma):=k0
      have hs46:f 46=Ix (id):=k1
      have hs47:f 47= .agg (aC a):=k2
      refine ob_start (L':=mpR ArM ma az::M) (by rfl) (up_cons (up_cons (up_cons rfl hs45) hs46) hs47) ?_
      refine l_mu rfl rfl (m_mput (K:=ArM) (b:=ma) (ks:=az) (k:=(id)) (v:=a) 0 rfl rfl rfl rfl rfl) ?_
      refine l_nil ?_
      exact f_owes_n (up_cons (up_cons (up_cons rfl hs45) hs46) hs47) trivial (perm_front 0 rfl)
     rintro fa9 ⟨-,-,-,-,-,-,-,-⟩-
     refine f_re (L':=[pt b5 (.cells (aC ((ArM.look az (id)).getD zeroA)) 32),pt b1 (.cells (aC a) 32),pt b (.cells #[.map (some ma),.map (some mt)] 73),mpR ToM mt (tz.map tg),mpR ArM ma (ArM.put az (id) a)]) (by rfl) ?_
     refine f_then ?_
     refine c_seq ?_
     refine c_region ?_
     refine l_val (v:= .int .i64 (0)) rfl rfl rfl (e_assign) ?_
     refine l_nil ?_
     refine f_then ?_
     refine c_ret ?_
     refine ret1 Tryz.results12 (v:= .int .i64 (0)) rfl ?_
     intro w hw
     have he:errPut s id a=0:=by rw[errPut,if_pos (by unfold argS;simp_all),if_neg (by rw[look_has hpa]at*;simp_all<;>omega)]
     have hx:putX s id a=putS s id a:=if_pos he
     replace hw:=hw.perm (L':=[pt b (.cells #[.map (some ma),.map (some mt)] 73),mpR ArM ma (ArM.put az (id) a),mpR ToM mt (tz.map tg),pt b5 (.cells (aC ((ArM.look az (id)).getD zeroA)) 32),pt b1 (.cells (aC a) 32)]) (by exact(perm_ix [2,4,3,0,1] 5 rfl (by kernel_rfl) (by kernel_rfl)))
     have hs:=St.closeSpc (M:=[pt b5 (.cells (aC ((ArM.look az (id)).getD zeroA)) 32),pt b1 (.cells (aC a) 32)]) hw (put_has hk.keys hpa id a) (s:=putS s id a) hpt
     exact⟨by rw[he],by rw[hx];exact st_mask [true,false,false] rfl hs⟩
set_option maxHeartbeats 4000000 in
theorem drop_ok(β:Base)(w:World)(b:Nat)(s:KSp)(hw:St β [spcR b s] w)(hk:s.ok)(id:Int):Calls Tryz.prog 14 #[.pointer (some ⟨b,0,none⟩),Ix id] w fun r w'=>r= .returned (Ix (errDrop s id))∧St β [spcR b (delS s id)] w':=by
 refine enter (n:=26) Tryz.func14 rfl Tryz.ntmps14 rfl ?_ hw
 refine c_seq ?_
 refine c_openSpc rfl (fun ma mt az tz hpa hpt=> ?_)
 have hal:=hpa.length_eq
 have htl:=hpt.length_eq
 have hkf:=hk.few
 have hkm:=hk.many
 refine c_region ?_
 refine l_val (v:= .int .i64 (0)) rfl rfl rfl (e_assign) ?_
 refine l_nil ?_
 refine f_then ?_
 refine c_seq ?_
 refine c_seq ?_
 refine c_region ?_
 refine l_val (v:= .pointer (some ⟨b,0,none⟩)) rfl rfl rfl (e_move) ?_
 refine l_call rfl rfl rfl (cl_value (fst:=[]) (cap:=[]) (vs:=[.pointer (some ⟨b,0,none⟩)]) (all:=[.pointer (some ⟨b,0,none⟩)]) tf53 rfl rfl rfl) ?_
 intro w hw
 obtain⟨β1,sb,kn,hw1,back⟩:=St.frame_all hw
 refine(right_ok β1 w hw1 _ _ _ (kn _ (k_pt 0 (o:=0) (cs:= #[.map (some ma),.map (some mt)]) (vs:=[.map (some ma),.map (some mt)]) rfl rfl))).mono ?_
 rintro e w' ⟨rfl,hw'⟩
 refine⟨_,rfl,_,back _ _ hw',?_⟩
 clear hw hw1 hw' back kn sb
 refine l_val (v:= .bool false) rfl rfl rfl (e_not (a:=true) rfl) ?_
 refine l_nil ?_
 refine f_then ?_
 refine c_no rfl ?_
 refine c_skip ?_
 refine f_then ?_
 refine c_seq ?_
 refine c_seq ?_
 refine c_region ?_
 refine l_val (v:= .pointer (some ⟨b,0,none⟩)) rfl rfl rfl (e_move) ?_
 refine l_val (v:= .pointer (some ⟨b,0,none⟩)) rfl rfl rfl (e_nil (a:=⟨b,0,none⟩) rfl) ?_
 refine l_val (v:= .pointer (some ⟨b,0,none⟩)) rfl rfl rfl (e_fieldPt (b:=b) (o:=0) rfl tf50) ?_
 refine l_val (v:= .map (some ma)) rfl rfl rfl (e_load1 tf51 (v:= .map (some ma)) rfl (k_pt 0 (cs:= #[.map (some ma),.map (some mt)]) (vs:=[.map (some ma)]) rfl rfl)) ?_
 refine l_val (v:=Ix (id)) rfl rfl rfl (e_move) ?_
 refine l_val (v:= .tuple #[.agg (aC ((ArM.look az (id)).getD zeroA)),.bool ((ArM.look az (id)).isSome)]) rfl rfl rfl (e_look2 (K:=ArM) (b:=ma) (ks:=az) (k:=(id)) rfl rfl rfl (Knows.of_res 1 rfl (mpR.mono _ _ _) fun _ h=>h)) ?_
 refine l_val (v:= .tuple #[.agg (aC ((ArM.look az (id)).getD zeroA)),.bool ((ArM.look az (id)).isSome)]) rfl rfl rfl (e_move) ?_
 refine l_val (v:= .agg (aC ((ArM.look az (id)).getD zeroA))) rfl rfl rfl (e_extract (vs:= #[.agg (aC ((ArM.look az (id)).getD zeroA)),.bool ((ArM.look az (id)).isSome)]) rfl rfl) ?_
 refine l_val (v:= .bool ((ArM.look az (id)).isSome)) rfl rfl rfl (e_extract (vs:= #[.agg (aC ((ArM.look az (id)).getD zeroA)),.bool ((ArM.look az (id)).isSome)]) rfl rfl) ?_
 refine l_mv rfl rfl rfl (m_alloc tf6) ?_
 rintro _ _ ⟨b1,rfl,rfl⟩
 refine l_mu rfl rfl (m_store 0 tf10 (b:=b1) (o:=0) (T:=32) (cs:= #[.int .i64 (0),.int .i64 (0),.int .i64 (0),.int .i64 (0)]) (cs':=(aC ((ArM.look az (id)).getD zeroA))) (v:= .agg (aC ((ArM.look az (id)).getD zeroA))) rfl rfl rfl rfl rfl rfl rfl) ?_
 refine l_val (v:= .bool ((ArM.look az (id)).isSome)) rfl rfl rfl (e_assign) ?_
 refine l_nil ?_
 refine f_then ?_
 refine c_seq ?_
 refine c_region ?_
 refine l_val (v:= .bool ((ArM.look az (id)).isSome)) rfl rfl rfl (e_move) ?_
 refine l_val (v:= .bool (!((ArM.look az (id)).isSome))) rfl rfl rfl (e_not rfl) ?_
 refine l_nil ?_
 refine f_then ?_
 refine c_ifb (!((ArM.look az (id)).isSome)) rfl (fun hc2=> ?_) (fun hc2=> ?_)
 ·
  refine c_seq ?_
  refine c_region ?_
  refine l_val (v:= .int .i64 (6)) rfl rfl rfl (e_assign) ?_
  refine l_nil ?_
  refine f_then ?_
  refine c_ret ?_
  refine f_then_ret ?_
  refine ret1 Tryz.results14 (v:= .int .i64 (6)) rfl ?_
  intro w hw
  have he:errDrop s id=6:=if_neg (by rw[look_has hpa]at*;simp_all)
  have hx:delS s id=s:=del_no (by rw[look_has hpa]at*;simp_all)
  replace hw:=hw.perm (L':=[pt b (.cells #[.map (some ma),.map (some mt)] 73),mpR ArM ma az,mpR ToM mt (tz.map tg),pt b1 (.cells (aC ((ArM.look az (id)).getD zeroA)) 32)]) (by exact(perm_ix [1,2,3,0] 4 rfl (by kernel_rfl) (by kernel_rfl)))
  have hs:=St.closeSpc (M:=[pt b1 (.cells (aC ((ArM.look az (id)).getD zeroA)) 32)]) hw hpa hpt
  exact⟨by rw[he],by rw[hx];exact st_mask [true,false] rfl hs⟩
 ·
  refine c_skip ?_
  refine f_then ?_
  refine c_seq ?_
  refine c_region ?_
  refine l_val (v:= .pointer (some ⟨b,0,none⟩)) rfl rfl rfl (e_move) ?_
  refine l_val (v:= .pointer (some ⟨b,0,none⟩)) rfl rfl rfl (e_nil (a:=⟨b,0,none⟩) rfl) ?_
  refine l_val (v:= .pointer (some ⟨b,0,none⟩)) rfl rfl rfl (e_fieldPt (b:=b) (o:=0) rfl tf50) ?_
  refine l_val (v:= .map (some ma)) rfl rfl rfl (e_load1 tf51 (v:= .map (some ma)) rfl (k_pt 1 (cs:= #[.map (some ma),.map (some mt)]) (vs:=[.map (some ma)]) rfl rfl)) ?_
  refine l_val (v:=Ix (id)) rfl rfl rfl (e_move) ?_
  refine l_mc rfl rfl (m_mdel (K:=ArM) (b:=ma) (ks:=az) (k:=(id)) 2 rfl rfl rfl rfl) ?_
  rintro _ _ ⟨rfl,rfl⟩
  refine l_nil ?_
  refine f_then ?_
  refine c_seq ?_
  refine c_region ?_
  refine l_val (v:= .int .i64 (0)) rfl rfl rfl (e_assign) ?_
  refine l_nil ?_
  refine f_then ?_
  refine c_ret ?_
  refine ret1 Tryz.results14 (v:= .int .i64 (0)) rfl ?_
  intro w hw
  have he:errDrop s id=0:=if_pos (by rw[look_has hpa]at*;simp_all)
  replace hw:=hw.perm (L':=[pt b (.cells #[.map (some ma),.map (some mt)] 73),mpR ArM ma (ArM.del az (id)),mpR ToM mt (tz.map tg),pt b1 (.cells (aC ((ArM.look az (id)).getD zeroA)) 32)]) (by exact(perm_ix [1,2,3,0] 4 rfl (by kernel_rfl) (by kernel_rfl)))
  have hs:=St.closeSpc (M:=[pt b1 (.cells (aC ((ArM.look az (id)).getD zeroA)) 32)]) hw (del_has hpa id) (s:=delS s id) hpt
  exact⟨by rw[he],by exact st_mask [true,false] rfl hs⟩
set_option maxHeartbeats 4000000 in
theorem spairs_ok(β:Base)(w:World)(b:Nat)(s:KSp)(hw:St β [spcR b s] w)(hk:s.ok):Calls Tryz.prog 40 #[.pointer (some ⟨b,0,none⟩)] w fun r w'=>∃b2 p c xs,xs.Perm (s.ar.map thg)∧r= .returned (.func (.func 62) #[] #[.pointer (some ⟨b2,0,none⟩)])∧St β [pt b2 (.cells #[.slice p xs.length c] 85),rowF ThingF 87 p c xs,spcR b s] w':=by
 refine enter (n:=24) Tryz.func40 rfl Tryz.ntmps40 rfl ?_ hw
 refine c_seq ?_
 refine c_openSpc rfl (fun ma mt az tz hpa hpt=> ?_)
 have hal:=hpa.length_eq
 have htl:=hpt.length_eq
 have hkf:=hk.few
 have hkm:=hk.many
 refine c_region ?_
 refine l_val (v:= .nilFunc) rfl rfl rfl (e_assign) ?_
 refine l_nil ?_
 refine f_then ?_
 refine c_seq ?_
 refine c_region ?_
 refine l_val (v:= .slice none 0 0) rfl rfl rfl (e_assign) ?_
 refine l_nil ?_
 refine f_then ?_
 refine c_seq ?_
 refine c_seq ?_
 refine c_emp (r:=rowF ThingF 87 none 0 []) (row_nil _ _ _) ?_
 refine c_region ?_
 refine l_val (v:= .pointer (some ⟨b,0,none⟩)) rfl rfl rfl (e_move) ?_
 refine l_val (v:= .pointer (some ⟨b,0,none⟩)) rfl rfl rfl (e_nil (a:=⟨b,0,none⟩) rfl) ?_
 refine l_val (v:= .pointer (some ⟨b,0,none⟩)) rfl rfl rfl (e_fieldPt (b:=b) (o:=0) rfl tf50) ?_
 refine l_val (v:= .map (some ma)) rfl rfl rfl (e_load1 tf51 (v:= .map (some ma)) rfl (k_pt 1 (cs:= #[.map (some ma),.map (some mt)]) (vs:=[.map (some ma)]) rfl rfl)) ?_
 refine l_mv rfl rfl rfl (m_range (K:=ArM) (b:=ma) (ks:=az) 2 rfl rfl rfl) ?_
 rintro _ _ ⟨it1,rfl,rfl⟩
 refine l_nil ?_
 refine f_then ?_
 refine c_block ?_
 refine c_loop (fun(x_:List (Int×KA)×List KT×Option Addr×Nat) (f:Fm) (L:List Res)=>match x_ with|(pre,ts,tp,tc)=>(f 3= .slice tp (ts.length) tc∧f 10= .pointer (some ⟨it1,0,none⟩))∧L=[rowF ThingF 87 tp tc ts,pt b (.cells #[.map (some ma),.map (some mt)] 73),rgR ArM ma it1 az pre,mpR ToM mt (tz.map tg)]∧(pre.length≤az.length∧ts=pre.map thg)) (fun(x_:List (Int×KA)×List KT×Option Addr×Nat)=>match x_ with|(pre,ts,tp,tc)=>az.length-pre.length) ([],[],none,0) ?_ ?_
 ·exact⟨⟨rfl,rfl⟩,rfl,⟨Nat.zero_le _,rfl⟩⟩
 rintro⟨pre,ts,tp,tc⟩ f0 L0 ⟨⟨hs3,hs10⟩,hL,⟨hpl,hts⟩⟩
 subst L0
 refine rebase (d:=3) hs3 ?_
 refine rebase (d:=10) hs10 ?_
 clear hs3 hs10
 have htn:ts.length=pre.length:=by rw[hts,List.length_map]
 refine c_seq ?_
 refine c_region ?_
 refine l_mv rfl rfl rfl (m_next (K:=ArM) (b:=ma) (r:=it1) (ks:=az) (pre:=pre) 2 rfl rfl) ?_
 rintro _ _ (⟨rfl,he4,rfl⟩|⟨x2,rfl,hx3,rfl⟩)
 ·
  refine l_val (v:= .bool false) rfl rfl rfl (e_extract (vs:= #[.bool false]) rfl rfl) ?_
  refine l_nil ?_
  refine f_then ?_
  refine c_seq ?_
  refine c_no rfl ?_
  refine c_exit ?_
  refine f_then_exit ?_
  refine f_then_exit ?_
  refine f_exit ?_
  refine f_then ?_
  refine c_seq ?_
  refine c_conseq 2 (r':=mpR ArM ma az) rfl (fun a h=>rgR_mp a h) ?_
  refine c_region ?_
  refine l_val (v:= .slice tp (ts.length) tc) rfl rfl rfl (e_move) ?_
  refine l_call rfl rfl rfl (cl_value (fst:=[]) (cap:=[]) (vs:=[.slice tp (ts.length) tc]) (all:=[.slice tp (ts.length) tc]) tf45 rfl rfl rfl) ?_
  intro w hw
  obtain⟨β1,sb,kn,hw1,back⟩:=St.frame_all hw
  refine(sweep_ok β1 w hw1 tp ts.length tc).mono ?_
  rintro e w' ⟨b5,rfl,hw'⟩
  refine⟨_,rfl,_,back _ _ hw',?_⟩
  clear hw hw1 hw' back kn sb
  refine l_val (v:= .func (.func 62) #[] #[.pointer (some ⟨b5,0,none⟩)]) rfl rfl rfl (e_assign) ?_
  refine l_nil ?_
  refine f_then ?_
  refine c_ret ?_
  refine ret1 Tryz.results40 (v:= .func (.func 62) #[] #[.pointer (some ⟨b5,0,none⟩)]) rfl ?_
  intro w hw
  replace hw:=hw.perm (L':=[pt b (.cells #[.map (some ma),.map (some mt)] 73),mpR ArM ma az,mpR ToM mt (tz.map tg),pt b5 (.cells #[.slice tp (ts.length) tc] 85),rowF ThingF 87 tp tc ts]) (by exact(perm_ix [2,3,4,0,1] 5 rfl (by kernel_rfl) (by kernel_rfl)))
  have hs:=St.closeSpc (M:=[pt b5 (.cells #[.slice tp (ts.length) tc] 85),rowF ThingF 87 tp tc ts]) hw hpa hpt
  replace hs:=hs.perm (L':=[pt b5 (.cells #[.slice tp (ts.length) tc] 85),rowF ThingF 87 tp tc ts,spcR b s]) (by exact(perm_ix [1,2,0] 3 rfl (by kernel_rfl) (by kernel_rfl)))
  exact⟨b5,tp,tc,ts,by rw[hts];exact(he4.trans hpa).map thg,rfl,st_mask [true,true,true] rfl hs⟩
 ·
  refine l_val (v:= .bool true) rfl rfl rfl (e_extract (vs:= #[.bool true,Ix (x2.1),.agg (aC x2.2)]) rfl rfl) ?_
  refine l_nil ?_
  refine f_then ?_
  refine c_seq ?_
  refine c_yes rfl ?_
  refine c_skip ?_
  refine f_then ?_
  refine c_block ?_
  refine c_seq ?_
  refine c_region ?_
  refine l_val (v:= .tuple #[Ix (x2.1),.agg (aC x2.2)]) rfl rfl rfl (e_entry (K:=ArM) (b:=ma) (r:=it1) (ks:=az) (pre:=pre) (y:=x2) 2 rfl rfl) ?_
  refine l_val (v:=Ix (x2.1)) rfl rfl rfl (e_extract (vs:= #[Ix (x2.1),.agg (aC x2.2)]) rfl rfl) ?_
  refine l_val (v:= .agg (aC x2.2)) rfl rfl rfl (e_extract (vs:= #[Ix (x2.1),.agg (aC x2.2)]) rfl rfl) ?_
  refine l_mv rfl rfl rfl (m_alloc tf6) ?_
  rintro _ _ ⟨b6,rfl,rfl⟩
  refine l_val (v:=Ix (x2.1)) rfl rfl rfl (e_assign) ?_
  refine l_mu rfl rfl (m_store 0 tf10 (b:=b6) (o:=0) (T:=32) (cs:= #[.int .i64 (0),.int .i64 (0),.int .i64 (0),.int .i64 (0)]) (cs':=(aC x2.2)) (v:= .agg (aC x2.2)) rfl rfl rfl rfl rfl rfl rfl) ?_
  refine l_nil ?_
  refine f_then ?_
  refine c_region ?_
  refine l_val (v:= .slice tp (ts.length) tc) rfl rfl rfl (e_move) ?_
  refine l_val (v:=Ix (x2.1)) rfl rfl rfl (e_move) ?_
  refine l_val (v:= .agg (aC x2.2)) rfl rfl rfl (e_load tf10 (cs:=(areaE x2.2)) rfl (k_pt 0 (cs:=(aC x2.2)) (vs:=(areaE x2.2)) rfl rfl) rfl) ?_
  refine l_val (v:= .agg #[Ix (x2.1),Ix (x2.2.lx),Ix (x2.2.ly),Ix (x2.2.hx),Ix (x2.2.hy)]) rfl rfl rfl (e_build tf27 tf44 (vs:=[(0,Ix (x2.1)),(1,.agg (aC x2.2))]) (cells:= #[Ix (x2.1),Ix (x2.2.lx),Ix (x2.2.ly),Ix (x2.2.hx),Ix (x2.2.hy)]) rfl rfl) ?_
  refine l_mv rfl rfl rfl (m_slices tf24 tf27 (vs:=[(0,.agg #[Ix (x2.1),Ix (x2.2.lx),Ix (x2.2.ly),Ix (x2.2.hx),Ix (x2.2.hy)])]) (cells:= #[Ix (x2.1),Ix (x2.2.lx),Ix (x2.2.ly),Ix (x2.2.hx),Ix (x2.2.hy)]) rfl rfl rfl rfl) ?_
  rintro _ _ ⟨b7,rfl,rfl⟩
  refine l_mv rfl rfl rfl (m_appendFlN (F:=ThingF) 2 tf24 tf34 (p:=tp) (m:=ts.length) (xs:=ts) (ys:=[(⟨(x2.1),x2.2⟩:KT)]) (ao:=(some ⟨b7,0,none⟩)) (k:=1) (c:=1) rfl rfl rfl rfl rfl (k_ptFl (z:=(⟨(x2.1),x2.2⟩:KT)) 0 rfl rfl) (by first|omega|simp only[List.length_nil,List.length_cons,List.length_append,List.length_set];omega) (by first|omega|simp only[List.length_nil,List.length_cons,List.length_append,List.length_set];omega)) ?_
  rintro _ _ ⟨rp8,rc9,rfl,rfl⟩
  refine l_val (v:= .slice rp8 ((ts++[(⟨(x2.1),x2.2⟩:KT)]).length) rc9) rfl rfl rfl (e_assign) ?_
  refine l_nil ?_
  refine f_block ?_
  refine f_mask (L':=[rowF ThingF 87 rp8 rc9 (ts++[(⟨(x2.1),x2.2⟩:KT)]),pt b (.cells #[.map (some ma),.map (some mt)] 73),rgR ArM ma it1 az (pre++[x2]),mpR ToM mt (tz.map tg)]) [false,false,true,true,true,true] rfl ?_
  exact f_cut ⟨((pre++[x2]),(ts++[(⟨(x2.1),x2.2⟩:KT)]),rp8,rc9),⟨⟨rfl,rfl⟩,rfl,⟨pre_le hx3,by rw[hts,List.map_append];rfl⟩⟩,(pre_lt hx3)⟩
theorem right_s(β:Base)(w:World)(b:Nat)(s:KSp)(hw:St β [spcR b s] w):Calls Tryz.prog 38 #[.pointer (some ⟨b,0,none⟩)] w fun r w'=>r= .returned (.bool true)∧St β [spcR b s] w':=by
 obtain⟨ma,mt,az,tz,hpa,hpt,hw⟩:=St.openSpc hw
 obtain⟨β1,sb,kn,hw1,back⟩:=St.frame_all hw
 exact(right_ok β1 w hw1 b ma mt (kn _ (k_pt 0 (o:=0) (cs:= #[.map (some ma),.map (some mt)]) (vs:=[.map (some ma),.map (some mt)]) rfl rfl))).mono fun e w' ⟨he,hw'⟩=>⟨he,St.closeSpc (M:=[]) (back _ _ hw') hpa hpt⟩
theorem spairsx_ok(β:Base)(w:World)(b:Nat)(s:KSp)(hw:St β [spcR b s] w)(hk:s.ok):Calls Tryz.prog 15 #[.pointer (some ⟨b,0,none⟩)] w fun r w'=>∃p c,r= .returned (.slice p (pairsS s).length c)∧St β [rowF PairF 55 p c (pairsS s),spcR b s] w':=by
 refine enter (n:=9) Tryz.func15 rfl Tryz.ntmps15 rfl ?_ hw
 refine c_seq ?_
 refine c_region ?_
 refine l_val (v:= .slice none 0 0) rfl rfl rfl (e_assign) ?_
 refine l_nil ?_
 refine f_then ?_
 refine c_seq ?_
 refine c_seq ?_
 refine c_region ?_
 refine l_val (v:= .pointer (some ⟨b,0,none⟩)) rfl rfl rfl (e_move) ?_
 refine l_call rfl rfl rfl (cl_value (fst:=[]) (cap:=[]) (vs:=[.pointer (some ⟨b,0,none⟩)]) (all:=[.pointer (some ⟨b,0,none⟩)]) tf53 rfl rfl rfl) ?_
 intro w hw
 replace hw:=hw.perm (L':=_::[]) (by exact(perm_front 0 rfl))
 obtain⟨β1,sb,kn,hw1,back⟩:=St.frame (L:=[_]) (M:=[]) hw
 refine(right_s β1 w b s hw1).mono ?_
 rintro e w' ⟨rfl,hw'⟩
 refine⟨_,rfl,_,back _ _ hw',?_⟩
 clear hw hw1 hw' back kn sb
 refine l_val (v:= .bool false) rfl rfl rfl (e_not (a:=true) rfl) ?_
 refine l_nil ?_
 refine f_then ?_
 refine c_no rfl ?_
 refine c_skip ?_
 refine f_then ?_
 refine c_seq ?_
 refine c_region ?_
 refine l_val (v:= .pointer (some ⟨b,0,none⟩)) rfl rfl rfl (e_move) ?_
 refine l_call rfl rfl rfl (cl_value (fst:=[]) (cap:=[]) (vs:=[.pointer (some ⟨b,0,none⟩)]) (all:=[.pointer (some ⟨b,0,none⟩)]) tf54 rfl rfl rfl) ?_
 intro w hw
 replace hw:=hw.perm (L':=_::[]) (by exact(perm_front 0 rfl))
 obtain⟨β1,sb,kn,hw1,back⟩:=St.frame (L:=[_]) (M:=[]) hw
 refine(spairs_ok β1 w b s hw1 hk).mono ?_
 rintro e w' ⟨b1,p2,c3,xs4,hxs5,rfl,hw'⟩
 refine⟨_,rfl,_,back _ _ hw',?_⟩
 clear hw hw1 hw' back kn sb
 refine l_call rfl rfl rfl (cl_value (fst:=[]) (cap:=[]) (vs:=[.func (.func 62) #[] #[.pointer (some ⟨b1,0,none⟩)],.func (.func 42) #[] #[]]) (all:=[.func (.func 62) #[] #[.pointer (some ⟨b1,0,none⟩)],.func (.func 42) #[] #[]]) tf46 rfl rfl rfl) ?_
 intro w hw
 replace hw:=hw.perm (L':=_::_::_::[]) (by exact(((perm_front 2 rfl).trans (perm_front 2 rfl)).trans (perm_front 2 rfl)))
 obtain⟨β1,sb,kn,hw1,back⟩:=St.frame (L:=[_,_]) (M:=_::[]) hw
 refine(sorted_ok β1 w _ _ _ (sweep_seq β1 b1 _ _ xs4 (by have h1:=hxs5.length_eq;rw[List.length_map]at h1;have h2:=(hk).few;omega) (thg_lx hxs5 hk)) (pairs_few (by have h1:=hxs5.length_eq;rw[List.length_map]at h1;have h2:=(hk).few;omega)) hw1).mono ?_
 rintro e w' ⟨p6,c7,ys8,hS9,rfl,hw'⟩
 refine⟨_,rfl,_,back _ _ hw',?_⟩
 clear hw hw1 hw' back kn sb
 refine l_val (v:= .slice p6 ((sortP ys8).length) c7) rfl rfl rfl (e_assign) ?_
 refine l_nil ?_
 refine f_then ?_
 refine c_ret ?_
 refine ret1 Tryz.results15 (v:= .slice p6 ((sortP ys8).length) c7) rfl ?_
 intro w hw
 have he:sortP ys8=pairsS s:=pairsS_srt ys8 hxs5 hS9
 replace hw:=hw.perm (L':=[rowF PairF 55 p6 c7 (sortP ys8),spcR b s]) (by exact(perm_ix [0,1] 2 rfl (by kernel_rfl) (by kernel_rfl)))
 exact⟨p6,c7,by rw[he],by rw[←he];exact st_mask [true,true] rfl hw⟩
end Go.Proofs
