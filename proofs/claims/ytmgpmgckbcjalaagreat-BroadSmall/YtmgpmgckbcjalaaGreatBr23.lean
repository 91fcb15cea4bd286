/-
 BroadSmall: walked. Printed by a program of my own.
-/
import Derived.Test.YtmgpmgckbcjalaaGreatBrLaw4
namespace Go.Sl
theorem k_famSl1{α:Type}{F:Fl α}{T m:Nat}{β:Base}{L:List Res}{p q:Option Addr}{c e:Nat}{xs ys:List α}(i:Nat)(hi:L[i]? =some (famF F T p c xs q e ys))(hm:m=xs.length):Knows β L (fun h=>Sl F.R h (.slice p m c) xs):=by
 subst hm;exact Knows.of_res i hi (Sl.mono _ _ _) fun _ h=>rowF_sl h.1
theorem k_famSl2{α:Type}{F:Fl α}{T m:Nat}{β:Base}{L:List Res}{p q:Option Addr}{c e:Nat}{xs ys:List α}(i:Nat)(hi:L[i]? =some (famF F T p c xs q e ys))(hm:m=ys.length):Knows β L (fun h=>Sl F.R h (.slice q m e) ys):=by
 subst hm;exact Knows.of_res i hi (Sl.mono _ _ _) fun _ h=>rowF_sl h.2.1
end Go.Sl
namespace Go.Brd
def endsL:List Int:=[-9223372036854775808,-2097153,-2097152,-1,0,1,2,2097152,2097153,9223372036854775807]
end Go.Brd
namespace Go.Proofs
open Go Go.Sl Go.Brd
set_option maxHeartbeats 4000000 in
theorem smallL_ok(β:Base)(w:World)(hw:St β [] w):Calls Tryz.prog 5 #[] w fun r w'=>r= .returned (.bool true)∧St β [] w':=by
 refine enter (n:=249) Tryz.func5 rfl Tryz.ntmps5 rfl ?_ hw
 refine c_seq ?_
 refine c_region ?_
 refine l_val (v:= .bool false) rfl rfl rfl (e_assign) ?_
 refine l_nil ?_
 refine f_then ?_
 refine c_seq ?_
 refine c_region ?_
 refine l_mv rfl rfl rfl (m_slices tf16 tf21 (vs:=[(0,.int .i64 (-9223372036854775808)),(1,.int .i64 (-2097153)),(2,.int .i64 (-2097152)),(3,.int .i64 (-1)),(4,.int .i64 (0)),(5,.int .i64 (1)),(6,.int .i64 (2)),(7,.int .i64 (2097152)),(8,.int .i64 (2097153)),(9,.int .i64 (9223372036854775807))]) (cells:= #[.int .i64 (-9223372036854775808),.int .i64 (-2097153),.int .i64 (-2097152),.int .i64 (-1),.int .i64 (0),.int .i64 (1),.int .i64 (2),.int .i64 (2097152),.int .i64 (2097153),.int .i64 (9223372036854775807)]) rfl rfl rfl (by kernel_rfl)) ?_
 rintro _ _ ⟨b1,rfl,rfl⟩
 refine l_val (v:= .slice (some ⟨b1,0,none⟩) 10 10) rfl rfl rfl (e_assign) ?_
 refine l_nil ?_
 refine f_then ?_
 refine c_seq ?_
 refine c_seq ?_
 refine c_conseq 0 (r':=rowF IntF 3 (some ⟨b1,0,none⟩) 10 endsL) rfl (pt_rowF (F:=IntF) (xs:=endsL) rfl (by decide)) ?_
 refine c_region ?_
 refine l_val (v:= .slice (some ⟨b1,0,none⟩) (10) 10) rfl rfl rfl (e_move) ?_
 refine l_val (v:=Nx (10)) rfl rfl rfl (e_len (a:=(some ⟨b1,0,none⟩)) (n:=10) (c:=10) rfl tf15) ?_
 refine l_val (v:= .int .i64 (0)) rfl rfl rfl (e_move) ?_
 refine l_nil ?_
 refine f_then ?_
 refine c_block ?_
 refine c_loop (fun(k18:Nat) (f:Fm) (L:List Res)=>(f 1= .slice (some ⟨b1,0,none⟩) (10) 10∧f 17=Nx (10)∧f 18=Nx (k18))∧L=[rowF IntF 3 (some ⟨b1,0,none⟩) 10 endsL]∧(k18≤10)) (fun(k18:Nat)=>10-k18) 0 ?_ ?_
 ·exact⟨⟨rfl,rfl,rfl⟩,rfl,by omega⟩
 rintro k18 f0 L0 ⟨⟨hs1,hs17,hs18⟩,hL,hk18⟩
 subst L0
 refine rebase (d:=1) hs1 ?_
 refine rebase (d:=17) hs17 ?_
 refine rebase (d:=18) hs18 ?_
 clear hs1 hs17 hs18
 refine c_seq ?_
 refine c_region ?_
 refine l_val (v:= .bool (decide (((k18:Nat):Int)<((10:Nat):Int)))) rfl rfl rfl (e_lss (a:=((k18:Nat):Int)) (b:=((10:Nat):Int)) rfl rfl) ?_
 refine l_nil ?_
 refine f_then ?_
 refine c_seq ?_
 refine c_if (((k18:Nat):Int)<((10:Nat):Int)) rfl (fun hc2=> ?_) (fun hc2=> ?_)
 ·
  refine c_skip ?_
  refine f_then ?_
  refine c_seq ?_
  refine c_block ?_
  refine c_seq ?_
  refine c_region ?_
  refine l_val (v:=Nx (k18)) rfl rfl rfl (e_move) ?_
  refine l_val (v:=Nx (k18)) rfl rfl rfl (e_assign) ?_
  refine l_nil ?_
  refine f_then ?_
  refine c_seq ?_
  refine c_region ?_
  refine l_val (v:= .slice (some ⟨b1,0,none⟩) (10) 10) rfl rfl rfl (e_move) ?_
  refine l_val (v:=Nx (10)) rfl rfl rfl (e_len (a:=(some ⟨b1,0,none⟩)) (n:=10) (c:=10) rfl tf15) ?_
  refine l_val (v:= .int .i64 (0)) rfl rfl rfl (e_move) ?_
  refine l_nil ?_
  refine f_then ?_
  refine c_block ?_
  refine c_loop (fun(k23:Nat) (f:Fm) (L:List Res)=>(f 1= .slice (some ⟨b1,0,none⟩) (10) 10∧f 2=Nx (k18)∧f 17=Nx (10)∧f 18=Nx (k18)∧f 22=Nx (10)∧f 23=Nx (k23))∧L=[rowF IntF 3 (some ⟨b1,0,none⟩) 10 endsL]∧(k23≤10)) (fun(k23:Nat)=>10-k23) 0 ?_ ?_
  ·exact⟨⟨rfl,rfl,rfl,rfl,rfl,rfl⟩,rfl,by omega⟩
  rintro k23 f0 L0 ⟨⟨hs1,hs2,hs17,hs18,hs22,hs23⟩,hL,hk23⟩
  subst L0
  refine rebase (d:=1) hs1 ?_
  refine rebase (d:=2) hs2 ?_
  refine rebase (d:=17) hs17 ?_
  refine rebase (d:=18) hs18 ?_
  refine rebase (d:=22) hs22 ?_
  refine rebase (d:=23) hs23 ?_
  clear hs1 hs2 hs17 hs18 hs22 hs23
  refine c_seq ?_
  refine c_region ?_
  refine l_val (v:= .bool (decide (((k23:Nat):Int)<((10:Nat):Int)))) rfl rfl rfl (e_lss (a:=((k23:Nat):Int)) (b:=((10:Nat):Int)) rfl rfl) ?_
  refine l_nil ?_
  refine f_then ?_
  refine c_seq ?_
  refine c_if (((k23:Nat):Int)<((10:Nat):Int)) rfl (fun hc3=> ?_) (fun hc3=> ?_)
  ·
   refine c_skip ?_
   refine f_then ?_
   refine c_seq ?_
   refine c_block ?_
   refine c_seq ?_
   refine c_region ?_
   refine l_val (v:=Nx (k23)) rfl rfl rfl (e_move) ?_
   refine l_val (v:=Nx (k23)) rfl rfl rfl (e_assign) ?_
   refine l_nil ?_
   refine f_then ?_
   refine c_seq ?_
   refine c_region ?_
   refine l_val (v:= .int .i64 (0)) rfl rfl rfl (e_assign) ?_
   refine l_nil ?_
   refine f_then ?_
   refine c_block ?_
   refine c_loop (fun(k4:Nat) (f:Fm) (L:List Res)=>(f 1= .slice (some ⟨b1,0,none⟩) (10) 10∧f 2=Nx (k18)∧f 3=Nx (k23)∧f 4=Nx (k4)∧f 17=Nx (10)∧f 18=Nx (k18)∧f 22=Nx (10)∧f 23=Nx (k23))∧L=[rowF IntF 3 (some ⟨b1,0,none⟩) 10 endsL]∧(k4≤10)) (fun(k4:Nat)=>10-k4) 0 ?_ ?_
   ·exact⟨⟨rfl,rfl,rfl,rfl,rfl,rfl,rfl,rfl⟩,rfl,by omega⟩
   rintro k4 f0 L0 ⟨⟨hs1,hs2,hs3,hs4,hs17,hs18,hs22,hs23⟩,hL,hk4⟩
   subst L0
   refine rebase (d:=1) hs1 ?_
   refine rebase (d:=2) hs2 ?_
   refine rebase (d:=3) hs3 ?_
   refine rebase (d:=4) hs4 ?_
   refine rebase (d:=17) hs17 ?_
   refine rebase (d:=18) hs18 ?_
   refine rebase (d:=22) hs22 ?_
   refine rebase (d:=23) hs23 ?_
   clear hs1 hs2 hs3 hs4 hs17 hs18 hs22 hs23
   refine c_seq ?_
   refine c_seq ?_
   refine c_region ?_
   refine l_val (v:=Nx (k4)) rfl rfl rfl (e_move) ?_
   refine l_val (v:= .bool (decide (((k4:Nat):Int)<(10:Int)))) rfl rfl rfl (e_lss (a:=((k4:Nat):Int)) (b:=(10:Int)) rfl rfl) ?_
   refine l_nil ?_
   refine f_then ?_
   refine c_if (((k4:Nat):Int)<(10:Int)) rfl (fun hc4=> ?_) (fun hc4=> ?_)
   ·
    refine c_skip ?_
    refine f_then ?_
    refine c_seq ?_
    refine c_block ?_
    refine c_seq ?_
    obtain⟨x5,hx6⟩:∃x_,endsL[k18]? =some x_:=⟨_,List.getElem?_eq_getElem (show k18<10 by omega)⟩
    obtain⟨x7,hx8⟩:∃x_,endsL[k4]? =some x_:=⟨_,List.getElem?_eq_getElem (show k4<10 by omega)⟩
    obtain⟨x9,hx10⟩:∃x_,endsL[k23]? =some x_:=⟨_,List.getElem?_eq_getElem (show k23<10 by omega)⟩
    refine c_any [⟨[],[],[0],[30],fun f=>f 30= .slice (some ⟨b1,0,none⟩) (10) 10⟩,⟨[],[],[1],[31],fun f=>f 31=Nx (k18)⟩,⟨[0,1],[0,1],[],[32],fun f=>f 32= .pointer (some ((ba (some ⟨b1,0,none⟩)).add (k18*1)))⟩,⟨[0,1,2],[2],[],[33],fun f=>f 33=Ix (x5)⟩,⟨[],[],[0],[34],fun f=>f 34= .slice (some ⟨b1,0,none⟩) (10) 10⟩,⟨[],[],[2],[35],fun f=>f 35=Nx (k4)⟩,⟨[4,5],[4,5],[],[36],fun f=>f 36= .pointer (some ((ba (some ⟨b1,0,none⟩)).add (k4*1)))⟩,⟨[4,5,6],[6],[],[37],fun f=>f 37=Ix (x7)⟩,⟨[],[],[0],[38],fun f=>f 38= .slice (some ⟨b1,0,none⟩) (10) 10⟩,⟨[],[],[3],[39],fun f=>f 39=Nx (k23)⟩,⟨[8,9],[8,9],[],[40],fun f=>f 40= .pointer (some ((ba (some ⟨b1,0,none⟩)).add (k23*1)))⟩,⟨[8,9,10],[10],[],[41],fun f=>f 41=Ix (x9)⟩,⟨[0,1,2,3,4,5,6,7,8,9,10,11],[3,7,11],[],[42],fun f=>f 42= .agg #[Ix (x5),Ix (x7),Ix (x9),.int .i64 (2)]⟩,⟨[],[],[0],[43],fun f=>f 43= .slice (some ⟨b1,0,none⟩) (10) 10⟩,⟨[],[],[2],[44],fun f=>f 44=Nx (k4)⟩,⟨[13,14],[13,14],[],[45],fun f=>f 45= .pointer (some ((ba (some ⟨b1,0,none⟩)).add (k4*1)))⟩,⟨[13,14,15],[15],[],[46],fun f=>f 46=Ix (x7)⟩,⟨[0,1,2,3,4,5,6,7,8,9,10,11,12,13,14,15,16],[16],[],[47],fun f=>f 47= .agg #[.int .i64 (0),.int .i64 (-1),Ix (x7),.int .i64 (1)]⟩,⟨[0,1,2,3,4,5,6,7,8,9,10,11,12,13,14,15,16,17],[12,17],[],[48],fun f=>f 48= .bool true⟩,⟨[0,1,2,3,4,5,6,7,8,9,10,11,12,13,14,15,16,17,18],[18],[],[49],fun f=>f 49= .bool false⟩,⟨[0,1,2,3,4,5,6,7,8,9,10,11,12,13,14,15,16,17,18,19],[19],[],[50],fun f=>f 50= .bool false⟩,⟨[0,1,2,3,4,5,6,7,8,9,10,11,12,13,14,15,16,17,18,19,20],[20],[0],[51],fun f=>f 51= .slice (some ⟨b1,0,none⟩) (10) 10⟩,⟨[0,1,2,3,4,5,6,7,8,9,10,11,12,13,14,15,16,17,18,19,20],[20],[3],[52],fun f=>f 52=Nx (k23)⟩,⟨[0,1,2,3,4,5,6,7,8,9,10,11,12,13,14,15,16,17,18,19,20,21,22],[21,22,20],[],[53],fun f=>f 53= .pointer (some ((ba (some ⟨b1,0,none⟩)).add (k23*1)))⟩,⟨[0,1,2,3,4,5,6,7,8,9,10,11,12,13,14,15,16,17,18,19,20,21,22,23],[23,20],[],[54],fun f=>f 54=Ix (x9)⟩,⟨[0,1,2,3,4,5,6,7,8,9,10,11,12,13,14,15,16,17,18,19,20],[20],[0],[55],fun f=>f 55= .slice (some ⟨b1,0,none⟩) (10) 10⟩,⟨[0,1,2,3,4,5,6,7,8,9,10,11,12,13,14,15,16,17,18,19,20],[20],[1],[56],fun f=>f 56=Nx (k18)⟩,⟨[0,1,2,3,4,5,6,7,8,9,10,11,12,13,14,15,16,17,18,19,20,25,26],[25,26,20],[],[57],fun f=>f 57= .pointer (some ((ba (some ⟨b1,0,none⟩)).add (k18*1)))⟩,⟨[0,1,2,3,4,5,6,7,8,9,10,11,12,13,14,15,16,17,18,19,20,25,26,27],[27,20],[],[58],fun f=>f 58=Ix (x5)⟩,⟨[0,1,2,3,4,5,6,7,8,9,10,11,12,13,14,15,16,17,18,19,20,21,22,23,24,25,26,27,28],[24,28,20],[],[59],fun f=>f 59= .agg #[.int .i64 (0),Ix (x9),.int .i64 (1),Ix (x5)]⟩,⟨[0,1,2,3,4,5,6,7,8,9,10,11,12,13,14,15,16,17,18,19,20],[20],[0],[60],fun f=>f 60= .slice (some ⟨b1,0,none⟩) (10) 10⟩,⟨[0,1,2,3,4,5,6,7,8,9,10,11,12,13,14,15,16,17,18,19,20],[20],[2],[61],fun f=>f 61=Nx (k4)⟩,⟨[0,1,2,3,4,5,6,7,8,9,10,11,12,13,14,15,16,17,18,19,20,30,31],[30,31,20],[],[62],fun f=>f 62= .pointer (some ((ba (some ⟨b1,0,none⟩)).add (k4*1)))⟩,⟨[0,1,2,3,4,5,6,7,8,9,10,11,12,13,14,15,16,17,18,19,20,30,31,32],[32,20],[],[63],fun f=>f 63=Ix (x7)⟩,⟨[0,1,2,3,4,5,6,7,8,9,10,11,12,13,14,15,16,17,18,19,20],[20],[0],[64],fun f=>f 64= .slice (some ⟨b1,0,none⟩) (10) 10⟩,⟨[0,1,2,3,4,5,6,7,8,9,10,11,12,13,14,15,16,17,18,19,20],[20],[3],[65],fun f=>f 65=Nx (k23)⟩,⟨[0,1,2,3,4,5,6,7,8,9,10,11,12,13,14,15,16,17,18,19,20,34,35],[34,35,20],[],[66],fun f=>f 66= .pointer (some ((ba (some ⟨b1,0,none⟩)).add (k23*1)))⟩,⟨[0,1,2,3,4,5,6,7,8,9,10,11,12,13,14,15,16,17,18,19,20,34,35,36],[36,20],[],[67],fun f=>f 67=Ix (x9)⟩,⟨[0,1,2,3,4,5,6,7,8,9,10,11,12,13,14,15,16,17,18,19,20,21,22,23,24,25,26,27,28,29,30,31,32,33,34,35,36,37],[33,37,20],[],[68],fun f=>f 68= .agg #[Ix (x7),.int .i64 (0),.int .i64 (1),Ix (x9)]⟩,⟨[0,1,2,3,4,5,6,7,8,9,10,11,12,13,14,15,16,17,18,19,20,21,22,23,24,25,26,27,28,29,30,31,32,33,34,35,36,37,38],[29,38,20],[],[69],fun f=>f 69= .bool true⟩,⟨[0,1,2,3,4,5,6,7,8,9,10,11,12,13,14,15,16,17,18,19,20,21,22,23,24,25,26,27,28,29,30,31,32,33,34,35,36,37,38,39],[39,20],[],[70],fun f=>f 70= .bool false⟩,⟨[0,1,2,3,4,5,6,7,8,9,10,11,12,13,14,15,16,17,18,19,20,21,22,23,24,25,26,27,28,29,30,31,32,33,34,35,36,37,38,39,40],[20,40],[],[71],fun f=>f 71= .bool false⟩] [⟨none,none,[2,3,6,7,10,11,15,16,23,24,27,28,32,33,36,37],[],fun _=>rowF IntF 3 (some ⟨b1,0,none⟩) 10 endsL⟩] [(1,.slice (some ⟨b1,0,none⟩) (10) 10),(2,Nx (k18)),(4,Nx (k4)),(3,Nx (k23)),(17,Nx (10)),(18,Nx (k18)),(22,Nx (10)),(23,Nx (k23))] [0,1,3,2,4,5,6,7] [] (by kernel_rfl) (by kernel_rfl) (by kernel_rfl) (by kernel_rfl) rfl ⟨rfl,rfl,rfl,rfl,rfl,rfl,rfl,rfl,trivial⟩ ⟨?_,?_,?_,?_,?_,?_,?_,?_,?_,?_,?_,?_,?_,?_,?_,?_,?_,?_,?_,?_,?_,?_,?_,?_,?_,?_,?_,?_,?_,?_,?_,?_,?_,?_,?_,?_,?_,?_,?_,?_,?_,?_,trivial⟩ ?_
    ·rintro f M-⟨i0,-⟩
     have hs1:f 1= .slice (some ⟨b1,0,none⟩) (10) 10:=i0
     refine ob_start (L':=M) (by rfl) (up_cons rfl hs1) ?_
     refine l_val (v:= .slice (some ⟨b1,0,none⟩) (10) 10) rfl rfl rfl (e_move) ?_
     refine l_nil ?_
     exact f_owes_d (up_cons rfl hs1) rfl (List.Perm.refl _)
    ·rintro f M-⟨i0,-⟩
     have hs2:f 2=Nx (k18):=i0
     refine ob_start (L':=M) (by rfl) (up_cons rfl hs2) ?_
     refine l_val (v:=Nx (k18)) rfl rfl rfl (e_move) ?_
     refine l_nil ?_
     exact f_owes_d (up_cons rfl hs2) rfl (List.Perm.refl _)
    ·rintro f M ⟨k0,k1,-⟩-
     have hs30:f 30= .slice (some ⟨b1,0,none⟩) (10) 10:=k0
     have hs31:f 31=Nx (k18):=k1
     refine ob_start (L':=rowF IntF 3 (some ⟨b1,0,none⟩) 10 endsL::M) (by rfl) (up_cons (up_cons rfl hs30) hs31) ?_
     refine l_val (v:= .pointer (some ((ba (some ⟨b1,0,none⟩)).add (k18*1)))) rfl rfl rfl (e_indexFlN 0 (F:=IntF) (j:=k18) (m:=10) (xs:=endsL) rfl rfl rfl tf16 (by omega) rfl) ?_
     refine l_nil ?_
     exact f_owes_d (up_cons (up_cons rfl hs30) hs31) rfl (perm_front 0 rfl)
    ·rintro f M ⟨k0,-⟩-
     have hs32:f 32= .pointer (some ((ba (some ⟨b1,0,none⟩)).add (k18*1))):=k0
     refine ob_start (L':=rowF IntF 3 (some ⟨b1,0,none⟩) 10 endsL::M) (by rfl) (up_cons rfl hs32) ?_
     refine l_val (v:=Ix (x5)) rfl rfl rfl (e_load1 tf2 (v:=Ix (x5)) rfl (k_flAt 0 (F:=IntF) rfl hx6)) ?_
     refine l_nil ?_
     exact f_owes_d (up_cons rfl hs32) rfl (perm_front 0 rfl)
    ·rintro f M-⟨i0,-⟩
     have hs1:f 1= .slice (some ⟨b1,0,none⟩) (10) 10:=i0
     refine ob_start (L':=M) (by rfl) (up_cons rfl hs1) ?_
     refine l_val (v:= .slice (some ⟨b1,0,none⟩) (10) 10) rfl rfl rfl (e_move) ?_
     refine l_nil ?_
     exact f_owes_d (up_cons rfl hs1) rfl (List.Perm.refl _)
    ·rintro f M-⟨i0,-⟩
     have hs4:f 4=Nx (k4):=i0
     refine ob_start (L':=M) (by rfl) (up_cons rfl hs4) ?_
     refine l_val (v:=Nx (k4)) rfl rfl rfl (e_move) ?_
     refine l_nil ?_
     exact f_owes_d (up_cons rfl hs4) rfl (List.Perm.refl _)
    ·rintro f M ⟨k0,k1,-⟩-
     have hs34:f 34= .slice (some ⟨b1,0,none⟩) (10) 10:=k0
     have hs35:f 35=Nx (k4):=k1
     refine ob_start (L':=rowF IntF 3 (some ⟨b1,0,none⟩) 10 endsL::M) (by rfl) (up_cons (up_cons rfl hs34) hs35) ?_
     refine l_val (v:= .pointer (some ((ba (some ⟨b1,0,none⟩)).add (k4*1)))) rfl rfl rfl (e_indexFlN 0 (F:=IntF) (j:=k4) (m:=10) (xs:=endsL) rfl rfl rfl tf16 (by omega) rfl) ?_
     refine l_nil ?_
     exact f_owes_d (up_cons (up_cons rfl hs34) hs35) rfl (perm_front 0 rfl)
    ·rintro f M ⟨k0,-⟩-
     have hs36:f 36= .pointer (some ((ba (some ⟨b1,0,none⟩)).add (k4*1))):=k0
     refine ob_start (L':=rowF IntF 3 (some ⟨b1,0,none⟩) 10 endsL::M) (by rfl) (up_cons rfl hs36) ?_
     refine l_val (v:=Ix (x7)) rfl rfl rfl (e_load1 tf2 (v:=Ix (x7)) rfl (k_flAt 0 (F:=IntF) rfl hx8)) ?_
     refine l_nil ?_
     exact f_owes_d (up_cons rfl hs36) rfl (perm_front 0 rfl)
    ·rintro f M-⟨i0,-⟩
     have hs1:f 1= .slice (some ⟨b1,0,none⟩) (10) 10:=i0
     refine ob_start (L':=M) (by rfl) (up_cons rfl hs1) ?_
     refine l_val (v:= .slice (some ⟨b1,0,none⟩) (10) 10) rfl rfl rfl (e_move) ?_
     refine l_nil ?_
     exact f_owes_d (up_cons rfl hs1) rfl (List.Perm.refl _)
    ·rintro f M-⟨i0,-⟩
     have hs3:f 3=Nx (k23):=i0
     refine ob_start (L':=M) (by rfl) (up_cons rfl hs3) ?_
     refine l_val (v:=Nx (k23)) rfl rfl rfl (e_move) ?_
     refine l_nil ?_
     exact f_owes_d (up_cons rfl hs3) rfl (List.Perm.refl _)
    ·rintro f M ⟨k0,k1,-⟩-
     have hs38:f 38= .slice (some ⟨b1,0,none⟩) (10) 10:=k0
     have hs39:f 39=Nx (k23):=k1
     refine ob_start (L':=rowF IntF 3 (some ⟨b1,0,none⟩) 10 endsL::M) (by rfl) (up_cons (up_cons rfl hs38) hs39) ?_
     refine l_val (v:= .pointer (some ((ba (some ⟨b1,0,none⟩)).add (k23*1)))) rfl rfl rfl (e_indexFlN 0 (F:=IntF) (j:=k23) (m:=10) (xs:=endsL) rfl rfl rfl tf16 (by omega) rfl) ?_
     refine l_nil ?_
     exact f_owes_d (up_cons (up_cons rfl hs38) hs39) rfl (perm_front 0 rfl)
    ·rintro f M ⟨k0,-⟩-
     have hs40:f 40= .pointer (some ((ba (some ⟨b1,0,none⟩)).add (k23*1))):=k0
     refine ob_start (L':=rowF IntF 3 (some ⟨b1,0,none⟩) 10 endsL::M) (by rfl) (up_cons rfl hs40) ?_
     refine l_val (v:=Ix (x9)) rfl rfl rfl (e_load1 tf2 (v:=Ix (x9)) rfl (k_flAt 0 (F:=IntF) rfl hx10)) ?_
     refine l_nil ?_
     exact f_owes_d (up_cons rfl hs40) rfl (perm_front 0 rfl)
    ·rintro f M ⟨k0,k1,k2,-⟩-
     have hs33:f 33=Ix (x5):=k0
     have hs37:f 37=Ix (x7):=k1
     have hs41:f 41=Ix (x9):=k2
     refine ob_start (L':=M) (by rfl) (up_cons (up_cons (up_cons rfl hs33) hs37) hs41) ?_
     refine l_call rfl rfl rfl (cl_value (fst:=[]) (cap:=[]) (vs:=[Ix (x5),Ix (x7),Ix (x9),.int .i64 (2)]) (all:=[Ix (x5),Ix (x7),Ix (x9),.int .i64 (2)]) tf71 rfl rfl rfl) ?_
     intro w hw
     obtain⟨β1,sb,kn,hw1,back⟩:=St.frame_all hw
     refine(area_ok β1 w hw1 x5 x7 x9 2).mono ?_
     rintro e w' ⟨rfl,hw'⟩
     refine⟨_,rfl,_,back _ _ hw',?_⟩
     clear hw hw1 hw' back kn sb
     refine l_nil ?_
     exact f_owes_d (up_cons (up_cons (up_cons rfl hs33) hs37) hs41) rfl (List.Perm.refl _)
    ·rintro f M-⟨i0,-⟩
     have hs1:f 1= .slice (some ⟨b1,0,none⟩) (10) 10:=i0
     refine ob_start (L':=M) (by rfl) (up_cons rfl hs1) ?_
     refine l_val (v:= .slice (some ⟨b1,0,none⟩) (10) 10) rfl rfl rfl (e_move) ?_
     refine l_nil ?_
     exact f_owes_d (up_cons rfl hs1) rfl (List.Perm.refl _)
    ·rintro f M-⟨i0,-⟩
     have hs4:f 4=Nx (k4):=i0
     refine ob_start (L':=M) (by rfl) (up_cons rfl hs4) ?_
     refine l_val (v:=Nx (k4)) rfl rfl rfl (e_move) ?_
     refine l_nil ?_
     exact f_owes_d (up_cons rfl hs4) rfl (List.Perm.refl _)
    ·rintro f M ⟨k0,k1,-⟩-
     have hs43:f 43= .slice (some ⟨b1,0,none⟩) (10) 10:=k0
     have hs44:f 44=Nx (k4):=k1
     refine ob_start (L':=rowF IntF 3 (some ⟨b1,0,none⟩) 10 endsL::M) (by rfl) (up_cons (up_cons rfl hs43) hs44) ?_
     refine l_val (v:= .pointer (some ((ba (some ⟨b1,0,none⟩)).add (k4*1)))) rfl rfl rfl (e_indexFlN 0 (F:=IntF) (j:=k4) (m:=10) (xs:=endsL) rfl rfl rfl tf16 (by omega) rfl) ?_
     refine l_nil ?_
     exact f_owes_d (up_cons (up_cons rfl hs43) hs44) rfl (perm_front 0 rfl)
    ·rintro f M ⟨k0,-⟩-
     have hs45:f 45= .pointer (some ((ba (some ⟨b1,0,none⟩)).add (k4*1))):=k0
     refine ob_start (L':=rowF IntF 3 (some ⟨b1,0,none⟩) 10 endsL::M) (by rfl) (up_cons rfl hs45) ?_
     refine l_val (v:=Ix (x7)) rfl rfl rfl (e_load1 tf2 (v:=Ix (x7)) rfl (k_flAt 0 (F:=IntF) rfl hx8)) ?_
     refine l_nil ?_
     exact f_owes_d (up_cons rfl hs45) rfl (perm_front 0 rfl)
    ·rintro f M ⟨k0,-⟩-
     have hs46:f 46=Ix (x7):=k0
     refine ob_start (L':=M) (by rfl) (up_cons rfl hs46) ?_
     refine l_call rfl rfl rfl (cl_value (fst:=[]) (cap:=[]) (vs:=[.int .i64 (0),.int .i64 (-1),Ix (x7),.int .i64 (1)]) (all:=[.int .i64 (0),.int .i64 (-1),Ix (x7),.int .i64 (1)]) tf71 rfl rfl rfl) ?_
     intro w hw
     obtain⟨β1,sb,kn,hw1,back⟩:=St.frame_all hw
     refine(area_ok β1 w hw1 0 (-1) x7 1).mono ?_
     rintro e w' ⟨rfl,hw'⟩
     refine⟨_,rfl,_,back _ _ hw',?_⟩
     clear hw hw1 hw' back kn sb
     refine l_nil ?_
     exact f_owes_d (up_cons rfl hs46) rfl (List.Perm.refl _)
    ·rintro f M ⟨k0,k1,-⟩-
     have hs42:f 42= .agg #[Ix (x5),Ix (x7),Ix (x9),.int .i64 (2)]:=k0
     have hs47:f 47= .agg #[.int .i64 (0),.int .i64 (-1),Ix (x7),.int .i64 (1)]:=k1
     refine ob_start (L':=M) (by rfl) (up_cons (up_cons rfl hs42) hs47) ?_
     refine l_call rfl rfl rfl (cl_value (fst:=[]) (cap:=[]) (vs:=[.agg #[Ix (x5),Ix (x7),Ix (x9),.int .i64 (2)],.agg #[.int .i64 (0),.int .i64 (-1),Ix (x7),.int .i64 (1)]]) (all:=[.agg #[Ix (x5),Ix (x7),Ix (x9),.int .i64 (2)],.agg #[.int .i64 (0),.int .i64 (-1),Ix (x7),.int .i64 (1)]]) tf109 rfl rfl rfl) ?_
     intro w hw
     obtain⟨β1,sb,kn,hw1,back⟩:=St.frame_all hw
     refine(two_ok β1 w hw1 (⟨x5,x7,x9,2⟩:KA) (⟨0,-1,x7,1⟩:KA)).mono ?_
     rintro e w' ⟨rfl,hw'⟩
     refine⟨_,rfl,_,back _ _ hw',?_⟩
     clear hw hw1 hw' back kn sb
     refine l_nil ?_
     exact f_owes_d (up_cons (up_cons rfl hs42) hs47) rfl (List.Perm.refl _)
    ·rintro f M ⟨k0,-⟩-
     have hs48:f 48= .bool true:=k0
     refine ob_start (L':=M) (by rfl) (up_cons rfl hs48) ?_
     refine l_val (v:= .bool false) rfl rfl rfl (e_not (a:=true) rfl) ?_
     refine l_nil ?_
     exact f_owes_d (up_cons rfl hs48) rfl (List.Perm.refl _)
    ·rintro f M ⟨k0,-⟩-
     have hs49:f 49= .bool false:=k0
     refine ob_start (L':=M) (by rfl) (up_cons rfl hs49) ?_
     refine l_val (v:= .bool false) rfl rfl rfl (e_move) ?_
     refine l_nil ?_
     exact f_owes_d (up_cons rfl hs49) rfl (List.Perm.refl _)
    ·rintro f M ⟨k0,-⟩ ⟨i0,-⟩
     have hs1:f 1= .slice (some ⟨b1,0,none⟩) (10) 10:=i0
     have hs50:f 50= .bool false:=k0
     refine ob_start (L':=M) (by rfl) (up_cons (up_cons rfl hs1) hs50) ?_
     refine g_val (v:= .slice (some ⟨b1,0,none⟩) (10) 10) rfl rfl rfl rfl rfl (e_move) ?_
     refine l_nil ?_
     exact f_owes_d (up_cons (up_cons rfl hs1) hs50) rfl (List.Perm.refl _)
    ·rintro f M ⟨k0,-⟩ ⟨i0,-⟩
     have hs3:f 3=Nx (k23):=i0
     have hs50:f 50= .bool false:=k0
     refine ob_start (L':=M) (by rfl) (up_cons (up_cons rfl hs3) hs50) ?_
     refine g_val (v:=Nx (k23)) rfl rfl rfl rfl rfl (e_move) ?_
     refine l_nil ?_
     exact f_owes_d (up_cons (up_cons rfl hs3) hs50) rfl (List.Perm.refl _)
    ·rintro f M ⟨k0,k1,k2,-⟩-
     have hs51:f 51= .slice (some ⟨b1,0,none⟩) (10) 10:=k0
     have hs52:f 52=Nx (k23):=k1
     have hs50:f 50= .bool false:=k2
     refine ob_start (L':=rowF IntF 3 (some ⟨b1,0,none⟩) 10 endsL::M) (by rfl) (up_cons (up_cons (up_cons rfl hs51) hs52) hs50) ?_
     refine g_val (v:= .pointer (some ((ba (some ⟨b1,0,none⟩)).add (k23*1)))) rfl rfl rfl rfl rfl (e_indexFlN 0 (F:=IntF) (j:=k23) (m:=10) (xs:=endsL) rfl rfl rfl tf16 (by omega) rfl) ?_
     refine l_nil ?_
     exact f_owes_d (up_cons (up_cons (up_cons rfl hs51) hs52) hs50) rfl (perm_front 0 rfl)
    ·rintro f M ⟨k0,k1,-⟩-
     have hs53:f 53= .pointer (some ((ba (some ⟨b1,0,none⟩)).add (k23*1))):=k0
     have hs50:f 50= .bool false:=k1
     refine ob_start (L':=rowF IntF 3 (some ⟨b1,0,none⟩) 10 endsL::M) (by rfl) (up_cons (up_cons rfl hs53) hs50) ?_
     refine g_val (v:=Ix (x9)) rfl rfl rfl rfl rfl (e_load1 tf2 (v:=Ix (x9)) rfl (k_flAt 0 (F:=IntF) rfl hx10)) ?_
     refine l_nil ?_
     exact f_owes_d (up_cons (up_cons rfl hs53) hs50) rfl (perm_front 0 rfl)
    ·rintro f M ⟨k0,-⟩ ⟨i0,-⟩
     have hs1:f 1= .slice (some ⟨b1,0,none⟩) (10) 10:=i0
     have hs50:f 50= .bool false:=k0
     refine ob_start (L':=M) (by rfl) (up_cons (up_cons rfl hs1) hs50) ?_
     refine g_val (v:= .slice (some ⟨b1,0,none⟩) (10) 10) rfl rfl rfl rfl rfl (e_move) ?_
     refine l_nil ?_
     exact f_owes_d (up_cons (up_cons rfl hs1) hs50) rfl (List.Perm.refl _)
    ·rintro f M ⟨k0,-⟩ ⟨i0,-⟩
     have hs2:f 2=Nx (k18):=i0
     have hs50:f 50= .bool false:=k0
     refine ob_start (L':=M) (by rfl) (up_cons (up_cons rfl hs2) hs50) ?_
     refine g_val (v:=Nx (k18)) rfl rfl rfl rfl rfl (e_move) ?_
     refine l_nil ?_
     exact f_owes_d (up_cons (up_cons rfl hs2) hs50) rfl (List.Perm.refl _)
    ·rintro f M ⟨k0,k1,k2,-⟩-
     have hs55:f 55= .slice (some ⟨b1,0,none⟩) (10) 10:=k0
     have hs56:f 56=Nx (k18):=k1
     have hs50:f 50= .bool false:=k2
     refine ob_start (L':=rowF IntF 3 (some ⟨b1,0,none⟩) 10 endsL::M) (by rfl) (up_cons (up_cons (up_cons rfl hs55) hs56) hs50) ?_
     refine g_val (v:= .pointer (some ((ba (some ⟨b1,0,none⟩)).add (k18*1)))) rfl rfl rfl rfl rfl (e_indexFlN 0 (F:=IntF) (j:=k18) (m:=10) (xs:=endsL) rfl rfl rfl tf16 (by omega) rfl) ?_
     refine l_nil ?_
     exact f_owes_d (up_cons (up_cons (up_cons rfl hs55) hs56) hs50) rfl (perm_front 0 rfl)
    ·rintro f M ⟨k0,k1,-⟩-
     have hs57:f 57= .pointer (some ((ba (some ⟨b1,0,none⟩)).add (k18*1))):=k0
     have hs50:f 50= .bool false:=k1
     refine ob_start (L':=rowF IntF 3 (some ⟨b1,0,none⟩) 10 endsL::M) (by rfl) (up_cons (up_cons rfl hs57) hs50) ?_
     refine g_val (v:=Ix (x5)) rfl rfl rfl rfl rfl (e_load1 tf2 (v:=Ix (x5)) rfl (k_flAt 0 (F:=IntF) rfl hx6)) ?_
     refine l_nil ?_
     exact f_owes_d (up_cons (up_cons rfl hs57) hs50) rfl (perm_front 0 rfl)
    ·rintro f M ⟨k0,k1,k2,-⟩-
     have hs54:f 54=Ix (x9):=k0
     have hs58:f 58=Ix (x5):=k1
     have hs50:f 50= .bool false:=k2
     refine ob_start (L':=M) (by rfl) (up_cons (up_cons (up_cons rfl hs54) hs58) hs50) ?_
     refine g_call rfl rfl rfl rfl rfl (cl_value (fst:=[]) (cap:=[]) (vs:=[.int .i64 (0),Ix (x9),.int .i64 (1),Ix (x5)]) (all:=[.int .i64 (0),Ix (x9),.int .i64 (1),Ix (x5)]) tf71 rfl rfl rfl) ?_
     intro w hw
     obtain⟨β1,sb,kn,hw1,back⟩:=St.frame_all hw
     refine(area_ok β1 w hw1 0 x9 1 x5).mono ?_
     rintro e w' ⟨rfl,hw'⟩
     refine⟨_,rfl,_,back _ _ hw',?_⟩
     clear hw hw1 hw' back kn sb
     refine l_nil ?_
     exact f_owes_d (up_cons (up_cons (up_cons rfl hs54) hs58) hs50) rfl (List.Perm.refl _)
    ·rintro f M ⟨k0,-⟩ ⟨i0,-⟩
     have hs1:f 1= .slice (some ⟨b1,0,none⟩) (10) 10:=i0
     have hs50:f 50= .bool false:=k0
     refine ob_start (L':=M) (by rfl) (up_cons (up_cons rfl hs1) hs50) ?_
     refine g_val (v:= .slice (some ⟨b1,0,none⟩) (10) 10) rfl rfl rfl rfl rfl (e_move) ?_
     refine l_nil ?_
     exact f_owes_d (up_cons (up_cons rfl hs1) hs50) rfl (List.Perm.refl _)
    ·rintro f M ⟨k0,-⟩ ⟨i0,-⟩
     have hs4:f 4=Nx (k4):=i0
     have hs50:f 50= .bool false:=k0
     refine ob_start (L':=M) (by rfl) (up_cons (up_cons rfl hs4) hs50) ?_
     refine g_val (v:=Nx (k4)) rfl rfl rfl rfl rfl (e_move) ?_
     refine l_nil ?_
     exact f_owes_d (up_cons (up_cons rfl hs4) hs50) rfl (List.Perm.refl _)
    ·rintro f M ⟨k0,k1,k2,-⟩-
     have hs60:f 60= .slice (some ⟨b1,0,none⟩) (10) 10:=k0
     have hs61:f 61=Nx (k4):=k1
     have hs50:f 50= .bool false:=k2
     refine ob_start (L':=rowF IntF 3 (some ⟨b1,0,none⟩) 10 endsL::M) (by rfl) (up_cons (up_cons (up_cons rfl hs60) hs61) hs50) ?_
     refine g_val (v:= .pointer (some ((ba (some ⟨b1,0,none⟩)).add (k4*1)))) rfl rfl rfl rfl rfl (e_indexFlN 0 (F:=IntF) (j:=k4) (m:=10) (xs:=endsL) rfl rfl rfl tf16 (by omega) rfl) ?_
     refine l_nil ?_
     exact f_owes_d (up_cons (up_cons (up_cons rfl hs60) hs61) hs50) rfl (perm_front 0 rfl)
    ·rintro f M ⟨k0,k1,-⟩-
     have hs62:f 62= .pointer (some ((ba (some ⟨b1,0,none⟩)).add (k4*1))):=k0
     have hs50:f 50= .bool false:=k1
     refine ob_start (L':=rowF IntF 3 (some ⟨b1,0,none⟩) 10 endsL::M) (by rfl) (up_cons (up_cons rfl hs62) hs50) ?_
     refine g_val (v:=Ix (x7)) rfl rfl rfl rfl rfl (e_load1 tf2 (v:=Ix (x7)) rfl (k_flAt 0 (F:=IntF) rfl hx8)) ?_
     refine l_nil ?_
     exact f_owes_d (up_cons (up_cons rfl hs62) hs50) rfl (perm_front 0 rfl)
    ·rintro f M ⟨k0,-⟩ ⟨i0,-⟩
     have hs1:f 1= .slice (some ⟨b1,0,none⟩) (10) 10:=i0
     have hs50:f 50= .bool false:=k0
     refine ob_start (L':=M) (by rfl) (up_cons (up_cons rfl hs1) hs50) ?_
     refine g_val (v:= .slice (some ⟨b1,0,none⟩) (10) 10) rfl rfl rfl rfl rfl (e_move) ?_
     refine l_nil ?_
     exact f_owes_d (up_cons (up_cons rfl hs1) hs50) rfl (List.Perm.refl _)
    ·rintro f M ⟨k0,-⟩ ⟨i0,-⟩
     have hs3:f 3=Nx (k23):=i0
     have hs50:f 50= .bool false:=k0
     refine ob_start (L':=M) (by rfl) (up_cons (up_cons rfl hs3) hs50) ?_
     refine g_val (v:=Nx (k23)) rfl rfl rfl rfl rfl (e_move) ?_
     refine l_nil ?_
     exact f_owes_d (up_cons (up_cons rfl hs3) hs50) rfl (List.Perm.refl _)
    ·rintro f M ⟨k0,k1,k2,-⟩-
     have hs64:f 64= .slice (some ⟨b1,0,none⟩) (10) 10:=k0
     have hs65:f 65=Nx (k23):=k1
     have hs50:f 50= .bool false:=k2
     refine ob_start (L':=rowF IntF 3 (some ⟨b1,0,none⟩) 10 endsL::M) (by rfl) (up_cons (up_cons (up_cons rfl hs64) hs65) hs50) ?_
     refine g_val (v:= .pointer (some ((ba (some ⟨b1,0,none⟩)).add (k23*1)))) rfl rfl rfl rfl rfl (e_indexFlN 0 (F:=IntF) (j:=k23) (m:=10) (xs:=endsL) rfl rfl rfl tf16 (by omega) rfl) ?_
     refine l_nil ?_
     exact f_owes_d (up_cons (up_cons (up_cons rfl hs64) hs65) hs50) rfl (perm_front 0 rfl)
    ·rintro f M ⟨k0,k1,-⟩-
     have hs66:f 66= .pointer (some ((ba (some ⟨b1,0,none⟩)).add (k23*1))):=k0
     have hs50:f 50= .bool false:=k1
     refine ob_start (L':=rowF IntF 3 (some ⟨b1,0,none⟩) 10 endsL::M) (by rfl) (up_cons (up_cons rfl hs66) hs50) ?_
     refine g_val (v:=Ix (x9)) rfl rfl rfl rfl rfl (e_load1 tf2 (v:=Ix (x9)) rfl (k_flAt 0 (F:=IntF) rfl hx10)) ?_
     refine l_nil ?_
     exact f_owes_d (up_cons (up_cons rfl hs66) hs50) rfl (perm_front 0 rfl)
    ·rintro f M ⟨k0,k1,k2,-⟩-
     have hs63:f 63=Ix (x7):=k0
     have hs67:f 67=Ix (x9):=k1
     have hs50:f 50= .bool false:=k2
     refine ob_start (L':=M) (by rfl) (up_cons (up_cons (up_cons rfl hs63) hs67) hs50) ?_
     refine g_call rfl rfl rfl rfl rfl (cl_value (fst:=[]) (cap:=[]) (vs:=[Ix (x7),.int .i64 (0),.int .i64 (1),Ix (x9)]) (all:=[Ix (x7),.int .i64 (0),.int .i64 (1),Ix (x9)]) tf71 rfl rfl rfl) ?_
     intro w hw
     obtain⟨β1,sb,kn,hw1,back⟩:=St.frame_all hw
     refine(area_ok β1 w hw1 x7 0 1 x9).mono ?_
     rintro e w' ⟨rfl,hw'⟩
     refine⟨_,rfl,_,back _ _ hw',?_⟩
     clear hw hw1 hw' back kn sb
     refine l_nil ?_
     exact f_owes_d (up_cons (up_cons (up_cons rfl hs63) hs67) hs50) rfl (List.Perm.refl _)
    ·rintro f M ⟨k0,k1,k2,-⟩-
     have hs59:f 59= .agg #[.int .i64 (0),Ix (x9),.int .i64 (1),Ix (x5)]:=k0
     have hs68:f 68= .agg #[Ix (x7),.int .i64 (0),.int .i64 (1),Ix (x9)]:=k1
     have hs50:f 50= .bool false:=k2
     refine ob_start (L':=M) (by rfl) (up_cons (up_cons (up_cons rfl hs59) hs68) hs50) ?_
     refine g_call rfl rfl rfl rfl rfl (cl_value (fst:=[]) (cap:=[]) (vs:=[.agg #[.int .i64 (0),Ix (x9),.int .i64 (1),Ix (x5)],.agg #[Ix (x7),.int .i64 (0),.int .i64 (1),Ix (x9)]]) (all:=[.agg #[.int .i64 (0),Ix (x9),.int .i64 (1),Ix (x5)],.agg #[Ix (x7),.int .i64 (0),.int .i64 (1),Ix (x9)]]) tf109 rfl rfl rfl) ?_
     intro w hw
     obtain⟨β1,sb,kn,hw1,back⟩:=St.frame_all hw
     refine(two_ok β1 w hw1 (⟨0,x9,1,x5⟩:KA) (⟨x7,0,1,x9⟩:KA)).mono ?_
     rintro e w' ⟨rfl,hw'⟩
     refine⟨_,rfl,_,back _ _ hw',?_⟩
     clear hw hw1 hw' back kn sb
     refine l_nil ?_
     exact f_owes_d (up_cons (up_cons (up_cons rfl hs59) hs68) hs50) rfl (List.Perm.refl _)
    ·rintro f M ⟨k0,k1,-⟩-
     have hs69:f 69= .bool true:=k0
     have hs50:f 50= .bool false:=k1
     refine ob_start (L':=M) (by rfl) (up_cons (up_cons rfl hs69) hs50) ?_
     refine g_val (v:= .bool false) rfl rfl rfl rfl rfl (e_not (a:=true) rfl) ?_
     refine l_nil ?_
     exact f_owes_d (up_cons (up_cons rfl hs69) hs50) rfl (List.Perm.refl _)
    ·rintro f M ⟨k0,k1,-⟩-
     have hs50:f 50= .bool false:=k0
     have hs70:f 70= .bool false:=k1
     refine ob_start (L':=M) (by rfl) (up_cons (up_cons rfl hs50) hs70) ?_
     refine l_val (v:= .bool false) rfl rfl rfl (e_pick_f rfl) ?_
     refine l_nil ?_
     exact f_owes_d (up_cons (up_cons rfl hs50) hs70) rfl (List.Perm.refl _)
    rintro fa11 ⟨-,-,-,-,-,-,-,-,-,-,-,-,-,-,-,-,-,-,-,-,-,-,-,-,-,-,-,-,-,-,-,-,-,-,-,-,-,-,-,-,-,k41,-⟩ ⟨j0,j1,j2,j3,j4,j5,j6,j7,-⟩
    refine f_re (L':=[rowF IntF 3 (some ⟨b1,0,none⟩) 10 endsL]) (by rfl) ?_
    refine f_rebase (d:=1) (v:= .slice (some ⟨b1,0,none⟩) (10) 10) j0 ?_
    refine f_rebase (d:=2) (v:=Nx (k18)) j1 ?_
    refine f_rebase (d:=3) (v:=Nx (k23)) j2 ?_
    refine f_rebase (d:=4) (v:=Nx (k4)) j3 ?_
    refine f_rebase (d:=17) (v:=Nx (10)) j4 ?_
    refine f_rebase (d:=18) (v:=Nx (k18)) j5 ?_
    refine f_rebase (d:=22) (v:=Nx (10)) j6 ?_
    refine f_rebase (d:=23) (v:=Nx (k23)) j7 ?_
    refine f_rebase (d:=71) (v:= .bool false) k41 ?_
    refine f_then ?_
    refine c_no rfl ?_
    refine c_skip ?_
    refine f_block ?_
    refine f_then ?_
    refine c_region ?_
    refine l_val (v:=Nx (k4)) rfl rfl rfl (e_move) ?_
    refine l_val (v:=Nx (k4+1)) rfl rfl rfl (e_add (a:=((k4:Nat):Int)) (b:=(1:Int)) rfl rfl (i64n (by omega) (by omega))) ?_
    refine l_val (v:=Nx (k4+1)) rfl rfl rfl (e_assign) ?_
    refine l_nil ?_
    exact f_cut ⟨k4+1,⟨⟨rfl,rfl,rfl,rfl,rfl,rfl,rfl,rfl⟩,rfl,by omega⟩,(show 10-(k4+1)<10-k4 from by omega)⟩
   ·
    refine c_exit ?_
    refine f_then_exit ?_
    refine f_then_exit ?_
    refine f_exit ?_
    refine f_block ?_
    refine f_then ?_
    refine c_region ?_
    refine l_val (v:=Nx (k23+1)) rfl rfl rfl (e_add (a:=((k23:Nat):Int)) (b:=(1:Int)) rfl rfl (i64n (by omega) (by omega))) ?_
    refine l_val (v:=Nx (k23+1)) rfl rfl rfl (e_move) ?_
    refine l_nil ?_
    exact f_cut ⟨k23+1,⟨⟨rfl,rfl,rfl,rfl,rfl,rfl⟩,rfl,by omega⟩,(show 10-(k23+1)<10-k23 from by omega)⟩
  ·
   refine c_exit ?_
   refine f_then_exit ?_
   refine f_then_exit ?_
   refine f_exit ?_
   refine f_block ?_
   refine f_then ?_
   refine c_region ?_
   refine l_val (v:=Nx (k18+1)) rfl rfl rfl (e_add (a:=((k18:Nat):Int)) (b:=(1:Int)) rfl rfl (i64n (by omega) (by omega))) ?_
   refine l_val (v:=Nx (k18+1)) rfl rfl rfl (e_move) ?_
   refine l_nil ?_
   exact f_cut ⟨k18+1,⟨⟨rfl,rfl,rfl⟩,rfl,by omega⟩,(show 10-(k18+1)<10-k18 from by omega)⟩
 ·
  refine c_exit ?_
  refine f_then_exit ?_
  refine f_then_exit ?_
  refine f_exit ?_
  refine f_then ?_
  refine c_seq ?_
  refine c_region ?_
  refine l_val (v:= .slice none 0 0) rfl rfl rfl (e_assign) ?_
  refine l_nil ?_
  refine f_then ?_
  refine c_seq ?_
  refine c_seq ?_
  refine c_emp (r:=rowF AreaF 32 none 0 []) (row_nil _ _ _) ?_
  refine c_region ?_
  refine l_val (v:= .int .i64 (0)) rfl rfl rfl (e_assign) ?_
  refine l_nil ?_
  refine f_then ?_
  refine c_block ?_
  refine c_loop (fun(x_:Nat×List KA×Option Addr×Nat) (f:Fm) (L:List Res)=>match x_ with|(n,ys,p,c)=>(f 5= .slice p (ys.length) c∧f 6=Nx (n))∧L=[rowF AreaF 32 p c ys,rowF IntF 3 (some ⟨b1,0,none⟩) 10 endsL]∧(n≤16∧ys=(List.range n).map lnA)) (fun(x_:Nat×List KA×Option Addr×Nat)=>match x_ with|(n,ys,p,c)=>16-n) (0,[],none,0) ?_ ?_
  ·exact⟨⟨rfl,rfl⟩,rfl,⟨by omega,rfl⟩⟩
  rintro⟨n,ys,p,c⟩ f0 L0 ⟨⟨hs5,hs6⟩,hL,⟨hn,hys⟩⟩
  subst L0
  refine rebase (d:=5) hs5 ?_
  refine rebase (d:=6) hs6 ?_
  clear hs5 hs6
  have hyl:ys.length=n:=by rw[hys];simp
  refine c_seq ?_
  refine c_seq ?_
  refine c_region ?_
  refine l_val (v:=Nx (n)) rfl rfl rfl (e_move) ?_
  refine l_val (v:= .bool (decide (((n:Nat):Int)<(16:Int)))) rfl rfl rfl (e_lss (a:=((n:Nat):Int)) (b:=(16:Int)) rfl rfl) ?_
  refine l_nil ?_
  refine f_then ?_
  refine c_if (((n:Nat):Int)<(16:Int)) rfl (fun hc12=> ?_) (fun hc12=> ?_)
  ·
   refine c_skip ?_
   refine f_then ?_
   refine c_seq ?_
   refine c_block ?_
   refine c_region ?_
   refine l_val (v:= .slice p (ys.length) c) rfl rfl rfl (e_move) ?_
   refine l_val (v:=Nx (n)) rfl rfl rfl (e_move) ?_
   refine l_val (v:=Nx (n%4)) rfl rfl rfl (e_rem (a:=((n:Nat):Int)) (b:=(4:Int)) rfl rfl (by decide) (nat_tmod _ 4)) ?_
   refine l_val (v:=Nx (n)) rfl rfl rfl (e_move) ?_
   refine l_val (v:=Nx (n/8)) rfl rfl rfl (e_quo (a:=((n:Nat):Int)) (b:=(8:Int)) rfl rfl (by decide) (i64n (nat_tdiv _ 8) (by omega))) ?_
   refine l_val (v:=Nx (n)) rfl rfl rfl (e_move) ?_
   refine l_val (v:=Nx (n%4)) rfl rfl rfl (e_rem (a:=((n:Nat):Int)) (b:=(4:Int)) rfl rfl (by decide) (nat_tmod _ 4)) ?_
   refine l_val (v:=Nx (n)) rfl rfl rfl (e_move) ?_
   refine l_val (v:=Nx (n/4)) rfl rfl rfl (e_quo (a:=((n:Nat):Int)) (b:=(4:Int)) rfl rfl (by decide) (i64n (nat_tdiv _ 4) (by omega))) ?_
   refine l_val (v:=Nx ((n/4)%2)) rfl rfl rfl (e_rem (a:=((n/4:Nat):Int)) (b:=(2:Int)) rfl rfl (by decide) (nat_tmod _ 2)) ?_
   refine l_val (v:=Nx ((n%4)+((n/4)%2))) rfl rfl rfl (e_add (a:=((n%4:Nat):Int)) (b:=(((n/4)%2:Nat):Int)) rfl rfl (i64n (by omega) (by omega))) ?_
   refine l_val (v:=Nx (n)) rfl rfl rfl (e_move) ?_
   refine l_val (v:=Nx (n/8)) rfl rfl rfl (e_quo (a:=((n:Nat):Int)) (b:=(8:Int)) rfl rfl (by decide) (i64n (nat_tdiv _ 8) (by omega))) ?_
   refine l_val (v:=Nx (n)) rfl rfl rfl (e_move) ?_
   refine l_val (v:=Nx (n%3)) rfl rfl rfl (e_rem (a:=((n:Nat):Int)) (b:=(3:Int)) rfl rfl (by decide) (nat_tmod _ 3)) ?_
   refine l_val (v:=Nx ((n/8)+(n%3))) rfl rfl rfl (e_add (a:=((n/8:Nat):Int)) (b:=((n%3:Nat):Int)) rfl rfl (i64n (by omega) (by omega))) ?_
   refine l_call rfl rfl rfl (cl_value (fst:=[]) (cap:=[]) (vs:=[Nx (n%4),Nx (n/8),Nx ((n%4)+((n/4)%2)),Nx ((n/8)+(n%3))]) (all:=[Nx (n%4),Nx (n/8),Nx ((n%4)+((n/4)%2)),Nx ((n/8)+(n%3))]) tf71 rfl rfl rfl) ?_
   intro w hw
   obtain⟨β1,sb,kn,hw1,back⟩:=St.frame_all hw
   refine(area_ok β1 w hw1 ((n%4:Nat):Int) ((n/8:Nat):Int) (((n%4)+((n/4)%2):Nat):Int) (((n/8)+(n%3):Nat):Int)).mono ?_
   rintro e w' ⟨rfl,hw'⟩
   refine⟨_,rfl,_,back _ _ hw',?_⟩
   clear hw hw1 hw' back kn sb
   refine l_mv rfl rfl rfl (m_slices tf43 tf6 (vs:=[(0,.agg #[Nx (n%4),Nx (n/8),Nx ((n%4)+((n/4)%2)),Nx ((n/8)+(n%3))])]) (cells:= #[Nx (n%4),Nx (n/8),Nx ((n%4)+((n/4)%2)),Nx ((n/8)+(n%3))]) rfl rfl rfl rfl) ?_
   rintro _ _ ⟨b13,rfl,rfl⟩
   refine l_mv rfl rfl rfl (m_appendFlN (F:=AreaF) 1 tf43 tf97 (p:=p) (m:=ys.length) (xs:=ys) (ys:=[(⟨((n%4:Nat):Int),((n/8:Nat):Int),(((n%4)+((n/4)%2):Nat):Int),(((n/8)+(n%3):Nat):Int)⟩:KA)]) (ao:=(some ⟨b13,0,none⟩)) (k:=1) (c:=1) rfl rfl rfl rfl rfl (k_ptFl (z:=(⟨((n%4:Nat):Int),((n/8:Nat):Int),(((n%4)+((n/4)%2):Nat):Int),(((n/8)+(n%3):Nat):Int)⟩:KA)) 0 rfl rfl) (by first|omega|simp only[List.length_nil,List.length_cons,List.length_append,List.length_set];omega) (by first|omega|simp only[List.length_nil,List.length_cons,List.length_append,List.length_set];omega)) ?_
   rintro _ _ ⟨rp14,rc15,rfl,rfl⟩
   refine l_val (v:= .slice rp14 ((ys++[(⟨((n%4:Nat):Int),((n/8:Nat):Int),(((n%4)+((n/4)%2):Nat):Int),(((n/8)+(n%3):Nat):Int)⟩:KA)]).length) rc15) rfl rfl rfl (e_assign) ?_
   refine l_nil ?_
   refine f_block ?_
   refine f_then ?_
   refine c_region ?_
   refine l_val (v:=Nx (n)) rfl rfl rfl (e_move) ?_
   refine l_val (v:=Nx (n+1)) rfl rfl rfl (e_add (a:=((n:Nat):Int)) (b:=(1:Int)) rfl rfl (i64n (by omega) (by omega))) ?_
   refine l_val (v:=Nx (n+1)) rfl rfl rfl (e_assign) ?_
   refine l_nil ?_
   refine f_mask (L':=[rowF AreaF 32 rp14 rc15 (ys++[(⟨((n%4:Nat):Int),((n/8:Nat):Int),(((n%4)+((n/4)%2):Nat):Int),(((n/8)+(n%3):Nat):Int)⟩:KA)]),rowF IntF 3 (some ⟨b1,0,none⟩) 10 endsL]) [false,true,true] rfl ?_
   exact f_cut ⟨(n+1,(ys++[(⟨((n%4:Nat):Int),((n/8:Nat):Int),(((n%4)+((n/4)%2):Nat):Int),(((n/8)+(n%3):Nat):Int)⟩:KA)]),rp14,rc15),⟨⟨rfl,rfl⟩,rfl,⟨by omega,by rw[hys,List.range_succ,List.map_append];rfl⟩⟩,(show 16-(n+1)<16-n from by omega)⟩
  ·
   refine c_exit ?_
   refine f_then_exit ?_
   refine f_then_exit ?_
   refine f_exit ?_
   refine f_then ?_
   refine c_seq ?_
   refine c_seq ?_
   obtain rfl:n=16:=by omega
   have hLL:16=ys.length:=by rw[hys];simp
   have hL0:ys[0]? =some (lnA 0):=by rw[hys];rfl
   rw[←hLL]
   obtain⟨LL,hLE⟩:∃z,z=ys:=⟨_,rfl⟩
   rw[←hLE]at hLL hL0
   rw[←hLE]
   refine c_region ?_
   refine l_val (v:= .int .i64 (0)) rfl rfl rfl (e_assign) ?_
   refine l_nil ?_
   refine f_then ?_
   refine c_block ?_
   refine c_loop (fun(k7:Nat) (f:Fm) (L:List Res)=>(f 5= .slice p (16) c∧f 7=Nx (k7))∧L=[rowF AreaF 32 p c LL,rowF IntF 3 (some ⟨b1,0,none⟩) 10 endsL]∧(k7≤4096)) (fun(k7:Nat)=>4096-k7) 0 ?_ ?_
   ·exact⟨⟨rfl,rfl⟩,rfl,by omega⟩
   rintro k7 f0 L0 ⟨⟨hs5,hs7⟩,hL,hk7⟩
   subst L0
   refine rebase (d:=5) hs5 ?_
   refine rebase (d:=7) hs7 ?_
   clear hs5 hs7
   refine c_seq ?_
   refine c_seq ?_
   refine c_region ?_
   refine l_val (v:=Nx (k7)) rfl rfl rfl (e_move) ?_
   refine l_val (v:= .bool (decide (((k7:Nat):Int)<(4096:Int)))) rfl rfl rfl (e_lss (a:=((k7:Nat):Int)) (b:=(4096:Int)) rfl rfl) ?_
   refine l_nil ?_
   refine f_then ?_
   refine c_if (((k7:Nat):Int)<(4096:Int)) rfl (fun hc16=> ?_) (fun hc16=> ?_)
   ·
    refine c_skip ?_
    refine f_then ?_
    refine c_seq ?_
    refine c_block ?_
    refine c_seq ?_
    obtain⟨x17,hx18⟩:∃x_,LL[k7%16]? =some x_:=⟨_,List.getElem?_eq_getElem (by omega)⟩
    obtain⟨x19,hx20⟩:∃x_,LL[(k7/16)%16]? =some x_:=⟨_,List.getElem?_eq_getElem (by omega)⟩
    obtain⟨x21,hx22⟩:∃x_,LL[k7/256]? =some x_:=⟨_,List.getElem?_eq_getElem (by omega)⟩
    refine c_any [⟨[],[],[0],[101],fun f=>f 101= .slice p (16) c⟩,⟨[],[],[1],[102],fun f=>f 102=Nx (k7)⟩,⟨[1],[1],[],[103],fun f=>f 103=Nx (k7%16)⟩,⟨[0,1,2],[0,2],[],[104],fun f=>f 104= .pointer (some ((ba p).add ((k7%16)*4)))⟩,⟨[0,1,2,3],[3],[],[105],fun f=>f 105= .agg (aC x17)⟩,⟨[],[],[0],[106],fun f=>f 106= .slice p (16) c⟩,⟨[],[],[1],[107],fun f=>f 107=Nx (k7)⟩,⟨[6],[6],[],[108],fun f=>f 108=Nx (k7/16)⟩,⟨[6,7],[7],[],[109],fun f=>f 109=Nx ((k7/16)%16)⟩,⟨[5,6,7,8],[5,8],[],[110],fun f=>f 110= .pointer (some ((ba p).add (((k7/16)%16)*4)))⟩,⟨[5,6,7,8,9],[9],[],[111],fun f=>f 111= .agg (aC x19)⟩,⟨[],[],[0],[112],fun f=>f 112= .slice p (16) c⟩,⟨[],[],[1],[113],fun f=>f 113=Nx (k7)⟩,⟨[12],[12],[],[114],fun f=>f 114=Nx (k7/256)⟩,⟨[11,12,13],[11,13],[],[115],fun f=>f 115= .pointer (some ((ba p).add ((k7/256)*4)))⟩,⟨[11,12,13,14],[14],[],[116],fun f=>f 116= .agg (aC x21)⟩,⟨[0,1,2,3,4,5,6,7,8,9,10,11,12,13,14,15],[4,10,15],[],[117],fun f=>f 117= .slice (some ⟨(blk (f 117)),0,none⟩) 3 3⟩,⟨[0,1,2,3,4,5,6,7,8,9,10,11,12,13,14,15,16],[16],[],[118],fun f=>f 118= .bool true⟩,⟨[0,1,2,3,4,5,6,7,8,9,10,11,12,13,14,15,16,17],[17],[],[119],fun f=>f 119= .bool false⟩] [⟨none,none,[3,4,9,10,14,15],[],fun _=>rowF AreaF 32 p c LL⟩,⟨none,none,[],[],fun _=>rowF IntF 3 (some ⟨b1,0,none⟩) 10 endsL⟩,⟨(some 16),none,[17],[117],fun f=>pt (blk (f 117)) (.cells #[Ix (x17.lx),Ix (x17.ly),Ix (x17.hx),Ix (x17.hy),Ix (x19.lx),Ix (x19.ly),Ix (x19.hx),Ix (x19.hy),Ix (x21.lx),Ix (x21.ly),Ix (x21.hx),Ix (x21.hy)] 32)⟩] [(5,.slice p (16) c),(7,Nx (k7))] [0,1] [] (by kernel_rfl) (by kernel_rfl) (by kernel_rfl) (by kernel_rfl) rfl ⟨rfl,rfl,trivial⟩ ⟨?_,?_,?_,?_,?_,?_,?_,?_,?_,?_,?_,?_,?_,?_,?_,?_,?_,?_,?_,trivial⟩ ?_
    ·rintro f M-⟨i0,-⟩
     have hs5:f 5= .slice p (16) c:=i0
     refine ob_start (L':=M) (by rfl) (up_cons rfl hs5) ?_
     refine l_val (v:= .slice p (16) c) rfl rfl rfl (e_move) ?_
     refine l_nil ?_
     exact f_owes_d (up_cons rfl hs5) rfl (List.Perm.refl _)
    ·rintro f M-⟨i0,-⟩
     have hs7:f 7=Nx (k7):=i0
     refine ob_start (L':=M) (by rfl) (up_cons rfl hs7) ?_
     refine l_val (v:=Nx (k7)) rfl rfl rfl (e_move) ?_
     refine l_nil ?_
     exact f_owes_d (up_cons rfl hs7) rfl (List.Perm.refl _)
    ·rintro f M ⟨k0,-⟩-
     have hs102:f 102=Nx (k7):=k0
     refine ob_start (L':=M) (by rfl) (up_cons rfl hs102) ?_
     refine l_val (v:=Nx (k7%16)) rfl rfl rfl (e_rem (a:=((k7:Nat):Int)) (b:=(16:Int)) rfl rfl (by decide) (nat_tmod _ 16)) ?_
     refine l_nil ?_
     exact f_owes_d (up_cons rfl hs102) rfl (List.Perm.refl _)
    ·rintro f M ⟨k0,k1,-⟩-
     have hs101:f 101= .slice p (16) c:=k0
     have hs103:f 103=Nx (k7%16):=k1
     refine ob_start (L':=rowF AreaF 32 p c LL::M) (by rfl) (up_cons (up_cons rfl hs101) hs103) ?_
     refine l_val (v:= .pointer (some ((ba p).add ((k7%16)*4)))) rfl rfl rfl (e_indexFlN 0 (F:=AreaF) (j:=k7%16) (m:=16) (xs:=LL) rfl hLL rfl tf43 (by omega) rfl) ?_
     refine l_nil ?_
     exact f_owes_d (up_cons (up_cons rfl hs101) hs103) rfl (perm_front 0 rfl)
    ·rintro f M ⟨k0,-⟩-
     have hs104:f 104= .pointer (some ((ba p).add ((k7%16)*4))):=k0
     refine ob_start (L':=rowF AreaF 32 p c LL::M) (by rfl) (up_cons rfl hs104) ?_
     refine l_val (v:= .agg (aC x17)) rfl rfl rfl (e_load tf10 (cs:=(areaE x17)) rfl (k_flAt 0 (F:=AreaF) rfl hx18) rfl) ?_
     refine l_nil ?_
     exact f_owes_d (up_cons rfl hs104) rfl (perm_front 0 rfl)
    ·rintro f M-⟨i0,-⟩
     have hs5:f 5= .slice p (16) c:=i0
     refine ob_start (L':=M) (by rfl) (up_cons rfl hs5) ?_
     refine l_val (v:= .slice p (16) c) rfl rfl rfl (e_move) ?_
     refine l_nil ?_
     exact f_owes_d (up_cons rfl hs5) rfl (List.Perm.refl _)
    ·rintro f M-⟨i0,-⟩
     have hs7:f 7=Nx (k7):=i0
     refine ob_start (L':=M) (by rfl) (up_cons rfl hs7) ?_
     refine l_val (v:=Nx (k7)) rfl rfl rfl (e_move) ?_
     refine l_nil ?_
     exact f_owes_d (up_cons rfl hs7) rfl (List.Perm.refl _)
    ·rintro f M ⟨k0,-⟩-
     have hs107:f 107=Nx (k7):=k0
     refine ob_start (L':=M) (by rfl) (up_cons rfl hs107) ?_
     refine l_val (v:=Nx (k7/16)) rfl rfl rfl (e_quo (a:=((k7:Nat):Int)) (b:=(16:Int)) rfl rfl (by decide) (i64n (nat_tdiv _ 16) (by omega))) ?_
     refine l_nil ?_
     exact f_owes_d (up_cons rfl hs107) rfl (List.Perm.refl _)
    ·rintro f M ⟨k0,-⟩-
     have hs108:f 108=Nx (k7/16):=k0
     refine ob_start (L':=M) (by rfl) (up_cons rfl hs108) ?_
     refine l_val (v:=Nx ((k7/16)%16)) rfl rfl rfl (e_rem (a:=((k7/16:Nat):Int)) (b:=(16:Int)) rfl rfl (by decide) (nat_tmod _ 16)) ?_
     refine l_nil ?_
     exact f_owes_d (up_cons rfl hs108) rfl (List.Perm.refl _)
    ·rintro f M ⟨k0,k1,-⟩-
     have hs106:f 106= .slice p (16) c:=k0
     have hs109:f 109=Nx ((k7/16)%16):=k1
     refine ob_start (L':=rowF AreaF 32 p c LL::M) (by rfl) (up_cons (up_cons rfl hs106) hs109) ?_
     refine l_val (v:= .pointer (some ((ba p).add (((k7/16)%16)*4)))) rfl rfl rfl (e_indexFlN 0 (F:=AreaF) (j:=(k7/16)%16) (m:=16) (xs:=LL) rfl hLL rfl tf43 (by omega) rfl) ?_
     refine l_nil ?_
     exact f_owes_d (up_cons (up_cons rfl hs106) hs109) rfl (perm_front 0 rfl)
    ·rintro f M ⟨k0,-⟩-
     have hs110:f 110= .pointer (some ((ba p).add (((k7/16)%16)*4))):=k0
     refine ob_start (L':=rowF AreaF 32 p c LL::M) (by rfl) (up_cons rfl hs110) ?_
     refine l_val (v:= .agg (aC x19)) rfl rfl rfl (e_load tf10 (cs:=(areaE x19)) rfl (k_flAt 0 (F:=AreaF) rfl hx20) rfl) ?_
     refine l_nil ?_
     exact f_owes_d (up_cons rfl hs110) rfl (perm_front 0 rfl)
    ·rintro f M-⟨i0,-⟩
     have hs5:f 5= .slice p (16) c:=i0
     refine ob_start (L':=M) (by rfl) (up_cons rfl hs5) ?_
     refine l_val (v:= .slice p (16) c) rfl rfl rfl (e_move) ?_
     refine l_nil ?_
     exact f_owes_d (up_cons rfl hs5) rfl (List.Perm.refl _)
    ·rintro f M-⟨i0,-⟩
     have hs7:f 7=Nx (k7):=i0
     refine ob_start (L':=M) (by rfl) (up_cons rfl hs7) ?_
     refine l_val (v:=Nx (k7)) rfl rfl rfl (e_move) ?_
     refine l_nil ?_
     exact f_owes_d (up_cons rfl hs7) rfl (List.Perm.refl _)
    ·rintro f M ⟨k0,-⟩-
     have hs113:f 113=Nx (k7):=k0
     refine ob_start (L':=M) (by rfl) (up_cons rfl hs113) ?_
     refine l_val (v:=Nx (k7/256)) rfl rfl rfl (e_quo (a:=((k7:Nat):Int)) (b:=(256:Int)) rfl rfl (by decide) (i64n (nat_tdiv _ 256) (by omega))) ?_
     refine l_nil ?_
     exact f_owes_d (up_cons rfl hs113) rfl (List.Perm.refl _)
    ·rintro f M ⟨k0,k1,-⟩-
     have hs112:f 112= .slice p (16) c:=k0
     have hs114:f 114=Nx (k7/256):=k1
     refine ob_start (L':=rowF AreaF 32 p c LL::M) (by rfl) (up_cons (up_cons rfl hs112) hs114) ?_
     refine l_val (v:= .pointer (some ((ba p).add ((k7/256)*4)))) rfl rfl rfl (e_indexFlN 0 (F:=AreaF) (j:=k7/256) (m:=16) (xs:=LL) rfl hLL rfl tf43 (by omega) rfl) ?_
     refine l_nil ?_
     exact f_owes_d (up_cons (up_cons rfl hs112) hs114) rfl (perm_front 0 rfl)
    ·rintro f M ⟨k0,-⟩-
     have hs115:f 115= .pointer (some ((ba p).add ((k7/256)*4))):=k0
     refine ob_start (L':=rowF AreaF 32 p c LL::M) (by rfl) (up_cons rfl hs115) ?_
     refine l_val (v:= .agg (aC x21)) rfl rfl rfl (e_load tf10 (cs:=(areaE x21)) rfl (k_flAt 0 (F:=AreaF) rfl hx22) rfl) ?_
     refine l_nil ?_
     exact f_owes_d (up_cons rfl hs115) rfl (perm_front 0 rfl)
    ·rintro f M ⟨k0,k1,k2,-⟩-
     have hs105:f 105= .agg (aC x17):=k0
     have hs111:f 111= .agg (aC x19):=k1
     have hs116:f 116= .agg (aC x21):=k2
     refine ob_start (L':=M) (by rfl) (up_cons (up_cons (up_cons rfl hs105) hs111) hs116) ?_
     refine l_mv rfl rfl rfl (m_slices tf43 tf6 (vs:=[(0,.agg (aC x17)),(1,.agg (aC x19)),(2,.agg (aC x21))]) (cells:= #[Ix (x17.lx),Ix (x17.ly),Ix (x17.hx),Ix (x17.hy),Ix (x19.lx),Ix (x19.ly),Ix (x19.hx),Ix (x19.hy),Ix (x21.lx),Ix (x21.ly),Ix (x21.hx),Ix (x21.hy)]) rfl rfl rfl (by kernel_rfl)) ?_
     rintro _ _ ⟨b24,rfl,rfl⟩
     refine l_nil ?_
     exact f_owes_d (up_cons (up_cons (up_cons rfl hs105) hs111) hs116) rfl (perm_front 0 rfl)
    ·rintro f M ⟨k0,-⟩-
     have hs117:f 117= .slice (some ⟨(blk (f 117)),0,none⟩) 3 3:=k0
     refine ob_start (L':=pt (blk (f 117)) (.cells #[Ix (x17.lx),Ix (x17.ly),Ix (x17.hx),Ix (x17.hy),Ix (x19.lx),Ix (x19.ly),Ix (x19.hx),Ix (x19.hy),Ix (x21.lx),Ix (x21.ly),Ix (x21.hx),Ix (x21.hy)] 32)::M) (by rfl) (up_cons rfl hs117) ?_
     refine l_call rfl rfl rfl (cl_value (fst:=[]) (cap:=[]) (vs:=[.slice (some ⟨(blk (f 117)),0,none⟩) 3 3]) (all:=[.slice (some ⟨(blk (f 117)),0,none⟩) 3 3]) tf251 rfl rfl rfl) ?_
     intro w hw
     obtain⟨β1,sb,kn,hw1,back⟩:=St.frame_all hw
     refine(lists_ok β1 w hw1 _ [x17,x19,x21] (kn _ (k_ptFls (F:=AreaF) 0 (m:=3) (xs:=[x17,x19,x21]) rfl rfl rfl (Nat.le_of_ble_eq_true rfl))) (Nat.le_of_ble_eq_true rfl)).mono ?_
     rintro e w' ⟨rfl,hw'⟩
     refine⟨_,rfl,_,back _ _ hw',?_⟩
     clear hw hw1 hw' back kn sb
     refine l_nil ?_
     exact f_owes_d (up_cons rfl hs117) rfl (perm_front 0 rfl)
    ·rintro f M ⟨k0,-⟩-
     have hs118:f 118= .bool true:=k0
     refine ob_start (L':=M) (by rfl) (up_cons rfl hs118) ?_
     refine l_val (v:= .bool false) rfl rfl rfl (e_not (a:=true) rfl) ?_
     refine l_nil ?_
     exact f_owes_d (up_cons rfl hs118) rfl (List.Perm.refl _)
    rintro fa25 ⟨-,-,-,-,-,-,-,-,-,-,-,-,-,-,-,-,-,-,k18,-⟩ ⟨j0,j1,-⟩
    refine f_re (L':=[rowF AreaF 32 p c LL,rowF IntF 3 (some ⟨b1,0,none⟩) 10 endsL,pt (blk (fa25 117)) (.cells #[Ix (x17.lx),Ix (x17.ly),Ix (x17.hx),Ix (x17.hy),Ix (x19.lx),Ix (x19.ly),Ix (x19.hx),Ix (x19.hy),Ix (x21.lx),Ix (x21.ly),Ix (x21.hx),Ix (x21.hy)] 32)]) (by rfl) ?_
    refine f_rebase (d:=5) (v:= .slice p (16) c) j0 ?_
    refine f_rebase (d:=7) (v:=Nx (k7)) j1 ?_
    refine f_rebase (d:=119) (v:= .bool false) k18 ?_
    refine f_then ?_
    refine c_no rfl ?_
    refine c_skip ?_
    refine f_block ?_
    refine f_then ?_
    refine c_region ?_
    refine l_val (v:=Nx (k7)) rfl rfl rfl (e_move) ?_
    refine l_val (v:=Nx (k7+1)) rfl rfl rfl (e_add (a:=((k7:Nat):Int)) (b:=(1:Int)) rfl rfl (i64n (by omega) (by omega))) ?_
    refine l_val (v:=Nx (k7+1)) rfl rfl rfl (e_assign) ?_
    refine l_nil ?_
    refine f_mask (L':=[rowF AreaF 32 p c LL,rowF IntF 3 (some ⟨b1,0,none⟩) 10 endsL]) [true,true,false] rfl ?_
    exact f_cut ⟨k7+1,⟨⟨rfl,rfl⟩,rfl,by omega⟩,(show 4096-(k7+1)<4096-k7 from by omega)⟩
   ·
    refine c_exit ?_
    refine f_then_exit ?_
    refine f_then_exit ?_
    refine f_exit ?_
    refine f_then ?_
    refine c_seq ?_
    refine c_region ?_
    refine l_call rfl rfl rfl (cl_value (fst:=[]) (cap:=[]) (vs:=[]) (all:=[]) tf74 rfl rfl rfl) ?_
    intro w hw
    obtain⟨β1,sb,kn,hw1,back⟩:=St.frame_all hw
    refine(new_ok β1 w hw1).mono ?_
    rintro e w' ⟨b26,rfl,hw'⟩
    refine⟨_,rfl,_,back _ _ hw',?_⟩
    clear hw hw1 hw' back kn sb
    refine l_val (v:= .pointer (some ⟨b26,0,none⟩)) rfl rfl rfl (e_assign) ?_
    refine l_nil ?_
    refine f_then ?_
    refine c_seq ?_
    refine c_region ?_
    refine l_val (v:= .slice none 0 0) rfl rfl rfl (e_assign) ?_
    refine l_nil ?_
    refine f_then ?_
    refine c_seq ?_
    refine c_seq ?_
    refine c_emp (r:=rowF AreaF 32 none 0 []) (row_nil _ _ _) ?_
    refine c_region ?_
    refine l_val (v:= .int .i64 (0)) rfl rfl rfl (e_assign) ?_
    refine l_nil ?_
    refine f_then ?_
    refine c_block ?_
    refine c_loop (fun(x_:Nat×KSp×List KA×Option Addr×Nat) (f:Fm) (L:List Res)=>match x_ with|(m,s,zs,zp,zc)=>(f 5= .slice p (16) c∧f 8= .pointer (some ⟨b26,0,none⟩)∧f 9= .slice zp (zs.length) zc∧f 10=Nx (m))∧L=[rowF AreaF 32 zp zc zs,spcR b26 s,rowF AreaF 32 p c LL,rowF IntF 3 (some ⟨b1,0,none⟩) 10 endsL]∧(m≤128∧FullS s 0 m []∧zs.length=m)) (fun(x_:Nat×KSp×List KA×Option Addr×Nat)=>match x_ with|(m,s,zs,zp,zc)=>128-m) (0,(⟨[],[]⟩),[],none,0) ?_ ?_
    ·exact⟨⟨rfl,rfl,rfl,rfl⟩,rfl,⟨by omega,FullS.start,rfl⟩⟩
    rintro⟨m,s,zs,zp,zc⟩ f0 L0 ⟨⟨hs5,hs8,hs9,hs10⟩,hL,⟨hm,hF,hzl⟩⟩
    subst L0
    refine rebase (d:=5) hs5 ?_
    refine rebase (d:=8) hs8 ?_
    refine rebase (d:=9) hs9 ?_
    refine rebase (d:=10) hs10 ?_
    clear hs5 hs8 hs9 hs10
    refine c_seq ?_
    refine c_seq ?_
    refine c_region ?_
    refine l_val (v:=Nx (m)) rfl rfl rfl (e_move) ?_
    refine l_val (v:= .bool (decide (((m:Nat):Int)<(128:Int)))) rfl rfl rfl (e_lss (a:=((m:Nat):Int)) (b:=(128:Int)) rfl rfl) ?_
    refine l_nil ?_
    refine f_then ?_
    refine c_if (((m:Nat):Int)<(128:Int)) rfl (fun hc27=> ?_) (fun hc27=> ?_)
    ·
     refine c_skip ?_
     refine f_then ?_
     refine c_seq ?_
     refine c_block ?_
     refine c_seq ?_
     refine c_region ?_
     refine l_val (v:=Nx (m)) rfl rfl rfl (e_move) ?_
     refine l_val (v:=Ix (0-((m:Nat):Int))) rfl rfl rfl (e_neg (a:=((m:Nat):Int)) rfl (i64w (by omega))) ?_
     refine l_val (v:=Nx (m)) rfl rfl rfl (e_move) ?_
     refine l_val (v:=Ix (0-((m:Nat):Int))) rfl rfl rfl (e_neg (a:=((m:Nat):Int)) rfl (i64w (by omega))) ?_
     refine l_val (v:=Nx (m)) rfl rfl rfl (e_move) ?_
     refine l_val (v:=Nx (m)) rfl rfl rfl (e_move) ?_
     refine l_call rfl rfl rfl (cl_value (fst:=[]) (cap:=[]) (vs:=[Ix (0-((m:Nat):Int)),Ix (0-((m:Nat):Int)),Nx (m),Nx (m)]) (all:=[Ix (0-((m:Nat):Int)),Ix (0-((m:Nat):Int)),Nx (m),Nx (m)]) tf71 rfl rfl rfl) ?_
     intro w hw
     obtain⟨β1,sb,kn,hw1,back⟩:=St.frame_all hw
     refine(area_ok β1 w hw1 (0-((m:Nat):Int)) (0-((m:Nat):Int)) ((m:Nat):Int) ((m:Nat):Int)).mono ?_
     rintro e w' ⟨rfl,hw'⟩
     refine⟨_,rfl,_,back _ _ hw',?_⟩
     clear hw hw1 hw' back kn sb
     refine l_mv rfl rfl rfl (m_alloc tf6) ?_
     rintro _ _ ⟨b28,rfl,rfl⟩
     refine l_mu rfl rfl (m_store 0 tf10 (b:=b28) (o:=0) (T:=32) (cs:= #[.int .i64 (0),.int .i64 (0),.int .i64 (0),.int .i64 (0)]) (cs':= #[Ix (0-((m:Nat):Int)),Ix (0-((m:Nat):Int)),Nx (m),Nx (m)]) (v:= .agg #[Ix (0-((m:Nat):Int)),Ix (0-((m:Nat):Int)),Nx (m),Nx (m)]) rfl rfl rfl rfl rfl rfl rfl) ?_
     refine l_nil ?_
     refine f_then ?_
     refine c_seq ?_
     refine c_region ?_
     refine l_val (v:= .slice zp (zs.length) zc) rfl rfl rfl (e_move) ?_
     refine l_val (v:= .agg #[Ix (0-((m:Nat):Int)),Ix (0-((m:Nat):Int)),Nx (m),Nx (m)]) rfl rfl rfl (e_load tf10 (cs:=[Ix (0-((m:Nat):Int)),Ix (0-((m:Nat):Int)),Nx (m),Nx (m)]) rfl (k_pt 0 (cs:= #[Ix (0-((m:Nat):Int)),Ix (0-((m:Nat):Int)),Nx (m),Nx (m)]) (vs:=[Ix (0-((m:Nat):Int)),Ix (0-((m:Nat):Int)),Nx (m),Nx (m)]) rfl rfl) rfl) ?_
     refine l_mv rfl rfl rfl (m_slices tf43 tf6 (vs:=[(0,.agg #[Ix (0-((m:Nat):Int)),Ix (0-((m:Nat):Int)),Nx (m),Nx (m)])]) (cells:= #[Ix (0-((m:Nat):Int)),Ix (0-((m:Nat):Int)),Nx (m),Nx (m)]) rfl rfl rfl rfl) ?_
     rintro _ _ ⟨b29,rfl,rfl⟩
     refine l_mv rfl rfl rfl (m_appendFlN (F:=AreaF) 2 tf43 tf97 (p:=zp) (m:=zs.length) (xs:=zs) (ys:=[(⟨0-((m:Nat):Int),0-((m:Nat):Int),((m:Nat):Int),((m:Nat):Int)⟩:KA)]) (ao:=(some ⟨b29,0,none⟩)) (k:=1) (c:=1) rfl rfl rfl rfl rfl (k_ptFl (z:=(⟨0-((m:Nat):Int),0-((m:Nat):Int),((m:Nat):Int),((m:Nat):Int)⟩:KA)) 0 rfl rfl) (by first|omega|simp only[List.length_nil,List.length_cons,List.length_append,List.length_set];omega) (by first|omega|simp only[List.length_nil,List.length_cons,List.length_append,List.length_set];omega)) ?_
     rintro _ _ ⟨rp30,rc31,rfl,rfl⟩
     refine l_val (v:= .slice rp30 ((zs++[(⟨0-((m:Nat):Int),0-((m:Nat):Int),((m:Nat):Int),((m:Nat):Int)⟩:KA)]).length) rc31) rfl rfl rfl (e_assign) ?_
     refine l_nil ?_
     refine f_then ?_
     refine c_seq ?_
     obtain⟨hE1,hF1⟩:=hF.put (by omega)
     obtain⟨hE2,hF2⟩:=hF1.again (by omega)
     refine c_region ?_
     refine l_val (v:= .pointer (some ⟨b26,0,none⟩)) rfl rfl rfl (e_move) ?_
     refine l_val (v:=Nx (m)) rfl rfl rfl (e_move) ?_
     refine l_val (v:=Ix ((65536:Int)-((m:Nat):Int))) rfl rfl rfl (e_sub (a:=(65536:Int)) (b:=((m:Nat):Int)) rfl rfl (i64w (by omega))) ?_
     refine l_val (v:= .agg #[Ix (0-((m:Nat):Int)),Ix (0-((m:Nat):Int)),Nx (m),Nx (m)]) rfl rfl rfl (e_load tf10 (cs:=[Ix (0-((m:Nat):Int)),Ix (0-((m:Nat):Int)),Nx (m),Nx (m)]) rfl (k_pt 1 (cs:= #[Ix (0-((m:Nat):Int)),Ix (0-((m:Nat):Int)),Nx (m),Nx (m)]) (vs:=[Ix (0-((m:Nat):Int)),Ix (0-((m:Nat):Int)),Nx (m),Nx (m)]) rfl rfl) rfl) ?_
     refine l_call rfl rfl rfl (cl_value (fst:=[]) (cap:=[]) (vs:=[.pointer (some ⟨b26,0,none⟩),Ix ((65536:Int)-((m:Nat):Int)),.agg #[Ix (0-((m:Nat):Int)),Ix (0-((m:Nat):Int)),Nx (m),Nx (m)]]) (all:=[.pointer (some ⟨b26,0,none⟩),Ix ((65536:Int)-((m:Nat):Int)),.agg #[Ix (0-((m:Nat):Int)),Ix (0-((m:Nat):Int)),Nx (m),Nx (m)]]) tf75 rfl rfl rfl) ?_
     intro w hw
     replace hw:=hw.perm (L':=_::_::_::_::_::_::[]) (by exact((((((perm_front 5 rfl).trans (perm_front 5 rfl)).trans (perm_front 4 rfl)).trans (perm_front 4 rfl)).trans (perm_front 4 rfl)).trans (perm_front 5 rfl)))
     obtain⟨β1,sb,kn,hw1,back⟩:=St.frame (L:=[_]) (M:=_::_::_::_::_::[]) hw
     refine(put_ok' β1 w b26 s hw1 hF.ok ((65536:Int)-((m:Nat):Int)) (⟨0-((m:Nat):Int),0-((m:Nat):Int),((m:Nat):Int),((m:Nat):Int)⟩:KA)).mono ?_
     rintro e w' ⟨rfl,hw'⟩
     refine⟨_,rfl,_,back _ _ hw',?_⟩
     clear hw hw1 hw' back kn sb
     refine l_val (v:= .bool (decide ((errPut s ((65536:Int)-((m:Nat):Int)) (⟨0-((m:Nat):Int),0-((m:Nat):Int),((m:Nat):Int),((m:Nat):Int)⟩:KA))≠(0:Int)))) rfl rfl rfl (e_neq (a:=(errPut s ((65536:Int)-((m:Nat):Int)) (⟨0-((m:Nat):Int),0-((m:Nat):Int),((m:Nat):Int),((m:Nat):Int)⟩:KA))) (b:=(0:Int)) rfl rfl) ?_
     refine l_val (v:= .bool (decide ((errPut s ((65536:Int)-((m:Nat):Int)) (⟨0-((m:Nat):Int),0-((m:Nat):Int),((m:Nat):Int),((m:Nat):Int)⟩:KA))≠(0:Int)))) rfl rfl rfl (e_move) ?_
     refine l_split (s:=142) (p:=(errPut s ((65536:Int)-((m:Nat):Int)) (⟨0-((m:Nat):Int),0-((m:Nat):Int),((m:Nat):Int),((m:Nat):Int)⟩:KA))≠(0:Int)) rfl (fun h=> ?_) (fun h=> ?_)
     exact absurd h (fun q=>q hE1)
     refine g_val (v:= .pointer (some ⟨b26,0,none⟩)) rfl rfl rfl rfl rfl (e_move) ?_
     refine g_val (v:=Nx (m)) rfl rfl rfl rfl rfl (e_move) ?_
     refine g_val (v:=Ix ((65536:Int)-((m:Nat):Int))) rfl rfl rfl rfl rfl (e_sub (a:=(65536:Int)) (b:=((m:Nat):Int)) rfl rfl (i64w (by omega))) ?_
     refine g_val (v:= .agg #[Ix (0-((m:Nat):Int)),Ix (0-((m:Nat):Int)),Nx (m),Nx (m)]) rfl rfl rfl rfl rfl (e_load tf10 (cs:=[Ix (0-((m:Nat):Int)),Ix (0-((m:Nat):Int)),Nx (m),Nx (m)]) rfl (k_pt 2 (cs:= #[Ix (0-((m:Nat):Int)),Ix (0-((m:Nat):Int)),Nx (m),Nx (m)]) (vs:=[Ix (0-((m:Nat):Int)),Ix (0-((m:Nat):Int)),Nx (m),Nx (m)]) rfl rfl) rfl) ?_
     refine g_call rfl rfl rfl rfl rfl (cl_value (fst:=[]) (cap:=[]) (vs:=[.pointer (some ⟨b26,0,none⟩),Ix ((65536:Int)-((m:Nat):Int)),.agg #[Ix (0-((m:Nat):Int)),Ix (0-((m:Nat):Int)),Nx (m),Nx (m)]]) (all:=[.pointer (some ⟨b26,0,none⟩),Ix ((65536:Int)-((m:Nat):Int)),.agg #[Ix (0-((m:Nat):Int)),Ix (0-((m:Nat):Int)),Nx (m),Nx (m)]]) tf75 rfl rfl rfl) ?_
     intro w hw
     replace hw:=hw.perm (L':=_::_::_::_::_::_::[]) (by exact((((((perm_front 5 rfl).trans (perm_front 5 rfl)).trans (perm_front 5 rfl)).trans (perm_front 5 rfl)).trans (perm_front 5 rfl)).trans (perm_front 5 rfl)))
     obtain⟨β1,sb,kn,hw1,back⟩:=St.frame (L:=[_]) (M:=_::_::_::_::_::[]) hw
     refine(put_ok' β1 w b26 (putX s ((65536:Int)-((m:Nat):Int)) (⟨0-((m:Nat):Int),0-((m:Nat):Int),((m:Nat):Int),((m:Nat):Int)⟩:KA)) hw1 hF1.ok ((65536:Int)-((m:Nat):Int)) (⟨0-((m:Nat):Int),0-((m:Nat):Int),((m:Nat):Int),((m:Nat):Int)⟩:KA)).mono ?_
     rintro e w' ⟨rfl,hw'⟩
     refine⟨_,rfl,_,back _ _ hw',?_⟩
     clear hw hw1 hw' back kn sb
     have hpe:=errPut_le (putX s ((65536:Int)-((m:Nat):Int)) (⟨0-((m:Nat):Int),0-((m:Nat):Int),((m:Nat):Int),((m:Nat):Int)⟩:KA)) ((65536:Int)-((m:Nat):Int)) (⟨0-((m:Nat):Int),0-((m:Nat):Int),((m:Nat):Int),((m:Nat):Int)⟩:KA)
     refine g_val (v:= .bool (decide ((errPut (putX s ((65536:Int)-((m:Nat):Int)) (⟨0-((m:Nat):Int),0-((m:Nat):Int),((m:Nat):Int),((m:Nat):Int)⟩:KA)) ((65536:Int)-((m:Nat):Int)) (⟨0-((m:Nat):Int),0-((m:Nat):Int),((m:Nat):Int),((m:Nat):Int)⟩:KA))≠(0:Int)))) rfl rfl rfl rfl rfl (e_neq (a:=(errPut (putX s ((65536:Int)-((m:Nat):Int)) (⟨0-((m:Nat):Int),0-((m:Nat):Int),((m:Nat):Int),((m:Nat):Int)⟩:KA)) ((65536:Int)-((m:Nat):Int)) (⟨0-((m:Nat):Int),0-((m:Nat):Int),((m:Nat):Int),((m:Nat):Int)⟩:KA))) (b:=(0:Int)) rfl rfl) ?_
     refine l_val (v:= .bool (decide ((errPut (putX s ((65536:Int)-((m:Nat):Int)) (⟨0-((m:Nat):Int),0-((m:Nat):Int),((m:Nat):Int),((m:Nat):Int)⟩:KA)) ((65536:Int)-((m:Nat):Int)) (⟨0-((m:Nat):Int),0-((m:Nat):Int),((m:Nat):Int),((m:Nat):Int)⟩:KA))≠(0:Int)))) rfl rfl rfl (e_pick_f rfl) ?_
     refine l_nil ?_
     refine f_then ?_
     refine c_if ((errPut (putX s ((65536:Int)-((m:Nat):Int)) (⟨0-((m:Nat):Int),0-((m:Nat):Int),((m:Nat):Int),((m:Nat):Int)⟩:KA)) ((65536:Int)-((m:Nat):Int)) (⟨0-((m:Nat):Int),0-((m:Nat):Int),((m:Nat):Int),((m:Nat):Int)⟩:KA))≠(0:Int)) rfl (fun hc32=> ?_) (fun hc32=> ?_)
     ·
      exact absurd hc32 (fun q=>q hE2)
     ·
      refine c_skip ?_
      refine f_block ?_
      refine f_then ?_
      refine c_region ?_
      refine l_val (v:=Nx (m)) rfl rfl rfl (e_move) ?_
      refine l_val (v:=Nx (m+1)) rfl rfl rfl (e_add (a:=((m:Nat):Int)) (b:=(1:Int)) rfl rfl (i64n (by omega) (by omega))) ?_
      refine l_val (v:=Nx (m+1)) rfl rfl rfl (e_assign) ?_
      refine l_nil ?_
      refine f_perm (L':=[rowF AreaF 32 rp30 rc31 (zs++[(⟨0-((m:Nat):Int),0-((m:Nat):Int),((m:Nat):Int),((m:Nat):Int)⟩:KA)]),spcR b26 (putX (putX s ((65536:Int)-((m:Nat):Int)) (⟨0-((m:Nat):Int),0-((m:Nat):Int),((m:Nat):Int),((m:Nat):Int)⟩:KA)) ((65536:Int)-((m:Nat):Int)) (⟨0-((m:Nat):Int),0-((m:Nat):Int),((m:Nat):Int),((m:Nat):Int)⟩:KA)),rowF AreaF 32 p c LL,rowF IntF 3 (some ⟨b1,0,none⟩) 10 endsL,pt b29 (.cells #[Ix (0-((m:Nat):Int)),Ix (0-((m:Nat):Int)),Nx (m),Nx (m)] 32),pt b28 (.cells #[Ix (0-((m:Nat):Int)),Ix (0-((m:Nat):Int)),Nx (m),Nx (m)] 32)]) (perm_ix [3,0,4,5,1,2] 6 rfl (by kernel_rfl) (by kernel_rfl)) ?_
      refine f_mask (L':=[rowF AreaF 32 rp30 rc31 (zs++[(⟨0-((m:Nat):Int),0-((m:Nat):Int),((m:Nat):Int),((m:Nat):Int)⟩:KA)]),spcR b26 (putX (putX s ((65536:Int)-((m:Nat):Int)) (⟨0-((m:Nat):Int),0-((m:Nat):Int),((m:Nat):Int),((m:Nat):Int)⟩:KA)) ((65536:Int)-((m:Nat):Int)) (⟨0-((m:Nat):Int),0-((m:Nat):Int),((m:Nat):Int),((m:Nat):Int)⟩:KA)),rowF AreaF 32 p c LL,rowF IntF 3 (some ⟨b1,0,none⟩) 10 endsL]) [true,true,true,true,false,false] rfl ?_
      exact f_cut ⟨(m+1,(putX (putX s ((65536:Int)-((m:Nat):Int)) (⟨0-((m:Nat):Int),0-((m:Nat):Int),((m:Nat):Int),((m:Nat):Int)⟩:KA)) ((65536:Int)-((m:Nat):Int)) (⟨0-((m:Nat):Int),0-((m:Nat):Int),((m:Nat):Int),((m:Nat):Int)⟩:KA)),(zs++[(⟨0-((m:Nat):Int),0-((m:Nat):Int),((m:Nat):Int),((m:Nat):Int)⟩:KA)]),rp30,rc31),⟨⟨rfl,rfl,rfl,rfl⟩,rfl,⟨by omega,hF2,by rw[List.length_append,hzl];rfl⟩⟩,(show 128-(m+1)<128-m from by omega)⟩
    ·
     refine c_exit ?_
     refine f_then_exit ?_
     refine f_then_exit ?_
     refine f_exit ?_
     refine f_then ?_
     refine c_seq ?_
     obtain rfl:m=128:=by omega
     have hyl:128=zs.length:=hzl.symm
     rw[hzl]
     refine c_conseq 0 (r':=famF AreaF 32 zp zc zs zp zc zs) rfl famF_start ?_
     have hbl:(beganS s).length=8128:=by rw[hF.began];exact hF.pairs
     have hel:=hF.ended0
     have hG:=hF.tell
     obtain⟨he5,hp5,hem,hpm⟩:=hG.more ln_zero
     refine c_region ?_
     refine l_val (v:= .pointer (some ⟨b26,0,none⟩)) rfl rfl rfl (e_move) ?_
     refine l_call rfl rfl rfl (cl_value (fst:=[]) (cap:=[]) (vs:=[.pointer (some ⟨b26,0,none⟩)]) (all:=[.pointer (some ⟨b26,0,none⟩)]) tf77 rfl rfl rfl) ?_
     intro w hw
     replace hw:=hw.perm (L':=_::_::_::_::[]) (by exact((((perm_front 3 rfl).trans (perm_front 3 rfl)).trans (perm_front 2 rfl)).trans (perm_front 3 rfl)))
     obtain⟨β1,sb,kn,hw1,back⟩:=St.frame (L:=[_]) (M:=_::_::_::[]) hw
     refine(changes_ok β1 w b26 s hw1 hF.ok).mono ?_
     rintro e w' ⟨p33,c34,q35,d36,rfl,hw'⟩
     refine⟨_,rfl,_,back _ _ hw',?_⟩
     clear hw hw1 hw' back kn sb
     refine l_val (v:= .tuple #[.slice p33 ((beganS s).length) c34,.slice q35 ((endedS s).length) d36]) rfl rfl rfl (e_move) ?_
     refine l_val (v:= .slice p33 ((beganS s).length) c34) rfl rfl rfl (e_extract (vs:= #[.slice p33 ((beganS s).length) c34,.slice q35 ((endedS s).length) d36]) rfl rfl) ?_
     refine l_val (v:= .slice q35 ((endedS s).length) d36) rfl rfl rfl (e_extract (vs:= #[.slice p33 ((beganS s).length) c34,.slice q35 ((endedS s).length) d36]) rfl rfl) ?_
     refine l_val (v:= .slice p33 ((beganS s).length) c34) rfl rfl rfl (e_assign) ?_
     refine l_val (v:= .slice q35 ((endedS s).length) d36) rfl rfl rfl (e_assign) ?_
     refine l_nil ?_
     refine f_then ?_
     refine c_seq ?_
     refine c_seq ?_
     refine c_any [⟨[],[],[0],[155],fun f=>f 155= .pointer (some ⟨b26,0,none⟩)⟩,⟨[],[],[1],[156],fun f=>f 156= .slice p (16) c⟩,⟨[1],[1],[],[157],fun f=>f 157= .pointer (some ((ba p).add (0*4)))⟩,⟨[1,2],[2],[],[158],fun f=>f 158= .agg (aC (lnA 0))⟩,⟨[0,1,2,3],[0,3],[],[159],fun f=>f 159=Ix (errPut (toldS s) 5 (lnA 0))⟩,⟨[0,1,2,3,4],[4],[],[160],fun f=>f 160= .bool false⟩,⟨[0,1,2,3,4,5],[5],[],[161],fun f=>f 161= .bool false⟩,⟨[0,1,2,3,4,5,6],[6],[0],[162],fun f=>f 162= .pointer (some ⟨b26,0,none⟩)⟩,⟨[0,1,2,3,4,5,6],[6],[1],[163],fun f=>f 163= .slice p (16) c⟩,⟨[0,1,2,3,4,5,6,8],[8,6],[],[164],fun f=>f 164= .pointer (some ((ba p).add (0*4)))⟩,⟨[0,1,2,3,4,5,6,8,9],[9,6],[],[165],fun f=>f 165= .agg (aC (lnA 0))⟩,⟨[0,1,2,3,4,5,6,7,8,9,10],[7,10,6],[],[166],fun f=>f 166=Ix (errPut (toldS s) (-1) (lnA 0))⟩,⟨[0,1,2,3,4,5,6,7,8,9,10,11],[11,6],[],[167],fun f=>f 167= .bool false⟩,⟨[0,1,2,3,4,5,6,7,8,9,10,11,12],[6,12],[],[168],fun f=>f 168= .bool false⟩,⟨[0,1,2,3,4,5,6,7,8,9,10,11,12,13],[13],[],[169],fun f=>f 169= .bool false⟩,⟨[0,1,2,3,4,5,6,7,8,9,10,11,12,13,14],[14],[2],[170],fun f=>f 170= .slice p33 ((beganS s).length) c34⟩,⟨[0,1,2,3,4,5,6,7,8,9,10,11,12,13,14,15],[15,14],[],[171],fun f=>f 171=Nx ((beganS s).length)⟩,⟨[0,1,2,3,4,5,6,7,8,9,10,11,12,13,14,15,16],[16,14],[],[172],fun f=>f 172= .bool false⟩,⟨[0,1,2,3,4,5,6,7,8,9,10,11,12,13,14,15,16,17],[14,17],[],[173],fun f=>f 173= .bool false⟩,⟨[0,1,2,3,4,5,6,7,8,9,10,11,12,13,14,15,16,17,18],[18],[],[174],fun f=>f 174= .bool false⟩,⟨[0,1,2,3,4,5,6,7,8,9,10,11,12,13,14,15,16,17,18,19],[19],[3],[175],fun f=>f 175= .slice q35 ((endedS s).length) d36⟩,⟨[0,1,2,3,4,5,6,7,8,9,10,11,12,13,14,15,16,17,18,19,20],[20,19],[],[176],fun f=>f 176=Nx ((endedS s).length)⟩,⟨[0,1,2,3,4,5,6,7,8,9,10,11,12,13,14,15,16,17,18,19,20,21],[21,19],[],[177],fun f=>f 177= .bool false⟩,⟨[0,1,2,3,4,5,6,7,8,9,10,11,12,13,14,15,16,17,18,19,20,21,22],[19,22],[],[178],fun f=>f 178= .bool false⟩,⟨[0,1,2,3,4,5,6,7,8,9,10,11,12,13,14,15,16,17,18,19,20,21,22,23],[23],[],[179],fun f=>f 179= .bool false⟩,⟨[0,1,2,3,4,5,6,7,8,9,10,11,12,13,14,15,16,17,18,19,20,21,22,23,24],[24],[4],[180],fun f=>f 180= .slice zp (128) zc⟩,⟨[0,1,2,3,4,5,6,7,8,9,10,11,12,13,14,15,16,17,18,19,20,21,22,23,24,25],[25,24],[],[181],fun f=>f 181= .bool true⟩,⟨[0,1,2,3,4,5,6,7,8,9,10,11,12,13,14,15,16,17,18,19,20,21,22,23,24,25,26],[26,24],[],[182],fun f=>f 182= .bool false⟩,⟨[0,1,2,3,4,5,6,7,8,9,10,11,12,13,14,15,16,17,18,19,20,21,22,23,24,25,26,27],[24,27],[],[183],fun f=>f 183= .bool false⟩,⟨[0,1,2,3,4,5,6,7,8,9,10,11,12,13,14,15,16,17,18,19,20,21,22,23,24,25,26,27,28],[28],[],[184],fun f=>f 184= .bool false⟩,⟨[0,1,2,3,4,5,6,7,8,9,10,11,12,13,14,15,16,17,18,19,20,21,22,23,24,25,26,27,28,29],[29],[4],[185],fun f=>f 185= .slice zp (128) zc⟩,⟨[0,1,2,3,4,5,6,7,8,9,10,11,12,13,14,15,16,17,18,19,20,21,22,23,24,25,26,27,28,29],[29],[1],[186],fun f=>f 186= .slice p (16) c⟩,⟨[0,1,2,3,4,5,6,7,8,9,10,11,12,13,14,15,16,17,18,19,20,21,22,23,24,25,26,27,28,29,31],[31,29],[],[187],fun f=>f 187= .pointer (some ((ba p).add (0*4)))⟩,⟨[0,1,2,3,4,5,6,7,8,9,10,11,12,13,14,15,16,17,18,19,20,21,22,23,24,25,26,27,28,29,31,32],[32,29],[],[188],fun f=>f 188= .agg (aC (lnA 0))⟩,⟨[0,1,2,3,4,5,6,7,8,9,10,11,12,13,14,15,16,17,18,19,20,21,22,23,24,25,26,27,28,29,31,32,33],[33,29],[],[189],fun f=>f 189= .slice (some ⟨(blk (f 189)),0,none⟩) 1 1⟩,⟨[0,1,2,3,4,5,6,7,8,9,10,11,12,13,14,15,16,17,18,19,20,21,22,23,24,25,26,27,28,29,30,31,32,33,34],[30,34,29],[],[190],fun f=>f 190= .slice (sla (f 190)) (128+1) (slc (f 190))⟩,⟨[0,1,2,3,4,5,6,7,8,9,10,11,12,13,14,15,16,17,18,19,20,21,22,23,24,25,26,27,28,29,30,31,32,33,34,35],[35,29],[],[191],fun f=>f 191= .bool true⟩,⟨[0,1,2,3,4,5,6,7,8,9,10,11,12,13,14,15,16,17,18,19,20,21,22,23,24,25,26,27,28,29,30,31,32,33,34,35,36],[36,29],[],[192],fun f=>f 192= .bool false⟩,⟨[0,1,2,3,4,5,6,7,8,9,10,11,12,13,14,15,16,17,18,19,20,21,22,23,24,25,26,27,28,29,30,31,32,33,34,35,36,37],[29,37],[],[193],fun f=>f 193= .bool false⟩,⟨[0,1,2,3,4,5,6,7,8,9,10,11,12,13,14,15,16,17,18,19,20,21,22,23,24,25,26,27,28,29,30,31,32,33,34,35,36,37,38],[38],[],[194],fun f=>f 194= .bool false⟩,⟨[0,1,2,3,4,5,6,7,8,9,10,11,12,13,14,15,16,17,18,19,20,21,22,23,24,25,26,27,28,29,30,31,32,33,34,35,36,37,38,39],[39],[4],[195],fun f=>f 195= .slice zp (128) zc⟩,⟨[0,1,2,3,4,5,6,7,8,9,10,11,12,13,14,15,16,17,18,19,20,21,22,23,24,25,26,27,28,29,30,31,32,33,34,35,36,37,38,39],[39],[1],[196],fun f=>f 196= .slice p (16) c⟩,⟨[0,1,2,3,4,5,6,7,8,9,10,11,12,13,14,15,16,17,18,19,20,21,22,23,24,25,26,27,28,29,30,31,32,33,34,35,36,37,38,39,41],[41,39],[],[197],fun f=>f 197= .pointer (some ((ba p).add (0*4)))⟩,⟨[0,1,2,3,4,5,6,7,8,9,10,11,12,13,14,15,16,17,18,19,20,21,22,23,24,25,26,27,28,29,30,31,32,33,34,35,36,37,38,39,41,42],[42,39],[],[198],fun f=>f 198= .agg (aC (lnA 0))⟩,⟨[0,1,2,3,4,5,6,7,8,9,10,11,12,13,14,15,16,17,18,19,20,21,22,23,24,25,26,27,28,29,30,31,32,33,34,35,36,37,38,39],[39],[],[199],fun f=>f 199= .agg #[.int .i64 (1),.int .i64 (0),.int .i64 (0),.int .i64 (0)]⟩,⟨[0,1,2,3,4,5,6,7,8,9,10,11,12,13,14,15,16,17,18,19,20,21,22,23,24,25,26,27,28,29,30,31,32,33,34,35,36,37,38,39,41,42,43,44],[43,44,39],[],[200],fun f=>f 200= .slice (some ⟨(blk (f 200)),0,none⟩) 2 2⟩,⟨[0,1,2,3,4,5,6,7,8,9,10,11,12,13,14,15,16,17,18,19,20,21,22,23,24,25,26,27,28,29,30,31,32,33,34,35,36,37,38,39,40,41,42,43,44,45],[40,45,39],[],[201],fun f=>f 201= .slice (sla (f 201)) (128+2) (slc (f 201))⟩,⟨[0,1,2,3,4,5,6,7,8,9,10,11,12,13,14,15,16,17,18,19,20,21,22,23,24,25,26,27,28,29,30,31,32,33,34,35,36,37,38,39,40,41,42,43,44,45,46],[46,39],[],[202],fun f=>f 202= .bool true⟩,⟨[0,1,2,3,4,5,6,7,8,9,10,11,12,13,14,15,16,17,18,19,20,21,22,23,24,25,26,27,28,29,30,31,32,33,34,35,36,37,38,39,40,41,42,43,44,45,46,47],[47,39],[],[203],fun f=>f 203= .bool false⟩,⟨[0,1,2,3,4,5,6,7,8,9,10,11,12,13,14,15,16,17,18,19,20,21,22,23,24,25,26,27,28,29,30,31,32,33,34,35,36,37,38,39,40,41,42,43,44,45,46,47,48],[39,48],[],[204],fun f=>f 204= .bool false⟩] [⟨none,(some 4),[4],[],fun _=>rowF PairF 55 p33 c34 (beganS s)⟩,⟨none,(some 4),[4],[],fun _=>rowF PairF 55 q35 d36 (endedS s)⟩,⟨none,(some 4),[4],[],fun _=>spcR b26 (toldS s)⟩,⟨none,(some 4),[4],[],fun _=>famF AreaF 32 zp zc zs zp zc zs⟩,⟨none,(some 4),[2,3,4],[],fun _=>rowF AreaF 32 p c LL⟩,⟨none,(some 4),[4],[],fun _=>rowF IntF 3 (some ⟨b1,0,none⟩) 10 endsL⟩,⟨(some 4),(some 11),[11],[],fun _=>spcR b26 (toldS s)⟩,⟨(some 4),(some 11),[11],[],fun _=>rowF PairF 55 p33 c34 (beganS s)⟩,⟨(some 4),(some 11),[11],[],fun _=>rowF PairF 55 q35 d36 (endedS s)⟩,⟨(some 4),(some 11),[11],[],fun _=>famF AreaF 32 zp zc zs zp zc zs⟩,⟨(some 4),(some 11),[9,10,11],[],fun _=>rowF AreaF 32 p c LL⟩,⟨(some 4),(some 11),[11],[],fun _=>rowF IntF 3 (some ⟨b1,0,none⟩) 10 endsL⟩,⟨(some 11),none,[],[],fun _=>spcR b26 (toldS s)⟩,⟨(some 11),none,[],[],fun _=>rowF PairF 55 p33 c34 (beganS s)⟩,⟨(some 11),none,[],[],fun _=>rowF PairF 55 q35 d36 (endedS s)⟩,⟨(some 11),(some 35),[26,35],[],fun _=>famF AreaF 32 zp zc zs zp zc zs⟩,⟨(some 11),none,[32,33,42,43],[],fun _=>rowF AreaF 32 p c LL⟩,⟨(some 11),none,[],[],fun _=>rowF IntF 3 (some ⟨b1,0,none⟩) 10 endsL⟩,⟨(some 34),none,[35],[189],fun f=>pt (blk (f 189)) (.cells (aC (lnA 0)) 32)⟩,⟨(some 35),(some 46),[36,46],[190],fun f=>famF AreaF 32 zp zc zs (sla (f 190)) (slc (f 190)) (zs++[(lnA 0)])⟩,⟨(some 45),none,[46],[200],fun f=>pt (blk (f 200)) (.cells #[Ix ((lnA 0).lx),Ix ((lnA 0).ly),Ix ((lnA 0).hx),Ix ((lnA 0).hy),.int .i64 (1),.int .i64 (0),.int .i64 (0),.int .i64 (0)] 32)⟩,⟨(some 46),none,[47],[201],fun f=>famF AreaF 32 zp zc zs (sla (f 201)) (slc (f 201)) (zs++[(lnA 0),(⟨1,0,0,0⟩:KA)])⟩] [(8,.pointer (some ⟨b26,0,none⟩)),(5,.slice p (16) c),(12,.slice p33 ((beganS s).length) c34),(13,.slice q35 ((endedS s).length) d36),(9,.slice zp (128) zc)] [0] [] (by kernel_rfl) (by kernel_rfl) (by kernel_rfl) (by kernel_rfl) rfl ⟨rfl,rfl,rfl,rfl,rfl,trivial⟩ ⟨?_,?_,?_,?_,?_,?_,?_,?_,?_,?_,?_,?_,?_,?_,?_,?_,?_,?_,?_,?_,?_,?_,?_,?_,?_,?_,?_,?_,?_,?_,?_,?_,?_,?_,?_,?_,?_,?_,?_,?_,?_,?_,?_,?_,?_,?_,?_,?_,?_,?_,trivial⟩ ?_
     ·rintro f M-⟨i0,-⟩
      have hs8:f 8= .pointer (some ⟨b26,0,none⟩):=i0
      refine ob_start (L':=M) (by rfl) (up_cons rfl hs8) ?_
      refine l_val (v:= .pointer (some ⟨b26,0,none⟩)) rfl rfl rfl (e_move) ?_
      refine l_nil ?_
      exact f_owes_d (up_cons rfl hs8) rfl (List.Perm.refl _)
     ·rintro f M-⟨i0,-⟩
      have hs5:f 5= .slice p (16) c:=i0
      refine ob_start (L':=M) (by rfl) (up_cons rfl hs5) ?_
      refine l_val (v:= .slice p (16) c) rfl rfl rfl (e_move) ?_
      refine l_nil ?_
      exact f_owes_d (up_cons rfl hs5) rfl (List.Perm.refl _)
     ·rintro f M ⟨k0,-⟩-
      have hs156:f 156= .slice p (16) c:=k0
      refine ob_start (L':=rowF AreaF 32 p c LL::M) (by rfl) (up_cons rfl hs156) ?_
      refine l_val (v:= .pointer (some ((ba p).add (0*4)))) rfl rfl rfl (e_indexFlN 0 (F:=AreaF) (j:=0) (m:=16) (xs:=LL) rfl hLL rfl tf43 (by omega) rfl) ?_
      refine l_nil ?_
      exact f_owes_d (up_cons rfl hs156) rfl (perm_front 0 rfl)
     ·rintro f M ⟨k0,-⟩-
      have hs157:f 157= .pointer (some ((ba p).add (0*4))):=k0
      refine ob_start (L':=rowF AreaF 32 p c LL::M) (by rfl) (up_cons rfl hs157) ?_
      refine l_val (v:= .agg (aC (lnA 0))) rfl rfl rfl (e_load tf10 (cs:=(areaE (lnA 0))) rfl (k_flAt 0 (F:=AreaF) rfl hL0) rfl) ?_
      refine l_nil ?_
      exact f_owes_d (up_cons rfl hs157) rfl (perm_front 0 rfl)
     ·rintro f M ⟨k0,k1,-⟩-
      have hs155:f 155= .pointer (some ⟨b26,0,none⟩):=k0
      have hs158:f 158= .agg (aC (lnA 0)):=k1
      refine ob_start (L':=rowF PairF 55 p33 c34 (beganS s)::rowF PairF 55 q35 d36 (endedS s)::spcR b26 (toldS s)::famF AreaF 32 zp zc zs zp zc zs::rowF AreaF 32 p c LL::rowF IntF 3 (some ⟨b1,0,none⟩) 10 endsL::M) (by rfl) (up_cons (up_cons rfl hs155) hs158) ?_
      refine l_call rfl rfl rfl (cl_value (fst:=[]) (cap:=[]) (vs:=[.pointer (some ⟨b26,0,none⟩),.int .i64 (5),.agg (aC (lnA 0))]) (all:=[.pointer (some ⟨b26,0,none⟩),.int .i64 (5),.agg (aC (lnA 0))]) tf75 rfl rfl rfl) ?_
      intro w hw
      replace hw:=hw.perm (L':=_::_::_::_::_::_::M) (by exact((((((perm_front 5 rfl).trans (perm_front 5 rfl)).trans (perm_front 5 rfl)).trans (perm_front 4 rfl)).trans (perm_front 4 rfl)).trans (perm_front 5 rfl)))
      obtain⟨β1,sb,kn,hw1,back⟩:=St.frame (L:=[_]) (M:=_::_::_::_::_::M) hw
      refine(put_ok' β1 w b26 (toldS s) hw1 hG.ok 5 (lnA 0)).mono ?_
      rintro e w' ⟨rfl,hw'⟩
      refine⟨_,rfl,_,back _ _ hw',?_⟩
      clear hw hw1 hw' back kn sb
      rw[hp5]
      refine l_nil ?_
      exact f_owes_d (up_cons (up_cons rfl hs155) hs158) rfl ((((((perm_front 5 rfl).trans (perm_front 5 rfl)).trans (perm_front 5 rfl)).trans (perm_front 5 rfl)).trans (perm_front 5 rfl)).trans (perm_front 5 rfl))
     ·rintro f M ⟨k0,-⟩-
      have hs159:f 159=Ix (errPut (toldS s) 5 (lnA 0)):=k0
      refine ob_start (L':=M) (by rfl) (up_cons rfl hs159) ?_
      refine l_val (v:= .bool false) rfl rfl rfl ((ev_f (fun q=>q he5) (e_neq (a:=(errPut (toldS s) 5 (lnA 0))) (b:=(4:Int)) rfl rfl))) ?_
      refine l_nil ?_
      exact f_owes_d (up_cons rfl hs159) rfl (List.Perm.refl _)
     ·rintro f M ⟨k0,-⟩-
      have hs160:f 160= .bool false:=k0
      refine ob_start (L':=M) (by rfl) (up_cons rfl hs160) ?_
      refine l_val (v:= .bool false) rfl rfl rfl (e_move) ?_
      refine l_nil ?_
      exact f_owes_d (up_cons rfl hs160) rfl (List.Perm.refl _)
     ·rintro f M ⟨k0,-⟩ ⟨i0,-⟩
      have hs8:f 8= .pointer (some ⟨b26,0,none⟩):=i0
      have hs161:f 161= .bool false:=k0
      refine ob_start (L':=M) (by rfl) (up_cons (up_cons rfl hs8) hs161) ?_
      refine g_val (v:= .pointer (some ⟨b26,0,none⟩)) rfl rfl rfl rfl rfl (e_move) ?_
      refine l_nil ?_
      exact f_owes_d (up_cons (up_cons rfl hs8) hs161) rfl (List.Perm.refl _)
     ·rintro f M ⟨k0,-⟩ ⟨i0,-⟩
      have hs5:f 5= .slice p (16) c:=i0
      have hs161:f 161= .bool false:=k0
      refine ob_start (L':=M) (by rfl) (up_cons (up_cons rfl hs5) hs161) ?_
      refine g_val (v:= .slice p (16) c) rfl rfl rfl rfl rfl (e_move) ?_
      refine l_nil ?_
      exact f_owes_d (up_cons (up_cons rfl hs5) hs161) rfl (List.Perm.refl _)
     ·rintro f M ⟨k0,k1,-⟩-
      have hs163:f 163= .slice p (16) c:=k0
      have hs161:f 161= .bool false:=k1
      refine ob_start (L':=rowF AreaF 32 p c LL::M) (by rfl) (up_cons (up_cons rfl hs163) hs161) ?_
      refine g_val (v:= .pointer (some ((ba p).add (0*4)))) rfl rfl rfl rfl rfl (e_indexFlN 0 (F:=AreaF) (j:=0) (m:=16) (xs:=LL) rfl hLL rfl tf43 (by omega) rfl) ?_
      refine l_nil ?_
      exact f_owes_d (up_cons (up_cons rfl hs163) hs161) rfl (perm_front 0 rfl)
     ·rintro f M ⟨k0,k1,-⟩-
      have hs164:f 164= .pointer (some ((ba p).add (0*4))):=k0
      have hs161:f 161= .bool false:=k1
      refine ob_start (L':=rowF AreaF 32 p c LL::M) (by rfl) (up_cons (up_cons rfl hs164) hs161) ?_
      refine g_val (v:= .agg (aC (lnA 0))) rfl rfl rfl rfl rfl (e_load tf10 (cs:=(areaE (lnA 0))) rfl (k_flAt 0 (F:=AreaF) rfl hL0) rfl) ?_
      refine l_nil ?_
      exact f_owes_d (up_cons (up_cons rfl hs164) hs161) rfl (perm_front 0 rfl)
     ·rintro f M ⟨k0,k1,k2,-⟩-
      have hs162:f 162= .pointer (some ⟨b26,0,none⟩):=k0
      have hs165:f 165= .agg (aC (lnA 0)):=k1
      have hs161:f 161= .bool false:=k2
      refine ob_start (L':=spcR b26 (toldS s)::rowF PairF 55 p33 c34 (beganS s)::rowF PairF 55 q35 d36 (endedS s)::famF AreaF 32 zp zc zs zp zc zs::rowF AreaF 32 p c LL::rowF IntF 3 (some ⟨b1,0,none⟩) 10 endsL::M) (by rfl) (up_cons (up_cons (up_cons rfl hs162) hs165) hs161) ?_
      refine g_call rfl rfl rfl rfl rfl (cl_value (fst:=[]) (cap:=[]) (vs:=[.pointer (some ⟨b26,0,none⟩),.int .i64 (-1),.agg (aC (lnA 0))]) (all:=[.pointer (some ⟨b26,0,none⟩),.int .i64 (-1),.agg (aC (lnA 0))]) tf75 rfl rfl rfl) ?_
      intro w hw
      replace hw:=hw.perm (L':=_::_::_::_::_::_::M) (by exact((((((perm_front 5 rfl).trans (perm_front 5 rfl)).trans (perm_front 5 rfl)).trans (perm_front 5 rfl)).trans (perm_front 5 rfl)).trans (perm_front 5 rfl)))
      obtain⟨β1,sb,kn,hw1,back⟩:=St.frame (L:=[_]) (M:=_::_::_::_::_::M) hw
      refine(put_ok' β1 w b26 (toldS s) hw1 hG.ok (-1) (lnA 0)).mono ?_
      rintro e w' ⟨rfl,hw'⟩
      refine⟨_,rfl,_,back _ _ hw',?_⟩
      clear hw hw1 hw' back kn sb
      rw[hpm]
      refine l_nil ?_
      exact f_owes_d (up_cons (up_cons (up_cons rfl hs162) hs165) hs161) rfl ((((((perm_front 5 rfl).trans (perm_front 5 rfl)).trans (perm_front 5 rfl)).trans (perm_front 5 rfl)).trans (perm_front 5 rfl)).trans (perm_front 5 rfl))
     ·rintro f M ⟨k0,k1,-⟩-
      have hs166:f 166=Ix (errPut (toldS s) (-1) (lnA 0)):=k0
      have hs161:f 161= .bool false:=k1
      refine ob_start (L':=M) (by rfl) (up_cons (up_cons rfl hs166) hs161) ?_
      refine g_val (v:= .bool false) rfl rfl rfl rfl rfl ((ev_f (fun q=>q hem) (e_neq (a:=(errPut (toldS s) (-1) (lnA 0))) (b:=(2:Int)) rfl rfl))) ?_
      refine l_nil ?_
      exact f_owes_d (up_cons (up_cons rfl hs166) hs161) rfl (List.Perm.refl _)
     ·rintro f M ⟨k0,k1,-⟩-
      have hs161:f 161= .bool false:=k0
      have hs167:f 167= .bool false:=k1
      refine ob_start (L':=M) (by rfl) (up_cons (up_cons rfl hs161) hs167) ?_
      refine l_val (v:= .bool false) rfl rfl rfl (e_pick_f rfl) ?_
      refine l_nil ?_
      exact f_owes_d (up_cons (up_cons rfl hs161) hs167) rfl (List.Perm.refl _)
     ·rintro f M ⟨k0,-⟩-
      have hs168:f 168= .bool false:=k0
      refine ob_start (L':=M) (by rfl) (up_cons rfl hs168) ?_
      refine l_val (v:= .bool false) rfl rfl rfl (e_move) ?_
      refine l_nil ?_
      exact f_owes_d (up_cons rfl hs168) rfl (List.Perm.refl _)
     ·rintro f M ⟨k0,-⟩ ⟨i0,-⟩
      have hs12:f 12= .slice p33 ((beganS s).length) c34:=i0
      have hs169:f 169= .bool false:=k0
      refine ob_start (L':=M) (by rfl) (up_cons (up_cons rfl hs12) hs169) ?_
      refine g_val (v:= .slice p33 ((beganS s).length) c34) rfl rfl rfl rfl rfl (e_move) ?_
      refine l_nil ?_
      exact f_owes_d (up_cons (up_cons rfl hs12) hs169) rfl (List.Perm.refl _)
     ·rintro f M ⟨k0,k1,-⟩-
      have hs170:f 170= .slice p33 ((beganS s).length) c34:=k0
      have hs169:f 169= .bool false:=k1
      refine ob_start (L':=M) (by rfl) (up_cons (up_cons rfl hs170) hs169) ?_
      refine g_val (v:=Nx ((beganS s).length)) rfl rfl rfl rfl rfl (e_len (a:=p33) (n:=(beganS s).length) (c:=c34) rfl tf65) ?_
      refine l_nil ?_
      exact f_owes_d (up_cons (up_cons rfl hs170) hs169) rfl (List.Perm.refl _)
     ·rintro f M ⟨k0,k1,-⟩-
      have hs171:f 171=Nx ((beganS s).length):=k0
      have hs169:f 169= .bool false:=k1
      refine ob_start (L':=M) (by rfl) (up_cons (up_cons rfl hs171) hs169) ?_
      refine g_val (v:= .bool false) rfl rfl rfl rfl rfl ((ev_f (by omega) (e_neq (a:=(((beganS s).length:Nat):Int)) (b:=(8128:Int)) rfl rfl))) ?_
      refine l_nil ?_
      exact f_owes_d (up_cons (up_cons rfl hs171) hs169) rfl (List.Perm.refl _)
     ·rintro f M ⟨k0,k1,-⟩-
      have hs169:f 169= .bool false:=k0
      have hs172:f 172= .bool false:=k1
      refine ob_start (L':=M) (by rfl) (up_cons (up_cons rfl hs169) hs172) ?_
      refine l_val (v:= .bool false) rfl rfl rfl (e_pick_f rfl) ?_
      refine l_nil ?_
      exact f_owes_d (up_cons (up_cons rfl hs169) hs172) rfl (List.Perm.refl _)
     ·rintro f M ⟨k0,-⟩-
      have hs173:f 173= .bool false:=k0
      refine ob_start (L':=M) (by rfl) (up_cons rfl hs173) ?_
      refine l_val (v:= .bool false) rfl rfl rfl (e_move) ?_
      refine l_nil ?_
      exact f_owes_d (up_cons rfl hs173) rfl (List.Perm.refl _)
     ·rintro f M ⟨k0,-⟩ ⟨i0,-⟩
      have hs13:f 13= .slice q35 ((endedS s).length) d36:=i0
      have hs174:f 174= .bool false:=k0
      refine ob_start (L':=M) (by rfl) (up_cons (up_cons rfl hs13) hs174) ?_
      refine g_val (v:= .slice q35 ((endedS s).length) d36) rfl rfl rfl rfl rfl (e_move) ?_
      refine l_nil ?_
      exact f_owes_d (up_cons (up_cons rfl hs13) hs174) rfl (List.Perm.refl _)
     ·rintro f M ⟨k0,k1,-⟩-
      have hs175:f 175= .slice q35 ((endedS s).length) d36:=k0
      have hs174:f 174= .bool false:=k1
      refine ob_start (L':=M) (by rfl) (up_cons (up_cons rfl hs175) hs174) ?_
      refine g_val (v:=Nx ((endedS s).length)) rfl rfl rfl rfl rfl (e_len (a:=q35) (n:=(endedS s).length) (c:=d36) rfl tf65) ?_
      refine l_nil ?_
      exact f_owes_d (up_cons (up_cons rfl hs175) hs174) rfl (List.Perm.refl _)
     ·rintro f M ⟨k0,k1,-⟩-
      have hs176:f 176=Nx ((endedS s).length):=k0
      have hs174:f 174= .bool false:=k1
      refine ob_start (L':=M) (by rfl) (up_cons (up_cons rfl hs176) hs174) ?_
      refine g_val (v:= .bool false) rfl rfl rfl rfl rfl ((ev_f (by omega) (e_neq (a:=(((endedS s).length:Nat):Int)) (b:=(0:Int)) rfl rfl))) ?_
      refine l_nil ?_
      exact f_owes_d (up_cons (up_cons rfl hs176) hs174) rfl (List.Perm.refl _)
     ·rintro f M ⟨k0,k1,-⟩-
      have hs174:f 174= .bool false:=k0
      have hs177:f 177= .bool false:=k1
      refine ob_start (L':=M) (by rfl) (up_cons (up_cons rfl hs174) hs177) ?_
      refine l_val (v:= .bool false) rfl rfl rfl (e_pick_f rfl) ?_
      refine l_nil ?_
      exact f_owes_d (up_cons (up_cons rfl hs174) hs177) rfl (List.Perm.refl _)
     ·rintro f M ⟨k0,-⟩-
      have hs178:f 178= .bool false:=k0
      refine ob_start (L':=M) (by rfl) (up_cons rfl hs178) ?_
      refine l_val (v:= .bool false) rfl rfl rfl (e_move) ?_
      refine l_nil ?_
      exact f_owes_d (up_cons rfl hs178) rfl (List.Perm.refl _)
     ·rintro f M ⟨k0,-⟩ ⟨i0,-⟩
      have hs9:f 9= .slice zp (128) zc:=i0
      have hs179:f 179= .bool false:=k0
      refine ob_start (L':=M) (by rfl) (up_cons (up_cons rfl hs9) hs179) ?_
      refine g_val (v:= .slice zp (128) zc) rfl rfl rfl rfl rfl (e_move) ?_
      refine l_nil ?_
      exact f_owes_d (up_cons (up_cons rfl hs9) hs179) rfl (List.Perm.refl _)
     ·rintro f M ⟨k0,k1,-⟩-
      have hs180:f 180= .slice zp (128) zc:=k0
      have hs179:f 179= .bool false:=k1
      refine ob_start (L':=famF AreaF 32 zp zc zs zp zc zs::M) (by rfl) (up_cons (up_cons rfl hs180) hs179) ?_
      refine g_call rfl rfl rfl rfl rfl (cl_value (fst:=[]) (cap:=[]) (vs:=[.slice zp (128) zc]) (all:=[.slice zp (128) zc]) tf251 rfl rfl rfl) ?_
      intro w hw
      obtain⟨β1,sb,kn,hw1,back⟩:=St.frame_all hw
      refine(lists_ok β1 w hw1 _ zs (kn _ (k_famSl1 (F:=AreaF) (m:=128) 0 rfl hyl)) (by omega)).mono ?_
      rintro e w' ⟨rfl,hw'⟩
      refine⟨_,rfl,_,back _ _ hw',?_⟩
      clear hw hw1 hw' back kn sb
      refine l_nil ?_
      exact f_owes_d (up_cons (up_cons rfl hs180) hs179) rfl (perm_front 0 rfl)
     ·rintro f M ⟨k0,k1,-⟩-
      have hs181:f 181= .bool true:=k0
      have hs179:f 179= .bool false:=k1
      refine ob_start (L':=M) (by rfl) (up_cons (up_cons rfl hs181) hs179) ?_
      refine g_val (v:= .bool false) rfl rfl rfl rfl rfl (e_not (a:=true) rfl) ?_
      refine l_nil ?_
      exact f_owes_d (up_cons (up_cons rfl hs181) hs179) rfl (List.Perm.refl _)
     ·rintro f M ⟨k0,k1,-⟩-
      have hs179:f 179= .bool false:=k0
      have hs182:f 182= .bool false:=k1
      refine ob_start (L':=M) (by rfl) (up_cons (up_cons rfl hs179) hs182) ?_
      refine l_val (v:= .bool false) rfl rfl rfl (e_pick_f rfl) ?_
      refine l_nil ?_
      exact f_owes_d (up_cons (up_cons rfl hs179) hs182) rfl (List.Perm.refl _)
     ·rintro f M ⟨k0,-⟩-
      have hs183:f 183= .bool false:=k0
      refine ob_start (L':=M) (by rfl) (up_cons rfl hs183) ?_
      refine l_val (v:= .bool false) rfl rfl rfl (e_move) ?_
      refine l_nil ?_
      exact f_owes_d (up_cons rfl hs183) rfl (List.Perm.refl _)
     ·rintro f M ⟨k0,-⟩ ⟨i0,-⟩
      have hs9:f 9= .slice zp (128) zc:=i0
      have hs184:f 184= .bool false:=k0
      refine ob_start (L':=M) (by rfl) (up_cons (up_cons rfl hs9) hs184) ?_
      refine g_val (v:= .slice zp (128) zc) rfl rfl rfl rfl rfl (e_move) ?_
      refine l_nil ?_
      exact f_owes_d (up_cons (up_cons rfl hs9) hs184) rfl (List.Perm.refl _)
     ·rintro f M ⟨k0,-⟩ ⟨i0,-⟩
      have hs5:f 5= .slice p (16) c:=i0
      have hs184:f 184= .bool false:=k0
      refine ob_start (L':=M) (by rfl) (up_cons (up_cons rfl hs5) hs184) ?_
      refine g_val (v:= .slice p (16) c) rfl rfl rfl rfl rfl (e_move) ?_
      refine l_nil ?_
      exact f_owes_d (up_cons (up_cons rfl hs5) hs184) rfl (List.Perm.refl _)
     ·rintro f M ⟨k0,k1,-⟩-
      have hs186:f 186= .slice p (16) c:=k0
      have hs184:f 184= .bool false:=k1
      refine ob_start (L':=rowF AreaF 32 p c LL::M) (by rfl) (up_cons (up_cons rfl hs186) hs184) ?_
      refine g_val (v:= .pointer (some ((ba p).add (0*4)))) rfl rfl rfl rfl rfl (e_indexFlN 0 (F:=AreaF) (j:=0) (m:=16) (xs:=LL) rfl hLL rfl tf43 (by omega) rfl) ?_
      refine l_nil ?_
      exact f_owes_d (up_cons (up_cons rfl hs186) hs184) rfl (perm_front 0 rfl)
     ·rintro f M ⟨k0,k1,-⟩-
      have hs187:f 187= .pointer (some ((ba p).add (0*4))):=k0
      have hs184:f 184= .bool false:=k1
      refine ob_start (L':=rowF AreaF 32 p c LL::M) (by rfl) (up_cons (up_cons rfl hs187) hs184) ?_
      refine g_val (v:= .agg (aC (lnA 0))) rfl rfl rfl rfl rfl (e_load tf10 (cs:=(areaE (lnA 0))) rfl (k_flAt 0 (F:=AreaF) rfl hL0) rfl) ?_
      refine l_nil ?_
      exact f_owes_d (up_cons (up_cons rfl hs187) hs184) rfl (perm_front 0 rfl)
     ·rintro f M ⟨k0,k1,-⟩-
      have hs188:f 188= .agg (aC (lnA 0)):=k0
      have hs184:f 184= .bool false:=k1
      refine ob_start (L':=M) (by rfl) (up_cons (up_cons rfl hs188) hs184) ?_
      refine g_mv rfl rfl rfl rfl rfl (m_slices tf43 tf6 (vs:=[(0,.agg (aC (lnA 0)))]) (cells:=(aC (lnA 0))) rfl rfl rfl rfl) ?_
      rintro _ _ ⟨b38,rfl,rfl⟩
      refine l_nil ?_
      exact f_owes_d (up_cons (up_cons rfl hs188) hs184) rfl (perm_front 0 rfl)
     ·rintro f M ⟨k0,k1,k2,-⟩-
      have hs185:f 185= .slice zp (128) zc:=k0
      have hs189:f 189= .slice (some ⟨(blk (f 189)),0,none⟩) 1 1:=k1
      have hs184:f 184= .bool false:=k2
      refine ob_start (L':=famF AreaF 32 zp zc zs zp zc zs::pt (blk (f 189)) (.cells (aC (lnA 0)) 32)::M) (by rfl) (up_cons (up_cons (up_cons rfl hs185) hs189) hs184) ?_
      refine g_mv rfl rfl rfl rfl rfl (m_append_famF (F:=AreaF) 0 tf43 tf97 (q:=zp) (m:=128) (e:=zc) (zs:=[(lnA 0)]) (ad:=⟨(blk (f 189)),0,none⟩) (k:=1) (cc:=1) rfl rfl hyl rfl rfl (k_pt 1 (cs:=(aC (lnA 0))) (vs:=(areaE (lnA 0))) rfl rfl) (by decide) (by decide) (by decide)) ?_
      rintro _ _ ⟨rp41,rc42,rfl,rfl⟩
      refine l_nil ?_
      exact f_owes_d (up_cons (up_cons (up_cons rfl hs185) hs189) hs184) rfl ((perm_front 0 rfl).trans (perm_front 1 rfl))
     ·rintro f M ⟨k0,k1,-⟩-
      have hs190:f 190= .slice (sla (f 190)) (128+1) (slc (f 190)):=k0
      have hs184:f 184= .bool false:=k1
      refine ob_start (L':=famF AreaF 32 zp zc zs (sla (f 190)) (slc (f 190)) (zs++[(lnA 0)])::M) (by rfl) (up_cons (up_cons rfl hs190) hs184) ?_
      refine g_call rfl rfl rfl rfl rfl (cl_value (fst:=[]) (cap:=[]) (vs:=[.slice (sla (f 190)) (128+1) (slc (f 190))]) (all:=[.slice (sla (f 190)) (128+1) (slc (f 190))]) tf251 rfl rfl rfl) ?_
      intro w hw
      obtain⟨β1,sb,kn,hw1,back⟩:=St.frame_all hw
      refine(lists_ok β1 w hw1 _ (zs++[(lnA 0)]) (kn _ (k_famSl2 (F:=AreaF) (m:=128+1) 0 rfl (by rw[List.length_append,←hyl];rfl))) (by simp only[List.length_append,List.length_cons,List.length_nil];omega)).mono ?_
      rintro e w' ⟨rfl,hw'⟩
      refine⟨_,rfl,_,back _ _ hw',?_⟩
      clear hw hw1 hw' back kn sb
      refine l_nil ?_
      exact f_owes_d (up_cons (up_cons rfl hs190) hs184) rfl (perm_front 0 rfl)
     ·rintro f M ⟨k0,k1,-⟩-
      have hs191:f 191= .bool true:=k0
      have hs184:f 184= .bool false:=k1
      refine ob_start (L':=M) (by rfl) (up_cons (up_cons rfl hs191) hs184) ?_
      refine g_val (v:= .bool false) rfl rfl rfl rfl rfl (e_not (a:=true) rfl) ?_
      refine l_nil ?_
      exact f_owes_d (up_cons (up_cons rfl hs191) hs184) rfl (List.Perm.refl _)
     ·rintro f M ⟨k0,k1,-⟩-
      have hs184:f 184= .bool false:=k0
      have hs192:f 192= .bool false:=k1
      refine ob_start (L':=M) (by rfl) (up_cons (up_cons rfl hs184) hs192) ?_
      refine l_val (v:= .bool false) rfl rfl rfl (e_pick_f rfl) ?_
      refine l_nil ?_
      exact f_owes_d (up_cons (up_cons rfl hs184) hs192) rfl (List.Perm.refl _)
     ·rintro f M ⟨k0,-⟩-
      have hs193:f 193= .bool false:=k0
      refine ob_start (L':=M) (by rfl) (up_cons rfl hs193) ?_
      refine l_val (v:= .bool false) rfl rfl rfl (e_move) ?_
      refine l_nil ?_
      exact f_owes_d (up_cons rfl hs193) rfl (List.Perm.refl _)
     ·rintro f M ⟨k0,-⟩ ⟨i0,-⟩
      have hs9:f 9= .slice zp (128) zc:=i0
      have hs194:f 194= .bool false:=k0
      refine ob_start (L':=M) (by rfl) (up_cons (up_cons rfl hs9) hs194) ?_
      refine g_val (v:= .slice zp (128) zc) rfl rfl rfl rfl rfl (e_move) ?_
      refine l_nil ?_
      exact f_owes_d (up_cons (up_cons rfl hs9) hs194) rfl (List.Perm.refl _)
     ·rintro f M ⟨k0,-⟩ ⟨i0,-⟩
      have hs5:f 5= .slice p (16) c:=i0
      have hs194:f 194= .bool false:=k0
      refine ob_start (L':=M) (by rfl) (up_cons (up_cons rfl hs5) hs194) ?_
      refine g_val (v:= .slice p (16) c) rfl rfl rfl rfl rfl (e_move) ?_
      refine l_nil ?_
      exact f_owes_d (up_cons (up_cons rfl hs5) hs194) rfl (List.Perm.refl _)
     ·rintro f M ⟨k0,k1,-⟩-
      have hs196:f 196= .slice p (16) c:=k0
      have hs194:f 194= .bool false:=k1
      refine ob_start (L':=rowF AreaF 32 p c LL::M) (by rfl) (up_cons (up_cons rfl hs196) hs194) ?_
      refine g_val (v:= .pointer (some ((ba p).add (0*4)))) rfl rfl rfl rfl rfl (e_indexFlN 0 (F:=AreaF) (j:=0) (m:=16) (xs:=LL) rfl hLL rfl tf43 (by omega) rfl) ?_
      refine l_nil ?_
      exact f_owes_d (up_cons (up_cons rfl hs196) hs194) rfl (perm_front 0 rfl)
     ·rintro f M ⟨k0,k1,-⟩-
      have hs197:f 197= .pointer (some ((ba p).add (0*4))):=k0
      have hs194:f 194= .bool false:=k1
      refine ob_start (L':=rowF AreaF 32 p c LL::M) (by rfl) (up_cons (up_cons rfl hs197) hs194) ?_
      refine g_val (v:= .agg (aC (lnA 0))) rfl rfl rfl rfl rfl (e_load tf10 (cs:=(areaE (lnA 0))) rfl (k_flAt 0 (F:=AreaF) rfl hL0) rfl) ?_
      refine l_nil ?_
      exact f_owes_d (up_cons (up_cons rfl hs197) hs194) rfl (perm_front 0 rfl)
     ·rintro f M ⟨k0,-⟩-
      have hs194:f 194= .bool false:=k0
      refine ob_start (L':=M) (by rfl) (up_cons rfl hs194) ?_
      refine g_call rfl rfl rfl rfl rfl (cl_value (fst:=[]) (cap:=[]) (vs:=[.int .i64 (1),.int .i64 (0),.int .i64 (0),.int .i64 (0)]) (all:=[.int .i64 (1),.int .i64 (0),.int .i64 (0),.int .i64 (0)]) tf71 rfl rfl rfl) ?_
      intro w hw
      obtain⟨β1,sb,kn,hw1,back⟩:=St.frame_all hw
      refine(area_ok β1 w hw1 1 0 0 0).mono ?_
      rintro e w' ⟨rfl,hw'⟩
      refine⟨_,rfl,_,back _ _ hw',?_⟩
      clear hw hw1 hw' back kn sb
      refine l_nil ?_
      exact f_owes_d (up_cons rfl hs194) rfl (List.Perm.refl _)
     ·rintro f M ⟨k0,k1,k2,-⟩-
      have hs198:f 198= .agg (aC (lnA 0)):=k0
      have hs199:f 199= .agg #[.int .i64 (1),.int .i64 (0),.int .i64 (0),.int .i64 (0)]:=k1
      have hs194:f 194= .bool false:=k2
      refine ob_start (L':=M) (by rfl) (up_cons (up_cons (up_cons rfl hs198) hs199) hs194) ?_
      refine g_mv rfl rfl rfl rfl rfl (m_slices tf43 tf6 (vs:=[(0,.agg (aC (lnA 0))),(1,.agg #[.int .i64 (1),.int .i64 (0),.int .i64 (0),.int .i64 (0)])]) (cells:= #[Ix ((lnA 0).lx),Ix ((lnA 0).ly),Ix ((lnA 0).hx),Ix ((lnA 0).hy),.int .i64 (1),.int .i64 (0),.int .i64 (0),.int .i64 (0)]) rfl rfl rfl rfl) ?_
      rintro _ _ ⟨b44,rfl,rfl⟩
      refine l_nil ?_
      exact f_owes_d (up_cons (up_cons (up_cons rfl hs198) hs199) hs194) rfl (perm_front 0 rfl)
     ·rintro f M ⟨k0,k1,k2,-⟩-
      have hs195:f 195= .slice zp (128) zc:=k0
      have hs200:f 200= .slice (some ⟨(blk (f 200)),0,none⟩) 2 2:=k1
      have hs194:f 194= .bool false:=k2
      refine ob_start (L':=famF AreaF 32 zp zc zs (sla (f 190)) (slc (f 190)) (zs++[(lnA 0)])::pt (blk (f 200)) (.cells #[Ix ((lnA 0).lx),Ix ((lnA 0).ly),Ix ((lnA 0).hx),Ix ((lnA 0).hy),.int .i64 (1),.int .i64 (0),.int .i64 (0),.int .i64 (0)] 32)::M) (by rfl) (up_cons (up_cons (up_cons rfl hs195) hs200) hs194) ?_
      refine l_conseq 0 (r':=famF AreaF 32 zp zc zs zp zc zs) rfl (fun a h=>famF_start a (famF_first a h)) ?_
      refine g_mv rfl rfl rfl rfl rfl (m_append_famF (F:=AreaF) 0 tf43 tf97 (q:=zp) (m:=128) (e:=zc) (zs:=[(lnA 0),(⟨1,0,0,0⟩:KA)]) (ad:=⟨(blk (f 200)),0,none⟩) (k:=2) (cc:=2) rfl rfl hyl rfl rfl (k_pt 1 (cs:= #[Ix ((lnA 0).lx),Ix ((lnA 0).ly),Ix ((lnA 0).hx),Ix ((lnA 0).hy),.int .i64 (1),.int .i64 (0),.int .i64 (0),.int .i64 (0)]) (vs:=[Ix ((lnA 0).lx),Ix ((lnA 0).ly),Ix ((lnA 0).hx),Ix ((lnA 0).hy),.int .i64 (1),.int .i64 (0),.int .i64 (0),.int .i64 (0)]) rfl rfl) (by decide) (by decide) (by decide)) ?_
      rintro _ _ ⟨rp47,rc48,rfl,rfl⟩
      refine l_nil ?_
      exact f_owes_d (up_cons (up_cons (up_cons rfl hs195) hs200) hs194) rfl ((perm_front 0 rfl).trans (perm_front 1 rfl))
     ·rintro f M ⟨k0,k1,-⟩-
      have hs201:f 201= .slice (sla (f 201)) (128+2) (slc (f 201)):=k0
      have hs194:f 194= .bool false:=k1
      refine ob_start (L':=famF AreaF 32 zp zc zs (sla (f 201)) (slc (f 201)) (zs++[(lnA 0),(⟨1,0,0,0⟩:KA)])::M) (by rfl) (up_cons (up_cons rfl hs201) hs194) ?_
      refine g_call rfl rfl rfl rfl rfl (cl_value (fst:=[]) (cap:=[]) (vs:=[.slice (sla (f 201)) (128+2) (slc (f 201))]) (all:=[.slice (sla (f 201)) (128+2) (slc (f 201))]) tf251 rfl rfl rfl) ?_
      intro w hw
      obtain⟨β1,sb,kn,hw1,back⟩:=St.frame_all hw
      refine(lists_ok β1 w hw1 _ (zs++[(lnA 0),(⟨1,0,0,0⟩:KA)]) (kn _ (k_famSl2 (F:=AreaF) (m:=128+2) 0 rfl (by rw[List.length_append,←hyl];rfl))) (by simp only[List.length_append,List.length_cons,List.length_nil];omega)).mono ?_
      rintro e w' ⟨rfl,hw'⟩
      refine⟨_,rfl,_,back _ _ hw',?_⟩
      clear hw hw1 hw' back kn sb
      refine l_nil ?_
      exact f_owes_d (up_cons (up_cons rfl hs201) hs194) rfl (perm_front 0 rfl)
     ·rintro f M ⟨k0,k1,-⟩-
      have hs202:f 202= .bool true:=k0
      have hs194:f 194= .bool false:=k1
      refine ob_start (L':=M) (by rfl) (up_cons (up_cons rfl hs202) hs194) ?_
      refine g_val (v:= .bool false) rfl rfl rfl rfl rfl (e_not (a:=true) rfl) ?_
      refine l_nil ?_
      exact f_owes_d (up_cons (up_cons rfl hs202) hs194) rfl (List.Perm.refl _)
     ·rintro f M ⟨k0,k1,-⟩-
      have hs194:f 194= .bool false:=k0
      have hs203:f 203= .bool false:=k1
      refine ob_start (L':=M) (by rfl) (up_cons (up_cons rfl hs194) hs203) ?_
      refine l_val (v:= .bool false) rfl rfl rfl (e_pick_f rfl) ?_
      refine l_nil ?_
      exact f_owes_d (up_cons (up_cons rfl hs194) hs203) rfl (List.Perm.refl _)
     rintro fa49 ⟨-,-,-,-,-,-,-,-,-,-,-,-,-,-,-,-,-,-,-,-,-,-,-,-,-,-,-,-,-,-,-,-,-,-,-,-,-,-,-,-,-,-,-,-,-,-,-,-,-,k49,-⟩ ⟨j0,-⟩
     refine f_re (L':=[spcR b26 (toldS s),rowF PairF 55 p33 c34 (beganS s),rowF PairF 55 q35 d36 (endedS s),rowF AreaF 32 p c LL,rowF IntF 3 (some ⟨b1,0,none⟩) 10 endsL,pt (blk (fa49 189)) (.cells (aC (lnA 0)) 32),pt (blk (fa49 200)) (.cells #[Ix ((lnA 0).lx),Ix ((lnA 0).ly),Ix ((lnA 0).hx),Ix ((lnA 0).hy),.int .i64 (1),.int .i64 (0),.int .i64 (0),.int .i64 (0)] 32),famF AreaF 32 zp zc zs (sla (fa49 201)) (slc (fa49 201)) (zs++[(lnA 0),(⟨1,0,0,0⟩:KA)])]) (by rfl) ?_
     refine f_rebase (d:=8) (v:= .pointer (some ⟨b26,0,none⟩)) j0 ?_
     refine f_rebase (d:=204) (v:= .bool false) k49 ?_
     refine f_then ?_
     refine c_no rfl ?_
     refine c_skip ?_
     refine f_then ?_
     refine c_seq ?_
     refine c_seq ?_
     refine c_region ?_
     refine l_val (v:= .int .i64 (0)) rfl rfl rfl (e_assign) ?_
     refine l_nil ?_
     refine f_then ?_
     refine c_block ?_
     refine c_loop (fun(x_:Nat×KSp) (f:Fm) (L:List Res)=>match x_ with|(d,s2)=>(f 8= .pointer (some ⟨b26,0,none⟩)∧f 14=Nx (d))∧L=[spcR b26 s2,rowF PairF 55 p33 c34 (beganS s),rowF PairF 55 q35 d36 (endedS s),rowF AreaF 32 p c LL,rowF IntF 3 (some ⟨b1,0,none⟩) 10 endsL,pt (blk (fa49 189)) (.cells (aC (lnA 0)) 32),pt (blk (fa49 200)) (.cells #[Ix ((lnA 0).lx),Ix ((lnA 0).ly),Ix ((lnA 0).hx),Ix ((lnA 0).hy),.int .i64 (1),.int .i64 (0),.int .i64 (0),.int .i64 (0)] 32),famF AreaF 32 zp zc zs (sla (fa49 201)) (slc (fa49 201)) (zs++[(lnA 0),(⟨1,0,0,0⟩:KA)])]∧(d≤128∧FullS s2 d 128 (pairsS s))) (fun(x_:Nat×KSp)=>match x_ with|(d,s2)=>128-d) (0,(toldS s)) ?_ ?_
     ·exact⟨⟨rfl,rfl⟩,rfl,⟨by omega,hG⟩⟩
     rintro⟨d,s2⟩ f0 L0 ⟨⟨hs8,hs14⟩,hL,⟨hd,hD⟩⟩
     subst L0
     refine rebase (d:=8) hs8 ?_
     refine rebase (d:=14) hs14 ?_
     clear hs8 hs14
     refine c_seq ?_
     refine c_seq ?_
     refine c_region ?_
     refine l_val (v:=Nx (d)) rfl rfl rfl (e_move) ?_
     refine l_val (v:= .bool (decide (((d:Nat):Int)<(128:Int)))) rfl rfl rfl (e_lss (a:=((d:Nat):Int)) (b:=(128:Int)) rfl rfl) ?_
     refine l_nil ?_
     refine f_then ?_
     refine c_if (((d:Nat):Int)<(128:Int)) rfl (fun hc50=> ?_) (fun hc50=> ?_)
     ·
      refine c_skip ?_
      refine f_then ?_
      refine c_seq ?_
      refine c_block ?_
      refine c_seq ?_
      obtain⟨hE1,hD1,hE2,hdd⟩:=hD.drop (by omega)
      refine c_region ?_
      refine l_val (v:= .pointer (some ⟨b26,0,none⟩)) rfl rfl rfl (e_move) ?_
      refine l_val (v:=Nx (d)) rfl rfl rfl (e_move) ?_
      refine l_val (v:=Ix ((65536:Int)-((d:Nat):Int))) rfl rfl rfl (e_sub (a:=(65536:Int)) (b:=((d:Nat):Int)) rfl rfl (i64w (by omega))) ?_
      refine l_call rfl rfl rfl (cl_value (fst:=[]) (cap:=[]) (vs:=[.pointer (some ⟨b26,0,none⟩),Ix ((65536:Int)-((d:Nat):Int))]) (all:=[.pointer (some ⟨b26,0,none⟩),Ix ((65536:Int)-((d:Nat):Int))]) tf112 rfl rfl rfl) ?_
      intro w hw
      replace hw:=hw.perm (L':=_::_::_::_::_::_::_::_::[]) (by exact((((((((perm_front 7 rfl).trans (perm_front 7 rfl)).trans (perm_front 7 rfl)).trans (perm_front 7 rfl)).trans (perm_front 7 rfl)).trans (perm_front 7 rfl)).trans (perm_front 7 rfl)).trans (perm_front 7 rfl)))
      obtain⟨β1,sb,kn,hw1,back⟩:=St.frame (L:=[_]) (M:=_::_::_::_::_::_::_::[]) hw
      refine(drop_ok β1 w b26 s2 hw1 hD.ok ((65536:Int)-((d:Nat):Int))).mono ?_
      rintro e w' ⟨rfl,hw'⟩
      refine⟨_,rfl,_,back _ _ hw',?_⟩
      clear hw hw1 hw' back kn sb
      refine l_val (v:= .bool (decide ((errDrop s2 ((65536:Int)-((d:Nat):Int)))≠(0:Int)))) rfl rfl rfl (e_neq (a:=(errDrop s2 ((65536:Int)-((d:Nat):Int)))) (b:=(0:Int)) rfl rfl) ?_
      refine l_val (v:= .bool (decide ((errDrop s2 ((65536:Int)-((d:Nat):Int)))≠(0:Int)))) rfl rfl rfl (e_move) ?_
      refine l_split (s:=214) (p:=(errDrop s2 ((65536:Int)-((d:Nat):Int)))≠(0:Int)) rfl (fun h=> ?_) (fun h=> ?_)
      exact absurd h (fun q=>q hE1)
      refine g_val (v:= .pointer (some ⟨b26,0,none⟩)) rfl rfl rfl rfl rfl (e_move) ?_
      refine g_val (v:=Nx (d)) rfl rfl rfl rfl rfl (e_move) ?_
      refine g_val (v:=Ix ((65536:Int)-((d:Nat):Int))) rfl rfl rfl rfl rfl (e_sub (a:=(65536:Int)) (b:=((d:Nat):Int)) rfl rfl (i64w (by omega))) ?_
      refine g_call rfl rfl rfl rfl rfl (cl_value (fst:=[]) (cap:=[]) (vs:=[.pointer (some ⟨b26,0,none⟩),Ix ((65536:Int)-((d:Nat):Int))]) (all:=[.pointer (some ⟨b26,0,none⟩),Ix ((65536:Int)-((d:Nat):Int))]) tf112 rfl rfl rfl) ?_
      intro w hw
      replace hw:=hw.perm (L':=_::_::_::_::_::_::_::_::[]) (by exact((((((((perm_front 7 rfl).trans (perm_front 7 rfl)).trans (perm_front 7 rfl)).trans (perm_front 7 rfl)).trans (perm_front 7 rfl)).trans (perm_front 7 rfl)).trans (perm_front 7 rfl)).trans (perm_front 7 rfl)))
      obtain⟨β1,sb,kn,hw1,back⟩:=St.frame (L:=[_]) (M:=_::_::_::_::_::_::_::[]) hw
      refine(drop_ok β1 w b26 (delS s2 ((65536:Int)-((d:Nat):Int))) hw1 hD1.ok ((65536:Int)-((d:Nat):Int))).mono ?_
      rintro e w' ⟨rfl,hw'⟩
      refine⟨_,rfl,_,back _ _ hw',?_⟩
      clear hw hw1 hw' back kn sb
      refine g_val (v:= .bool (decide ((errDrop (delS s2 ((65536:Int)-((d:Nat):Int))) ((65536:Int)-((d:Nat):Int)))≠(6:Int)))) rfl rfl rfl rfl rfl (e_neq (a:=(errDrop (delS s2 ((65536:Int)-((d:Nat):Int))) ((65536:Int)-((d:Nat):Int)))) (b:=(6:Int)) rfl rfl) ?_
      refine l_val (v:= .bool (decide ((errDrop (delS s2 ((65536:Int)-((d:Nat):Int))) ((65536:Int)-((d:Nat):Int)))≠(6:Int)))) rfl rfl rfl (e_pick_f rfl) ?_
      refine l_nil ?_
      refine f_then ?_
      refine c_if ((errDrop (delS s2 ((65536:Int)-((d:Nat):Int))) ((65536:Int)-((d:Nat):Int)))≠(6:Int)) rfl (fun hc51=> ?_) (fun hc51=> ?_)
      ·
       exact absurd hc51 (fun q=>q hE2)
      ·
       refine c_skip ?_
       refine f_block ?_
       refine f_then ?_
       refine c_region ?_
       refine l_val (v:=Nx (d)) rfl rfl rfl (e_move) ?_
       refine l_val (v:=Nx (d+1)) rfl rfl rfl (e_add (a:=((d:Nat):Int)) (b:=(1:Int)) rfl rfl (i64n (by omega) (by omega))) ?_
       refine l_val (v:=Nx (d+1)) rfl rfl rfl (e_assign) ?_
       refine l_nil ?_
       exact f_cut ⟨(d+1,(delS (delS s2 ((65536:Int)-((d:Nat):Int))) ((65536:Int)-((d:Nat):Int)))),⟨⟨rfl,rfl⟩,rfl,⟨by omega,by rw[hdd]<;>exact hD1⟩⟩,(show 128-(d+1)<128-d from by omega)⟩
     ·
      refine c_exit ?_
      refine f_then_exit ?_
      refine f_then_exit ?_
      refine f_exit ?_
      refine f_then ?_
      refine c_seq ?_
      obtain rfl:d=128:=by omega
      obtain⟨hb2,he2⟩:=hD.over
      have hnn:=hD.tell.none
      have hD2:=hD.tell
      have h81:=hF.pairs
      refine c_region ?_
      refine l_val (v:= .pointer (some ⟨b26,0,none⟩)) rfl rfl rfl (e_move) ?_
      refine l_call rfl rfl rfl (cl_value (fst:=[]) (cap:=[]) (vs:=[.pointer (some ⟨b26,0,none⟩)]) (all:=[.pointer (some ⟨b26,0,none⟩)]) tf77 rfl rfl rfl) ?_
      intro w hw
      replace hw:=hw.perm (L':=_::_::_::_::_::_::_::_::[]) (by exact((((((((perm_front 7 rfl).trans (perm_front 7 rfl)).trans (perm_front 7 rfl)).trans (perm_front 7 rfl)).trans (perm_front 7 rfl)).trans (perm_front 7 rfl)).trans (perm_front 7 rfl)).trans (perm_front 7 rfl)))
      obtain⟨β1,sb,kn,hw1,back⟩:=St.frame (L:=[_]) (M:=_::_::_::_::_::_::_::[]) hw
      refine(changes_ok β1 w b26 s2 hw1 hD.ok).mono ?_
      rintro e w' ⟨p52,c53,q54,d55,rfl,hw'⟩
      refine⟨_,rfl,_,back _ _ hw',?_⟩
      clear hw hw1 hw' back kn sb
      refine l_val (v:= .tuple #[.slice p52 ((beganS s2).length) c53,.slice q54 ((endedS s2).length) d55]) rfl rfl rfl (e_move) ?_
      refine l_val (v:= .slice p52 ((beganS s2).length) c53) rfl rfl rfl (e_extract (vs:= #[.slice p52 ((beganS s2).length) c53,.slice q54 ((endedS s2).length) d55]) rfl rfl) ?_
      refine l_val (v:= .slice q54 ((endedS s2).length) d55) rfl rfl rfl (e_extract (vs:= #[.slice p52 ((beganS s2).length) c53,.slice q54 ((endedS s2).length) d55]) rfl rfl) ?_
      refine l_val (v:= .slice p52 ((beganS s2).length) c53) rfl rfl rfl (e_assign) ?_
      refine l_val (v:= .slice q54 ((endedS s2).length) d55) rfl rfl rfl (e_assign) ?_
      refine l_nil ?_
      refine f_then ?_
      refine c_seq ?_
      refine c_region ?_
      refine l_val (v:= .slice p52 ((beganS s2).length) c53) rfl rfl rfl (e_move) ?_
      refine l_val (v:=Nx ((beganS s2).length)) rfl rfl rfl (e_len (a:=p52) (n:=(beganS s2).length) (c:=c53) rfl tf65) ?_
      refine l_val (v:= .bool (decide ((((beganS s2).length:Nat):Int)=(0:Int)))) rfl rfl rfl (e_eql (a:=(((beganS s2).length:Nat):Int)) (b:=(0:Int)) rfl rfl) ?_
      refine l_val (v:= .bool (decide ((((beganS s2).length:Nat):Int)=(0:Int)))) rfl rfl rfl (e_move) ?_
      refine l_split (s:=229) (p:=(((beganS s2).length:Nat):Int)=(0:Int)) rfl (fun h=> ?_) (fun h=> ?_)
      rotate_left;exact absurd (by omega) h
      refine g_val (v:= .slice q54 ((endedS s2).length) d55) rfl rfl rfl rfl rfl (e_move) ?_
      refine g_val (v:=Nx ((endedS s2).length)) rfl rfl rfl rfl rfl (e_len (a:=q54) (n:=(endedS s2).length) (c:=d55) rfl tf65) ?_
      refine g_val (v:= .bool (decide ((((endedS s2).length:Nat):Int)=(8128:Int)))) rfl rfl rfl rfl rfl (e_eql (a:=(((endedS s2).length:Nat):Int)) (b:=(8128:Int)) rfl rfl) ?_
      refine l_val (v:= .bool (decide ((((endedS s2).length:Nat):Int)=(8128:Int)))) rfl rfl rfl (e_pick_t rfl) ?_
      refine l_val (v:= .bool (decide ((((endedS s2).length:Nat):Int)=(8128:Int)))) rfl rfl rfl (e_move) ?_
      refine l_split (s:=234) (p:=(((endedS s2).length:Nat):Int)=(8128:Int)) rfl (fun h=> ?_) (fun h=> ?_)
      rotate_left;exact absurd (by omega) h
      refine g_val (v:= .pointer (some ⟨b26,0,none⟩)) rfl rfl rfl rfl rfl (e_move) ?_
      refine g_call rfl rfl rfl rfl rfl (cl_value (fst:=[]) (cap:=[]) (vs:=[.pointer (some ⟨b26,0,none⟩)]) (all:=[.pointer (some ⟨b26,0,none⟩)]) tf76 rfl rfl rfl) ?_
      intro w hw
      replace hw:=hw.perm (L':=_::_::_::_::_::_::_::_::_::_::[]) (by exact((((((((((perm_front 9 rfl).trans (perm_front 9 rfl)).trans (perm_front 9 rfl)).trans (perm_front 9 rfl)).trans (perm_front 9 rfl)).trans (perm_front 9 rfl)).trans (perm_front 9 rfl)).trans (perm_front 8 rfl)).trans (perm_front 8 rfl)).trans (perm_front 9 rfl)))
      obtain⟨β1,sb,kn,hw1,back⟩:=St.frame (L:=[_]) (M:=_::_::_::_::_::_::_::_::_::[]) hw
      refine(spairsx_ok β1 w b26 (toldS s2) hw1 hD2.ok).mono ?_
      rintro e w' ⟨p56,c57,rfl,hw'⟩
      refine⟨_,rfl,_,back _ _ hw',?_⟩
      clear hw hw1 hw' back kn sb
      refine g_val (v:=Nx ((pairsS (toldS s2)).length)) rfl rfl rfl rfl rfl (e_len (a:=p56) (n:=(pairsS (toldS s2)).length) (c:=c57) rfl tf65) ?_
      refine g_val (v:= .bool (decide ((((pairsS (toldS s2)).length:Nat):Int)=(0:Int)))) rfl rfl rfl rfl rfl (e_eql (a:=(((pairsS (toldS s2)).length:Nat):Int)) (b:=(0:Int)) rfl rfl) ?_
      refine l_val (v:= .bool (decide ((((pairsS (toldS s2)).length:Nat):Int)=(0:Int)))) rfl rfl rfl (e_pick_t rfl) ?_
      refine l_val (v:= .bool (decide ((((pairsS (toldS s2)).length:Nat):Int)=(0:Int)))) rfl rfl rfl (e_move) ?_
      refine l_split (s:=240) (p:=(((pairsS (toldS s2)).length:Nat):Int)=(0:Int)) rfl (fun h=> ?_) (fun h=> ?_)
      rotate_left;exact absurd (by rw[hnn];rfl) h
      refine g_call rfl rfl rfl rfl rfl (cl_value (fst:=[]) (cap:=[]) (vs:=[.slice none 0 0]) (all:=[.slice none 0 0]) tf251 rfl rfl rfl) ?_
      intro w hw
      obtain⟨β1,sb,kn,hw1,back⟩:=St.frame_all hw
      refine(lists_ok β1 w hw1 _ [] (Sl.nil _ _) (by decide)).mono ?_
      rintro e w' ⟨rfl,hw'⟩
      refine⟨_,rfl,_,back _ _ hw',?_⟩
      clear hw hw1 hw' back kn sb
      refine l_val (v:= .bool true) rfl rfl rfl (e_pick_t rfl) ?_
      refine l_val (v:= .bool true) rfl rfl rfl (e_move) ?_
      refine g_call rfl rfl rfl rfl rfl (cl_value (fst:=[]) (cap:=[]) (vs:=[.slice none 0 0]) (all:=[.slice none 0 0]) tf273 rfl rfl rfl) ?_
      intro w hw
      obtain⟨β1,sb,kn,hw1,back⟩:=St.frame_all hw
      refine(plays_ok β1 w hw1 _ [] (Sl.nil _ _) (by decide)).mono ?_
      rintro e w' ⟨rfl,hw'⟩
      refine⟨_,rfl,_,back _ _ hw',?_⟩
      clear hw hw1 hw' back kn sb
      refine l_val (v:= .bool true) rfl rfl rfl (e_pick_t rfl) ?_
      refine l_val (v:= .bool true) rfl rfl rfl (e_move) ?_
      refine g_call rfl rfl rfl rfl rfl (cl_value (fst:=[]) (cap:=[]) (vs:=[]) (all:=[]) tf98 rfl rfl rfl) ?_
      intro w hw
      obtain⟨β1,sb,kn,hw1,back⟩:=St.frame_all hw
      refine(awake_ok β1 w hw1).mono ?_
      rintro e w' ⟨rfl,hw'⟩
      refine⟨_,rfl,_,back _ _ hw',?_⟩
      clear hw hw1 hw' back kn sb
      refine l_val (v:= .bool true) rfl rfl rfl (e_pick_t rfl) ?_
      refine l_val (v:= .bool true) rfl rfl rfl (e_assign) ?_
      refine l_nil ?_
      refine f_then ?_
      refine c_ret ?_
      refine ret1 Tryz.results5 (v:= .bool true) rfl ?_
      intro w hw
      exact⟨rfl,st_mask [false,false,false,false,false,false,false,false,false,false,false] rfl hw⟩
end Go.Proofs
