/-
 Transactions and states read: walked. Printed by a program of my own.
-/
import Derived.Test.YtjejfkajcbdgjaaGreatTd10
import Derived.Test.YtjejfkajcbdgjaaGreatTdHouE
import Derived.Test.YtjejfkajcbdgjaaGreatSlA
import Derived.Test.YtjejfkajcbdgjaaGreatSlN
namespace Go.Sl
theorem bx_back (x : UInt8) : IntKind.u8.wrap ((x.toNat : Nat) : Int) = (x.toNat : Int) := by
 rw [u8w]; have := x.toNat_lt; omega
end Go.Sl
namespace Go.Proofs
open Go Go.Sl Go.Td Go.Jn
instance tt136 : CfC Tryz.prog 115 := ⟨by kernel_rfl⟩
theorem tt137 : stB Tryz.prog 88 [(0, 1), (1, 1), (2, 1), (3, 4), (7, 1)] = true := by kernel_rfl
set_option maxHeartbeats 4000000 in
theorem dealr_ok (β : Base) (w : World) (rb : Nat) (au nu : Int) (al : List KAct) (l : List Bool) (hdf : DealFit au nu al) (hw : St β [rdrR rb (dealK au nu al l)] w) : Calls Tryz.prog 87 #[.agg #[pp rb 0]] w fun r w' => ∃ p c, r = .returned (.agg #[Ix au, Ix nu, sB p al c]) ∧ St β [rowF ActF 47 p c al, rdrR rb l] w' := by
 replace hw : St β [rdrR rb (bitsV (U au) 7 ++ (bitsV (U nu) 41 ++ (bitsV (U ((al.length : Nat) : Int)) 9 ++ actsK al l)))] w := hw
 have hf16 := hdf.few
 refine enter (n := 37) Tryz.func87 rfl Tryz.ntmps87 rfl ?_ hw
 refine csr (bxa fun b1 => ?_)
 refine alE fun b2 => lnf (c_seq ?_)
 refine cnz [sv 5 (.agg #[pp rb 0]) [] [] [0],sv 6 (Ix (au)) [0] [0] [],sv 7 (.agg #[pp rb 0]) [] [] [0],sv 8 (Ix (nu)) [0,1,2] [2] [],sv 9 (.agg #[Ix (au),Ix (nu),.slice none 0 0]) [0,1,2,3] [1,3] [],⟨[],[],[],[3],fun f => f 3 = .pointer (some ⟨(blk (f 3)),0,none⟩)⟩,⟨(List.range 6),[5,4],[],[],fun _ => True⟩] [u0,u1 [0,2],(some 1,[1])] [⟨(some 1),(some 3),[3],[],fun _ => rdrR rb (bitsV (U nu) 41 ++ (bitsV (U ((al.length : Nat) : Int)) 9 ++ actsK al l))⟩,⟨(some 3),none,[],[],fun _ => rdrR rb (bitsV (U ((al.length : Nat) : Int)) 9 ++ actsK al l)⟩,⟨(some 5),(some 6),[6],[3],fun f => pt (blk (f 3)) (.cells #[.int .i64 (0),.int .i64 (0),.slice none 0 0] 80)⟩,⟨(some 6),none,[],[3],fun f => pt (blk (f 3)) (.cells #[Ix (au),Ix (nu),.slice none 0 0] 80)⟩] [(1,pp b1 0),(2,pp b2 0)] [0,1] ⟨rfl,rfl,trivial⟩ ⟨?_,?_,?_,?_,?_,?_,?_,trivial⟩ ?_
 ·rintro f M - ⟨i0,-⟩
  exact obE (olg 0)
 ·rintro f M ⟨k0,-⟩ -
  refine obS (up_cons (d := 5) rfl k0) ?_
  refine l_call rfl rfl rfl (cl0 (vs := [.agg #[pp rb 0],.int .i64 (7)]) tt133.ok rfl rfl) ?_
  intro w hw
  replace hw := hw.perm (L' := _ :: M) (by exact (perm_front 0 rfl))
  obtain ⟨β1,sb,kn,hw1,back⟩ := St.frame (L := [_]) (M := M) hw
  refine (tget_ok β1 w rb _ au 7 hdf.a hw1).mono ?_
  rintro e w' ⟨rfl,hw'⟩
  refine ⟨_,rfl,_,back _ _ hw',?_⟩
  clear hw hw1 hw' back kn sb
  refine l_nil ?_
  exact f_owes_d (up_cons (d := 5) rfl k0) rfl (perm_front 0 rfl)
 ·rintro f M - ⟨i0,-⟩
  exact obE (olg 0)
 ·rintro f M ⟨k0,-⟩ -
  refine obS (up_cons (d := 7) rfl k0) ?_
  refine l_call rfl rfl rfl (cl0 (vs := [.agg #[pp rb 0],.int .i64 (41)]) tt133.ok rfl rfl) ?_
  intro w hw
  replace hw := hw.perm (L' := _ :: M) (by exact (perm_front 0 rfl))
  obtain ⟨β1,sb,kn,hw1,back⟩ := St.frame (L := [_]) (M := M) hw
  refine (tget_ok β1 w rb _ nu 41 hdf.n hw1).mono ?_
  rintro e w' ⟨rfl,hw'⟩
  refine ⟨_,rfl,_,back _ _ hw',?_⟩
  clear hw hw1 hw' back kn sb
  refine l_nil ?_
  exact f_owes_d (up_cons (d := 7) rfl k0) rfl (perm_front 0 rfl)
 ·rintro f M ⟨k0,k1,-⟩ -
  exact ob0 (up_cons (d := 8) (up_cons (d := 6) rfl k0) k1) rfl (e_build tt99.ok tt98 (vs := [(0,Ix (au)),(1,Ix (nu))]) (cells := #[Ix (au),Ix (nu),.slice none 0 0]) rfl rfl) (.refl _)
 ·rintro f M - -
  refine obS rfl ?_
  refine alE fun b4 => l_nil ?_
  exact f_owes_d rfl rfl (perm_front 0 rfl)
 ·rintro f M ⟨k0,k1,-⟩ -
  have hs3 : f 3 = .pointer (some ⟨(blk (f 3)),0,none⟩) := k0
  refine obS (up_cons (d := 9) (up_cons rfl hs3) k1) ?_
  refine lu (mS 0 (#[Ix (au),Ix (nu),.slice none 0 0])) (l_nil ?_)
  exact f_owes_n (up_cons (d := 9) (up_cons rfl hs3) k1) trivial (perm_front 0 rfl)
 rintro fa5 ⟨-,-,-,-,-,k5,-,-⟩ ⟨j0,j1,-⟩
 refine fre ?_
 refine f_rebase (d := 1) j0 (f_rebase (d := 2) j1 (f_rebase (d := 3) k5 (fts (c_seq (c_emp (r := rowF ActF 47 none 0 []) (row_nil _ _ _) (c_region ?_))))))
 refine lE (olg 2) (l_call rfl rfl rfl (cl0 (vs := [.agg #[pp rb 0],.int .i64 (9)]) tt133.ok rfl rfl) ?_)
 intro w hw
 replace hw := hw.perm (L' := _ :: _ :: _ :: _ :: _ :: []) (by exact (((((perm_front 4 rfl).trans (perm_front 3 rfl)).trans (perm_front 3 rfl)).trans (perm_front 3 rfl)).trans (perm_front 4 rfl)))
 obtain ⟨β1,sb,kn,hw1,back⟩ := St.frame (L := [_]) (M := _ :: _ :: _ :: _ :: []) hw
 refine (tget_ok β1 w rb _ ((al.length : Nat) : Int) 9 hdf.l hw1).mono ?_
 rintro e w' ⟨rfl,hw'⟩
 refine ⟨_,rfl,_,back _ _ hw',?_⟩
 clear hw hw1 hw' back kn sb
 refine lv (v := Nx (min al.length 16)) (ev_eq (congrArg (Value.int .i64) (by omega)) (e_min (a := ((al.length : Nat) : Int)) (b := (16 : Int)) rfl rfl)) ?_
 refine lE omi (lnf (c_block ?_))
 refine c_loop (fun (x_ : Nat × List KAct × Option Addr × Nat) f L => match x_ with | (k,ys,p,c) => (f 1 = pp b1 0 ∧ f 2 = pp b2 0 ∧ f 3 = .pointer (some ⟨(blk (fa5 3)),0,none⟩) ∧ f 12 = Nx (min al.length 16) ∧ f 13 = Nx (k)) ∧ L = [rdrR rb (actsK (al.drop k) l),rowF ActF 47 p c ys,pt b2 (.cells #[.int .i64 (0),.int .i64 (0),.slice none 0 0] 80),pt b1 (.cells #[pp rb 0] 168),pt (blk (fa5 3)) (.cells #[Ix (au),Ix (nu),sB p ys c] 80)] ∧ (k ≤ al.length ∧ ys = al.take k)) (fun (k,ys,p,c) => al.length - k) (0,[],none,0) ?_ ?_
 ·exact ⟨⟨rfl,rfl,rfl,rfl,rfl⟩,rfl,⟨Nat.zero_le _,rfl⟩⟩
 rintro ⟨k,ys,p,c⟩ f0 L0 ⟨⟨hs1,hs2,hs3,hs12,hs13⟩,hL,⟨hk,hys⟩⟩
 subst L0
 refine rbs 1 hs1 (rbs 2 hs2 (rbs 3 hs3 (rbs 12 hs12 (rbs 13 hs13 ?_))))
 have hyl : ys.length = k := by rw [hys,List.length_take]; omega
 have h16 := hdf.few
 refine csr (lE olt (lnf (c_seq (c_if _ rfl (fun hc6 => ?_) (fun hc6 => ?_)))))
 ·refine csk (c_seq (c_block (c_seq ?_)))
  obtain ⟨x,hx⟩ : ∃ x,al[k]? = some x := ⟨_,List.getElem?_eq_getElem (by omega)⟩
  have hxf := hdf.x x (List.mem_of_getElem? hx)
  refine c_re (L' := [rdrR rb (bitsV (U ((x.kind.toNat : Nat) : Int)) 3 ++ (bitsV (U x.owner) 17 ++ (bitsV (U x.other) 17 ++ (bitsV (U x.hold) 64 ++ (amK x.a 31 (actsK (al.drop (k + 1)) l)))))),rowF ActF 47 p c ys,pt b2 (.cells #[.int .i64 (0),.int .i64 (0),.slice none 0 0] 80),pt b1 (.cells #[pp rb 0] 168),pt (blk (fa5 3)) (.cells #[Ix (au),Ix (nu),sB p ys c] 80)]) (by rw [actsK_next hx]) ?_
  refine cnz [sv 15 (.agg #[pp rb 0]) [] [] [0],sv 16 (Nx (x.kind.toNat)) [0] [0] [],sv 17 (Bx (x.kind)) [0,1] [1] [],sv 18 (.agg #[pp rb 0]) [] [] [0],sv 19 (Ix (x.owner)) [0,1,3] [3] [],sv 20 (.agg #[pp rb 0]) [] [] [0],sv 21 (Ix (x.other)) [0,1,3,4,5] [5] [],sv 22 (.agg #[Bx (x.kind),Ix (x.owner),Ix (x.other),.int .i64 (0),.int .i64 (0),.int .i64 (0),.int .i64 (0),.int .i64 (0)]) (List.range 7) [2,4,6] [],⟨[],[],[],[4],fun f => f 4 = .pointer (some ⟨(blk (f 4)),0,none⟩)⟩,⟨(List.range 9),[8,7],[],[],fun _ => True⟩] [(some 1,[1]),u0,u0,u1 [0,3,5]] [⟨(some 1),(some 4),[4],[],fun _ => rdrR rb (bitsV (U x.owner) 17 ++ (bitsV (U x.other) 17 ++ (bitsV (U x.hold) 64 ++ (amK x.a 31 (actsK (al.drop (k + 1)) l)))))⟩,⟨(some 4),(some 6),[6],[],fun _ => rdrR rb (bitsV (U x.other) 17 ++ (bitsV (U x.hold) 64 ++ (amK x.a 31 (actsK (al.drop (k + 1)) l))))⟩,⟨(some 6),none,[],[],fun _ => rdrR rb (bitsV (U x.hold) 64 ++ (amK x.a 31 (actsK (al.drop (k + 1)) l)))⟩,⟨(some 8),(some 9),[9],[4],fun f => pt (blk (f 4)) (.cells #[.int .u8 (0),.int .i64 (0),.int .i64 (0),.int .i64 (0),.int .i64 (0),.int .i64 (0),.int .i64 (0),.int .i64 (0)] 47)⟩,⟨(some 9),none,[],[4],fun f => pt (blk (f 4)) (.cells #[Bx (x.kind),Ix (x.owner),Ix (x.other),.int .i64 (0),.int .i64 (0),.int .i64 (0),.int .i64 (0),.int .i64 (0)] 47)⟩] [(1,pp b1 0),(2,pp b2 0),(3,.pointer (some ⟨(blk (fa5 3)),0,none⟩)),(12,Nx (min al.length 16)),(13,Nx (k))] [0,1,2,3,4] ⟨rfl,rfl,rfl,rfl,rfl,trivial⟩ ⟨?_,?_,?_,?_,?_,?_,?_,?_,?_,?_,trivial⟩ ?_
  ·rintro f M - ⟨i0,-⟩
   exact obE (olg 0)
  ·rintro f M ⟨k0,-⟩ -
   refine obS (up_cons (d := 15) rfl k0) ?_
   refine l_call rfl rfl rfl (cl0 (vs := [.agg #[pp rb 0],.int .i64 (3)]) tt133.ok rfl rfl) ?_
   intro w hw
   replace hw := hw.perm (L' := _ :: M) (by exact (perm_front 0 rfl))
   obtain ⟨β1,sb,kn,hw1,back⟩ := St.frame (L := [_]) (M := M) hw
   refine (tget_ok β1 w rb _ ((x.kind.toNat : Nat) : Int) 3 hxf.k hw1).mono ?_
   rintro e w' ⟨rfl,hw'⟩
   refine ⟨_,rfl,_,back _ _ hw',?_⟩
   clear hw hw1 hw' back kn sb
   refine l_nil ?_
   exact f_owes_d (up_cons (d := 15) rfl k0) rfl (perm_front 0 rfl)
  ·rintro f M ⟨k0,-⟩ -
   exact ob0 (up_cons (d := 16) rfl k0) rfl (e_conv (a := ((x.kind.toNat : Nat) : Int)) rfl ⟨_,tt80⟩ tt75 (bx_back _)) (.refl _)
  ·rintro f M - ⟨i0,-⟩
   exact obE (olg 0)
  ·rintro f M ⟨k0,-⟩ -
   refine obS (up_cons (d := 18) rfl k0) ?_
   refine l_call rfl rfl rfl (cl0 (vs := [.agg #[pp rb 0],.int .i64 (17)]) tt133.ok rfl rfl) ?_
   intro w hw
   replace hw := hw.perm (L' := _ :: M) (by exact (perm_front 0 rfl))
   obtain ⟨β1,sb,kn,hw1,back⟩ := St.frame (L := [_]) (M := M) hw
   refine (tget_ok β1 w rb _ x.owner 17 hxf.o hw1).mono ?_
   rintro e w' ⟨rfl,hw'⟩
   refine ⟨_,rfl,_,back _ _ hw',?_⟩
   clear hw hw1 hw' back kn sb
   refine l_nil ?_
   exact f_owes_d (up_cons (d := 18) rfl k0) rfl (perm_front 0 rfl)
  ·rintro f M - ⟨i0,-⟩
   exact obE (olg 0)
  ·rintro f M ⟨k0,-⟩ -
   refine obS (up_cons (d := 20) rfl k0) ?_
   refine l_call rfl rfl rfl (cl0 (vs := [.agg #[pp rb 0],.int .i64 (17)]) tt133.ok rfl rfl) ?_
   intro w hw
   replace hw := hw.perm (L' := _ :: M) (by exact (perm_front 0 rfl))
   obtain ⟨β1,sb,kn,hw1,back⟩ := St.frame (L := [_]) (M := M) hw
   refine (tget_ok β1 w rb _ x.other 17 hxf.p hw1).mono ?_
   rintro e w' ⟨rfl,hw'⟩
   refine ⟨_,rfl,_,back _ _ hw',?_⟩
   clear hw hw1 hw' back kn sb
   refine l_nil ?_
   exact f_owes_d (up_cons (d := 20) rfl k0) rfl (perm_front 0 rfl)
  ·rintro f M ⟨k0,k1,k2,-⟩ -
   exact ob0 (up_cons (d := 21) (up_cons (d := 19) (up_cons (d := 17) rfl k0) k1) k2) rfl (e_build tt47.ok tt46 (vs := [(0,Bx (x.kind)),(1,Ix (x.owner)),(2,Ix (x.other))]) (cells := #[Bx (x.kind),Ix (x.owner),Ix (x.other),.int .i64 (0),.int .i64 (0),.int .i64 (0),.int .i64 (0),.int .i64 (0)]) rfl (by kernel_rfl)) (.refl _)
  ·rintro f M - -
   refine obS rfl ?_
   refine alE fun b8 => l_nil ?_
   exact f_owes_d rfl rfl (perm_front 0 rfl)
  ·rintro f M ⟨k0,k1,-⟩ -
   have hs4 : f 4 = .pointer (some ⟨(blk (f 4)),0,none⟩) := k0
   refine obS (up_cons (d := 22) (up_cons rfl hs4) k1) ?_
   refine lu (mS 0 (#[Bx (x.kind),Ix (x.owner),Ix (x.other),.int .i64 (0),.int .i64 (0),.int .i64 (0),.int .i64 (0),.int .i64 (0)])) (l_nil ?_)
   exact f_owes_n (up_cons (d := 22) (up_cons rfl hs4) k1) trivial (perm_front 0 rfl)
  rintro fa9 ⟨-,-,-,-,-,-,-,-,k8,-,-⟩ ⟨j0,j1,j2,j3,j4,-⟩
  refine fre ?_
  refine f_rebase (d := 1) j0 (f_rebase (d := 2) j1 (f_rebase (d := 3) j2 (f_rebase (d := 4) k8 (f_rebase (d := 12) j3 (f_rebase (d := 13) j4 (fts ?_))))))
  refine cnz [sv 23 (.agg #[pp rb 0]) [] [] [0],sv 24 (Ix (x.hold)) [0] [0] [],sv 25 (.agg #[pp rb 0]) [] [] [0],sv 26 (.agg (amC x.a)) [0,1,2] [2] [],sv 27 (.pointer (some ⟨(blk (fa9 4)),3,none⟩)) [0,1] [] [1],⟨[0,1,2,3,4],[4,1],[],[],fun _ => True⟩,sv 28 (.pointer (some ⟨(blk (fa9 4)),4,none⟩)) (List.range 6) [] [1],⟨(List.range 7),[6,3],[],[],fun _ => True⟩] [u0,u0,u1 [0,2],u0,(some 1,[1]),(some 5,[5])] [⟨(some 1),(some 3),[3],[],fun _ => rdrR rb (amK x.a 31 (actsK (al.drop (k + 1)) l))⟩,⟨(some 3),none,[],[],fun _ => rdrR rb (actsK (al.drop (k + 1)) l)⟩,⟨(some 5),(some 7),[7],[],fun _ => pt (blk (fa9 4)) (.cells #[Bx (x.kind),Ix (x.owner),Ix (x.other),Ix (x.hold),.int .i64 (0),.int .i64 (0),.int .i64 (0),.int .i64 (0)] 47)⟩,⟨(some 7),none,[],[],fun _ => pt (blk (fa9 4)) (.cells #[Bx (x.kind),Ix (x.owner),Ix (x.other),Ix (x.hold),Ix (x.a.a0),Ix (x.a.a1),Ix (x.a.a2),Ix (x.a.a3)] 47)⟩] [(1,pp b1 0),(4,.pointer (some ⟨(blk (fa9 4)),0,none⟩)),(2,pp b2 0),(3,.pointer (some ⟨(blk (fa5 3)),0,none⟩)),(12,Nx (min al.length 16)),(13,Nx (k))] [0,2,3,1,4,5] ⟨rfl,rfl,rfl,rfl,rfl,rfl,trivial⟩ ⟨?_,?_,?_,?_,?_,?_,?_,?_,trivial⟩ ?_
  ·rintro f M - ⟨i0,-⟩
   exact obE (olg 0)
  ·rintro f M ⟨k0,-⟩ -
   refine obS (up_cons (d := 23) rfl k0) ?_
   refine l_call rfl rfl rfl (cl0 (vs := [.agg #[pp rb 0],.int .i64 (64)]) tt133.ok rfl rfl) ?_
   intro w hw
   replace hw := hw.perm (L' := _ :: M) (by exact (perm_front 0 rfl))
   obtain ⟨β1,sb,kn,hw1,back⟩ := St.frame (L := [_]) (M := M) hw
   refine (tget_ok β1 w rb _ x.hold 64 hxf.h hw1).mono ?_
   rintro e w' ⟨rfl,hw'⟩
   refine ⟨_,rfl,_,back _ _ hw',?_⟩
   clear hw hw1 hw' back kn sb
   refine l_nil ?_
   exact f_owes_d (up_cons (d := 23) rfl k0) rfl (perm_front 0 rfl)
  ·rintro f M - ⟨i0,-⟩
   exact obE (olg 0)
  ·rintro f M ⟨k0,-⟩ -
   refine obS (up_cons (d := 25) rfl k0) ?_
   refine l_call rfl rfl rfl (cl0 (vs := [.agg #[pp rb 0],.int .i64 (31)]) tt136.ok rfl rfl) ?_
   intro w hw
   replace hw := hw.perm (L' := _ :: M) (by exact (perm_front 0 rfl))
   obtain ⟨β1,sb,kn,hw1,back⟩ := St.frame (L := [_]) (M := M) hw
   refine (tamr_ok β1 w rb _ x.a 31 hxf.a hw1).mono ?_
   rintro e w' ⟨rfl,hw'⟩
   refine ⟨_,rfl,_,back _ _ hw',?_⟩
   clear hw hw1 hw' back kn sb
   refine l_nil ?_
   exact f_owes_d (up_cons (d := 25) rfl k0) rfl (perm_front 0 rfl)
  ·rintro f M - ⟨i0,-⟩
   exact obE ofp
  ·rintro f M ⟨k0,k1,-⟩ -
   refine obS (up_cons (d := 24) (up_cons (d := 27) rfl k0) k1) ?_
   refine lu (mS 0 (#[Bx (x.kind),Ix (x.owner),Ix (x.other),Ix (x.hold),.int .i64 (0),.int .i64 (0),.int .i64 (0),.int .i64 (0)])) (l_nil ?_)
   exact f_owes_n (up_cons (d := 24) (up_cons (d := 27) rfl k0) k1) trivial (perm_front 0 rfl)
  ·rintro f M - ⟨i0,-⟩
   exact obE ofp
  ·rintro f M ⟨k0,k1,-⟩ -
   refine obS (up_cons (d := 26) (up_cons (d := 28) rfl k0) k1) ?_
   refine lu (mS 0 (#[Bx (x.kind),Ix (x.owner),Ix (x.other),Ix (x.hold),Ix (x.a.a0),Ix (x.a.a1),Ix (x.a.a2),Ix (x.a.a3)])) (l_nil ?_)
   exact f_owes_n (up_cons (d := 26) (up_cons (d := 28) rfl k0) k1) trivial (perm_front 0 rfl)
  rintro fa10 ⟨-,-,-,-,-,-,-,-,-⟩ ⟨j0,j1,j2,j3,j4,j5,-⟩
  refine fre ?_
  refine f_rebase (d := 1) j0 (f_rebase (d := 2) j1 (f_rebase (d := 3) j2 (f_rebase (d := 4) j3 (f_rebase (d := 12) j4 (f_rebase (d := 13) j5 ?_)))))
  refine f_then (c_region (lE ofp (lE (ols 3) (lE (olg 5) ?_))))
  refine l_mv rfl rfl rfl (m_slices tt16 tt47.ok (cells := #[Bx (x.kind),Ix (x.owner),Ix (x.other),Ix (x.hold),Ix (x.a.a0),Ix (x.a.a1),Ix (x.a.a2),Ix (x.a.a3)]) rfl rfl rfl (by kernel_rfl)) ?_
  rintro _ _ ⟨b11,rfl,rfl⟩
  refine l_mv rfl rfl rfl (m_appendFlN (F := ActF) 1 tt16 tt30 (p := p) (m := ys.length) (xs := ys) (ys := [x]) (ao := (some ⟨b11,0,none⟩)) (k := 1) (c := 1) rfl rfl rfl rfl rfl (k_ptFl (z := x) 0 rfl rfl) (by first | omega | simp only [List.length_nil,List.length_cons,List.length_append,List.length_set]; omega) (by first | omega | simp only [List.length_nil,List.length_cons,List.length_append,List.length_set]; omega)) ?_
  rintro _ _ ⟨rp12,rc13,rfl,rfl⟩
  refine lE ofp (lu (mS 4 (#[Ix (au),Ix (nu),sB rp12 (ys ++ [x]) rc13])) (l_nil (f_block (f_then (c_region ?_)))))
  refine lv (v := Nx (k + 1)) (e_add rfl rfl (i64n (by omega) (by omega))) (lE omi (l_nil (fpn [5,1,2,3,4,0,6] 7 ?_)))
  refine f_mask (L' := [rdrR rb (actsK (al.drop (k + 1)) l),rowF ActF 47 rp12 rc13 (ys ++ [x]),pt b2 (.cells #[.int .i64 (0),.int .i64 (0),.slice none 0 0] 80),pt b1 (.cells #[pp rb 0] 168),pt (blk (fa5 3)) (.cells #[Ix (au),Ix (nu),sB rp12 (ys ++ [x]) rc13] 80)]) [true,true,true,true,true,false,false] rfl ?_
  exact f_cut ⟨(k + 1,(ys ++ [x]),rp12,rc13),⟨⟨rfl,rfl,rfl,rfl,rfl⟩,rfl,⟨by omega,by rw [hys]; exact tk_next hx⟩⟩,(show al.length - (k + 1) < al.length - k from by omega)⟩
 refine c_exit (f_then_exit (f_then_exit (f_exit (ftc (lE (olg 4) ?_)))))
 refine lu (m_store 2 tt65.ok (cs' := #[Ix (au),Ix (nu),sB p ys c]) rfl rfl rfl rfl rfl rfl rfl) (lnf (c_ret ?_))
 refine retG (m := [.agg #[Ix (au),Ix (nu),sB p ys c]]) Tryz.results87 ⟨rd_cell tt65.ok rfl (k_pt 2 rfl rfl) rfl,trivial⟩ rfl ?_
 intro w hw
 have hke : ys = al := by rw [hys,List.take_of_length_le (by have := hdf.few; omega)]
 have hde : al.drop k = [] := List.drop_eq_nil_of_le (by have := hdf.few; omega)
 replace hw := hw.perm (L' := [rowF ActF 47 p c ys,rdrR rb (actsK (al.drop k) l),pt b2 (.cells #[Ix (au),Ix (nu),sB p ys c] 80),pt b1 (.cells #[pp rb 0] 168),pt (blk (fa5 3)) (.cells #[Ix (au),Ix (nu),sB p ys c] 80)]) (by exact (perm_ix [1,0,2,3,4] 5 rfl (by kernel_rfl) (by kernel_rfl)))
 replace hw := st_mask (L' := [rowF ActF 47 p c ys,rdrR rb (actsK (al.drop k) l)]) [true,true,false,false,false] rfl hw
 rw [hde,hke] at hw
 exact ⟨_,_,by rw [hke] <;> rfl,hw⟩
theorem fresh_ok (β : Base) (w : World) (hw : St β [] w) : Calls Tryz.prog 84 #[] w fun r w' => ∃ mp mh mm, r = .returned (.agg #[.map (some mp), .map (some mh), .int .i64 0, .int .i64 0, .int .i64 0, .int .i64 0, .int .i64 0, .map (some mm)]) ∧ St β [mpR PuM mp [], mpR HoM mh [], mpR MeM mm []] w' := by
 refine enter (n := 5) Tryz.func84 rfl Tryz.ntmps84 rfl ?_ hw
 refine csr (alE fun b1 => lnc (l_mv rfl rfl rfl (m_mkmap (K := PuM)) ?_))
 rintro _ _ ⟨b2,rfl,rfl⟩
 refine l_mv rfl rfl rfl (m_mkmap (K := HoM)) ?_
 rintro _ _ ⟨b3,rfl,rfl⟩
 refine l_mv rfl rfl rfl (m_mkmap (K := MeM)) ?_
 rintro _ _ ⟨b4,rfl,rfl⟩
 refine lv (v := .agg #[.map (some b2),.map (some b3),.int .i64 (0),.int .i64 (0),.int .i64 (0),.int .i64 (0),.int .i64 (0),.map (some b4)]) (e_build tt52.ok tt137 (vs := [(0,.map (some b2)),(1,.map (some b3)),(4,.map (some b4))]) (cells := #[.map (some b2),.map (some b3),.int .i64 (0),.int .i64 (0),.int .i64 (0),.int .i64 (0),.int .i64 (0),.map (some b4)]) rfl (by kernel_rfl)) ?_
 refine lu (mS 3 (#[.map (some b2),.map (some b3),.int .i64 (0),.int .i64 (0),.int .i64 (0),.int .i64 (0),.int .i64 (0),.map (some b4)])) (lnf ?_)
 refine c_ret ?_
 refine retG (m := [.agg #[.map (some b2),.map (some b3),.int .i64 (0),.int .i64 (0),.int .i64 (0),.int .i64 (0),.int .i64 (0),.map (some b4)]]) Tryz.results84 ⟨rd_cell tt54.ok rfl (k_pt 3 rfl rfl) rfl,trivial⟩ rfl ?_
 intro w hw
 replace hw := hw.perm (L' := [mpR PuM b2 [],mpR HoM b3 [],mpR MeM b4 [],pt b1 (.cells #[.map (some b2),.map (some b3),.int .i64 (0),.int .i64 (0),.int .i64 (0),.int .i64 (0),.int .i64 (0),.map (some b4)] 88)]) (by exact (perm_ix [2,1,0,3] 4 rfl (by kernel_rfl) (by kernel_rfl)))
 replace hw := st_mask (L' := [mpR PuM b2 [],mpR HoM b3 [],mpR MeM b4 []]) [true,true,true,false] rfl hw
 exact ⟨b2,b3,b4,rfl,hw⟩
end Go.Proofs
