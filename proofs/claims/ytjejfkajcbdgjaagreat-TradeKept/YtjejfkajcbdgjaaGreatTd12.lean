/-
 A state read: walked. Printed by a program of my own.
-/
import Derived.Test.YtjejfkajcbdgjaaGreatTd11
import Derived.Test.YtjejfkajcbdgjaaGreatTdHouE
import Derived.Test.YtjejfkajcbdgjaaGreatSlA
import Derived.Test.YtjejfkajcbdgjaaGreatSlN
namespace Go.Proofs
open Go Go.Sl Go.Td Go.Jn
instance tt138 : CfC Tryz.prog 86 := ⟨by kernel_rfl⟩
theorem tt139 : stB Tryz.prog 168 [(0, 1)] = true := by kernel_rfl
instance tt140 : ZerC Tryz.prog 168 (.agg #[.pointer none]) := ⟨by kernel_rfl⟩
instance tt141 : CfC Tryz.prog 84 := ⟨by kernel_rfl⟩
instance tt142 : FldC Tryz.prog 104 0 0 1 false := ⟨by kernel_rfl⟩
instance tt143 : CfC Tryz.prog 87 := ⟨by kernel_rfl⟩
instance tt144 : FldC Tryz.prog 37 1 1 1 false := ⟨by kernel_rfl⟩
instance tt145 : FldC Tryz.prog 37 2 2 1 false := ⟨by kernel_rfl⟩
instance tt146 : FldC Tryz.prog 37 0 0 1 false := ⟨by kernel_rfl⟩
instance tt147 : CfC Tryz.prog 88 := ⟨by kernel_rfl⟩
set_option maxHeartbeats 4000000 in
theorem load_ok (β : Base) (w : World) (hw : St β [] w) (v : Value) (bs : List UInt8) (hs : Sl U8R β.heap v bs) (hbl : bs.length ≤ 65536) (X : KHs) (ps : List (Int × KAm)) (gs : List (Int × KHo)) (ms : List (Int × KMem)) (n : Nat) (hb : Wr bs n (stBits X.s.su X.s.last ps gs ms)) (hsf : StFit X ps gs ms) (hla : X.s.last ≤ 16000000) : Calls Tryz.prog 85 #[v] w fun r w' => ∃ mp mh mm LL, mml LL = ms ∧ (∀ z ∈ LL, HdOf z) ∧ r = .returned (.tuple #[.agg (stC mp mh mm X.s.last X.s.su), .bool true]) ∧ St β [mpR PuM mp ps, mpR HoM mh gs, mpR MeM mm (hdl LL), memR LL] w' := by
 obtain ⟨va,vc,rfl,vl,vm,ve⟩ := hs.get
 rw [stK_eq] at hb
 have hpn := hsf.pn
 have hgn := hsf.hn
 have hmn := hsf.mn
 refine enter (n := 106) Tryz.func85 rfl Tryz.ntmps85 rfl ?_ hw
 refine csr (alE fun b1 => lE oab (lnc (lE oms ?_)))
 refine lcf (cl0 (vs := [sB va bs (vc)]) tt138.ok rfl rfl) rfl fun w β1 sb kn hw1 back => (newr_ok β1 w hw1 _ bs (Sl.mono _ _ _ _ _ sb (⟨⟨_,_,rfl,vl,vm,ve⟩⟩ : Sl U8R _ _ bs)) n _ hb hbl).mono ?_
 rintro e w' ⟨rb,rfl,hw'⟩
 refine ⟨_,rfl,_,back _ _ hw',?_⟩
 clear hw1 hw' back kn sb
 refine lv (v := .agg #[pp rb 0]) (e_build tt140.ok tt139 (vs := [(0,pp rb 0)]) (cells := #[pp rb 0]) rfl rfl) (alE fun b2 => ?_)
 refine lu (mS 0 (#[pp rb 0])) (lnc (lcf (cl0 (vs := []) tt141.ok rfl rfl) rfl fun w β1 sb kn hw1 back => (fresh_ok β1 w hw1).mono ?_))
 rintro e w' ⟨mp3,mh4,mm5,rfl,hw'⟩
 refine ⟨_,rfl,_,back _ _ hw',?_⟩
 clear hw1 hw' back kn sb
 refine alE fun b6 => ?_
 refine lu (mS 0 (#[.map (some mp3),.map (some mh4),.int .i64 (0),.int .i64 (0),.int .i64 (0),.int .i64 (0),.int .i64 (0),.map (some mm5)])) (lnf ?_)
 refine c_seq ?_
 refine cnz [sv 14 (.agg #[pp rb 0]) [] [] [0],sv 15 (.agg (amC X.s.su)) [0] [0] [],sv 16 (.agg #[pp rb 0]) [] [] [0],sv 17 (Ix (X.s.last)) [0,1,2] [2] [],sv 18 (pp b6 3) [0,1] [] [1],⟨[0,1,2,3,4],[4,1],[],[],fun _ => True⟩,sv 19 (pp b6 2) (List.range 6) [] [1],⟨(List.range 7),[6,3],[],[],fun _ => True⟩] [(some 5,[5]),u0,u0,u0,u1 [0,2],(some 1,[1])] [⟨(some 1),(some 3),[3],[],fun _ => rdrR rb (bitsV (U X.s.last) 48 ++ (bitsV (U ((ps.length : Nat) : Int)) 9 ++ (psK ps (bitsV (U ((gs.length : Nat) : Int)) 9 ++ (hsK gs (bitsV (U ((ms.length : Nat) : Int)) 9 ++ (msK ms [])))))))⟩,⟨(some 3),none,[],[],fun _ => rdrR rb (bitsV (U ((ps.length : Nat) : Int)) 9 ++ (psK ps (bitsV (U ((gs.length : Nat) : Int)) 9 ++ (hsK gs (bitsV (U ((ms.length : Nat) : Int)) 9 ++ (msK ms []))))))⟩,⟨(some 5),(some 7),[7],[],fun _ => pt b6 (.cells #[.map (some mp3),.map (some mh4),.int .i64 (0),Ix (X.s.su.a0),Ix (X.s.su.a1),Ix (X.s.su.a2),Ix (X.s.su.a3),.map (some mm5)] 88)⟩,⟨(some 7),none,[],[],fun _ => pt b6 (.cells #[.map (some mp3),.map (some mh4),Ix (X.s.last),Ix (X.s.su.a0),Ix (X.s.su.a1),Ix (X.s.su.a2),Ix (X.s.su.a3),.map (some mm5)] 88)⟩] [(4,pp b2 0),(5,pp b6 0),(2,pp b1 0)] [2,0,1] ⟨rfl,rfl,rfl,trivial⟩ ⟨?_,?_,?_,?_,?_,?_,?_,?_,trivial⟩ ?_
 ·rintro f M - ⟨i0,-⟩
  exact obE (olg 0)
 ·rintro f M ⟨k0,-⟩ -
  refine obS (up_cons (d := 14) rfl k0) ?_
  refine l_call rfl rfl rfl (cl0 (vs := [.agg #[pp rb 0],.int .i64 (63)]) tt136.ok rfl rfl) ?_
  intro w hw
  replace hw := hw.perm (L' := _ :: M) (by exact (perm_front 0 rfl))
  obtain ⟨β1,sb,kn,hw1,back⟩ := St.frame (L := [_]) (M := M) hw
  refine (tamr_ok β1 w rb _ X.s.su 63 hsf.su hw1).mono ?_
  rintro e w' ⟨rfl,hw'⟩
  refine ⟨_,rfl,_,back _ _ hw',?_⟩
  clear hw hw1 hw' back kn sb
  refine l_nil ?_
  exact f_owes_d (up_cons (d := 14) rfl k0) rfl (perm_front 0 rfl)
 ·rintro f M - ⟨i0,-⟩
  exact obE (olg 0)
 ·rintro f M ⟨k0,-⟩ -
  refine obS (up_cons (d := 16) rfl k0) ?_
  refine l_call rfl rfl rfl (cl0 (vs := [.agg #[pp rb 0],.int .i64 (48)]) tt133.ok rfl rfl) ?_
  intro w hw
  replace hw := hw.perm (L' := _ :: M) (by exact (perm_front 0 rfl))
  obtain ⟨β1,sb,kn,hw1,back⟩ := St.frame (L := [_]) (M := M) hw
  refine (tget_ok β1 w rb _ X.s.last 48 hsf.la hw1).mono ?_
  rintro e w' ⟨rfl,hw'⟩
  refine ⟨_,rfl,_,back _ _ hw',?_⟩
  clear hw hw1 hw' back kn sb
  refine l_nil ?_
  exact f_owes_d (up_cons (d := 16) rfl k0) rfl (perm_front 0 rfl)
 ·rintro f M - ⟨i0,-⟩
  exact obE ofp
 ·rintro f M ⟨k0,k1,-⟩ -
  refine obS (up_cons (d := 15) (up_cons (d := 18) rfl k0) k1) ?_
  refine lu (mS 0 (#[.map (some mp3),.map (some mh4),.int .i64 (0),Ix (X.s.su.a0),Ix (X.s.su.a1),Ix (X.s.su.a2),Ix (X.s.su.a3),.map (some mm5)])) ?_
  refine l_nil ?_
  exact f_owes_n (up_cons (d := 15) (up_cons (d := 18) rfl k0) k1) trivial (perm_front 0 rfl)
 ·rintro f M - ⟨i0,-⟩
  exact obE ofp
 ·rintro f M ⟨k0,k1,-⟩ -
  refine obS (up_cons (d := 17) (up_cons (d := 19) rfl k0) k1) ?_
  refine lu (mS 0 (#[.map (some mp3),.map (some mh4),Ix (X.s.last),Ix (X.s.su.a0),Ix (X.s.su.a1),Ix (X.s.su.a2),Ix (X.s.su.a3),.map (some mm5)])) ?_
  refine l_nil ?_
  exact f_owes_n (up_cons (d := 17) (up_cons (d := 19) rfl k0) k1) trivial (perm_front 0 rfl)
 rintro fa7 ⟨-,-,-,-,-,-,-,-,-⟩ ⟨j0,j1,j2,-⟩
 refine fre ?_
 refine f_rebase (d := 2) j0 (f_rebase (d := 4) j1 (f_rebase (d := 5) j2 (fts (csr (lE (olg 3) ?_)))))
 refine l_call rfl rfl rfl (cl0 (vs := [.agg #[pp rb 0],.int .i64 (9)]) tt133.ok rfl rfl) ?_
 intro w hw
 replace hw := hw.perm (L' := _ :: _ :: _ :: _ :: _ :: _ :: _ :: []) (by exact (((((((perm_front 6 rfl).trans (perm_front 5 rfl)).trans (perm_front 5 rfl)).trans (perm_front 5 rfl)).trans (perm_front 5 rfl)).trans (perm_front 5 rfl)).trans (perm_front 6 rfl)))
 obtain ⟨β1,sb,kn,hw1,back⟩ := St.frame (L := [_]) (M := _ :: _ :: _ :: _ :: _ :: _ :: []) hw
 refine (tget_ok β1 w rb _ ((ps.length : Nat) : Int) 9 hsf.pl hw1).mono ?_
 rintro e w' ⟨rfl,hw'⟩
 refine ⟨_,rfl,_,back _ _ hw',?_⟩
 clear hw hw1 hw' back kn sb
 refine lE omi (lnf (c_block ?_))
 refine c_loop (fun (kps : Nat) f L => (f 2 = pp b1 0 ∧ f 4 = pp b2 0 ∧ f 5 = pp b6 0 ∧ f 21 = Nx (ps.length) ∧ f 22 = Nx (kps)) ∧ L = [rdrR rb (psK (ps.drop kps) (bitsV (U ((gs.length : Nat) : Int)) 9 ++ (hsK gs (bitsV (U ((ms.length : Nat) : Int)) 9 ++ (msK ms []))))),mpR PuM mp3 (ps.take kps),mpR HoM mh4 [],mpR MeM mm5 [],pt b2 (.cells #[pp rb 0] 168),pt b1 (.cells #[.map none,.map none,.int .i64 (0),.int .i64 (0),.int .i64 (0),.int .i64 (0),.int .i64 (0),.map none] 88),pt b6 (.cells #[.map (some mp3),.map (some mh4),Ix (X.s.last),Ix (X.s.su.a0),Ix (X.s.su.a1),Ix (X.s.su.a2),Ix (X.s.su.a3),.map (some mm5)] 88)] ∧ (kps ≤ ps.length)) (fun kps => ps.length - kps) 0 ?_ ?_
 ·exact ⟨⟨rfl,rfl,rfl,rfl,rfl⟩,rfl,Nat.zero_le _⟩
 rintro kps f0 L0 ⟨⟨hs2,hs4,hs5,hs21,hs22⟩,hL,hkps⟩
 subst L0
 refine rbs 2 hs2 (rbs 4 hs4 (rbs 5 hs5 (rbs 21 hs21 (rbs 22 hs22 (csr (lE olt (lnf (c_seq (c_if _ rfl (fun hc8 => ?_) (fun hc8 => ?_))))))))))
 ·refine csk (c_seq (c_block (c_seq ?_)))
  obtain ⟨x,hx⟩ : ∃ x,ps[kps]? = some x := ⟨_,List.getElem?_eq_getElem (by omega)⟩
  have hxm := List.mem_of_getElem? hx
  have hxf := hsf.pp x hxm
  refine c_re (L' := [rdrR rb (bitsV (U x.1) 17 ++ (amK x.2 31 (psK (ps.drop (kps + 1)) (bitsV (U ((gs.length : Nat) : Int)) 9 ++ (hsK gs (bitsV (U ((ms.length : Nat) : Int)) 9 ++ (msK ms []))))))),mpR PuM mp3 (ps.take kps),mpR HoM mh4 [],mpR MeM mm5 [],pt b2 (.cells #[pp rb 0] 168),pt b1 (.cells #[.map none,.map none,.int .i64 (0),.int .i64 (0),.int .i64 (0),.int .i64 (0),.int .i64 (0),.map none] 88),pt b6 (.cells #[.map (some mp3),.map (some mh4),Ix (X.s.last),Ix (X.s.su.a0),Ix (X.s.su.a1),Ix (X.s.su.a2),Ix (X.s.su.a3),.map (some mm5)] 88)]) (by rw [psK_next hx]) ?_
  refine c_region (lE (olg 4) (l_call rfl rfl rfl (cl0 (vs := [.agg #[pp rb 0],.int .i64 (17)]) tt133.ok rfl rfl) ?_))
  intro w hw
  replace hw := hw.perm (L' := _ :: _ :: _ :: _ :: _ :: _ :: _ :: []) (by exact (((((((perm_front 6 rfl).trans (perm_front 6 rfl)).trans (perm_front 6 rfl)).trans (perm_front 6 rfl)).trans (perm_front 6 rfl)).trans (perm_front 6 rfl)).trans (perm_front 6 rfl)))
  obtain ⟨β1,sb,kn,hw1,back⟩ := St.frame (L := [_]) (M := _ :: _ :: _ :: _ :: _ :: _ :: []) hw
  refine (tget_ok β1 w rb _ x.1 17 hxf.1 hw1).mono ?_
  rintro e w' ⟨rfl,hw'⟩
  refine ⟨_,rfl,_,back _ _ hw',?_⟩
  clear hw hw1 hw' back kn sb
  refine lE oai (lnf ?_)
  refine cnz [sv 26 (pp b6 0) [] [] [0],sv 27 (.map (some mp3)) [0] [0] [],sv 28 (Ix (x.1)) [] [] [1],sv 29 (.agg #[pp rb 0]) [] [] [2],sv 30 (.agg (amC x.2)) [3] [3] [],⟨[0,1,2,3,4],[1,2,4],[],[],fun _ => True⟩] [(some 4,[4]),(some 5,[5]),u0,u0,u1 [3],u0,u1 [1]] [⟨(some 4),none,[],[],fun _ => rdrR rb (psK (ps.drop (kps + 1)) (bitsV (U ((gs.length : Nat) : Int)) 9 ++ (hsK gs (bitsV (U ((ms.length : Nat) : Int)) 9 ++ (msK ms [])))))⟩,⟨(some 5),none,[],[],fun _ => mpR PuM mp3 (PuM.put (ps.take kps) (x.1) x.2)⟩] [(5,pp b6 0),(6,Ix (x.1)),(4,pp b2 0),(2,pp b1 0),(21,Nx (ps.length)),(22,Nx (kps))] [3,2,0,4,5] ⟨rfl,rfl,rfl,rfl,rfl,rfl,trivial⟩ ⟨?_,?_,?_,?_,?_,?_,trivial⟩ ?_
  ·rintro f M - ⟨i0,-⟩
   exact obE ofp
  ·rintro f M ⟨k0,-⟩ -
   exact obv (L' := pt b6 (.cells #[.map (some mp3),.map (some mh4),Ix (X.s.last),Ix (X.s.su.a0),Ix (X.s.su.a1),Ix (X.s.su.a2),Ix (X.s.su.a3),.map (some mm5)] 88) :: M) (up_cons (d := 26) rfl k0) rfl (e_load1 tt33.ok rfl (k_pt 0 rfl rfl)) (perm_front 0 rfl) (by rfl)
  ·rintro f M - ⟨i0,-⟩
   exact obE omi
  ·rintro f M - ⟨i0,-⟩
   exact obE (olg 0)
  ·rintro f M ⟨k0,-⟩ -
   refine obS (up_cons (d := 29) rfl k0) ?_
   refine l_call rfl rfl rfl (cl0 (vs := [.agg #[pp rb 0],.int .i64 (31)]) tt136.ok rfl rfl) ?_
   intro w hw
   replace hw := hw.perm (L' := _ :: M) (by exact (perm_front 0 rfl))
   obtain ⟨β1,sb,kn,hw1,back⟩ := St.frame (L := [_]) (M := M) hw
   refine (tamr_ok β1 w rb _ x.2 31 hxf.2 hw1).mono ?_
   rintro e w' ⟨rfl,hw'⟩
   refine ⟨_,rfl,_,back _ _ hw',?_⟩
   clear hw hw1 hw' back kn sb
   refine l_nil ?_
   exact f_owes_d (up_cons (d := 29) rfl k0) rfl (perm_front 0 rfl)
  ·rintro f M ⟨k0,k1,k2,-⟩ -
   refine obS (up_cons (d := 30) (up_cons (d := 28) (up_cons (d := 27) rfl k0) k1) k2) ?_
   refine lu (m_mput (K := PuM) (b := mp3) (ks := (ps.take kps)) (k := (x.1)) (v := x.2) 0 rfl rfl rfl rfl rfl) (l_nil ?_)
   exact f_owes_n (up_cons (d := 30) (up_cons (d := 28) (up_cons (d := 27) rfl k0) k1) k2) trivial (perm_front 0 rfl)
  rintro fa9 ⟨-,-,-,-,-,-,-⟩ ⟨j0,j1,j2,j3,j4,-⟩
  refine fre ?_
  refine f_rebase (d := 2) j0 (f_rebase (d := 4) j1 (f_rebase (d := 5) j2 (f_rebase (d := 21) j3 (f_rebase (d := 22) j4 (f_block (f_then (c_region ?_)))))))
  refine lv (v := Nx (kps + 1)) (e_add rfl rfl (i64n (by omega) (by omega))) (lE omi (l_nil (fpn [5,6,0,1,2,3,4] 7 ?_)))
  exact f_cut ⟨kps + 1,⟨⟨rfl,rfl,rfl,rfl,rfl⟩,by rw [put_take hsf.pd hx rfl],(by omega)⟩,(show ps.length - (kps + 1) < ps.length - kps from by omega)⟩
 refine c_exit (f_then_exit (f_then_exit (f_exit (fts (c_seq ?_)))))
 have hkeps : kps = ps.length := by omega
 refine c_re (L' := [rdrR rb (bitsV (U ((gs.length : Nat) : Int)) 9 ++ (hsK gs (bitsV (U ((ms.length : Nat) : Int)) 9 ++ (msK ms [])))),mpR PuM mp3 ps,mpR HoM mh4 [],mpR MeM mm5 [],pt b2 (.cells #[pp rb 0] 168),pt b1 (.cells #[.map none,.map none,.int .i64 (0),.int .i64 (0),.int .i64 (0),.int .i64 (0),.int .i64 (0),.map none] 88),pt b6 (.cells #[.map (some mp3),.map (some mh4),Ix (X.s.last),Ix (X.s.su.a0),Ix (X.s.su.a1),Ix (X.s.su.a2),Ix (X.s.su.a3),.map (some mm5)] 88)]) (by rw [hkeps,List.take_length,List.drop_length]; rfl) ?_
 refine c_region (lE (olg 4) (l_call rfl rfl rfl (cl0 (vs := [.agg #[pp rb 0],.int .i64 (9)]) tt133.ok rfl rfl) ?_))
 intro w hw
 replace hw := hw.perm (L' := _ :: _ :: _ :: _ :: _ :: _ :: _ :: []) (by exact (((((((perm_front 6 rfl).trans (perm_front 6 rfl)).trans (perm_front 6 rfl)).trans (perm_front 6 rfl)).trans (perm_front 6 rfl)).trans (perm_front 6 rfl)).trans (perm_front 6 rfl)))
 obtain ⟨β1,sb,kn,hw1,back⟩ := St.frame (L := [_]) (M := _ :: _ :: _ :: _ :: _ :: _ :: []) hw
 refine (tget_ok β1 w rb _ ((gs.length : Nat) : Int) 9 hsf.hl hw1).mono ?_
 rintro e w' ⟨rfl,hw'⟩
 refine ⟨_,rfl,_,back _ _ hw',?_⟩
 clear hw hw1 hw' back kn sb
 refine lE omi (lnf (c_block ?_))
 refine c_loop (fun (kgs : Nat) f L => (f 2 = pp b1 0 ∧ f 4 = pp b2 0 ∧ f 5 = pp b6 0 ∧ f 33 = Nx (gs.length) ∧ f 34 = Nx (kgs)) ∧ L = [rdrR rb (hsK (gs.drop kgs) (bitsV (U ((ms.length : Nat) : Int)) 9 ++ (msK ms []))),mpR PuM mp3 ps,mpR HoM mh4 (gs.take kgs),mpR MeM mm5 [],pt b2 (.cells #[pp rb 0] 168),pt b1 (.cells #[.map none,.map none,.int .i64 (0),.int .i64 (0),.int .i64 (0),.int .i64 (0),.int .i64 (0),.map none] 88),pt b6 (.cells #[.map (some mp3),.map (some mh4),Ix (X.s.last),Ix (X.s.su.a0),Ix (X.s.su.a1),Ix (X.s.su.a2),Ix (X.s.su.a3),.map (some mm5)] 88)] ∧ (kgs ≤ gs.length)) (fun kgs => gs.length - kgs) 0 ?_ ?_
 ·exact ⟨⟨rfl,rfl,rfl,rfl,rfl⟩,rfl,Nat.zero_le _⟩
 rintro kgs f0 L0 ⟨⟨hs2,hs4,hs5,hs33,hs34⟩,hL,hkgs⟩
 subst L0
 refine rbs 2 hs2 (rbs 4 hs4 (rbs 5 hs5 (rbs 33 hs33 (rbs 34 hs34 (csr (lE olt (lnf (c_seq (c_if _ rfl (fun hc10 => ?_) (fun hc10 => ?_))))))))))
 ·refine csk (c_seq (c_block (c_seq ?_)))
  obtain ⟨x,hx⟩ : ∃ x,gs[kgs]? = some x := ⟨_,List.getElem?_eq_getElem (by omega)⟩
  have hxm := List.mem_of_getElem? hx
  have hxf := hsf.hh x hxm
  refine c_re (L' := [rdrR rb (bitsV (U x.1) 48 ++ (bitsV (U x.2.owner) 17 ++ (amK x.2.a 31 (hsK (gs.drop (kgs + 1)) (bitsV (U ((ms.length : Nat) : Int)) 9 ++ (msK ms [])))))),mpR PuM mp3 ps,mpR HoM mh4 (gs.take kgs),mpR MeM mm5 [],pt b2 (.cells #[pp rb 0] 168),pt b1 (.cells #[.map none,.map none,.int .i64 (0),.int .i64 (0),.int .i64 (0),.int .i64 (0),.int .i64 (0),.map none] 88),pt b6 (.cells #[.map (some mp3),.map (some mh4),Ix (X.s.last),Ix (X.s.su.a0),Ix (X.s.su.a1),Ix (X.s.su.a2),Ix (X.s.su.a3),.map (some mm5)] 88)]) (by rw [hsK_next hx]) ?_
  refine cnz [sv 36 (.agg #[pp rb 0]) [] [] [0],sv 37 (Ix (x.1)) [0] [0] [],sv 38 (.agg #[pp rb 0]) [] [] [0],sv 39 (Ix (x.2.owner)) [0,1,2] [2] [],sv 40 (.agg #[Ix (x.1),Ix (x.2.owner),.int .i64 (0),.int .i64 (0),.int .i64 (0),.int .i64 (0)]) [0,1,2,3] [1,3] [],⟨[],[],[],[7],fun f => f 7 = .pointer (some ⟨(blk (f 7)),0,none⟩)⟩,⟨(List.range 6),[5,4],[],[],fun _ => True⟩] [(some 1,[1]),u0,u0,u0,u1 [0,2]] [⟨(some 1),(some 3),[3],[],fun _ => rdrR rb (bitsV (U x.2.owner) 17 ++ (amK x.2.a 31 (hsK (gs.drop (kgs + 1)) (bitsV (U ((ms.length : Nat) : Int)) 9 ++ (msK ms [])))))⟩,⟨(some 3),none,[],[],fun _ => rdrR rb (amK x.2.a 31 (hsK (gs.drop (kgs + 1)) (bitsV (U ((ms.length : Nat) : Int)) 9 ++ (msK ms []))))⟩,⟨(some 5),(some 6),[6],[7],fun f => pt (blk (f 7)) (.cells #[.int .i64 (0),.int .i64 (0),.int .i64 (0),.int .i64 (0),.int .i64 (0),.int .i64 (0)] 104)⟩,⟨(some 6),none,[],[7],fun f => pt (blk (f 7)) (.cells #[Ix (x.1),Ix (x.2.owner),.int .i64 (0),.int .i64 (0),.int .i64 (0),.int .i64 (0)] 104)⟩] [(4,pp b2 0),(2,pp b1 0),(5,pp b6 0),(33,Nx (gs.length)),(34,Nx (kgs))] [1,0,2,3,4] ⟨rfl,rfl,rfl,rfl,rfl,trivial⟩ ⟨?_,?_,?_,?_,?_,?_,?_,trivial⟩ ?_
  ·rintro f M - ⟨i0,-⟩
   exact obE (olg 0)
  ·rintro f M ⟨k0,-⟩ -
   refine obS (up_cons (d := 36) rfl k0) ?_
   refine l_call rfl rfl rfl (cl0 (vs := [.agg #[pp rb 0],.int .i64 (48)]) tt133.ok rfl rfl) ?_
   intro w hw
   replace hw := hw.perm (L' := _ :: M) (by exact (perm_front 0 rfl))
   obtain ⟨β1,sb,kn,hw1,back⟩ := St.frame (L := [_]) (M := M) hw
   refine (tget_ok β1 w rb _ x.1 48 hxf.1 hw1).mono ?_
   rintro e w' ⟨rfl,hw'⟩
   refine ⟨_,rfl,_,back _ _ hw',?_⟩
   clear hw hw1 hw' back kn sb
   refine l_nil ?_
   exact f_owes_d (up_cons (d := 36) rfl k0) rfl (perm_front 0 rfl)
  ·rintro f M - ⟨i0,-⟩
   exact obE (olg 0)
  ·rintro f M ⟨k0,-⟩ -
   refine obS (up_cons (d := 38) rfl k0) ?_
   refine l_call rfl rfl rfl (cl0 (vs := [.agg #[pp rb 0],.int .i64 (17)]) tt133.ok rfl rfl) ?_
   intro w hw
   replace hw := hw.perm (L' := _ :: M) (by exact (perm_front 0 rfl))
   obtain ⟨β1,sb,kn,hw1,back⟩ := St.frame (L := [_]) (M := M) hw
   refine (tget_ok β1 w rb _ x.2.owner 17 hxf.2.1 hw1).mono ?_
   rintro e w' ⟨rfl,hw'⟩
   refine ⟨_,rfl,_,back _ _ hw',?_⟩
   clear hw hw1 hw' back kn sb
   refine l_nil ?_
   exact f_owes_d (up_cons (d := 38) rfl k0) rfl (perm_front 0 rfl)
  ·rintro f M ⟨k0,k1,-⟩ -
   exact ob0 (up_cons (d := 39) (up_cons (d := 37) rfl k0) k1) rfl (e_build tt42.ok tt41 (vs := [(0,Ix (x.1)),(1,Ix (x.2.owner))]) (cells := #[Ix (x.1),Ix (x.2.owner),.int .i64 (0),.int .i64 (0),.int .i64 (0),.int .i64 (0)]) rfl rfl) (.refl _)
  ·rintro f M - -
   refine obS rfl ?_
   refine alE fun b12 => l_nil ?_
   exact f_owes_d rfl rfl (perm_front 0 rfl)
  ·rintro f M ⟨k0,k1,-⟩ -
   have hs7 : f 7 = .pointer (some ⟨(blk (f 7)),0,none⟩) := k0
   refine obS (up_cons (d := 40) (up_cons rfl hs7) k1) ?_
   refine lu (mS 0 (#[Ix (x.1),Ix (x.2.owner),.int .i64 (0),.int .i64 (0),.int .i64 (0),.int .i64 (0)])) (l_nil ?_)
   exact f_owes_n (up_cons (d := 40) (up_cons rfl hs7) k1) trivial (perm_front 0 rfl)
  rintro fa13 ⟨-,-,-,-,-,k5,-,-⟩ ⟨j0,j1,j2,j3,j4,-⟩
  refine fre ?_
  refine f_rebase (d := 2) j0 (f_rebase (d := 4) j1 (f_rebase (d := 5) j2 (f_rebase (d := 7) k5 (f_rebase (d := 33) j3 (f_rebase (d := 34) j4 (ftc ?_))))))
  refine lE (olg 3) (l_call rfl rfl rfl (cl0 (vs := [.agg #[pp rb 0],.int .i64 (31)]) tt136.ok rfl rfl) ?_)
  intro w hw
  replace hw := hw.perm (L' := _ :: _ :: _ :: _ :: _ :: _ :: _ :: _ :: []) (by exact ((((((((perm_front 7 rfl).trans (perm_front 6 rfl)).trans (perm_front 6 rfl)).trans (perm_front 6 rfl)).trans (perm_front 6 rfl)).trans (perm_front 6 rfl)).trans (perm_front 6 rfl)).trans (perm_front 7 rfl)))
  obtain ⟨β1,sb,kn,hw1,back⟩ := St.frame (L := [_]) (M := _ :: _ :: _ :: _ :: _ :: _ :: _ :: []) hw
  refine (tamr_ok β1 w rb _ x.2.a 31 hxf.2.2.1 hw1).mono ?_
  rintro e w' ⟨rfl,hw'⟩
  refine ⟨_,rfl,_,back _ _ hw',?_⟩
  clear hw hw1 hw' back kn sb
  refine lE ofp (lu (mS 7 (#[Ix (x.1),Ix (x.2.owner),Ix (x.2.a.a0),Ix (x.2.a.a1),Ix (x.2.a.a2),Ix (x.2.a.a3)])) (lnr (lE ofp ?_)))
  refine lv (v := .map (some mh4)) (e_load1 tt39.ok rfl (k_pt 6 rfl rfl)) (lE ofp (lE (oli 7) (lE (olg 7) ?_)))
  refine lu (m_mput (K := HoM) (b := mh4) (ks := (gs.take kgs)) (k := (x.1)) (v := (⟨x.1,x.2.owner,x.2.a⟩ : KHo)) 2 rfl rfl rfl rfl rfl) (l_nil ?_)
  refine f_block (f_then (c_region (lv (v := Nx (kgs + 1)) (e_add rfl rfl (i64n (by omega) (by omega))) (lE omi (l_nil ?_)))))
  refine f_mask (L' := [rdrR rb (hsK (gs.drop (kgs + 1)) (bitsV (U ((ms.length : Nat) : Int)) 9 ++ (msK ms []))),mpR PuM mp3 ps,mpR HoM mh4 (HoM.put (gs.take kgs) (x.1) (⟨x.1,x.2.owner,x.2.a⟩ : KHo)),mpR MeM mm5 [],pt b2 (.cells #[pp rb 0] 168),pt b1 (.cells #[.map none,.map none,.int .i64 (0),.int .i64 (0),.int .i64 (0),.int .i64 (0),.int .i64 (0),.map none] 88),pt b6 (.cells #[.map (some mp3),.map (some mh4),Ix (X.s.last),Ix (X.s.su.a0),Ix (X.s.su.a1),Ix (X.s.su.a2),Ix (X.s.su.a3),.map (some mm5)] 88)]) [true,true,true,true,true,true,true,false] rfl ?_
  exact f_cut ⟨kgs + 1,⟨⟨rfl,rfl,rfl,rfl,rfl⟩,by rw [ho_num hxf.2.2.2,put_take hsf.hd hx rfl],(by omega)⟩,(show gs.length - (kgs + 1) < gs.length - kgs from by omega)⟩
 refine c_exit (f_then_exit (f_then_exit (f_exit (fts ?_))))
 have hkegs : kgs = gs.length := by omega
 refine c_re (L' := [rdrR rb (bitsV (U ((ms.length : Nat) : Int)) 9 ++ (msK ms [])),mpR PuM mp3 ps,mpR HoM mh4 gs,mpR MeM mm5 [],pt b2 (.cells #[pp rb 0] 168),pt b1 (.cells #[.map none,.map none,.int .i64 (0),.int .i64 (0),.int .i64 (0),.int .i64 (0),.int .i64 (0),.map none] 88),pt b6 (.cells #[.map (some mp3),.map (some mh4),Ix (X.s.last),Ix (X.s.su.a0),Ix (X.s.su.a1),Ix (X.s.su.a2),Ix (X.s.su.a3),.map (some mm5)] 88)]) (by rw [hkegs,List.take_length,List.drop_length]; rfl) ?_
 refine c_region (lE oab (lnf (cs2 (c_emp (r := memR []) memR_nil (c_region (lE (olg 5) ?_))))))
 refine l_call rfl rfl rfl (cl0 (vs := [.agg #[pp rb 0],.int .i64 (9)]) tt133.ok rfl rfl) ?_
 intro w hw
 replace hw := hw.perm (L' := _ :: _ :: _ :: _ :: _ :: _ :: _ :: _ :: []) (by exact ((((((((perm_front 7 rfl).trans (perm_front 7 rfl)).trans (perm_front 7 rfl)).trans (perm_front 7 rfl)).trans (perm_front 7 rfl)).trans (perm_front 7 rfl)).trans (perm_front 6 rfl)).trans (perm_front 7 rfl)))
 obtain ⟨β1,sb,kn,hw1,back⟩ := St.frame (L := [_]) (M := _ :: _ :: _ :: _ :: _ :: _ :: _ :: []) hw
 refine (tget_ok β1 w rb _ ((ms.length : Nat) : Int) 9 hsf.ml hw1).mono ?_
 rintro e w' ⟨rfl,hw'⟩
 refine ⟨_,rfl,_,back _ _ hw',?_⟩
 clear hw hw1 hw' back kn sb
 refine lE omi (lnf (c_block ?_))
 refine c_loop (fun (x_ : Nat × List (KMh × KMem)) f L => match x_ with | (kms,LL) => (f 2 = pp b1 0 ∧ f 4 = pp b2 0 ∧ f 5 = pp b6 0 ∧ f 8 = .bool true ∧ f 51 = Nx (ms.length) ∧ f 52 = Nx (kms)) ∧ L = [rdrR rb (msK (ms.drop kms) []),memR LL,mpR PuM mp3 ps,mpR HoM mh4 gs,mpR MeM mm5 (hdl LL),pt b2 (.cells #[pp rb 0] 168),pt b1 (.cells #[.map none,.map none,.int .i64 (0),.int .i64 (0),.int .i64 (0),.int .i64 (0),.int .i64 (0),.map none] 88),pt b6 (.cells #[.map (some mp3),.map (some mh4),Ix (X.s.last),Ix (X.s.su.a0),Ix (X.s.su.a1),Ix (X.s.su.a2),Ix (X.s.su.a3),.map (some mm5)] 88)] ∧ (kms ≤ ms.length ∧ mml LL = ms.take kms ∧ ∀ z ∈ LL,HdOf z)) (fun (kms,LL) => ms.length - kms) (0,[]) ?_ ?_
 ·exact ⟨⟨rfl,rfl,rfl,rfl,rfl,rfl⟩,rfl,⟨Nat.zero_le _,rfl,fun z hz => by cases hz⟩⟩
 rintro ⟨kms,LL⟩ f0 L0 ⟨⟨hs2,hs4,hs5,hs8,hs51,hs52⟩,hL,⟨hkms,hml,hho⟩⟩
 subst L0
 refine rbs 2 hs2 (rbs 4 hs4 (rbs 5 hs5 (rbs 8 hs8 (rbs 51 hs51 (rbs 52 hs52 (csr (lE olt (lnf (c_seq (c_if _ rfl (fun hc14 => ?_) (fun hc14 => ?_)))))))))))
 ·refine csk (c_seq (c_block (c_seq ?_)))
  obtain ⟨x,hx⟩ : ∃ x,ms[kms]? = some x := ⟨_,List.getElem?_eq_getElem (by omega)⟩
  have hxm := List.mem_of_getElem? hx
  have hmk := hsf.mm x hxm
  have hmf := mem_fit hmk hla
  have hdf16 := hmf.d.few
  refine c_re (L' := [rdrR rb (dealK x.2.d.author x.2.d.number x.2.d.acts (bitsV (U ((x.2.r.holds.length : Nat) : Int)) 9 ++ (nsK x.2.r.holds (bitsV (U x.2.r.at_) 9 ++ (bitsV (U x.2.r.e) 16 ++ (msK (ms.drop (kms + 1)) [])))))),memR LL,mpR PuM mp3 ps,mpR HoM mh4 gs,mpR MeM mm5 (hdl LL),pt b2 (.cells #[pp rb 0] 168),pt b1 (.cells #[.map none,.map none,.int .i64 (0),.int .i64 (0),.int .i64 (0),.int .i64 (0),.int .i64 (0),.map none] 88),pt b6 (.cells #[.map (some mp3),.map (some mh4),Ix (X.s.last),Ix (X.s.su.a0),Ix (X.s.su.a1),Ix (X.s.su.a2),Ix (X.s.su.a3),.map (some mm5)] 88)]) (by rw [msK_next hx]; rfl) ?_
  refine c_region (lE (olg 5) (l_call rfl rfl rfl (cl0 (vs := [.agg #[pp rb 0]]) tt143.ok rfl rfl) ?_))
  intro w hw
  replace hw := hw.perm (L' := _ :: _ :: _ :: _ :: _ :: _ :: _ :: _ :: []) (by exact ((((((((perm_front 7 rfl).trans (perm_front 7 rfl)).trans (perm_front 7 rfl)).trans (perm_front 7 rfl)).trans (perm_front 7 rfl)).trans (perm_front 7 rfl)).trans (perm_front 7 rfl)).trans (perm_front 7 rfl)))
  obtain ⟨β1,sb,kn,hw1,back⟩ := St.frame (L := [_]) (M := _ :: _ :: _ :: _ :: _ :: _ :: _ :: []) hw
  refine (dealr_ok β1 w rb x.2.d.author x.2.d.number x.2.d.acts _ hmf.d hw1).mono ?_
  rintro e w' ⟨p15,c16,rfl,hw'⟩
  refine ⟨_,rfl,_,back _ _ hw',?_⟩
  clear hw hw1 hw' back kn sb
  refine lv (v := .agg #[Ix (x.2.d.author),Ix (x.2.d.number),sB p15 x.2.d.acts c16,.bool false,.int .i64 (0),.int .i64 (0),.slice none 0 0]) (e_build tt67.ok tt66 (vs := [(0,.agg #[Ix (x.2.d.author),Ix (x.2.d.number),sB p15 x.2.d.acts c16])]) (cells := #[Ix (x.2.d.author),Ix (x.2.d.number),sB p15 x.2.d.acts c16,.bool false,.int .i64 (0),.int .i64 (0),.slice none 0 0]) rfl (by kernel_rfl)) ?_
  refine alE fun b17 => ?_
  refine lu (mS 0 (#[Ix (x.2.d.author),Ix (x.2.d.number),sB p15 x.2.d.acts c16,.bool false,.int .i64 (0),.int .i64 (0),.slice none 0 0])) (lnf (cs2 ?_))
  refine c_emp (r := rowF IntF 3 none 0 []) (row_nil _ _ _) (c_region (lE (olg 8) ?_))
  refine l_call rfl rfl rfl (cl0 (vs := [.agg #[pp rb 0],.int .i64 (9)]) tt133.ok rfl rfl) ?_
  intro w hw
  replace hw := hw.perm (L' := [rdrR rb (bitsV (U ((x.2.r.holds.length : Nat) : Int)) 9 ++ (nsK x.2.r.holds (bitsV (U x.2.r.at_) 9 ++ (bitsV (U x.2.r.e) 16 ++ (msK (ms.drop (kms + 1)) []))))),rowF IntF 3 none 0 [],pt b17 (.cells #[Ix (x.2.d.author),Ix (x.2.d.number),sB p15 x.2.d.acts c16,.bool false,.int .i64 (0),.int .i64 (0),.slice none (0) 0] 82),rowF ActF 47 p15 c16 x.2.d.acts,memR LL,mpR PuM mp3 ps,mpR HoM mh4 gs,mpR MeM mm5 (hdl LL),pt b2 (.cells #[pp rb 0] 168),pt b1 (.cells #[.map none,.map none,.int .i64 (0),.int .i64 (0),.int .i64 (0),.int .i64 (0),.int .i64 (0),.map none] 88),pt b6 (.cells #[.map (some mp3),.map (some mh4),Ix (X.s.last),Ix (X.s.su.a0),Ix (X.s.su.a1),Ix (X.s.su.a2),Ix (X.s.su.a3),.map (some mm5)] 88)]) (by exact (perm_ix [3,0,1,2,4,5,6,7,8,9,10] 11 rfl (by kernel_rfl) (by kernel_rfl)))
  obtain ⟨β1,sb,kn,hw1,back⟩ := St.frame (L := [_]) (M := _ :: _ :: _ :: _ :: _ :: _ :: _ :: _ :: _ :: _ :: []) hw
  refine (tget_ok β1 w rb _ ((x.2.r.holds.length : Nat) : Int) 9 hmf.l hw1).mono ?_
  rintro e w' ⟨rfl,hw'⟩
  refine ⟨_,rfl,_,back _ _ hw',?_⟩
  clear hw hw1 hw' back kn sb
  refine lE omi (lnf (c_block ?_))
  refine c_loop (fun (x_ : Nat × List Int × Option Addr × Nat) f L => match x_ with | (j,hl,q,d) => (f 2 = pp b1 0 ∧ f 4 = pp b2 0 ∧ f 5 = pp b6 0 ∧ f 8 = .bool true ∧ f 9 = pp b17 0 ∧ f 51 = Nx (ms.length) ∧ f 52 = Nx (kms) ∧ f 58 = Nx (x.2.r.holds.length) ∧ f 59 = Nx (j)) ∧ L = [rdrR rb (nsK (x.2.r.holds.drop j) (bitsV (U x.2.r.at_) 9 ++ (bitsV (U x.2.r.e) 16 ++ (msK (ms.drop (kms + 1)) [])))),rowF IntF 3 q d hl,pt b17 (.cells #[Ix (x.2.d.author),Ix (x.2.d.number),sB p15 x.2.d.acts c16,.bool false,.int .i64 (0),.int .i64 (0),sB q hl d] 82),rowF ActF 47 p15 c16 x.2.d.acts,memR LL,mpR PuM mp3 ps,mpR HoM mh4 gs,mpR MeM mm5 (hdl LL),pt b2 (.cells #[pp rb 0] 168),pt b1 (.cells #[.map none,.map none,.int .i64 (0),.int .i64 (0),.int .i64 (0),.int .i64 (0),.int .i64 (0),.map none] 88),pt b6 (.cells #[.map (some mp3),.map (some mh4),Ix (X.s.last),Ix (X.s.su.a0),Ix (X.s.su.a1),Ix (X.s.su.a2),Ix (X.s.su.a3),.map (some mm5)] 88)] ∧ (j ≤ x.2.r.holds.length ∧ hl = x.2.r.holds.take j)) (fun (j,hl,q,d) => x.2.r.holds.length - j) (0,[],none,0) ?_ ?_
  ·exact ⟨⟨rfl,rfl,rfl,rfl,rfl,rfl,rfl,rfl,rfl⟩,rfl,⟨Nat.zero_le _,rfl⟩⟩
  rintro ⟨j,hl,q,d⟩ f0 L0 ⟨⟨hs2,hs4,hs5,hs8,hs9,hs51,hs52,hs58,hs59⟩,hL,⟨hj,hhl⟩⟩
  subst L0
  refine rbs 2 hs2 (rbs 4 hs4 (rbs 5 hs5 (rbs 8 hs8 (rbs 9 hs9 (rbs 51 hs51 (rbs 52 hs52 (rbs 58 hs58 (rbs 59 hs59 ?_))))))))
  have hhn : hl.length = j := by rw [hhl,List.length_take]; omega
  have hf16 := hmf.few
  refine csr (lE olt (lnf (c_seq (c_if _ rfl (fun hc18 => ?_) (fun hc18 => ?_)))))
  ·refine csk (c_seq (c_block ?_))
   obtain ⟨y,hy⟩ : ∃ y,x.2.r.holds[j]? = some y := ⟨_,List.getElem?_eq_getElem (by omega)⟩
   have hyf := hmf.h y (List.mem_of_getElem? hy)
   refine c_re (L' := [rdrR rb (bitsV (U y) 48 ++ (nsK (x.2.r.holds.drop (j + 1)) (bitsV (U x.2.r.at_) 9 ++ (bitsV (U x.2.r.e) 16 ++ (msK (ms.drop (kms + 1)) []))))),rowF IntF 3 q d hl,pt b17 (.cells #[Ix (x.2.d.author),Ix (x.2.d.number),sB p15 x.2.d.acts c16,.bool false,.int .i64 (0),.int .i64 (0),sB q hl d] 82),rowF ActF 47 p15 c16 x.2.d.acts,memR LL,mpR PuM mp3 ps,mpR HoM mh4 gs,mpR MeM mm5 (hdl LL),pt b2 (.cells #[pp rb 0] 168),pt b1 (.cells #[.map none,.map none,.int .i64 (0),.int .i64 (0),.int .i64 (0),.int .i64 (0),.int .i64 (0),.map none] 88),pt b6 (.cells #[.map (some mp3),.map (some mh4),Ix (X.s.last),Ix (X.s.su.a0),Ix (X.s.su.a1),Ix (X.s.su.a2),Ix (X.s.su.a3),.map (some mm5)] 88)]) (by rw [nsK_next hy]) ?_
   refine cnz [sv 61 (pp b17 3) [] [] [0],sv 62 (pp b17 6) [0] [0] [],sv 63 (sB q hl d) [0,1] [1] [],sv 64 (.agg #[pp rb 0]) [] [] [1],sv 65 (Ix (y)) [3] [3] [],⟨[3,4],[4],[],[66],fun f => f 66 = .slice (some ⟨(blk (f 66)),0,none⟩) 1 1⟩,⟨(List.range 6),[2,5],[],[67],fun f => f 67 = sB (sla (f 67)) (hl ++ [y]) (slc (f 67))⟩,sv 68 (pp b17 3) (List.range 7) [] [0],sv 69 (pp b17 6) (List.range 8) [7] [],⟨(List.range 9),[8,6],[],[],fun _ => True⟩] [(some 4,[4]),(some 6,[6]),(some 9,[2,9]),u0,u0,u0,u0,u0,u1 [3]] [⟨(some 4),none,[],[],fun _ => rdrR rb (nsK (x.2.r.holds.drop (j + 1)) (bitsV (U x.2.r.at_) 9 ++ (bitsV (U x.2.r.e) 16 ++ (msK (ms.drop (kms + 1)) []))))⟩,⟨(some 5),none,[6],[66],fun f => pt (blk (f 66)) (.cells #[Ix (y)] 3)⟩,⟨(some 6),none,[],[67],fun f => rowF IntF 3 (sla (f 67)) (slc (f 67)) (hl ++ [y])⟩,⟨(some 9),none,[],[67],fun f => pt b17 (.cells #[Ix (x.2.d.author),Ix (x.2.d.number),sB p15 x.2.d.acts c16,.bool false,.int .i64 (0),.int .i64 (0),sB (sla (f 67)) (hl ++ [y]) (slc (f 67))] 82)⟩] [(9,pp b17 0),(4,pp b2 0),(2,pp b1 0),(5,pp b6 0),(8,.bool true),(51,Nx (ms.length)),(52,Nx (kms)),(58,Nx (x.2.r.holds.length)),(59,Nx (j))] [2,1,3,4,0,5,6,7,8] ⟨rfl,rfl,rfl,rfl,rfl,rfl,rfl,rfl,rfl,trivial⟩ ⟨?_,?_,?_,?_,?_,?_,?_,?_,?_,?_,trivial⟩ ?_
   ·rintro f M - ⟨i0,-⟩
    exact obE ofp
   ·rintro f M ⟨k0,-⟩ -
    exact obE ofp
   ·rintro f M ⟨k0,-⟩ -
    exact obE (ols 0)
   ·rintro f M - ⟨i0,-⟩
    exact obE (olg 0)
   ·rintro f M ⟨k0,-⟩ -
    refine obS (up_cons (d := 64) rfl k0) ?_
    refine l_call rfl rfl rfl (cl0 (vs := [.agg #[pp rb 0],.int .i64 (48)]) tt133.ok rfl rfl) ?_
    intro w hw
    replace hw := hw.perm (L' := _ :: M) (by exact (perm_front 0 rfl))
    obtain ⟨β1,sb,kn,hw1,back⟩ := St.frame (L := [_]) (M := M) hw
    refine (tget_ok β1 w rb _ y 48 hyf hw1).mono ?_
    rintro e w' ⟨rfl,hw'⟩
    refine ⟨_,rfl,_,back _ _ hw',?_⟩
    clear hw hw1 hw' back kn sb
    refine l_nil ?_
    exact f_owes_d (up_cons (d := 64) rfl k0) rfl (perm_front 0 rfl)
   ·rintro f M ⟨k0,-⟩ -
    refine obS (up_cons (d := 65) rfl k0) ?_
    refine l_mv rfl rfl rfl (m_slices tt29 tt64.ok (cells := #[Ix (y)]) rfl rfl rfl rfl) ?_
    rintro _ _ ⟨b20,rfl,rfl⟩
    refine l_nil ?_
    exact f_owes_d (up_cons (d := 65) rfl k0) rfl (perm_front 0 rfl)
   ·rintro f M ⟨k0,k1,-⟩ -
    have hs66 : f 66 = .slice (some ⟨(blk (f 66)),0,none⟩) 1 1 := k1
    refine obS (up_cons (up_cons (d := 63) rfl k0) hs66) ?_
    refine l_mv rfl rfl rfl (m_appendFlN (F := IntF) 0 tt29 tt31 (p := q) (m := hl.length) (xs := hl) (ys := [y]) (ao := (some ⟨(blk (f 66)),0,none⟩)) (k := 1) (c := 1) rfl rfl rfl rfl rfl (k_ptFl (z := y) 1 rfl rfl) (by first | omega | simp only [List.length_nil,List.length_cons,List.length_append,List.length_set]; omega) (by first | omega | simp only [List.length_nil,List.length_cons,List.length_append,List.length_set]; omega)) ?_
    rintro _ _ ⟨rp23,rc24,rfl,rfl⟩
    refine l_nil ?_
    exact f_owes_d (up_cons (up_cons (d := 63) rfl k0) hs66) rfl ((perm_front 0 rfl).trans (perm_front 1 rfl))
   ·rintro f M - ⟨i0,-⟩
    exact obE ofp
   ·rintro f M ⟨k0,-⟩ -
    exact obE ofp
   ·rintro f M ⟨k0,k1,-⟩ -
    have hs67 : f 67 = sB (sla (f 67)) (hl ++ [y]) (slc (f 67)) := k1
    refine obS (up_cons (up_cons (d := 69) rfl k0) hs67) ?_
    refine lu (mS 0 (#[Ix (x.2.d.author),Ix (x.2.d.number),sB p15 x.2.d.acts c16,.bool false,.int .i64 (0),.int .i64 (0),sB (sla (f 67)) (hl ++ [y]) (slc (f 67))])) ?_
    refine l_nil ?_
    exact f_owes_n (up_cons (up_cons (d := 69) rfl k0) hs67) trivial (perm_front 0 rfl)
   rintro fa25 ⟨-,-,-,-,-,-,-,-,-,-,-⟩ ⟨j0,j1,j2,j3,j4,j5,j6,j7,j8,-⟩
   refine fre ?_
   refine f_rebase (d := 2) j0 (f_rebase (d := 4) j1 (f_rebase (d := 5) j2 (f_rebase (d := 8) j3 (f_rebase (d := 9) j4 (f_rebase (d := 51) j5 ?_)))))
   refine f_rebase (d := 52) j6 (f_rebase (d := 58) j7 (f_rebase (d := 59) j8 (f_block (f_then (c_region ?_)))))
   refine lv (v := Nx (j + 1)) (e_add rfl rfl (i64n (by omega) (by omega))) (lE omi (l_nil (fpn [8,10,11,0,1,2,3,4,5,6,7,9] 12 ?_)))
   refine f_mask [true,true,true,true,true,true,true,true,true,true,true,false] rfl ?_
   exact f_cut ⟨(j + 1,(hl ++ [y]),(sla (fa25 67)),(slc (fa25 67))),⟨⟨rfl,rfl,rfl,rfl,rfl,rfl,rfl,rfl,rfl⟩,rfl,⟨by omega,by rw [hhl]; exact tk_next hy⟩⟩,(show x.2.r.holds.length - (j + 1) < x.2.r.holds.length - j from by omega)⟩
  refine c_exit (f_then_exit (f_then_exit (f_exit (fts ?_))))
  have hje : j = x.2.r.holds.length := by omega
  replace hhl : hl = x.2.r.holds := by rw [hhl,hje,List.take_length]
  refine c_re (L' := [rdrR rb (bitsV (U x.2.r.at_) 9 ++ (bitsV (U x.2.r.e) 16 ++ (msK (ms.drop (kms + 1)) []))),rowF IntF 3 q d hl,pt b17 (.cells #[Ix (x.2.d.author),Ix (x.2.d.number),sB p15 x.2.d.acts c16,.bool false,.int .i64 (0),.int .i64 (0),sB q hl d] 82),rowF ActF 47 p15 c16 x.2.d.acts,memR LL,mpR PuM mp3 ps,mpR HoM mh4 gs,mpR MeM mm5 (hdl LL),pt b2 (.cells #[pp rb 0] 168),pt b1 (.cells #[.map none,.map none,.int .i64 (0),.int .i64 (0),.int .i64 (0),.int .i64 (0),.int .i64 (0),.map none] 88),pt b6 (.cells #[.map (some mp3),.map (some mh4),Ix (X.s.last),Ix (X.s.su.a0),Ix (X.s.su.a1),Ix (X.s.su.a2),Ix (X.s.su.a3),.map (some mm5)] 88)]) (by rw [hje,List.drop_length]; rfl) ?_
  refine cnz [sv 71 (.agg #[pp rb 0]) [] [] [0],sv 72 (Ix (x.2.r.at_)) [0] [0] [],sv 73 (.agg #[pp rb 0]) [] [] [0],sv 74 (Ix (x.2.r.e)) [0,1,2] [2] [],sv 75 (pp b17 3) [0,1] [] [1],sv 76 (pp b17 4) [0,1,4] [4] [],⟨(List.range 6),[5,1],[],[],fun _ => True⟩,sv 77 (pp b17 3) (List.range 7) [] [1],sv 78 (pp b17 5) (List.range 8) [7] [],⟨(List.range 9),[8,3],[],[],fun _ => True⟩] [(some 1,[1]),u0,(some 6,[6]),u0,u0,u0,u0,u0,u1 [0,2]] [⟨(some 1),(some 3),[3],[],fun _ => rdrR rb (bitsV (U x.2.r.e) 16 ++ (msK (ms.drop (kms + 1)) []))⟩,⟨(some 3),none,[],[],fun _ => rdrR rb (msK (ms.drop (kms + 1)) [])⟩,⟨(some 6),(some 9),[9],[],fun _ => pt b17 (.cells #[Ix (x.2.d.author),Ix (x.2.d.number),sB p15 x.2.d.acts c16,.bool false,Ix (x.2.r.at_),.int .i64 (0),sB q hl d] 82)⟩,⟨(some 9),none,[],[],fun _ => pt b17 (.cells #[Ix (x.2.d.author),Ix (x.2.d.number),sB p15 x.2.d.acts c16,.bool false,Ix (x.2.r.at_),Ix (x.2.r.e),sB q hl d] 82)⟩] [(4,pp b2 0),(9,pp b17 0),(2,pp b1 0),(5,pp b6 0),(8,.bool true),(51,Nx (ms.length)),(52,Nx (kms))] [2,0,3,4,1,5,6] ⟨rfl,rfl,rfl,rfl,rfl,rfl,rfl,trivial⟩ ⟨?_,?_,?_,?_,?_,?_,?_,?_,?_,?_,trivial⟩ ?_
  ·rintro f M - ⟨i0,-⟩
   exact obE (olg 0)
  ·rintro f M ⟨k0,-⟩ -
   refine obS (up_cons (d := 71) rfl k0) ?_
   refine l_call rfl rfl rfl (cl0 (vs := [.agg #[pp rb 0],.int .i64 (9)]) tt133.ok rfl rfl) ?_
   intro w hw
   replace hw := hw.perm (L' := _ :: M) (by exact (perm_front 0 rfl))
   obtain ⟨β1,sb,kn,hw1,back⟩ := St.frame (L := [_]) (M := M) hw
   refine (tget_ok β1 w rb _ x.2.r.at_ 9 hmf.at_ hw1).mono ?_
   rintro e w' ⟨rfl,hw'⟩
   refine ⟨_,rfl,_,back _ _ hw',?_⟩
   clear hw hw1 hw' back kn sb
   refine l_nil ?_
   exact f_owes_d (up_cons (d := 71) rfl k0) rfl (perm_front 0 rfl)
  ·rintro f M - ⟨i0,-⟩
   exact obE (olg 0)
  ·rintro f M ⟨k0,-⟩ -
   refine obS (up_cons (d := 73) rfl k0) ?_
   refine l_call rfl rfl rfl (cl0 (vs := [.agg #[pp rb 0],.int .i64 (16)]) tt133.ok rfl rfl) ?_
   intro w hw
   replace hw := hw.perm (L' := _ :: M) (by exact (perm_front 0 rfl))
   obtain ⟨β1,sb,kn,hw1,back⟩ := St.frame (L := [_]) (M := M) hw
   refine (tget_ok β1 w rb _ x.2.r.e 16 hmf.e hw1).mono ?_
   rintro e w' ⟨rfl,hw'⟩
   refine ⟨_,rfl,_,back _ _ hw',?_⟩
   clear hw hw1 hw' back kn sb
   refine l_nil ?_
   exact f_owes_d (up_cons (d := 73) rfl k0) rfl (perm_front 0 rfl)
  ·rintro f M - ⟨i0,-⟩
   exact obE ofp
  ·rintro f M ⟨k0,-⟩ -
   exact obE ofp
  ·rintro f M ⟨k0,k1,-⟩ -
   refine obS (up_cons (d := 72) (up_cons (d := 76) rfl k0) k1) ?_
   refine lu (mS 0 (#[Ix (x.2.d.author),Ix (x.2.d.number),sB p15 x.2.d.acts c16,.bool false,Ix (x.2.r.at_),.int .i64 (0),sB q hl d])) (l_nil ?_)
   exact f_owes_n (up_cons (d := 72) (up_cons (d := 76) rfl k0) k1) trivial (perm_front 0 rfl)
  ·rintro f M - ⟨i0,-⟩
   exact obE ofp
  ·rintro f M ⟨k0,-⟩ -
   exact obE ofp
  ·rintro f M ⟨k0,k1,-⟩ -
   refine obS (up_cons (d := 74) (up_cons (d := 78) rfl k0) k1) ?_
   refine lu (mS 0 (#[Ix (x.2.d.author),Ix (x.2.d.number),sB p15 x.2.d.acts c16,.bool false,Ix (x.2.r.at_),Ix (x.2.r.e),sB q hl d])) (l_nil ?_)
   exact f_owes_n (up_cons (d := 74) (up_cons (d := 78) rfl k0) k1) trivial (perm_front 0 rfl)
  rintro fa26 ⟨-,-,-,-,-,-,-,-,-,-,-⟩ ⟨j0,j1,j2,j3,j4,j5,j6,-⟩
  refine fre ?_
  refine f_rebase (d := 2) j0 (f_rebase (d := 4) j1 (f_rebase (d := 5) j2 (f_rebase (d := 8) j3 (f_rebase (d := 9) j4 (f_rebase (d := 51) j5 ?_)))))
  refine f_rebase (d := 52) j6 (ftc (lE ofp (lE ofp (lE (oli 10) (lE oeq_ (lE ofp (lE ofp ?_)))))))
  refine lu (mS 10 (#[Ix (x.2.d.author),Ix (x.2.d.number),sB p15 x.2.d.acts c16,.bool (decide ((x.2.r.e) = (0 : Int))),Ix (x.2.r.at_),Ix (x.2.r.e),sB q hl d])) ?_
  refine lnc (lE omb (lE omb (gE ofp (gE (olg 10) ?_))))
  refine g_call rfl rfl rfl rfl rfl (cl0 (vs := [.agg #[Ix (x.2.d.author),Ix (x.2.d.number),sB p15 x.2.d.acts c16]]) tt102.ok rfl rfl) ?_
  intro w hw
  obtain ⟨β1,sb,kn,hw1,back⟩ := St.frame_all hw
  refine (dformed_ok β1 w hw1 x.2.d.author x.2.d.number _ x.2.d.acts (kn _ (k_flN 1 (F := ActF) (m := x.2.d.acts.length) rfl rfl))).mono ?_
  rintro e w' ⟨rfl,hw'⟩
  refine ⟨_,rfl,_,back _ _ hw',?_⟩
  clear hw hw1 hw' back kn sb
  refine lE oktb (lE oab (lnr (lE ofp (lv (v := .map (some mm5)) (e_load1 tt58.ok rfl (k_pt 8 rfl rfl)) (lE ofp (lE ofp (lE (oli 10) (lE (olg 10) ?_))))))))
  refine lu (m_mput (K := MeM) (b := mm5) (ks := (hdl LL)) (k := (x.2.d.author)) (v := (⟨x.2.d.author,x.2.d.number,p15,x.2.d.acts.length,c16,(decide ((x.2.r.e) = (0 : Int))),x.2.r.at_,x.2.r.e,q,hl.length,d⟩ : KMh)) 5 rfl rfl rfl rfl rfl) ?_
  refine l_nil (f_block (f_then (c_region (lv (v := Nx (kms + 1)) (e_add rfl rfl (i64n (by omega) (by omega))) (lE omi (l_nil ?_))))))
  refine fpn [1,0,2,3,4,5,6,7,8,9,10] 11 ?_
  refine f_merge (L := [rowF ActF 47 p15 c16 x.2.d.acts,rowF IntF 3 q d hl,memR LL]) (M := [mpR PuM mp3 ps,mpR HoM mh4 gs,mpR MeM mm5 (MeM.put (hdl LL) (x.2.d.author) (⟨x.2.d.author,x.2.d.number,p15,x.2.d.acts.length,c16,(decide ((x.2.r.e) = (0 : Int))),x.2.r.at_,x.2.r.e,q,hl.length,d⟩ : KMh)),pt b2 (.cells #[pp rb 0] 168),pt b1 (.cells #[.map none,.map none,.int .i64 (0),.int .i64 (0),.int .i64 (0),.int .i64 (0),.int .i64 (0),.map none] 88),pt b6 (.cells #[.map (some mp3),.map (some mh4),Ix (X.s.last),Ix (X.s.su.a0),Ix (X.s.su.a1),Ix (X.s.su.a2),Ix (X.s.su.a3),.map (some mm5)] 88),rdrR rb (msK (ms.drop (kms + 1)) []),pt b17 (.cells #[Ix (x.2.d.author),Ix (x.2.d.number),sB p15 x.2.d.acts c16,.bool (decide ((x.2.r.e) = (0 : Int))),Ix (x.2.r.at_),Ix (x.2.r.e),sB q hl d] 82)]) (r := memR (LL ++ [((⟨x.2.d.author,x.2.d.number,p15,x.2.d.acts.length,c16,(decide ((x.2.r.e) = (0 : Int))),x.2.r.at_,x.2.r.e,q,hl.length,d⟩ : KMh),(⟨⟨x.2.d.author,x.2.d.number,x.2.d.acts⟩,⟨decide (x.2.r.e = (0 : Int)),x.2.r.at_,x.2.r.e,hl⟩⟩ : KMem))])) (fun a ha => memR_add a ha) ?_
  refine f_re (L' := [memR (LL ++ [((⟨x.2.d.author,x.2.d.number,p15,x.2.d.acts.length,c16,(decide ((x.2.r.e) = (0 : Int))),x.2.r.at_,x.2.r.e,q,hl.length,d⟩ : KMh),x.2)]),mpR PuM mp3 ps,mpR HoM mh4 gs,mpR MeM mm5 (MeM.put (hdl LL) (x.2.d.author) (⟨x.2.d.author,x.2.d.number,p15,x.2.d.acts.length,c16,(decide ((x.2.r.e) = (0 : Int))),x.2.r.at_,x.2.r.e,q,hl.length,d⟩ : KMh)),pt b2 (.cells #[pp rb 0] 168),pt b1 (.cells #[.map none,.map none,.int .i64 (0),.int .i64 (0),.int .i64 (0),.int .i64 (0),.int .i64 (0),.map none] 88),pt b6 (.cells #[.map (some mp3),.map (some mh4),Ix (X.s.last),Ix (X.s.su.a0),Ix (X.s.su.a1),Ix (X.s.su.a2),Ix (X.s.su.a3),.map (some mm5)] 88),rdrR rb (msK (ms.drop (kms + 1)) []),pt b17 (.cells #[Ix (x.2.d.author),Ix (x.2.d.number),sB p15 x.2.d.acts c16,.bool (decide ((x.2.r.e) = (0 : Int))),Ix (x.2.r.at_),Ix (x.2.r.e),sB q hl d] 82)]) (by rw [mem_eta hmf.dn hhl]) ?_
  refine fpn [7,0,1,2,3,4,5,6,8] 9 ?_
  refine f_mask (L' := [rdrR rb (msK (ms.drop (kms + 1)) []),memR (LL ++ [((⟨x.2.d.author,x.2.d.number,p15,x.2.d.acts.length,c16,(decide ((x.2.r.e) = (0 : Int))),x.2.r.at_,x.2.r.e,q,hl.length,d⟩ : KMh),x.2)]),mpR PuM mp3 ps,mpR HoM mh4 gs,mpR MeM mm5 (MeM.put (hdl LL) (x.2.d.author) (⟨x.2.d.author,x.2.d.number,p15,x.2.d.acts.length,c16,(decide ((x.2.r.e) = (0 : Int))),x.2.r.at_,x.2.r.e,q,hl.length,d⟩ : KMh)),pt b2 (.cells #[pp rb 0] 168),pt b1 (.cells #[.map none,.map none,.int .i64 (0),.int .i64 (0),.int .i64 (0),.int .i64 (0),.int .i64 (0),.map none] 88),pt b6 (.cells #[.map (some mp3),.map (some mh4),Ix (X.s.last),Ix (X.s.su.a0),Ix (X.s.su.a1),Ix (X.s.su.a2),Ix (X.s.su.a3),.map (some mm5)] 88)]) [true,true,true,true,true,true,true,true,false] rfl ?_
  exact f_cut ⟨(kms + 1,(LL ++ [((⟨x.2.d.author,x.2.d.number,p15,x.2.d.acts.length,c16,(decide ((x.2.r.e) = (0 : Int))),x.2.r.at_,x.2.r.e,q,hl.length,d⟩ : KMh),x.2)])),⟨⟨rfl,rfl,rfl,congrArg Value.bool hmf.fm,rfl,rfl⟩,by rw [hdl_next hsf.md hx hml hmk],⟨by omega,mml_next hx hml hmk,hd_all hho ⟨rfl,rfl,rfl,hmf.dn.symm,rfl,rfl,by rw [hhl]⟩⟩⟩,(show ms.length - (kms + 1) < ms.length - kms from by omega)⟩
 refine c_exit (f_then_exit (f_then_exit (f_exit (fts ?_))))
 have hkem : kms = ms.length := by omega
 replace hml : mml LL = ms := by rw [hml,hkem,List.take_length]
 refine c_re (L' := [rdrR rb [],memR LL,mpR PuM mp3 ps,mpR HoM mh4 gs,mpR MeM mm5 (hdl LL),pt b2 (.cells #[pp rb 0] 168),pt b1 (.cells #[.map none,.map none,.int .i64 (0),.int .i64 (0),.int .i64 (0),.int .i64 (0),.int .i64 (0),.map none] 88),pt b6 (.cells #[.map (some mp3),.map (some mh4),Ix (X.s.last),Ix (X.s.su.a0),Ix (X.s.su.a1),Ix (X.s.su.a2),Ix (X.s.su.a3),.map (some mm5)] 88)]) (by rw [hkem,List.drop_length]; rfl) ?_
 refine cnz [sv 98 (.agg #[.map (some mp3),.map (some mh4),Ix (X.s.last),Ix (X.s.su.a0),Ix (X.s.su.a1),Ix (X.s.su.a2),Ix (X.s.su.a3),.map (some mm5)]) [] [] [0],sv 99 (.bool true) [] [] [1],sv 100 (.bool true) [1] [1] [],sv 101 (pp b2 0) [1,2] [2] [2],sv 102 (pp rb 0) [1,2,3] [3,2] [],sv 103 (.int .i64 (0)) [1,2,3,4] [4,2] [],sv 104 (.bool true) [1,2,3,4,5] [5,2] [],sv 105 (.bool true) [1,2,3,4,5,6] [2,6] [],⟨(List.range 6),[0],[3],[],fun _ => True⟩,sv 3 (.bool true) (List.range 9) [7] []] [u1 [5],u0,u0,u0,u0,u1 [4],(some 8,[8]),u1 [0]] [⟨(some 8),none,[],[],fun _ => pt b1 (.cells #[.map (some mp3),.map (some mh4),Ix (X.s.last),Ix (X.s.su.a0),Ix (X.s.su.a1),Ix (X.s.su.a2),Ix (X.s.su.a3),.map (some mm5)] 88)⟩] [(5,pp b6 0),(8,.bool true),(4,pp b2 0),(2,pp b1 0)] [3] ⟨rfl,rfl,rfl,rfl,trivial⟩ ⟨?_,?_,?_,?_,?_,?_,?_,?_,?_,?_,trivial⟩ ?_
 ·rintro f M - ⟨i0,-⟩
  exact obE (olg 0)
 ·rintro f M - ⟨i0,-⟩
  exact obE omb
 ·rintro f M ⟨k0,-⟩ -
  exact obE omb
 ·rintro f M ⟨k0,-⟩ ⟨i0,-⟩
  exact obG ofp
 ·rintro f M ⟨k0,k1,-⟩ -
  exact obG (olp 0)
 ·rintro f M ⟨k0,k1,-⟩ -
  refine obS (up_cons (d := 100) (up_cons (d := 102) rfl k0) k1) ?_
  refine g_call rfl rfl rfl rfl rfl (cl0 (vs := [pp rb 0]) tt147.ok rfl rfl) ?_
  intro w hw
  replace hw := hw.perm (L' := _ :: M) (by exact (perm_front 0 rfl))
  obtain ⟨β1,sb,kn,hw1,back⟩ := St.frame (L := [_]) (M := M) hw
  refine (rend_ok β1 w rb hw1).mono ?_
  rintro e w' ⟨rfl,hw'⟩
  refine ⟨_,rfl,_,back _ _ hw',?_⟩
  clear hw hw1 hw' back kn sb
  refine l_nil ?_
  exact f_owes_d (up_cons (d := 100) (up_cons (d := 102) rfl k0) k1) rfl (perm_front 0 rfl)
 ·rintro f M ⟨k0,k1,-⟩ -
  exact obG oeq_
 ·rintro f M ⟨k0,k1,-⟩ -
  exact obE oktb
 ·rintro f M ⟨k0,-⟩ ⟨i0,-⟩
  refine obS (up_cons (d := 98) (up_cons (d := 2) rfl i0) k0) ?_
  refine lu (mS 0 (#[.map (some mp3),.map (some mh4),Ix (X.s.last),Ix (X.s.su.a0),Ix (X.s.su.a1),Ix (X.s.su.a2),Ix (X.s.su.a3),.map (some mm5)])) ?_
  refine l_nil ?_
  exact f_owes_n (up_cons (d := 98) (up_cons (d := 2) rfl i0) k0) trivial (perm_front 0 rfl)
 ·rintro f M ⟨k0,-⟩ -
  exact obE oab
 rintro fa27 ⟨-,-,-,-,-,-,-,-,-,k9,-⟩ ⟨j0,-⟩
 refine fre ?_
 refine f_rebase (d := 2) j0 (f_rebase (d := 3) k9 (ftr ?_))
 refine retG (m := [.agg #[.map (some mp3),.map (some mh4),Ix (X.s.last),Ix (X.s.su.a0),Ix (X.s.su.a1),Ix (X.s.su.a2),Ix (X.s.su.a3),.map (some mm5)],.bool true]) Tryz.results85 ⟨rd_cell tt54.ok rfl (k_pt 7 rfl rfl) rfl,rd_tmp (v := .bool true) rfl,trivial⟩ rfl ?_
 intro w hw
 replace hw := hw.perm (L' := [mpR PuM mp3 ps,mpR HoM mh4 gs,mpR MeM mm5 (hdl LL),memR LL,rdrR rb [],pt b2 (.cells #[pp rb 0] 168),pt b6 (.cells #[.map (some mp3),.map (some mh4),Ix (X.s.last),Ix (X.s.su.a0),Ix (X.s.su.a1),Ix (X.s.su.a2),Ix (X.s.su.a3),.map (some mm5)] 88),pt b1 (.cells #[.map (some mp3),.map (some mh4),Ix (X.s.last),Ix (X.s.su.a0),Ix (X.s.su.a1),Ix (X.s.su.a2),Ix (X.s.su.a3),.map (some mm5)] 88)]) (by exact (perm_ix [2,3,4,1,0,5,6,7] 8 rfl (by kernel_rfl) (by kernel_rfl)))
 replace hw := st_mask (L' := [mpR PuM mp3 ps,mpR HoM mh4 gs,mpR MeM mm5 (hdl LL),memR LL]) [true,true,true,true,false,false,false,false] rfl hw
 exact ⟨mp3,mh4,mm5,LL,hml,hho,rfl,hw⟩
end Go.Proofs
