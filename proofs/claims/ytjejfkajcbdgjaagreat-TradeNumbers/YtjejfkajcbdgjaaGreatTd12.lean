/-
 A state read: walked. Printed by a program of my own.
-/
import Derived.Test.YtjejfkajcbdgjaaGreatTd11
import Derived.Test.YtjejfkajcbdgjaaGreatTdLd2
namespace Go.Proofs
open Go Go.Sl Go.Td Go.Jn
theorem tt138 : cfB Tryz.prog 86 = true := by kernel_rfl
theorem tt139 : stB Tryz.prog 168 [(0, 1)] = true := by kernel_rfl
theorem tt140 : (Tryz.prog.info? 168).bind (·.zero) = some (.agg #[.pointer none]) := by kernel_rfl
theorem tt141 : cfB Tryz.prog 84 = true := by kernel_rfl
theorem tt142 : fldB Tryz.prog 104 0 0 1 false = true := by kernel_rfl
theorem tt143 : cfB Tryz.prog 87 = true := by kernel_rfl
theorem tt144 : fldB Tryz.prog 37 1 1 1 false = true := by kernel_rfl
theorem tt145 : fldB Tryz.prog 37 2 2 1 false = true := by kernel_rfl
theorem tt146 : fldB Tryz.prog 37 0 0 1 false = true := by kernel_rfl
theorem tt147 : cfB Tryz.prog 88 = true := by kernel_rfl
set_option maxHeartbeats 4000000 in
theorem load_ok (β : Base) (w : World) (hw : St β [] w) (v : Value) (bs : List UInt8) (hs : Sl U8R β.heap v bs) (hbl : bs.length ≤ 65536) (X : KHs) (ps : List (Int × KAm)) (gs : List (Int × KHo)) (ms : List (Int × KMem)) (n : Nat) (hb : Wr bs n (stBits X.s.su X.s.last ps gs ms)) (hsf : StFit X ps gs ms) (hla : X.s.last ≤ 16000000) : Calls Tryz.prog 85 #[v] w fun r w' => ∃ mp mh mm LL, mml LL = ms ∧ (∀ z ∈ LL, HdOf z) ∧ r = .returned (.tuple #[.agg (stC mp mh mm X.s.last X.s.su), .bool true]) ∧ St β [mpR PuM mp ps, mpR HoM mh gs, mpR MeM mm (hdl LL), memR LL] w' := by
 obtain ⟨va, vc, rfl, vl, vm, ve⟩ := hs.get
 rw [stK_eq] at hb
 have hpn := hsf.pn
 have hgn := hsf.hn
 have hmn := hsf.mn
 refine enter (n := 106) Tryz.func85 rfl Tryz.ntmps85 rfl ?_ hw
 refine c_seq ?_
 refine c_region ?_
 refine l_mv rfl rfl rfl (m_alloc tt52) ?_
 rintro _ _ ⟨b1, rfl, rfl⟩
 refine l_val (v := .bool false) rfl rfl rfl (e_assign) ?_
 refine l_nil ?_
 refine f_then ?_
 refine c_seq ?_
 refine c_region ?_
 refine l_val (v := .slice va (bs.length) (vc)) rfl rfl rfl (e_move) ?_
 refine l_call rfl rfl rfl (cl_value (fst := []) (cap := []) (vs := [.slice va (bs.length) (vc)]) (all := [.slice va (bs.length) (vc)]) tt138 rfl rfl rfl) ?_
 intro w hw
 obtain ⟨β1, sb, kn, hw1, back⟩ := St.frame_all hw
 refine (newr_ok β1 w hw1 _ bs (Sl.mono _ _ _ _ _ sb (⟨⟨_, _, rfl, vl, vm, ve⟩⟩ : Sl U8R _ _ bs)) n _ hb hbl).mono ?_
 rintro e w' ⟨rb, rfl, hw'⟩
 refine ⟨_, rfl, _, back _ _ hw', ?_⟩
 clear hw hw1 hw' back kn sb
 refine l_val (v := .agg #[.pointer (some ⟨rb, 0, none⟩)]) rfl rfl rfl (e_build tt140 tt139 (vs := [(0, .pointer (some ⟨rb, 0, none⟩))]) (cells := #[.pointer (some ⟨rb, 0, none⟩)]) rfl rfl) ?_
 refine l_mv rfl rfl rfl (m_alloc tt140) ?_
 rintro _ _ ⟨b2, rfl, rfl⟩
 refine l_mu rfl rfl (m_store 0 tt132 (b := b2) (o := 0) (T := 168) (cs := #[.pointer none]) (cs' := #[.pointer (some ⟨rb, 0, none⟩)]) (v := .agg #[.pointer (some ⟨rb, 0, none⟩)]) rfl rfl rfl rfl rfl rfl rfl) ?_
 refine l_nil ?_
 refine f_then ?_
 refine c_seq ?_
 refine c_region ?_
 refine l_call rfl rfl rfl (cl_value (fst := []) (cap := []) (vs := []) (all := []) tt141 rfl rfl rfl) ?_
 intro w hw
 obtain ⟨β1, sb, kn, hw1, back⟩ := St.frame_all hw
 refine (fresh_ok β1 w hw1).mono ?_
 rintro e w' ⟨mp3, mh4, mm5, rfl, hw'⟩
 refine ⟨_, rfl, _, back _ _ hw', ?_⟩
 clear hw hw1 hw' back kn sb
 refine l_mv rfl rfl rfl (m_alloc tt52) ?_
 rintro _ _ ⟨b6, rfl, rfl⟩
 refine l_mu rfl rfl (m_store 0 tt54 (b := b6) (o := 0) (T := 88) (cs := #[.map none, .map none, .int .i64 (0), .int .i64 (0), .int .i64 (0), .int .i64 (0), .int .i64 (0), .map none]) (cs' := #[.map (some mp3), .map (some mh4), .int .i64 (0), .int .i64 (0), .int .i64 (0), .int .i64 (0), .int .i64 (0), .map (some mm5)]) (v := .agg #[.map (some mp3), .map (some mh4), .int .i64 (0), .int .i64 (0), .int .i64 (0), .int .i64 (0), .int .i64 (0), .map (some mm5)]) rfl rfl rfl rfl rfl rfl rfl) ?_
 refine l_nil ?_
 refine f_then ?_
 refine c_seq ?_
 refine c_any [⟨[], [], [0], [14], fun f => f 14 = .agg #[.pointer (some ⟨rb, 0, none⟩)]⟩, ⟨[0], [0], [], [15], fun f => f 15 = .agg (amC X.s.su)⟩, ⟨[], [], [0], [16], fun f => f 16 = .agg #[.pointer (some ⟨rb, 0, none⟩)]⟩, ⟨[0, 1, 2], [2], [], [17], fun f => f 17 = Ix (X.s.last)⟩, ⟨[0, 1], [], [1], [18], fun f => f 18 = .pointer (some ⟨b6, 3, none⟩)⟩, ⟨[0, 1, 2, 3, 4], [4, 1], [], [], fun _ => True⟩, ⟨[0, 1, 2, 3, 4, 5], [], [1], [19], fun f => f 19 = .pointer (some ⟨b6, 2, none⟩)⟩, ⟨[0, 1, 2, 3, 4, 5, 6], [6, 3], [], [], fun _ => True⟩] [⟨none, (some 5), [5], [], fun _ => pt b6 (.cells #[.map (some mp3), .map (some mh4), .int .i64 (0), .int .i64 (0), .int .i64 (0), .int .i64 (0), .int .i64 (0), .map (some mm5)] 88)⟩, ⟨none, none, [], [], fun _ => mpR PuM mp3 []⟩, ⟨none, none, [], [], fun _ => mpR HoM mh4 []⟩, ⟨none, none, [], [], fun _ => mpR MeM mm5 []⟩, ⟨none, none, [0, 2], [], fun _ => pt b2 (.cells #[.pointer (some ⟨rb, 0, none⟩)] 168)⟩, ⟨none, (some 1), [1], [], fun _ => rdrR rb (amK X.s.su 63 (bitsV (U X.s.last) 48 ++ (bitsV (U ((ps.length : Nat) : Int)) 9 ++ (psK ps (bitsV (U ((gs.length : Nat) : Int)) 9 ++ (hsK gs (bitsV (U ((ms.length : Nat) : Int)) 9 ++ (msK ms []))))))))⟩, ⟨none, none, [], [], fun _ => pt b1 (.cells #[.map none, .map none, .int .i64 (0), .int .i64 (0), .int .i64 (0), .int .i64 (0), .int .i64 (0), .map none] 88)⟩, ⟨(some 1), (some 3), [3], [], fun _ => rdrR rb (bitsV (U X.s.last) 48 ++ (bitsV (U ((ps.length : Nat) : Int)) 9 ++ (psK ps (bitsV (U ((gs.length : Nat) : Int)) 9 ++ (hsK gs (bitsV (U ((ms.length : Nat) : Int)) 9 ++ (msK ms [])))))))⟩, ⟨(some 3), none, [], [], fun _ => rdrR rb (bitsV (U ((ps.length : Nat) : Int)) 9 ++ (psK ps (bitsV (U ((gs.length : Nat) : Int)) 9 ++ (hsK gs (bitsV (U ((ms.length : Nat) : Int)) 9 ++ (msK ms []))))))⟩, ⟨(some 5), (some 7), [7], [], fun _ => pt b6 (.cells #[.map (some mp3), .map (some mh4), .int .i64 (0), Ix (X.s.su.a0), Ix (X.s.su.a1), Ix (X.s.su.a2), Ix (X.s.su.a3), .map (some mm5)] 88)⟩, ⟨(some 7), none, [], [], fun _ => pt b6 (.cells #[.map (some mp3), .map (some mh4), Ix (X.s.last), Ix (X.s.su.a0), Ix (X.s.su.a1), Ix (X.s.su.a2), Ix (X.s.su.a3), .map (some mm5)] 88)⟩] [(4, .pointer (some ⟨b2, 0, none⟩)), (5, .pointer (some ⟨b6, 0, none⟩)), (2, .pointer (some ⟨b1, 0, none⟩))] [2, 0, 1] [] (by kernel_rfl) (by kernel_rfl) (by kernel_rfl) (by kernel_rfl) rfl ⟨rfl, rfl, rfl, trivial⟩ ⟨?_, ?_, ?_, ?_, ?_, ?_, ?_, ?_, trivial⟩ ?_
 ·rintro f M - ⟨i0, -⟩
  have hs4 : f 4 = .pointer (some ⟨b2, 0, none⟩) := i0
  refine ob_start (L' := pt b2 (.cells #[.pointer (some ⟨rb, 0, none⟩)] 168) :: M) (by rfl) (up_cons rfl hs4) ?_
  refine l_val (v := .agg #[.pointer (some ⟨rb, 0, none⟩)]) rfl rfl rfl (e_load tt132 (cs := [.pointer (some ⟨rb, 0, none⟩)]) rfl (k_pt 0 (cs := #[.pointer (some ⟨rb, 0, none⟩)]) (vs := [.pointer (some ⟨rb, 0, none⟩)]) rfl rfl) rfl) ?_
  refine l_nil ?_
  exact f_owes_d (up_cons rfl hs4) rfl (perm_front 0 rfl)
 ·rintro f M ⟨k0, -⟩ -
  have hs14 : f 14 = .agg #[.pointer (some ⟨rb, 0, none⟩)] := k0
  refine ob_start (L' := rdrR rb (amK X.s.su 63 (bitsV (U X.s.last) 48 ++ (bitsV (U ((ps.length : Nat) : Int)) 9 ++ (psK ps (bitsV (U ((gs.length : Nat) : Int)) 9 ++ (hsK gs (bitsV (U ((ms.length : Nat) : Int)) 9 ++ (msK ms [])))))))) :: M) (by rfl) (up_cons rfl hs14) ?_
  refine l_call rfl rfl rfl (cl_value (fst := []) (cap := []) (vs := [.agg #[.pointer (some ⟨rb, 0, none⟩)], .int .i64 (63)]) (all := [.agg #[.pointer (some ⟨rb, 0, none⟩)], .int .i64 (63)]) tt136 rfl rfl rfl) ?_
  intro w hw
  replace hw := hw.perm (L' := _ :: M) (by exact (perm_front 0 rfl))
  obtain ⟨β1, sb, kn, hw1, back⟩ := St.frame (L := [_]) (M := M) hw
  refine (tamr_ok β1 w rb _ X.s.su 63 hsf.su hw1).mono ?_
  rintro e w' ⟨rfl, hw'⟩
  refine ⟨_, rfl, _, back _ _ hw', ?_⟩
  clear hw hw1 hw' back kn sb
  refine l_nil ?_
  exact f_owes_d (up_cons rfl hs14) rfl (perm_front 0 rfl)
 ·rintro f M - ⟨i0, -⟩
  have hs4 : f 4 = .pointer (some ⟨b2, 0, none⟩) := i0
  refine ob_start (L' := pt b2 (.cells #[.pointer (some ⟨rb, 0, none⟩)] 168) :: M) (by rfl) (up_cons rfl hs4) ?_
  refine l_val (v := .agg #[.pointer (some ⟨rb, 0, none⟩)]) rfl rfl rfl (e_load tt132 (cs := [.pointer (some ⟨rb, 0, none⟩)]) rfl (k_pt 0 (cs := #[.pointer (some ⟨rb, 0, none⟩)]) (vs := [.pointer (some ⟨rb, 0, none⟩)]) rfl rfl) rfl) ?_
  refine l_nil ?_
  exact f_owes_d (up_cons rfl hs4) rfl (perm_front 0 rfl)
 ·rintro f M ⟨k0, -⟩ -
  have hs16 : f 16 = .agg #[.pointer (some ⟨rb, 0, none⟩)] := k0
  refine ob_start (L' := rdrR rb (bitsV (U X.s.last) 48 ++ (bitsV (U ((ps.length : Nat) : Int)) 9 ++ (psK ps (bitsV (U ((gs.length : Nat) : Int)) 9 ++ (hsK gs (bitsV (U ((ms.length : Nat) : Int)) 9 ++ (msK ms []))))))) :: M) (by rfl) (up_cons rfl hs16) ?_
  refine l_call rfl rfl rfl (cl_value (fst := []) (cap := []) (vs := [.agg #[.pointer (some ⟨rb, 0, none⟩)], .int .i64 (48)]) (all := [.agg #[.pointer (some ⟨rb, 0, none⟩)], .int .i64 (48)]) tt133 rfl rfl rfl) ?_
  intro w hw
  replace hw := hw.perm (L' := _ :: M) (by exact (perm_front 0 rfl))
  obtain ⟨β1, sb, kn, hw1, back⟩ := St.frame (L := [_]) (M := M) hw
  refine (tget_ok β1 w rb _ X.s.last 48 hsf.la hw1).mono ?_
  rintro e w' ⟨rfl, hw'⟩
  refine ⟨_, rfl, _, back _ _ hw', ?_⟩
  clear hw hw1 hw' back kn sb
  refine l_nil ?_
  exact f_owes_d (up_cons rfl hs16) rfl (perm_front 0 rfl)
 ·rintro f M - ⟨i0, -⟩
  have hs5 : f 5 = .pointer (some ⟨b6, 0, none⟩) := i0
  refine ob_start (L' := M) (by rfl) (up_cons rfl hs5) ?_
  refine l_val (v := .pointer (some ⟨b6, 3, none⟩)) rfl rfl rfl (e_fieldPt (b := b6) (o := 0) rfl tt36) ?_
  refine l_nil ?_
  exact f_owes_d (up_cons rfl hs5) rfl (List.Perm.refl _)
 ·rintro f M ⟨k0, k1, -⟩ -
  have hs18 : f 18 = .pointer (some ⟨b6, 3, none⟩) := k0
  have hs15 : f 15 = .agg (amC X.s.su) := k1
  refine ob_start (L' := pt b6 (.cells #[.map (some mp3), .map (some mh4), .int .i64 (0), .int .i64 (0), .int .i64 (0), .int .i64 (0), .int .i64 (0), .map (some mm5)] 88) :: M) (by rfl) (up_cons (up_cons rfl hs18) hs15) ?_
  refine l_mu rfl rfl (m_store 0 tt0 (b := b6) (o := 3) (T := 88) (cs := #[.map (some mp3), .map (some mh4), .int .i64 (0), .int .i64 (0), .int .i64 (0), .int .i64 (0), .int .i64 (0), .map (some mm5)]) (cs' := #[.map (some mp3), .map (some mh4), .int .i64 (0), Ix (X.s.su.a0), Ix (X.s.su.a1), Ix (X.s.su.a2), Ix (X.s.su.a3), .map (some mm5)]) (v := .agg (amC X.s.su)) rfl rfl rfl rfl rfl rfl rfl) ?_
  refine l_nil ?_
  exact f_owes_n (up_cons (up_cons rfl hs18) hs15) trivial (perm_front 0 rfl)
 ·rintro f M - ⟨i0, -⟩
  have hs5 : f 5 = .pointer (some ⟨b6, 0, none⟩) := i0
  refine ob_start (L' := M) (by rfl) (up_cons rfl hs5) ?_
  refine l_val (v := .pointer (some ⟨b6, 2, none⟩)) rfl rfl rfl (e_fieldPt (b := b6) (o := 0) rfl tt40) ?_
  refine l_nil ?_
  exact f_owes_d (up_cons rfl hs5) rfl (List.Perm.refl _)
 ·rintro f M ⟨k0, k1, -⟩ -
  have hs19 : f 19 = .pointer (some ⟨b6, 2, none⟩) := k0
  have hs17 : f 17 = Ix (X.s.last) := k1
  refine ob_start (L' := pt b6 (.cells #[.map (some mp3), .map (some mh4), .int .i64 (0), Ix (X.s.su.a0), Ix (X.s.su.a1), Ix (X.s.su.a2), Ix (X.s.su.a3), .map (some mm5)] 88) :: M) (by rfl) (up_cons (up_cons rfl hs19) hs17) ?_
  refine l_mu rfl rfl (m_store 0 tt2 (b := b6) (o := 2) (T := 88) (cs := #[.map (some mp3), .map (some mh4), .int .i64 (0), Ix (X.s.su.a0), Ix (X.s.su.a1), Ix (X.s.su.a2), Ix (X.s.su.a3), .map (some mm5)]) (cs' := #[.map (some mp3), .map (some mh4), Ix (X.s.last), Ix (X.s.su.a0), Ix (X.s.su.a1), Ix (X.s.su.a2), Ix (X.s.su.a3), .map (some mm5)]) (v := Ix (X.s.last)) rfl rfl rfl rfl rfl rfl rfl) ?_
  refine l_nil ?_
  exact f_owes_n (up_cons (up_cons rfl hs19) hs17) trivial (perm_front 0 rfl)
 rintro fa7 ⟨-, -, -, -, -, -, -, -, -⟩ ⟨j0, j1, j2, -⟩
 refine f_re (L' := [mpR PuM mp3 [], mpR HoM mh4 [], mpR MeM mm5 [], pt b2 (.cells #[.pointer (some ⟨rb, 0, none⟩)] 168), pt b1 (.cells #[.map none, .map none, .int .i64 (0), .int .i64 (0), .int .i64 (0), .int .i64 (0), .int .i64 (0), .map none] 88), rdrR rb (bitsV (U ((ps.length : Nat) : Int)) 9 ++ (psK ps (bitsV (U ((gs.length : Nat) : Int)) 9 ++ (hsK gs (bitsV (U ((ms.length : Nat) : Int)) 9 ++ (msK ms [])))))), pt b6 (.cells #[.map (some mp3), .map (some mh4), Ix (X.s.last), Ix (X.s.su.a0), Ix (X.s.su.a1), Ix (X.s.su.a2), Ix (X.s.su.a3), .map (some mm5)] 88)]) (by rfl) ?_
 refine f_rebase (d := 2) (v := .pointer (some ⟨b1, 0, none⟩)) j0 ?_
 refine f_rebase (d := 4) (v := .pointer (some ⟨b2, 0, none⟩)) j1 ?_
 refine f_rebase (d := 5) (v := .pointer (some ⟨b6, 0, none⟩)) j2 ?_
 refine f_then ?_
 refine c_seq ?_
 refine c_seq ?_
 refine c_region ?_
 refine l_val (v := .agg #[.pointer (some ⟨rb, 0, none⟩)]) rfl rfl rfl (e_load tt132 (cs := [.pointer (some ⟨rb, 0, none⟩)]) rfl (k_pt 3 (cs := #[.pointer (some ⟨rb, 0, none⟩)]) (vs := [.pointer (some ⟨rb, 0, none⟩)]) rfl rfl) rfl) ?_
 refine l_call rfl rfl rfl (cl_value (fst := []) (cap := []) (vs := [.agg #[.pointer (some ⟨rb, 0, none⟩)], .int .i64 (9)]) (all := [.agg #[.pointer (some ⟨rb, 0, none⟩)], .int .i64 (9)]) tt133 rfl rfl rfl) ?_
 intro w hw
 replace hw := hw.perm (L' := _ :: _ :: _ :: _ :: _ :: _ :: _ :: []) (by exact (((((((perm_front 6 rfl).trans (perm_front 5 rfl)).trans (perm_front 5 rfl)).trans (perm_front 5 rfl)).trans (perm_front 5 rfl)).trans (perm_front 5 rfl)).trans (perm_front 6 rfl)))
 obtain ⟨β1, sb, kn, hw1, back⟩ := St.frame (L := [_]) (M := _ :: _ :: _ :: _ :: _ :: _ :: []) hw
 refine (tget_ok β1 w rb _ ((ps.length : Nat) : Int) 9 hsf.pl hw1).mono ?_
 rintro e w' ⟨rfl, hw'⟩
 refine ⟨_, rfl, _, back _ _ hw', ?_⟩
 clear hw hw1 hw' back kn sb
 refine l_val (v := .int .i64 (0)) rfl rfl rfl (e_move) ?_
 refine l_nil ?_
 refine f_then ?_
 refine c_block ?_
 refine c_loop (fun (kps : Nat) (f : Fm) (L : List Res) => (f 2 = .pointer (some ⟨b1, 0, none⟩) ∧ f 4 = .pointer (some ⟨b2, 0, none⟩) ∧ f 5 = .pointer (some ⟨b6, 0, none⟩) ∧ f 21 = Nx (ps.length) ∧ f 22 = Nx (kps)) ∧ L = [rdrR rb (psK (ps.drop kps) (bitsV (U ((gs.length : Nat) : Int)) 9 ++ (hsK gs (bitsV (U ((ms.length : Nat) : Int)) 9 ++ (msK ms []))))), mpR PuM mp3 (ps.take kps), mpR HoM mh4 [], mpR MeM mm5 [], pt b2 (.cells #[.pointer (some ⟨rb, 0, none⟩)] 168), pt b1 (.cells #[.map none, .map none, .int .i64 (0), .int .i64 (0), .int .i64 (0), .int .i64 (0), .int .i64 (0), .map none] 88), pt b6 (.cells #[.map (some mp3), .map (some mh4), Ix (X.s.last), Ix (X.s.su.a0), Ix (X.s.su.a1), Ix (X.s.su.a2), Ix (X.s.su.a3), .map (some mm5)] 88)] ∧ (kps ≤ ps.length)) (fun (kps : Nat) => ps.length - kps) 0 ?_ ?_
 ·exact ⟨⟨rfl, rfl, rfl, rfl, rfl⟩, rfl, Nat.zero_le _⟩
 rintro kps f0 L0 ⟨⟨hs2, hs4, hs5, hs21, hs22⟩, hL, hkps⟩
 subst L0
 refine rebase (d := 2) hs2 ?_
 refine rebase (d := 4) hs4 ?_
 refine rebase (d := 5) hs5 ?_
 refine rebase (d := 21) hs21 ?_
 refine rebase (d := 22) hs22 ?_
 clear hs2 hs4 hs5 hs21 hs22
 refine c_seq ?_
 refine c_region ?_
 refine l_val (v := .bool (decide (((kps : Nat) : Int) < ((ps.length : Nat) : Int)))) rfl rfl rfl (e_lss (a := ((kps : Nat) : Int)) (b := ((ps.length : Nat) : Int)) rfl rfl) ?_
 refine l_nil ?_
 refine f_then ?_
 refine c_seq ?_
 refine c_if (((kps : Nat) : Int) < ((ps.length : Nat) : Int)) rfl (fun hc8 => ?_) (fun hc8 => ?_)
 ·
  refine c_skip ?_
  refine f_then ?_
  refine c_seq ?_
  refine c_block ?_
  refine c_seq ?_
  obtain ⟨x, hx⟩ : ∃ x, ps[kps]? = some x := ⟨_, List.getElem?_eq_getElem (by omega)⟩
  have hxm := List.mem_of_getElem? hx
  have hxf := hsf.pp x hxm
  refine c_re (L' := [rdrR rb (bitsV (U x.1) 17 ++ (amK x.2 31 (psK (ps.drop (kps + 1)) (bitsV (U ((gs.length : Nat) : Int)) 9 ++ (hsK gs (bitsV (U ((ms.length : Nat) : Int)) 9 ++ (msK ms []))))))), mpR PuM mp3 (ps.take kps), mpR HoM mh4 [], mpR MeM mm5 [], pt b2 (.cells #[.pointer (some ⟨rb, 0, none⟩)] 168), pt b1 (.cells #[.map none, .map none, .int .i64 (0), .int .i64 (0), .int .i64 (0), .int .i64 (0), .int .i64 (0), .map none] 88), pt b6 (.cells #[.map (some mp3), .map (some mh4), Ix (X.s.last), Ix (X.s.su.a0), Ix (X.s.su.a1), Ix (X.s.su.a2), Ix (X.s.su.a3), .map (some mm5)] 88)]) (by rw [psK_next hx]) ?_
  refine c_region ?_
  refine l_val (v := .agg #[.pointer (some ⟨rb, 0, none⟩)]) rfl rfl rfl (e_load tt132 (cs := [.pointer (some ⟨rb, 0, none⟩)]) rfl (k_pt 4 (cs := #[.pointer (some ⟨rb, 0, none⟩)]) (vs := [.pointer (some ⟨rb, 0, none⟩)]) rfl rfl) rfl) ?_
  refine l_call rfl rfl rfl (cl_value (fst := []) (cap := []) (vs := [.agg #[.pointer (some ⟨rb, 0, none⟩)], .int .i64 (17)]) (all := [.agg #[.pointer (some ⟨rb, 0, none⟩)], .int .i64 (17)]) tt133 rfl rfl rfl) ?_
  intro w hw
  replace hw := hw.perm (L' := _ :: _ :: _ :: _ :: _ :: _ :: _ :: []) (by exact (((((((perm_front 6 rfl).trans (perm_front 6 rfl)).trans (perm_front 6 rfl)).trans (perm_front 6 rfl)).trans (perm_front 6 rfl)).trans (perm_front 6 rfl)).trans (perm_front 6 rfl)))
  obtain ⟨β1, sb, kn, hw1, back⟩ := St.frame (L := [_]) (M := _ :: _ :: _ :: _ :: _ :: _ :: []) hw
  refine (tget_ok β1 w rb _ x.1 17 hxf.1 hw1).mono ?_
  rintro e w' ⟨rfl, hw'⟩
  refine ⟨_, rfl, _, back _ _ hw', ?_⟩
  clear hw hw1 hw' back kn sb
  refine l_val (v := Ix (x.1)) rfl rfl rfl (e_assign) ?_
  refine l_nil ?_
  refine f_then ?_
  refine c_any [⟨[], [], [0], [26], fun f => f 26 = .pointer (some ⟨b6, 0, none⟩)⟩, ⟨[0], [0], [], [27], fun f => f 27 = .map (some mp3)⟩, ⟨[], [], [1], [28], fun f => f 28 = Ix (x.1)⟩, ⟨[], [], [2], [29], fun f => f 29 = .agg #[.pointer (some ⟨rb, 0, none⟩)]⟩, ⟨[3], [3], [], [30], fun f => f 30 = .agg (amC x.2)⟩, ⟨[0, 1, 2, 3, 4], [1, 2, 4], [], [], fun _ => True⟩] [⟨none, (some 4), [4], [], fun _ => rdrR rb (amK x.2 31 (psK (ps.drop (kps + 1)) (bitsV (U ((gs.length : Nat) : Int)) 9 ++ (hsK gs (bitsV (U ((ms.length : Nat) : Int)) 9 ++ (msK ms []))))))⟩, ⟨none, (some 5), [5], [], fun _ => mpR PuM mp3 (ps.take kps)⟩, ⟨none, none, [], [], fun _ => mpR HoM mh4 []⟩, ⟨none, none, [], [], fun _ => mpR MeM mm5 []⟩, ⟨none, none, [3], [], fun _ => pt b2 (.cells #[.pointer (some ⟨rb, 0, none⟩)] 168)⟩, ⟨none, none, [], [], fun _ => pt b1 (.cells #[.map none, .map none, .int .i64 (0), .int .i64 (0), .int .i64 (0), .int .i64 (0), .int .i64 (0), .map none] 88)⟩, ⟨none, none, [1], [], fun _ => pt b6 (.cells #[.map (some mp3), .map (some mh4), Ix (X.s.last), Ix (X.s.su.a0), Ix (X.s.su.a1), Ix (X.s.su.a2), Ix (X.s.su.a3), .map (some mm5)] 88)⟩, ⟨(some 4), none, [], [], fun _ => rdrR rb (psK (ps.drop (kps + 1)) (bitsV (U ((gs.length : Nat) : Int)) 9 ++ (hsK gs (bitsV (U ((ms.length : Nat) : Int)) 9 ++ (msK ms [])))))⟩, ⟨(some 5), none, [], [], fun _ => mpR PuM mp3 (PuM.put (ps.take kps) (x.1) x.2)⟩] [(5, .pointer (some ⟨b6, 0, none⟩)), (6, Ix (x.1)), (4, .pointer (some ⟨b2, 0, none⟩)), (2, .pointer (some ⟨b1, 0, none⟩)), (21, Nx (ps.length)), (22, Nx (kps))] [3, 2, 0, 4, 5] [] (by kernel_rfl) (by kernel_rfl) (by kernel_rfl) (by kernel_rfl) rfl ⟨rfl, rfl, rfl, rfl, rfl, rfl, trivial⟩ ⟨?_, ?_, ?_, ?_, ?_, ?_, trivial⟩ ?_
  ·rintro f M - ⟨i0, -⟩
   have hs5 : f 5 = .pointer (some ⟨b6, 0, none⟩) := i0
   refine ob_start (L' := M) (by rfl) (up_cons rfl hs5) ?_
   refine l_val (v := .pointer (some ⟨b6, 0, none⟩)) rfl rfl rfl (e_fieldPt (b := b6) (o := 0) rfl tt32) ?_
   refine l_nil ?_
   exact f_owes_d (up_cons rfl hs5) rfl (List.Perm.refl _)
  ·rintro f M ⟨k0, -⟩ -
   have hs26 : f 26 = .pointer (some ⟨b6, 0, none⟩) := k0
   refine ob_start (L' := pt b6 (.cells #[.map (some mp3), .map (some mh4), Ix (X.s.last), Ix (X.s.su.a0), Ix (X.s.su.a1), Ix (X.s.su.a2), Ix (X.s.su.a3), .map (some mm5)] 88) :: M) (by rfl) (up_cons rfl hs26) ?_
   refine l_val (v := .map (some mp3)) rfl rfl rfl (e_load1 tt33 (v := .map (some mp3)) rfl (k_pt 0 (cs := #[.map (some mp3), .map (some mh4), Ix (X.s.last), Ix (X.s.su.a0), Ix (X.s.su.a1), Ix (X.s.su.a2), Ix (X.s.su.a3), .map (some mm5)]) (vs := [.map (some mp3)]) rfl rfl)) ?_
   refine l_nil ?_
   exact f_owes_d (up_cons rfl hs26) rfl (perm_front 0 rfl)
  ·rintro f M - ⟨i0, -⟩
   have hs6 : f 6 = Ix (x.1) := i0
   refine ob_start (L' := M) (by rfl) (up_cons rfl hs6) ?_
   refine l_val (v := Ix (x.1)) rfl rfl rfl (e_move) ?_
   refine l_nil ?_
   exact f_owes_d (up_cons rfl hs6) rfl (List.Perm.refl _)
  ·rintro f M - ⟨i0, -⟩
   have hs4 : f 4 = .pointer (some ⟨b2, 0, none⟩) := i0
   refine ob_start (L' := pt b2 (.cells #[.pointer (some ⟨rb, 0, none⟩)] 168) :: M) (by rfl) (up_cons rfl hs4) ?_
   refine l_val (v := .agg #[.pointer (some ⟨rb, 0, none⟩)]) rfl rfl rfl (e_load tt132 (cs := [.pointer (some ⟨rb, 0, none⟩)]) rfl (k_pt 0 (cs := #[.pointer (some ⟨rb, 0, none⟩)]) (vs := [.pointer (some ⟨rb, 0, none⟩)]) rfl rfl) rfl) ?_
   refine l_nil ?_
   exact f_owes_d (up_cons rfl hs4) rfl (perm_front 0 rfl)
  ·rintro f M ⟨k0, -⟩ -
   have hs29 : f 29 = .agg #[.pointer (some ⟨rb, 0, none⟩)] := k0
   refine ob_start (L' := rdrR rb (amK x.2 31 (psK (ps.drop (kps + 1)) (bitsV (U ((gs.length : Nat) : Int)) 9 ++ (hsK gs (bitsV (U ((ms.length : Nat) : Int)) 9 ++ (msK ms [])))))) :: M) (by rfl) (up_cons rfl hs29) ?_
   refine l_call rfl rfl rfl (cl_value (fst := []) (cap := []) (vs := [.agg #[.pointer (some ⟨rb, 0, none⟩)], .int .i64 (31)]) (all := [.agg #[.pointer (some ⟨rb, 0, none⟩)], .int .i64 (31)]) tt136 rfl rfl rfl) ?_
   intro w hw
   replace hw := hw.perm (L' := _ :: M) (by exact (perm_front 0 rfl))
   obtain ⟨β1, sb, kn, hw1, back⟩ := St.frame (L := [_]) (M := M) hw
   refine (tamr_ok β1 w rb _ x.2 31 hxf.2 hw1).mono ?_
   rintro e w' ⟨rfl, hw'⟩
   refine ⟨_, rfl, _, back _ _ hw', ?_⟩
   clear hw hw1 hw' back kn sb
   refine l_nil ?_
   exact f_owes_d (up_cons rfl hs29) rfl (perm_front 0 rfl)
  ·rintro f M ⟨k0, k1, k2, -⟩ -
   have hs27 : f 27 = .map (some mp3) := k0
   have hs28 : f 28 = Ix (x.1) := k1
   have hs30 : f 30 = .agg (amC x.2) := k2
   refine ob_start (L' := mpR PuM mp3 (ps.take kps) :: M) (by rfl) (up_cons (up_cons (up_cons rfl hs27) hs28) hs30) ?_
   refine l_mu rfl rfl (m_mput (K := PuM) (b := mp3) (ks := (ps.take kps)) (k := (x.1)) (v := x.2) 0 rfl rfl rfl rfl rfl) ?_
   refine l_nil ?_
   exact f_owes_n (up_cons (up_cons (up_cons rfl hs27) hs28) hs30) trivial (perm_front 0 rfl)
  rintro fa9 ⟨-, -, -, -, -, -, -⟩ ⟨j0, j1, j2, j3, j4, -⟩
  refine f_re (L' := [mpR HoM mh4 [], mpR MeM mm5 [], pt b2 (.cells #[.pointer (some ⟨rb, 0, none⟩)] 168), pt b1 (.cells #[.map none, .map none, .int .i64 (0), .int .i64 (0), .int .i64 (0), .int .i64 (0), .int .i64 (0), .map none] 88), pt b6 (.cells #[.map (some mp3), .map (some mh4), Ix (X.s.last), Ix (X.s.su.a0), Ix (X.s.su.a1), Ix (X.s.su.a2), Ix (X.s.su.a3), .map (some mm5)] 88), rdrR rb (psK (ps.drop (kps + 1)) (bitsV (U ((gs.length : Nat) : Int)) 9 ++ (hsK gs (bitsV (U ((ms.length : Nat) : Int)) 9 ++ (msK ms []))))), mpR PuM mp3 (PuM.put (ps.take kps) (x.1) x.2)]) (by rfl) ?_
  refine f_rebase (d := 2) (v := .pointer (some ⟨b1, 0, none⟩)) j0 ?_
  refine f_rebase (d := 4) (v := .pointer (some ⟨b2, 0, none⟩)) j1 ?_
  refine f_rebase (d := 5) (v := .pointer (some ⟨b6, 0, none⟩)) j2 ?_
  refine f_rebase (d := 21) (v := Nx (ps.length)) j3 ?_
  refine f_rebase (d := 22) (v := Nx (kps)) j4 ?_
  refine f_block ?_
  refine f_then ?_
  refine c_region ?_
  refine l_val (v := Nx (kps + 1)) rfl rfl rfl (e_add (a := ((kps : Nat) : Int)) (b := (1 : Int)) rfl rfl (i64n (by omega) (by omega))) ?_
  refine l_val (v := Nx (kps + 1)) rfl rfl rfl (e_move) ?_
  refine l_nil ?_
  refine f_perm (L' := [rdrR rb (psK (ps.drop (kps + 1)) (bitsV (U ((gs.length : Nat) : Int)) 9 ++ (hsK gs (bitsV (U ((ms.length : Nat) : Int)) 9 ++ (msK ms []))))), mpR PuM mp3 (PuM.put (ps.take kps) (x.1) x.2), mpR HoM mh4 [], mpR MeM mm5 [], pt b2 (.cells #[.pointer (some ⟨rb, 0, none⟩)] 168), pt b1 (.cells #[.map none, .map none, .int .i64 (0), .int .i64 (0), .int .i64 (0), .int .i64 (0), .int .i64 (0), .map none] 88), pt b6 (.cells #[.map (some mp3), .map (some mh4), Ix (X.s.last), Ix (X.s.su.a0), Ix (X.s.su.a1), Ix (X.s.su.a2), Ix (X.s.su.a3), .map (some mm5)] 88)]) (perm_ix [5, 6, 0, 1, 2, 3, 4] 7 rfl (by kernel_rfl) (by kernel_rfl)) ?_
  exact f_cut ⟨kps + 1, ⟨⟨rfl, rfl, rfl, rfl, rfl⟩, by rw [put_take hsf.pd hx rfl], (by omega)⟩, (show ps.length - (kps + 1) < ps.length - kps from by omega)⟩
 ·
  refine c_exit ?_
  refine f_then_exit ?_
  refine f_then_exit ?_
  refine f_exit ?_
  refine f_then ?_
  refine c_seq ?_
  refine c_seq ?_
  have hkeps : kps = ps.length := by omega
  refine c_re (L' := [rdrR rb (bitsV (U ((gs.length : Nat) : Int)) 9 ++ (hsK gs (bitsV (U ((ms.length : Nat) : Int)) 9 ++ (msK ms [])))), mpR PuM mp3 ps, mpR HoM mh4 [], mpR MeM mm5 [], pt b2 (.cells #[.pointer (some ⟨rb, 0, none⟩)] 168), pt b1 (.cells #[.map none, .map none, .int .i64 (0), .int .i64 (0), .int .i64 (0), .int .i64 (0), .int .i64 (0), .map none] 88), pt b6 (.cells #[.map (some mp3), .map (some mh4), Ix (X.s.last), Ix (X.s.su.a0), Ix (X.s.su.a1), Ix (X.s.su.a2), Ix (X.s.su.a3), .map (some mm5)] 88)]) (by rw [hkeps, List.take_length, List.drop_length]; rfl) ?_
  refine c_region ?_
  refine l_val (v := .agg #[.pointer (some ⟨rb, 0, none⟩)]) rfl rfl rfl (e_load tt132 (cs := [.pointer (some ⟨rb, 0, none⟩)]) rfl (k_pt 4 (cs := #[.pointer (some ⟨rb, 0, none⟩)]) (vs := [.pointer (some ⟨rb, 0, none⟩)]) rfl rfl) rfl) ?_
  refine l_call rfl rfl rfl (cl_value (fst := []) (cap := []) (vs := [.agg #[.pointer (some ⟨rb, 0, none⟩)], .int .i64 (9)]) (all := [.agg #[.pointer (some ⟨rb, 0, none⟩)], .int .i64 (9)]) tt133 rfl rfl rfl) ?_
  intro w hw
  replace hw := hw.perm (L' := _ :: _ :: _ :: _ :: _ :: _ :: _ :: []) (by exact (((((((perm_front 6 rfl).trans (perm_front 6 rfl)).trans (perm_front 6 rfl)).trans (perm_front 6 rfl)).trans (perm_front 6 rfl)).trans (perm_front 6 rfl)).trans (perm_front 6 rfl)))
  obtain ⟨β1, sb, kn, hw1, back⟩ := St.frame (L := [_]) (M := _ :: _ :: _ :: _ :: _ :: _ :: []) hw
  refine (tget_ok β1 w rb _ ((gs.length : Nat) : Int) 9 hsf.hl hw1).mono ?_
  rintro e w' ⟨rfl, hw'⟩
  refine ⟨_, rfl, _, back _ _ hw', ?_⟩
  clear hw hw1 hw' back kn sb
  refine l_val (v := .int .i64 (0)) rfl rfl rfl (e_move) ?_
  refine l_nil ?_
  refine f_then ?_
  refine c_block ?_
  refine c_loop (fun (kgs : Nat) (f : Fm) (L : List Res) => (f 2 = .pointer (some ⟨b1, 0, none⟩) ∧ f 4 = .pointer (some ⟨b2, 0, none⟩) ∧ f 5 = .pointer (some ⟨b6, 0, none⟩) ∧ f 33 = Nx (gs.length) ∧ f 34 = Nx (kgs)) ∧ L = [rdrR rb (hsK (gs.drop kgs) (bitsV (U ((ms.length : Nat) : Int)) 9 ++ (msK ms []))), mpR PuM mp3 ps, mpR HoM mh4 (gs.take kgs), mpR MeM mm5 [], pt b2 (.cells #[.pointer (some ⟨rb, 0, none⟩)] 168), pt b1 (.cells #[.map none, .map none, .int .i64 (0), .int .i64 (0), .int .i64 (0), .int .i64 (0), .int .i64 (0), .map none] 88), pt b6 (.cells #[.map (some mp3), .map (some mh4), Ix (X.s.last), Ix (X.s.su.a0), Ix (X.s.su.a1), Ix (X.s.su.a2), Ix (X.s.su.a3), .map (some mm5)] 88)] ∧ (kgs ≤ gs.length)) (fun (kgs : Nat) => gs.length - kgs) 0 ?_ ?_
  ·exact ⟨⟨rfl, rfl, rfl, rfl, rfl⟩, rfl, Nat.zero_le _⟩
  rintro kgs f0 L0 ⟨⟨hs2, hs4, hs5, hs33, hs34⟩, hL, hkgs⟩
  subst L0
  refine rebase (d := 2) hs2 ?_
  refine rebase (d := 4) hs4 ?_
  refine rebase (d := 5) hs5 ?_
  refine rebase (d := 33) hs33 ?_
  refine rebase (d := 34) hs34 ?_
  clear hs2 hs4 hs5 hs33 hs34
  refine c_seq ?_
  refine c_region ?_
  refine l_val (v := .bool (decide (((kgs : Nat) : Int) < ((gs.length : Nat) : Int)))) rfl rfl rfl (e_lss (a := ((kgs : Nat) : Int)) (b := ((gs.length : Nat) : Int)) rfl rfl) ?_
  refine l_nil ?_
  refine f_then ?_
  refine c_seq ?_
  refine c_if (((kgs : Nat) : Int) < ((gs.length : Nat) : Int)) rfl (fun hc10 => ?_) (fun hc10 => ?_)
  ·
   refine c_skip ?_
   refine f_then ?_
   refine c_seq ?_
   refine c_block ?_
   refine c_seq ?_
   obtain ⟨x, hx⟩ : ∃ x, gs[kgs]? = some x := ⟨_, List.getElem?_eq_getElem (by omega)⟩
   have hxm := List.mem_of_getElem? hx
   have hxf := hsf.hh x hxm
   refine c_re (L' := [rdrR rb (bitsV (U x.1) 48 ++ (bitsV (U x.2.owner) 17 ++ (amK x.2.a 31 (hsK (gs.drop (kgs + 1)) (bitsV (U ((ms.length : Nat) : Int)) 9 ++ (msK ms [])))))), mpR PuM mp3 ps, mpR HoM mh4 (gs.take kgs), mpR MeM mm5 [], pt b2 (.cells #[.pointer (some ⟨rb, 0, none⟩)] 168), pt b1 (.cells #[.map none, .map none, .int .i64 (0), .int .i64 (0), .int .i64 (0), .int .i64 (0), .int .i64 (0), .map none] 88), pt b6 (.cells #[.map (some mp3), .map (some mh4), Ix (X.s.last), Ix (X.s.su.a0), Ix (X.s.su.a1), Ix (X.s.su.a2), Ix (X.s.su.a3), .map (some mm5)] 88)]) (by rw [hsK_next hx]) ?_
   refine c_any [⟨[], [], [0], [36], fun f => f 36 = .agg #[.pointer (some ⟨rb, 0, none⟩)]⟩, ⟨[0], [0], [], [37], fun f => f 37 = Ix (x.1)⟩, ⟨[], [], [0], [38], fun f => f 38 = .agg #[.pointer (some ⟨rb, 0, none⟩)]⟩, ⟨[0, 1, 2], [2], [], [39], fun f => f 39 = Ix (x.2.owner)⟩, ⟨[0, 1, 2, 3], [1, 3], [], [40], fun f => f 40 = .agg #[Ix (x.1), Ix (x.2.owner), .int .i64 (0), .int .i64 (0), .int .i64 (0), .int .i64 (0)]⟩, ⟨[], [], [], [7], fun f => f 7 = .pointer (some ⟨(blk (f 7)), 0, none⟩)⟩, ⟨[0, 1, 2, 3, 4, 5], [5, 4], [], [], fun _ => True⟩] [⟨none, (some 1), [1], [], fun _ => rdrR rb (bitsV (U x.1) 48 ++ (bitsV (U x.2.owner) 17 ++ (amK x.2.a 31 (hsK (gs.drop (kgs + 1)) (bitsV (U ((ms.length : Nat) : Int)) 9 ++ (msK ms []))))))⟩, ⟨none, none, [], [], fun _ => mpR PuM mp3 ps⟩, ⟨none, none, [], [], fun _ => mpR HoM mh4 (gs.take kgs)⟩, ⟨none, none, [], [], fun _ => mpR MeM mm5 []⟩, ⟨none, none, [0, 2], [], fun _ => pt b2 (.cells #[.pointer (some ⟨rb, 0, none⟩)] 168)⟩, ⟨none, none, [], [], fun _ => pt b1 (.cells #[.map none, .map none, .int .i64 (0), .int .i64 (0), .int .i64 (0), .int .i64 (0), .int .i64 (0), .map none] 88)⟩, ⟨none, none, [], [], fun _ => pt b6 (.cells #[.map (some mp3), .map (some mh4), Ix (X.s.last), Ix (X.s.su.a0), Ix (X.s.su.a1), Ix (X.s.su.a2), Ix (X.s.su.a3), .map (some mm5)] 88)⟩, ⟨(some 1), (some 3), [3], [], fun _ => rdrR rb (bitsV (U x.2.owner) 17 ++ (amK x.2.a 31 (hsK (gs.drop (kgs + 1)) (bitsV (U ((ms.length : Nat) : Int)) 9 ++ (msK ms [])))))⟩, ⟨(some 3), none, [], [], fun _ => rdrR rb (amK x.2.a 31 (hsK (gs.drop (kgs + 1)) (bitsV (U ((ms.length : Nat) : Int)) 9 ++ (msK ms []))))⟩, ⟨(some 5), (some 6), [6], [7], fun f => pt (blk (f 7)) (.cells #[.int .i64 (0), .int .i64 (0), .int .i64 (0), .int .i64 (0), .int .i64 (0), .int .i64 (0)] 104)⟩, ⟨(some 6), none, [], [7], fun f => pt (blk (f 7)) (.cells #[Ix (x.1), Ix (x.2.owner), .int .i64 (0), .int .i64 (0), .int .i64 (0), .int .i64 (0)] 104)⟩] [(4, .pointer (some ⟨b2, 0, none⟩)), (2, .pointer (some ⟨b1, 0, none⟩)), (5, .pointer (some ⟨b6, 0, none⟩)), (33, Nx (gs.length)), (34, Nx (kgs))] [1, 0, 2, 3, 4] [] (by kernel_rfl) (by kernel_rfl) (by kernel_rfl) (by kernel_rfl) rfl ⟨rfl, rfl, rfl, rfl, rfl, trivial⟩ ⟨?_, ?_, ?_, ?_, ?_, ?_, ?_, trivial⟩ ?_
   ·rintro f M - ⟨i0, -⟩
    have hs4 : f 4 = .pointer (some ⟨b2, 0, none⟩) := i0
    refine ob_start (L' := pt b2 (.cells #[.pointer (some ⟨rb, 0, none⟩)] 168) :: M) (by rfl) (up_cons rfl hs4) ?_
    refine l_val (v := .agg #[.pointer (some ⟨rb, 0, none⟩)]) rfl rfl rfl (e_load tt132 (cs := [.pointer (some ⟨rb, 0, none⟩)]) rfl (k_pt 0 (cs := #[.pointer (some ⟨rb, 0, none⟩)]) (vs := [.pointer (some ⟨rb, 0, none⟩)]) rfl rfl) rfl) ?_
    refine l_nil ?_
    exact f_owes_d (up_cons rfl hs4) rfl (perm_front 0 rfl)
   ·rintro f M ⟨k0, -⟩ -
    have hs36 : f 36 = .agg #[.pointer (some ⟨rb, 0, none⟩)] := k0
    refine ob_start (L' := rdrR rb (bitsV (U x.1) 48 ++ (bitsV (U x.2.owner) 17 ++ (amK x.2.a 31 (hsK (gs.drop (kgs + 1)) (bitsV (U ((ms.length : Nat) : Int)) 9 ++ (msK ms [])))))) :: M) (by rfl) (up_cons rfl hs36) ?_
    refine l_call rfl rfl rfl (cl_value (fst := []) (cap := []) (vs := [.agg #[.pointer (some ⟨rb, 0, none⟩)], .int .i64 (48)]) (all := [.agg #[.pointer (some ⟨rb, 0, none⟩)], .int .i64 (48)]) tt133 rfl rfl rfl) ?_
    intro w hw
    replace hw := hw.perm (L' := _ :: M) (by exact (perm_front 0 rfl))
    obtain ⟨β1, sb, kn, hw1, back⟩ := St.frame (L := [_]) (M := M) hw
    refine (tget_ok β1 w rb _ x.1 48 hxf.1 hw1).mono ?_
    rintro e w' ⟨rfl, hw'⟩
    refine ⟨_, rfl, _, back _ _ hw', ?_⟩
    clear hw hw1 hw' back kn sb
    refine l_nil ?_
    exact f_owes_d (up_cons rfl hs36) rfl (perm_front 0 rfl)
   ·rintro f M - ⟨i0, -⟩
    have hs4 : f 4 = .pointer (some ⟨b2, 0, none⟩) := i0
    refine ob_start (L' := pt b2 (.cells #[.pointer (some ⟨rb, 0, none⟩)] 168) :: M) (by rfl) (up_cons rfl hs4) ?_
    refine l_val (v := .agg #[.pointer (some ⟨rb, 0, none⟩)]) rfl rfl rfl (e_load tt132 (cs := [.pointer (some ⟨rb, 0, none⟩)]) rfl (k_pt 0 (cs := #[.pointer (some ⟨rb, 0, none⟩)]) (vs := [.pointer (some ⟨rb, 0, none⟩)]) rfl rfl) rfl) ?_
    refine l_nil ?_
    exact f_owes_d (up_cons rfl hs4) rfl (perm_front 0 rfl)
   ·rintro f M ⟨k0, -⟩ -
    have hs38 : f 38 = .agg #[.pointer (some ⟨rb, 0, none⟩)] := k0
    refine ob_start (L' := rdrR rb (bitsV (U x.2.owner) 17 ++ (amK x.2.a 31 (hsK (gs.drop (kgs + 1)) (bitsV (U ((ms.length : Nat) : Int)) 9 ++ (msK ms []))))) :: M) (by rfl) (up_cons rfl hs38) ?_
    refine l_call rfl rfl rfl (cl_value (fst := []) (cap := []) (vs := [.agg #[.pointer (some ⟨rb, 0, none⟩)], .int .i64 (17)]) (all := [.agg #[.pointer (some ⟨rb, 0, none⟩)], .int .i64 (17)]) tt133 rfl rfl rfl) ?_
    intro w hw
    replace hw := hw.perm (L' := _ :: M) (by exact (perm_front 0 rfl))
    obtain ⟨β1, sb, kn, hw1, back⟩ := St.frame (L := [_]) (M := M) hw
    refine (tget_ok β1 w rb _ x.2.owner 17 hxf.2.1 hw1).mono ?_
    rintro e w' ⟨rfl, hw'⟩
    refine ⟨_, rfl, _, back _ _ hw', ?_⟩
    clear hw hw1 hw' back kn sb
    refine l_nil ?_
    exact f_owes_d (up_cons rfl hs38) rfl (perm_front 0 rfl)
   ·rintro f M ⟨k0, k1, -⟩ -
    have hs37 : f 37 = Ix (x.1) := k0
    have hs39 : f 39 = Ix (x.2.owner) := k1
    refine ob_start (L' := M) (by rfl) (up_cons (up_cons rfl hs37) hs39) ?_
    refine l_val (v := .agg #[Ix (x.1), Ix (x.2.owner), .int .i64 (0), .int .i64 (0), .int .i64 (0), .int .i64 (0)]) rfl rfl rfl (e_build tt42 tt41 (vs := [(0, Ix (x.1)), (1, Ix (x.2.owner))]) (cells := #[Ix (x.1), Ix (x.2.owner), .int .i64 (0), .int .i64 (0), .int .i64 (0), .int .i64 (0)]) rfl rfl) ?_
    refine l_nil ?_
    exact f_owes_d (up_cons (up_cons rfl hs37) hs39) rfl (List.Perm.refl _)
   ·rintro f M - -
    refine ob_start (L' := M) (by rfl) rfl ?_
    refine l_mv rfl rfl rfl (m_alloc tt42) ?_
    rintro _ _ ⟨b12, rfl, rfl⟩
    refine l_nil ?_
    exact f_owes_d rfl rfl (perm_front 0 rfl)
   ·rintro f M ⟨k0, k1, -⟩ -
    have hs7 : f 7 = .pointer (some ⟨(blk (f 7)), 0, none⟩) := k0
    have hs40 : f 40 = .agg #[Ix (x.1), Ix (x.2.owner), .int .i64 (0), .int .i64 (0), .int .i64 (0), .int .i64 (0)] := k1
    refine ob_start (L' := pt (blk (f 7)) (.cells #[.int .i64 (0), .int .i64 (0), .int .i64 (0), .int .i64 (0), .int .i64 (0), .int .i64 (0)] 104) :: M) (by rfl) (up_cons (up_cons rfl hs7) hs40) ?_
    refine l_mu rfl rfl (m_store 0 tt43 (b := (blk (f 7))) (o := 0) (T := 104) (cs := #[.int .i64 (0), .int .i64 (0), .int .i64 (0), .int .i64 (0), .int .i64 (0), .int .i64 (0)]) (cs' := #[Ix (x.1), Ix (x.2.owner), .int .i64 (0), .int .i64 (0), .int .i64 (0), .int .i64 (0)]) (v := .agg #[Ix (x.1), Ix (x.2.owner), .int .i64 (0), .int .i64 (0), .int .i64 (0), .int .i64 (0)]) rfl rfl rfl rfl rfl rfl rfl) ?_
    refine l_nil ?_
    exact f_owes_n (up_cons (up_cons rfl hs7) hs40) trivial (perm_front 0 rfl)
   rintro fa13 ⟨-, -, -, -, -, k5, -, -⟩ ⟨j0, j1, j2, j3, j4, -⟩
   refine f_re (L' := [mpR PuM mp3 ps, mpR HoM mh4 (gs.take kgs), mpR MeM mm5 [], pt b2 (.cells #[.pointer (some ⟨rb, 0, none⟩)] 168), pt b1 (.cells #[.map none, .map none, .int .i64 (0), .int .i64 (0), .int .i64 (0), .int .i64 (0), .int .i64 (0), .map none] 88), pt b6 (.cells #[.map (some mp3), .map (some mh4), Ix (X.s.last), Ix (X.s.su.a0), Ix (X.s.su.a1), Ix (X.s.su.a2), Ix (X.s.su.a3), .map (some mm5)] 88), rdrR rb (amK x.2.a 31 (hsK (gs.drop (kgs + 1)) (bitsV (U ((ms.length : Nat) : Int)) 9 ++ (msK ms [])))), pt (blk (fa13 7)) (.cells #[Ix (x.1), Ix (x.2.owner), .int .i64 (0), .int .i64 (0), .int .i64 (0), .int .i64 (0)] 104)]) (by rfl) ?_
   refine f_rebase (d := 2) (v := .pointer (some ⟨b1, 0, none⟩)) j0 ?_
   refine f_rebase (d := 4) (v := .pointer (some ⟨b2, 0, none⟩)) j1 ?_
   refine f_rebase (d := 5) (v := .pointer (some ⟨b6, 0, none⟩)) j2 ?_
   refine f_rebase (d := 7) (v := .pointer (some ⟨(blk (fa13 7)), 0, none⟩)) k5 ?_
   refine f_rebase (d := 33) (v := Nx (gs.length)) j3 ?_
   refine f_rebase (d := 34) (v := Nx (kgs)) j4 ?_
   refine f_then ?_
   refine c_seq ?_
   refine c_region ?_
   refine l_val (v := .agg #[.pointer (some ⟨rb, 0, none⟩)]) rfl rfl rfl (e_load tt132 (cs := [.pointer (some ⟨rb, 0, none⟩)]) rfl (k_pt 3 (cs := #[.pointer (some ⟨rb, 0, none⟩)]) (vs := [.pointer (some ⟨rb, 0, none⟩)]) rfl rfl) rfl) ?_
   refine l_call rfl rfl rfl (cl_value (fst := []) (cap := []) (vs := [.agg #[.pointer (some ⟨rb, 0, none⟩)], .int .i64 (31)]) (all := [.agg #[.pointer (some ⟨rb, 0, none⟩)], .int .i64 (31)]) tt136 rfl rfl rfl) ?_
   intro w hw
   replace hw := hw.perm (L' := _ :: _ :: _ :: _ :: _ :: _ :: _ :: _ :: []) (by exact ((((((((perm_front 7 rfl).trans (perm_front 6 rfl)).trans (perm_front 6 rfl)).trans (perm_front 6 rfl)).trans (perm_front 6 rfl)).trans (perm_front 6 rfl)).trans (perm_front 6 rfl)).trans (perm_front 7 rfl)))
   obtain ⟨β1, sb, kn, hw1, back⟩ := St.frame (L := [_]) (M := _ :: _ :: _ :: _ :: _ :: _ :: _ :: []) hw
   refine (tamr_ok β1 w rb _ x.2.a 31 hxf.2.2.1 hw1).mono ?_
   rintro e w' ⟨rfl, hw'⟩
   refine ⟨_, rfl, _, back _ _ hw', ?_⟩
   clear hw hw1 hw' back kn sb
   refine l_val (v := .pointer (some ⟨(blk (fa13 7)), 2, none⟩)) rfl rfl rfl (e_fieldPt (b := (blk (fa13 7))) (o := 0) rfl tt44) ?_
   refine l_mu rfl rfl (m_store 7 tt0 (b := (blk (fa13 7))) (o := 2) (T := 104) (cs := #[Ix (x.1), Ix (x.2.owner), .int .i64 (0), .int .i64 (0), .int .i64 (0), .int .i64 (0)]) (cs' := #[Ix (x.1), Ix (x.2.owner), Ix (x.2.a.a0), Ix (x.2.a.a1), Ix (x.2.a.a2), Ix (x.2.a.a3)]) (v := .agg (amC x.2.a)) rfl rfl rfl rfl rfl rfl rfl) ?_
   refine l_nil ?_
   refine f_then ?_
   refine c_region ?_
   refine l_val (v := .pointer (some ⟨b6, 1, none⟩)) rfl rfl rfl (e_fieldPt (b := b6) (o := 0) rfl tt38) ?_
   refine l_val (v := .map (some mh4)) rfl rfl rfl (e_load1 tt39 (v := .map (some mh4)) rfl (k_pt 6 (cs := #[.map (some mp3), .map (some mh4), Ix (X.s.last), Ix (X.s.su.a0), Ix (X.s.su.a1), Ix (X.s.su.a2), Ix (X.s.su.a3), .map (some mm5)]) (vs := [.map (some mh4)]) rfl rfl)) ?_
   refine l_val (v := .pointer (some ⟨(blk (fa13 7)), 0, none⟩)) rfl rfl rfl (e_fieldPt (b := (blk (fa13 7))) (o := 0) rfl tt142) ?_
   refine l_val (v := Ix (x.1)) rfl rfl rfl (e_load1 tt2 (v := Ix (x.1)) rfl (k_pt 7 (cs := #[Ix (x.1), Ix (x.2.owner), Ix (x.2.a.a0), Ix (x.2.a.a1), Ix (x.2.a.a2), Ix (x.2.a.a3)]) (vs := [Ix (x.1)]) rfl rfl)) ?_
   refine l_val (v := .agg #[Ix (x.1), Ix (x.2.owner), Ix (x.2.a.a0), Ix (x.2.a.a1), Ix (x.2.a.a2), Ix (x.2.a.a3)]) rfl rfl rfl (e_load tt43 (cs := [Ix (x.1), Ix (x.2.owner), Ix (x.2.a.a0), Ix (x.2.a.a1), Ix (x.2.a.a2), Ix (x.2.a.a3)]) rfl (k_pt 7 (cs := #[Ix (x.1), Ix (x.2.owner), Ix (x.2.a.a0), Ix (x.2.a.a1), Ix (x.2.a.a2), Ix (x.2.a.a3)]) (vs := [Ix (x.1), Ix (x.2.owner), Ix (x.2.a.a0), Ix (x.2.a.a1), Ix (x.2.a.a2), Ix (x.2.a.a3)]) rfl rfl) rfl) ?_
   refine l_mu rfl rfl (m_mput (K := HoM) (b := mh4) (ks := (gs.take kgs)) (k := (x.1)) (v := (⟨x.1, x.2.owner, x.2.a⟩ : KHo)) 2 rfl rfl rfl rfl rfl) ?_
   refine l_nil ?_
   refine f_block ?_
   refine f_then ?_
   refine c_region ?_
   refine l_val (v := Nx (kgs + 1)) rfl rfl rfl (e_add (a := ((kgs : Nat) : Int)) (b := (1 : Int)) rfl rfl (i64n (by omega) (by omega))) ?_
   refine l_val (v := Nx (kgs + 1)) rfl rfl rfl (e_move) ?_
   refine l_nil ?_
   refine f_mask (L' := [rdrR rb (hsK (gs.drop (kgs + 1)) (bitsV (U ((ms.length : Nat) : Int)) 9 ++ (msK ms []))), mpR PuM mp3 ps, mpR HoM mh4 (HoM.put (gs.take kgs) (x.1) (⟨x.1, x.2.owner, x.2.a⟩ : KHo)), mpR MeM mm5 [], pt b2 (.cells #[.pointer (some ⟨rb, 0, none⟩)] 168), pt b1 (.cells #[.map none, .map none, .int .i64 (0), .int .i64 (0), .int .i64 (0), .int .i64 (0), .int .i64 (0), .map none] 88), pt b6 (.cells #[.map (some mp3), .map (some mh4), Ix (X.s.last), Ix (X.s.su.a0), Ix (X.s.su.a1), Ix (X.s.su.a2), Ix (X.s.su.a3), .map (some mm5)] 88)]) [true, true, true, true, true, true, true, false] rfl ?_
   exact f_cut ⟨kgs + 1, ⟨⟨rfl, rfl, rfl, rfl, rfl⟩, by rw [ho_num hxf.2.2.2, put_take hsf.hd hx rfl], (by omega)⟩, (show gs.length - (kgs + 1) < gs.length - kgs from by omega)⟩
  ·
   refine c_exit ?_
   refine f_then_exit ?_
   refine f_then_exit ?_
   refine f_exit ?_
   refine f_then ?_
   refine c_seq ?_
   have hkegs : kgs = gs.length := by omega
   refine c_re (L' := [rdrR rb (bitsV (U ((ms.length : Nat) : Int)) 9 ++ (msK ms [])), mpR PuM mp3 ps, mpR HoM mh4 gs, mpR MeM mm5 [], pt b2 (.cells #[.pointer (some ⟨rb, 0, none⟩)] 168), pt b1 (.cells #[.map none, .map none, .int .i64 (0), .int .i64 (0), .int .i64 (0), .int .i64 (0), .int .i64 (0), .map none] 88), pt b6 (.cells #[.map (some mp3), .map (some mh4), Ix (X.s.last), Ix (X.s.su.a0), Ix (X.s.su.a1), Ix (X.s.su.a2), Ix (X.s.su.a3), .map (some mm5)] 88)]) (by rw [hkegs, List.take_length, List.drop_length]; rfl) ?_
   refine c_region ?_
   refine l_val (v := .bool true) rfl rfl rfl (e_assign) ?_
   refine l_nil ?_
   refine f_then ?_
   refine c_seq ?_
   refine c_seq ?_
   refine c_emp (r := memR []) memR_nil ?_
   refine c_region ?_
   refine l_val (v := .agg #[.pointer (some ⟨rb, 0, none⟩)]) rfl rfl rfl (e_load tt132 (cs := [.pointer (some ⟨rb, 0, none⟩)]) rfl (k_pt 5 (cs := #[.pointer (some ⟨rb, 0, none⟩)]) (vs := [.pointer (some ⟨rb, 0, none⟩)]) rfl rfl) rfl) ?_
   refine l_call rfl rfl rfl (cl_value (fst := []) (cap := []) (vs := [.agg #[.pointer (some ⟨rb, 0, none⟩)], .int .i64 (9)]) (all := [.agg #[.pointer (some ⟨rb, 0, none⟩)], .int .i64 (9)]) tt133 rfl rfl rfl) ?_
   intro w hw
   replace hw := hw.perm (L' := _ :: _ :: _ :: _ :: _ :: _ :: _ :: _ :: []) (by exact ((((((((perm_front 7 rfl).trans (perm_front 7 rfl)).trans (perm_front 7 rfl)).trans (perm_front 7 rfl)).trans (perm_front 7 rfl)).trans (perm_front 7 rfl)).trans (perm_front 6 rfl)).trans (perm_front 7 rfl)))
   obtain ⟨β1, sb, kn, hw1, back⟩ := St.frame (L := [_]) (M := _ :: _ :: _ :: _ :: _ :: _ :: _ :: []) hw
   refine (tget_ok β1 w rb _ ((ms.length : Nat) : Int) 9 hsf.ml hw1).mono ?_
   rintro e w' ⟨rfl, hw'⟩
   refine ⟨_, rfl, _, back _ _ hw', ?_⟩
   clear hw hw1 hw' back kn sb
   refine l_val (v := .int .i64 (0)) rfl rfl rfl (e_move) ?_
   refine l_nil ?_
   refine f_then ?_
   refine c_block ?_
   refine c_loop (fun (x_ : Nat × List (KMh × KMem)) (f : Fm) (L : List Res) => match x_ with | (kms, LL) => (f 2 = .pointer (some ⟨b1, 0, none⟩) ∧ f 4 = .pointer (some ⟨b2, 0, none⟩) ∧ f 5 = .pointer (some ⟨b6, 0, none⟩) ∧ f 8 = .bool true ∧ f 51 = Nx (ms.length) ∧ f 52 = Nx (kms)) ∧ L = [rdrR rb (msK (ms.drop kms) []), memR LL, mpR PuM mp3 ps, mpR HoM mh4 gs, mpR MeM mm5 (hdl LL), pt b2 (.cells #[.pointer (some ⟨rb, 0, none⟩)] 168), pt b1 (.cells #[.map none, .map none, .int .i64 (0), .int .i64 (0), .int .i64 (0), .int .i64 (0), .int .i64 (0), .map none] 88), pt b6 (.cells #[.map (some mp3), .map (some mh4), Ix (X.s.last), Ix (X.s.su.a0), Ix (X.s.su.a1), Ix (X.s.su.a2), Ix (X.s.su.a3), .map (some mm5)] 88)] ∧ (kms ≤ ms.length ∧ mml LL = ms.take kms ∧ ∀ z ∈ LL, HdOf z)) (fun (x_ : Nat × List (KMh × KMem)) => match x_ with | (kms, LL) => ms.length - kms) (0, []) ?_ ?_
   ·exact ⟨⟨rfl, rfl, rfl, rfl, rfl, rfl⟩, rfl, ⟨Nat.zero_le _, rfl, fun z hz => by cases hz⟩⟩
   rintro ⟨kms, LL⟩ f0 L0 ⟨⟨hs2, hs4, hs5, hs8, hs51, hs52⟩, hL, ⟨hkms, hml, hho⟩⟩
   subst L0
   refine rebase (d := 2) hs2 ?_
   refine rebase (d := 4) hs4 ?_
   refine rebase (d := 5) hs5 ?_
   refine rebase (d := 8) hs8 ?_
   refine rebase (d := 51) hs51 ?_
   refine rebase (d := 52) hs52 ?_
   clear hs2 hs4 hs5 hs8 hs51 hs52
   refine c_seq ?_
   refine c_region ?_
   refine l_val (v := .bool (decide (((kms : Nat) : Int) < ((ms.length : Nat) : Int)))) rfl rfl rfl (e_lss (a := ((kms : Nat) : Int)) (b := ((ms.length : Nat) : Int)) rfl rfl) ?_
   refine l_nil ?_
   refine f_then ?_
   refine c_seq ?_
   refine c_if (((kms : Nat) : Int) < ((ms.length : Nat) : Int)) rfl (fun hc14 => ?_) (fun hc14 => ?_)
   ·
    refine c_skip ?_
    refine f_then ?_
    refine c_seq ?_
    refine c_block ?_
    refine c_seq ?_
    obtain ⟨x, hx⟩ : ∃ x, ms[kms]? = some x := ⟨_, List.getElem?_eq_getElem (by omega)⟩
    have hxm := List.mem_of_getElem? hx
    have hmk := hsf.mm x hxm
    have hmf := mem_fit hmk hla
    have hdf16 := hmf.d.few
    refine c_re (L' := [rdrR rb (dealK x.2.d.author x.2.d.number x.2.d.acts (bitsV (U ((x.2.r.holds.length : Nat) : Int)) 9 ++ (nsK x.2.r.holds (bitsV (U x.2.r.at_) 9 ++ (bitsV (U x.2.r.e) 16 ++ (msK (ms.drop (kms + 1)) [])))))), memR LL, mpR PuM mp3 ps, mpR HoM mh4 gs, mpR MeM mm5 (hdl LL), pt b2 (.cells #[.pointer (some ⟨rb, 0, none⟩)] 168), pt b1 (.cells #[.map none, .map none, .int .i64 (0), .int .i64 (0), .int .i64 (0), .int .i64 (0), .int .i64 (0), .map none] 88), pt b6 (.cells #[.map (some mp3), .map (some mh4), Ix (X.s.last), Ix (X.s.su.a0), Ix (X.s.su.a1), Ix (X.s.su.a2), Ix (X.s.su.a3), .map (some mm5)] 88)]) (by rw [msK_next hx]; rfl) ?_
    refine c_region ?_
    refine l_val (v := .agg #[.pointer (some ⟨rb, 0, none⟩)]) rfl rfl rfl (e_load tt132 (cs := [.pointer (some ⟨rb, 0, none⟩)]) rfl (k_pt 5 (cs := #[.pointer (some ⟨rb, 0, none⟩)]) (vs := [.pointer (some ⟨rb, 0, none⟩)]) rfl rfl) rfl) ?_
    refine l_call rfl rfl rfl (cl_value (fst := []) (cap := []) (vs := [.agg #[.pointer (some ⟨rb, 0, none⟩)]]) (all := [.agg #[.pointer (some ⟨rb, 0, none⟩)]]) tt143 rfl rfl rfl) ?_
    intro w hw
    replace hw := hw.perm (L' := _ :: _ :: _ :: _ :: _ :: _ :: _ :: _ :: []) (by exact ((((((((perm_front 7 rfl).trans (perm_front 7 rfl)).trans (perm_front 7 rfl)).trans (perm_front 7 rfl)).trans (perm_front 7 rfl)).trans (perm_front 7 rfl)).trans (perm_front 7 rfl)).trans (perm_front 7 rfl)))
    obtain ⟨β1, sb, kn, hw1, back⟩ := St.frame (L := [_]) (M := _ :: _ :: _ :: _ :: _ :: _ :: _ :: []) hw
    refine (dealr_ok β1 w rb x.2.d.author x.2.d.number x.2.d.acts _ hmf.d hw1).mono ?_
    rintro e w' ⟨p15, c16, rfl, hw'⟩
    refine ⟨_, rfl, _, back _ _ hw', ?_⟩
    clear hw hw1 hw' back kn sb
    refine l_val (v := .agg #[Ix (x.2.d.author), Ix (x.2.d.number), .slice p15 (x.2.d.acts.length) c16, .bool false, .int .i64 (0), .int .i64 (0), .slice none 0 0]) rfl rfl rfl (e_build tt67 tt66 (vs := [(0, .agg #[Ix (x.2.d.author), Ix (x.2.d.number), .slice p15 (x.2.d.acts.length) c16])]) (cells := #[Ix (x.2.d.author), Ix (x.2.d.number), .slice p15 (x.2.d.acts.length) c16, .bool false, .int .i64 (0), .int .i64 (0), .slice none 0 0]) rfl (by kernel_rfl)) ?_
    refine l_mv rfl rfl rfl (m_alloc tt67) ?_
    rintro _ _ ⟨b17, rfl, rfl⟩
    refine l_mu rfl rfl (m_store 0 tt101 (b := b17) (o := 0) (T := 82) (cs := #[.int .i64 (0), .int .i64 (0), .slice none 0 0, .bool false, .int .i64 (0), .int .i64 (0), .slice none 0 0]) (cs' := #[Ix (x.2.d.author), Ix (x.2.d.number), .slice p15 (x.2.d.acts.length) c16, .bool false, .int .i64 (0), .int .i64 (0), .slice none 0 0]) (v := .agg #[Ix (x.2.d.author), Ix (x.2.d.number), .slice p15 (x.2.d.acts.length) c16, .bool false, .int .i64 (0), .int .i64 (0), .slice none 0 0]) rfl rfl rfl rfl rfl rfl rfl) ?_
    refine l_nil ?_
    refine f_then ?_
    refine c_seq ?_
    refine c_seq ?_
    refine c_emp (r := rowF IntF 3 none 0 []) (row_nil _ _ _) ?_
    refine c_region ?_
    refine l_val (v := .agg #[.pointer (some ⟨rb, 0, none⟩)]) rfl rfl rfl (e_load tt132 (cs := [.pointer (some ⟨rb, 0, none⟩)]) rfl (k_pt 8 (cs := #[.pointer (some ⟨rb, 0, none⟩)]) (vs := [.pointer (some ⟨rb, 0, none⟩)]) rfl rfl) rfl) ?_
    refine l_call rfl rfl rfl (cl_value (fst := []) (cap := []) (vs := [.agg #[.pointer (some ⟨rb, 0, none⟩)], .int .i64 (9)]) (all := [.agg #[.pointer (some ⟨rb, 0, none⟩)], .int .i64 (9)]) tt133 rfl rfl rfl) ?_
    intro w hw
    replace hw := hw.perm (L' := [rdrR rb (bitsV (U ((x.2.r.holds.length : Nat) : Int)) 9 ++ (nsK x.2.r.holds (bitsV (U x.2.r.at_) 9 ++ (bitsV (U x.2.r.e) 16 ++ (msK (ms.drop (kms + 1)) []))))), rowF IntF 3 none 0 [], pt b17 (.cells #[Ix (x.2.d.author), Ix (x.2.d.number), .slice p15 (x.2.d.acts.length) c16, .bool false, .int .i64 (0), .int .i64 (0), .slice none (0) 0] 82), rowF ActF 47 p15 c16 x.2.d.acts, memR LL, mpR PuM mp3 ps, mpR HoM mh4 gs, mpR MeM mm5 (hdl LL), pt b2 (.cells #[.pointer (some ⟨rb, 0, none⟩)] 168), pt b1 (.cells #[.map none, .map none, .int .i64 (0), .int .i64 (0), .int .i64 (0), .int .i64 (0), .int .i64 (0), .map none] 88), pt b6 (.cells #[.map (some mp3), .map (some mh4), Ix (X.s.last), Ix (X.s.su.a0), Ix (X.s.su.a1), Ix (X.s.su.a2), Ix (X.s.su.a3), .map (some mm5)] 88)]) (by exact (perm_ix [3, 0, 1, 2, 4, 5, 6, 7, 8, 9, 10] 11 rfl (by kernel_rfl) (by kernel_rfl)))
    obtain ⟨β1, sb, kn, hw1, back⟩ := St.frame (L := [_]) (M := _ :: _ :: _ :: _ :: _ :: _ :: _ :: _ :: _ :: _ :: []) hw
    refine (tget_ok β1 w rb _ ((x.2.r.holds.length : Nat) : Int) 9 hmf.l hw1).mono ?_
    rintro e w' ⟨rfl, hw'⟩
    refine ⟨_, rfl, _, back _ _ hw', ?_⟩
    clear hw hw1 hw' back kn sb
    refine l_val (v := .int .i64 (0)) rfl rfl rfl (e_move) ?_
    refine l_nil ?_
    refine f_then ?_
    refine c_block ?_
    refine c_loop (fun (x_ : Nat × List Int × Option Addr × Nat) (f : Fm) (L : List Res) => match x_ with | (j, hl, q, d) => (f 2 = .pointer (some ⟨b1, 0, none⟩) ∧ f 4 = .pointer (some ⟨b2, 0, none⟩) ∧ f 5 = .pointer (some ⟨b6, 0, none⟩) ∧ f 8 = .bool true ∧ f 9 = .pointer (some ⟨b17, 0, none⟩) ∧ f 51 = Nx (ms.length) ∧ f 52 = Nx (kms) ∧ f 58 = Nx (x.2.r.holds.length) ∧ f 59 = Nx (j)) ∧ L = [rdrR rb (nsK (x.2.r.holds.drop j) (bitsV (U x.2.r.at_) 9 ++ (bitsV (U x.2.r.e) 16 ++ (msK (ms.drop (kms + 1)) [])))), rowF IntF 3 q d hl, pt b17 (.cells #[Ix (x.2.d.author), Ix (x.2.d.number), .slice p15 (x.2.d.acts.length) c16, .bool false, .int .i64 (0), .int .i64 (0), .slice q (hl.length) d] 82), rowF ActF 47 p15 c16 x.2.d.acts, memR LL, mpR PuM mp3 ps, mpR HoM mh4 gs, mpR MeM mm5 (hdl LL), pt b2 (.cells #[.pointer (some ⟨rb, 0, none⟩)] 168), pt b1 (.cells #[.map none, .map none, .int .i64 (0), .int .i64 (0), .int .i64 (0), .int .i64 (0), .int .i64 (0), .map none] 88), pt b6 (.cells #[.map (some mp3), .map (some mh4), Ix (X.s.last), Ix (X.s.su.a0), Ix (X.s.su.a1), Ix (X.s.su.a2), Ix (X.s.su.a3), .map (some mm5)] 88)] ∧ (j ≤ x.2.r.holds.length ∧ hl = x.2.r.holds.take j)) (fun (x_ : Nat × List Int × Option Addr × Nat) => match x_ with | (j, hl, q, d) => x.2.r.holds.length - j) (0, [], none, 0) ?_ ?_
    ·exact ⟨⟨rfl, rfl, rfl, rfl, rfl, rfl, rfl, rfl, rfl⟩, rfl, ⟨Nat.zero_le _, rfl⟩⟩
    rintro ⟨j, hl, q, d⟩ f0 L0 ⟨⟨hs2, hs4, hs5, hs8, hs9, hs51, hs52, hs58, hs59⟩, hL, ⟨hj, hhl⟩⟩
    subst L0
    refine rebase (d := 2) hs2 ?_
    refine rebase (d := 4) hs4 ?_
    refine rebase (d := 5) hs5 ?_
    refine rebase (d := 8) hs8 ?_
    refine rebase (d := 9) hs9 ?_
    refine rebase (d := 51) hs51 ?_
    refine rebase (d := 52) hs52 ?_
    refine rebase (d := 58) hs58 ?_
    refine rebase (d := 59) hs59 ?_
    clear hs2 hs4 hs5 hs8 hs9 hs51 hs52 hs58 hs59
    have hhn : hl.length = j := by rw [hhl, List.length_take]; omega
    have hf16 := hmf.few
    refine c_seq ?_
    refine c_region ?_
    refine l_val (v := .bool (decide (((j : Nat) : Int) < ((x.2.r.holds.length : Nat) : Int)))) rfl rfl rfl (e_lss (a := ((j : Nat) : Int)) (b := ((x.2.r.holds.length : Nat) : Int)) rfl rfl) ?_
    refine l_nil ?_
    refine f_then ?_
    refine c_seq ?_
    refine c_if (((j : Nat) : Int) < ((x.2.r.holds.length : Nat) : Int)) rfl (fun hc18 => ?_) (fun hc18 => ?_)
    ·
     refine c_skip ?_
     refine f_then ?_
     refine c_seq ?_
     refine c_block ?_
     obtain ⟨y, hy⟩ : ∃ y, x.2.r.holds[j]? = some y := ⟨_, List.getElem?_eq_getElem (by omega)⟩
     have hyf := hmf.h y (List.mem_of_getElem? hy)
     refine c_re (L' := [rdrR rb (bitsV (U y) 48 ++ (nsK (x.2.r.holds.drop (j + 1)) (bitsV (U x.2.r.at_) 9 ++ (bitsV (U x.2.r.e) 16 ++ (msK (ms.drop (kms + 1)) []))))), rowF IntF 3 q d hl, pt b17 (.cells #[Ix (x.2.d.author), Ix (x.2.d.number), .slice p15 (x.2.d.acts.length) c16, .bool false, .int .i64 (0), .int .i64 (0), .slice q (hl.length) d] 82), rowF ActF 47 p15 c16 x.2.d.acts, memR LL, mpR PuM mp3 ps, mpR HoM mh4 gs, mpR MeM mm5 (hdl LL), pt b2 (.cells #[.pointer (some ⟨rb, 0, none⟩)] 168), pt b1 (.cells #[.map none, .map none, .int .i64 (0), .int .i64 (0), .int .i64 (0), .int .i64 (0), .int .i64 (0), .map none] 88), pt b6 (.cells #[.map (some mp3), .map (some mh4), Ix (X.s.last), Ix (X.s.su.a0), Ix (X.s.su.a1), Ix (X.s.su.a2), Ix (X.s.su.a3), .map (some mm5)] 88)]) (by rw [nsK_next hy]) ?_
     refine c_any [⟨[], [], [0], [61], fun f => f 61 = .pointer (some ⟨b17, 3, none⟩)⟩, ⟨[0], [0], [], [62], fun f => f 62 = .pointer (some ⟨b17, 6, none⟩)⟩, ⟨[0, 1], [1], [], [63], fun f => f 63 = .slice q (hl.length) d⟩, ⟨[], [], [1], [64], fun f => f 64 = .agg #[.pointer (some ⟨rb, 0, none⟩)]⟩, ⟨[3], [3], [], [65], fun f => f 65 = Ix (y)⟩, ⟨[3, 4], [4], [], [66], fun f => f 66 = .slice (some ⟨(blk (f 66)), 0, none⟩) 1 1⟩, ⟨[0, 1, 2, 3, 4, 5], [2, 5], [], [67], fun f => f 67 = .slice (sla (f 67)) ((hl ++ [y]).length) (slc (f 67))⟩, ⟨[0, 1, 2, 3, 4, 5, 6], [], [0], [68], fun f => f 68 = .pointer (some ⟨b17, 3, none⟩)⟩, ⟨[0, 1, 2, 3, 4, 5, 6, 7], [7], [], [69], fun f => f 69 = .pointer (some ⟨b17, 6, none⟩)⟩, ⟨[0, 1, 2, 3, 4, 5, 6, 7, 8], [8, 6], [], [], fun _ => True⟩] [⟨none, (some 4), [4], [], fun _ => rdrR rb (bitsV (U y) 48 ++ (nsK (x.2.r.holds.drop (j + 1)) (bitsV (U x.2.r.at_) 9 ++ (bitsV (U x.2.r.e) 16 ++ (msK (ms.drop (kms + 1)) [])))))⟩, ⟨none, (some 6), [6], [], fun _ => rowF IntF 3 q d hl⟩, ⟨none, (some 9), [2, 9], [], fun _ => pt b17 (.cells #[Ix (x.2.d.author), Ix (x.2.d.number), .slice p15 (x.2.d.acts.length) c16, .bool false, .int .i64 (0), .int .i64 (0), .slice q (hl.length) d] 82)⟩, ⟨none, none, [], [], fun _ => rowF ActF 47 p15 c16 x.2.d.acts⟩, ⟨none, none, [], [], fun _ => memR LL⟩, ⟨none, none, [], [], fun _ => mpR PuM mp3 ps⟩, ⟨none, none, [], [], fun _ => mpR HoM mh4 gs⟩, ⟨none, none, [], [], fun _ => mpR MeM mm5 (hdl LL)⟩, ⟨none, none, [3], [], fun _ => pt b2 (.cells #[.pointer (some ⟨rb, 0, none⟩)] 168)⟩, ⟨none, none, [], [], fun _ => pt b1 (.cells #[.map none, .map none, .int .i64 (0), .int .i64 (0), .int .i64 (0), .int .i64 (0), .int .i64 (0), .map none] 88)⟩, ⟨none, none, [], [], fun _ => pt b6 (.cells #[.map (some mp3), .map (some mh4), Ix (X.s.last), Ix (X.s.su.a0), Ix (X.s.su.a1), Ix (X.s.su.a2), Ix (X.s.su.a3), .map (some mm5)] 88)⟩, ⟨(some 4), none, [], [], fun _ => rdrR rb (nsK (x.2.r.holds.drop (j + 1)) (bitsV (U x.2.r.at_) 9 ++ (bitsV (U x.2.r.e) 16 ++ (msK (ms.drop (kms + 1)) []))))⟩, ⟨(some 5), none, [6], [66], fun f => pt (blk (f 66)) (.cells #[Ix (y)] 3)⟩, ⟨(some 6), none, [], [67], fun f => rowF IntF 3 (sla (f 67)) (slc (f 67)) (hl ++ [y])⟩, ⟨(some 9), none, [], [67], fun f => pt b17 (.cells #[Ix (x.2.d.author), Ix (x.2.d.number), .slice p15 (x.2.d.acts.length) c16, .bool false, .int .i64 (0), .int .i64 (0), .slice (sla (f 67)) ((hl ++ [y]).length) (slc (f 67))] 82)⟩] [(9, .pointer (some ⟨b17, 0, none⟩)), (4, .pointer (some ⟨b2, 0, none⟩)), (2, .pointer (some ⟨b1, 0, none⟩)), (5, .pointer (some ⟨b6, 0, none⟩)), (8, .bool true), (51, Nx (ms.length)), (52, Nx (kms)), (58, Nx (x.2.r.holds.length)), (59, Nx (j))] [2, 1, 3, 4, 0, 5, 6, 7, 8] [] (by kernel_rfl) (by kernel_rfl) (by kernel_rfl) (by kernel_rfl) rfl ⟨rfl, rfl, rfl, rfl, rfl, rfl, rfl, rfl, rfl, trivial⟩ ⟨?_, ?_, ?_, ?_, ?_, ?_, ?_, ?_, ?_, ?_, trivial⟩ ?_
     ·rintro f M - ⟨i0, -⟩
      have hs9 : f 9 = .pointer (some ⟨b17, 0, none⟩) := i0
      refine ob_start (L' := M) (by rfl) (up_cons rfl hs9) ?_
      refine l_val (v := .pointer (some ⟨b17, 3, none⟩)) rfl rfl rfl (e_fieldPt (b := b17) (o := 0) rfl tt105) ?_
      refine l_nil ?_
      exact f_owes_d (up_cons rfl hs9) rfl (List.Perm.refl _)
     ·rintro f M ⟨k0, -⟩ -
      have hs61 : f 61 = .pointer (some ⟨b17, 3, none⟩) := k0
      refine ob_start (L' := M) (by rfl) (up_cons rfl hs61) ?_
      refine l_val (v := .pointer (some ⟨b17, 6, none⟩)) rfl rfl rfl (e_fieldPt (b := b17) (o := 3) rfl tt62) ?_
      refine l_nil ?_
      exact f_owes_d (up_cons rfl hs61) rfl (List.Perm.refl _)
     ·rintro f M ⟨k0, -⟩ -
      have hs62 : f 62 = .pointer (some ⟨b17, 6, none⟩) := k0
      refine ob_start (L' := pt b17 (.cells #[Ix (x.2.d.author), Ix (x.2.d.number), .slice p15 (x.2.d.acts.length) c16, .bool false, .int .i64 (0), .int .i64 (0), .slice q (hl.length) d] 82) :: M) (by rfl) (up_cons rfl hs62) ?_
      refine l_val (v := .slice q (hl.length) d) rfl rfl rfl (e_load1 tt63 (v := .slice q (hl.length) d) rfl (k_pt 0 (cs := #[Ix (x.2.d.author), Ix (x.2.d.number), .slice p15 (x.2.d.acts.length) c16, .bool false, .int .i64 (0), .int .i64 (0), .slice q (hl.length) d]) (vs := [.slice q (hl.length) d]) rfl rfl)) ?_
      refine l_nil ?_
      exact f_owes_d (up_cons rfl hs62) rfl (perm_front 0 rfl)
     ·rintro f M - ⟨i0, -⟩
      have hs4 : f 4 = .pointer (some ⟨b2, 0, none⟩) := i0
      refine ob_start (L' := pt b2 (.cells #[.pointer (some ⟨rb, 0, none⟩)] 168) :: M) (by rfl) (up_cons rfl hs4) ?_
      refine l_val (v := .agg #[.pointer (some ⟨rb, 0, none⟩)]) rfl rfl rfl (e_load tt132 (cs := [.pointer (some ⟨rb, 0, none⟩)]) rfl (k_pt 0 (cs := #[.pointer (some ⟨rb, 0, none⟩)]) (vs := [.pointer (some ⟨rb, 0, none⟩)]) rfl rfl) rfl) ?_
      refine l_nil ?_
      exact f_owes_d (up_cons rfl hs4) rfl (perm_front 0 rfl)
     ·rintro f M ⟨k0, -⟩ -
      have hs64 : f 64 = .agg #[.pointer (some ⟨rb, 0, none⟩)] := k0
      refine ob_start (L' := rdrR rb (bitsV (U y) 48 ++ (nsK (x.2.r.holds.drop (j + 1)) (bitsV (U x.2.r.at_) 9 ++ (bitsV (U x.2.r.e) 16 ++ (msK (ms.drop (kms + 1)) []))))) :: M) (by rfl) (up_cons rfl hs64) ?_
      refine l_call rfl rfl rfl (cl_value (fst := []) (cap := []) (vs := [.agg #[.pointer (some ⟨rb, 0, none⟩)], .int .i64 (48)]) (all := [.agg #[.pointer (some ⟨rb, 0, none⟩)], .int .i64 (48)]) tt133 rfl rfl rfl) ?_
      intro w hw
      replace hw := hw.perm (L' := _ :: M) (by exact (perm_front 0 rfl))
      obtain ⟨β1, sb, kn, hw1, back⟩ := St.frame (L := [_]) (M := M) hw
      refine (tget_ok β1 w rb _ y 48 hyf hw1).mono ?_
      rintro e w' ⟨rfl, hw'⟩
      refine ⟨_, rfl, _, back _ _ hw', ?_⟩
      clear hw hw1 hw' back kn sb
      refine l_nil ?_
      exact f_owes_d (up_cons rfl hs64) rfl (perm_front 0 rfl)
     ·rintro f M ⟨k0, -⟩ -
      have hs65 : f 65 = Ix (y) := k0
      refine ob_start (L' := M) (by rfl) (up_cons rfl hs65) ?_
      refine l_mv rfl rfl rfl (m_slices tt29 tt64 (vs := [(0, Ix (y))]) (cells := #[Ix (y)]) rfl rfl rfl rfl) ?_
      rintro _ _ ⟨b20, rfl, rfl⟩
      refine l_nil ?_
      exact f_owes_d (up_cons rfl hs65) rfl (perm_front 0 rfl)
     ·rintro f M ⟨k0, k1, -⟩ -
      have hs63 : f 63 = .slice q (hl.length) d := k0
      have hs66 : f 66 = .slice (some ⟨(blk (f 66)), 0, none⟩) 1 1 := k1
      refine ob_start (L' := rowF IntF 3 q d hl :: pt (blk (f 66)) (.cells #[Ix (y)] 3) :: M) (by rfl) (up_cons (up_cons rfl hs63) hs66) ?_
      refine l_mv rfl rfl rfl (m_appendFlN (F := IntF) 0 tt29 tt31 (p := q) (m := hl.length) (xs := hl) (ys := [y]) (ao := (some ⟨(blk (f 66)), 0, none⟩)) (k := 1) (c := 1) rfl rfl rfl rfl rfl (k_ptFl (z := y) 1 rfl rfl) (by first | omega | simp only [List.length_nil, List.length_cons, List.length_append, List.length_set]; omega) (by first | omega | simp only [List.length_nil, List.length_cons, List.length_append, List.length_set]; omega)) ?_
      rintro _ _ ⟨rp23, rc24, rfl, rfl⟩
      refine l_nil ?_
      exact f_owes_d (up_cons (up_cons rfl hs63) hs66) rfl ((perm_front 0 rfl).trans (perm_front 1 rfl))
     ·rintro f M - ⟨i0, -⟩
      have hs9 : f 9 = .pointer (some ⟨b17, 0, none⟩) := i0
      refine ob_start (L' := M) (by rfl) (up_cons rfl hs9) ?_
      refine l_val (v := .pointer (some ⟨b17, 3, none⟩)) rfl rfl rfl (e_fieldPt (b := b17) (o := 0) rfl tt105) ?_
      refine l_nil ?_
      exact f_owes_d (up_cons rfl hs9) rfl (List.Perm.refl _)
     ·rintro f M ⟨k0, -⟩ -
      have hs68 : f 68 = .pointer (some ⟨b17, 3, none⟩) := k0
      refine ob_start (L' := M) (by rfl) (up_cons rfl hs68) ?_
      refine l_val (v := .pointer (some ⟨b17, 6, none⟩)) rfl rfl rfl (e_fieldPt (b := b17) (o := 3) rfl tt62) ?_
      refine l_nil ?_
      exact f_owes_d (up_cons rfl hs68) rfl (List.Perm.refl _)
     ·rintro f M ⟨k0, k1, -⟩ -
      have hs69 : f 69 = .pointer (some ⟨b17, 6, none⟩) := k0
      have hs67 : f 67 = .slice (sla (f 67)) ((hl ++ [y]).length) (slc (f 67)) := k1
      refine ob_start (L' := pt b17 (.cells #[Ix (x.2.d.author), Ix (x.2.d.number), .slice p15 (x.2.d.acts.length) c16, .bool false, .int .i64 (0), .int .i64 (0), .slice q (hl.length) d] 82) :: M) (by rfl) (up_cons (up_cons rfl hs69) hs67) ?_
      refine l_mu rfl rfl (m_store 0 tt63 (b := b17) (o := 6) (T := 82) (cs := #[Ix (x.2.d.author), Ix (x.2.d.number), .slice p15 (x.2.d.acts.length) c16, .bool false, .int .i64 (0), .int .i64 (0), .slice q (hl.length) d]) (cs' := #[Ix (x.2.d.author), Ix (x.2.d.number), .slice p15 (x.2.d.acts.length) c16, .bool false, .int .i64 (0), .int .i64 (0), .slice (sla (f 67)) ((hl ++ [y]).length) (slc (f 67))]) (v := .slice (sla (f 67)) ((hl ++ [y]).length) (slc (f 67))) rfl rfl rfl rfl rfl rfl rfl) ?_
      refine l_nil ?_
      exact f_owes_n (up_cons (up_cons rfl hs69) hs67) trivial (perm_front 0 rfl)
     rintro fa25 ⟨-, -, -, -, -, -, -, -, -, -, -⟩ ⟨j0, j1, j2, j3, j4, j5, j6, j7, j8, -⟩
     refine f_re (L' := [rowF ActF 47 p15 c16 x.2.d.acts, memR LL, mpR PuM mp3 ps, mpR HoM mh4 gs, mpR MeM mm5 (hdl LL), pt b2 (.cells #[.pointer (some ⟨rb, 0, none⟩)] 168), pt b1 (.cells #[.map none, .map none, .int .i64 (0), .int .i64 (0), .int .i64 (0), .int .i64 (0), .int .i64 (0), .map none] 88), pt b6 (.cells #[.map (some mp3), .map (some mh4), Ix (X.s.last), Ix (X.s.su.a0), Ix (X.s.su.a1), Ix (X.s.su.a2), Ix (X.s.su.a3), .map (some mm5)] 88), rdrR rb (nsK (x.2.r.holds.drop (j + 1)) (bitsV (U x.2.r.at_) 9 ++ (bitsV (U x.2.r.e) 16 ++ (msK (ms.drop (kms + 1)) [])))), pt (blk (fa25 66)) (.cells #[Ix (y)] 3), rowF IntF 3 (sla (fa25 67)) (slc (fa25 67)) (hl ++ [y]), pt b17 (.cells #[Ix (x.2.d.author), Ix (x.2.d.number), .slice p15 (x.2.d.acts.length) c16, .bool false, .int .i64 (0), .int .i64 (0), .slice (sla (fa25 67)) ((hl ++ [y]).length) (slc (fa25 67))] 82)]) (by rfl) ?_
     refine f_rebase (d := 2) (v := .pointer (some ⟨b1, 0, none⟩)) j0 ?_
     refine f_rebase (d := 4) (v := .pointer (some ⟨b2, 0, none⟩)) j1 ?_
     refine f_rebase (d := 5) (v := .pointer (some ⟨b6, 0, none⟩)) j2 ?_
     refine f_rebase (d := 8) (v := .bool true) j3 ?_
     refine f_rebase (d := 9) (v := .pointer (some ⟨b17, 0, none⟩)) j4 ?_
     refine f_rebase (d := 51) (v := Nx (ms.length)) j5 ?_
     refine f_rebase (d := 52) (v := Nx (kms)) j6 ?_
     refine f_rebase (d := 58) (v := Nx (x.2.r.holds.length)) j7 ?_
     refine f_rebase (d := 59) (v := Nx (j)) j8 ?_
     refine f_block ?_
     refine f_then ?_
     refine c_region ?_
     refine l_val (v := Nx (j + 1)) rfl rfl rfl (e_add (a := ((j : Nat) : Int)) (b := (1 : Int)) rfl rfl (i64n (by omega) (by omega))) ?_
     refine l_val (v := Nx (j + 1)) rfl rfl rfl (e_move) ?_
     refine l_nil ?_
     refine f_perm (L' := [rdrR rb (nsK (x.2.r.holds.drop (j + 1)) (bitsV (U x.2.r.at_) 9 ++ (bitsV (U x.2.r.e) 16 ++ (msK (ms.drop (kms + 1)) [])))), rowF IntF 3 (sla (fa25 67)) (slc (fa25 67)) (hl ++ [y]), pt b17 (.cells #[Ix (x.2.d.author), Ix (x.2.d.number), .slice p15 (x.2.d.acts.length) c16, .bool false, .int .i64 (0), .int .i64 (0), .slice (sla (fa25 67)) ((hl ++ [y]).length) (slc (fa25 67))] 82), rowF ActF 47 p15 c16 x.2.d.acts, memR LL, mpR PuM mp3 ps, mpR HoM mh4 gs, mpR MeM mm5 (hdl LL), pt b2 (.cells #[.pointer (some ⟨rb, 0, none⟩)] 168), pt b1 (.cells #[.map none, .map none, .int .i64 (0), .int .i64 (0), .int .i64 (0), .int .i64 (0), .int .i64 (0), .map none] 88), pt b6 (.cells #[.map (some mp3), .map (some mh4), Ix (X.s.last), Ix (X.s.su.a0), Ix (X.s.su.a1), Ix (X.s.su.a2), Ix (X.s.su.a3), .map (some mm5)] 88), pt (blk (fa25 66)) (.cells #[Ix (y)] 3)]) (perm_ix [8, 10, 11, 0, 1, 2, 3, 4, 5, 6, 7, 9] 12 rfl (by kernel_rfl) (by kernel_rfl)) ?_
     refine f_mask (L' := [rdrR rb (nsK (x.2.r.holds.drop (j + 1)) (bitsV (U x.2.r.at_) 9 ++ (bitsV (U x.2.r.e) 16 ++ (msK (ms.drop (kms + 1)) [])))), rowF IntF 3 (sla (fa25 67)) (slc (fa25 67)) (hl ++ [y]), pt b17 (.cells #[Ix (x.2.d.author), Ix (x.2.d.number), .slice p15 (x.2.d.acts.length) c16, .bool false, .int .i64 (0), .int .i64 (0), .slice (sla (fa25 67)) ((hl ++ [y]).length) (slc (fa25 67))] 82), rowF ActF 47 p15 c16 x.2.d.acts, memR LL, mpR PuM mp3 ps, mpR HoM mh4 gs, mpR MeM mm5 (hdl LL), pt b2 (.cells #[.pointer (some ⟨rb, 0, none⟩)] 168), pt b1 (.cells #[.map none, .map none, .int .i64 (0), .int .i64 (0), .int .i64 (0), .int .i64 (0), .int .i64 (0), .map none] 88), pt b6 (.cells #[.map (some mp3), .map (some mh4), Ix (X.s.last), Ix (X.s.su.a0), Ix (X.s.su.a1), Ix (X.s.su.a2), Ix (X.s.su.a3), .map (some mm5)] 88)]) [true, true, true, true, true, true, true, true, true, true, true, false] rfl ?_
     exact f_cut ⟨(j + 1, (hl ++ [y]), (sla (fa25 67)), (slc (fa25 67))), ⟨⟨rfl, rfl, rfl, rfl, rfl, rfl, rfl, rfl, rfl⟩, rfl, ⟨by omega, by rw [hhl]; exact tk_next hy⟩⟩, (show x.2.r.holds.length - (j + 1) < x.2.r.holds.length - j from by omega)⟩
    ·
     refine c_exit ?_
     refine f_then_exit ?_
     refine f_then_exit ?_
     refine f_exit ?_
     refine f_then ?_
     refine c_seq ?_
     have hje : j = x.2.r.holds.length := by omega
     replace hhl : hl = x.2.r.holds := by rw [hhl, hje, List.take_length]
     refine c_re (L' := [rdrR rb (bitsV (U x.2.r.at_) 9 ++ (bitsV (U x.2.r.e) 16 ++ (msK (ms.drop (kms + 1)) []))), rowF IntF 3 q d hl, pt b17 (.cells #[Ix (x.2.d.author), Ix (x.2.d.number), .slice p15 (x.2.d.acts.length) c16, .bool false, .int .i64 (0), .int .i64 (0), .slice q (hl.length) d] 82), rowF ActF 47 p15 c16 x.2.d.acts, memR LL, mpR PuM mp3 ps, mpR HoM mh4 gs, mpR MeM mm5 (hdl LL), pt b2 (.cells #[.pointer (some ⟨rb, 0, none⟩)] 168), pt b1 (.cells #[.map none, .map none, .int .i64 (0), .int .i64 (0), .int .i64 (0), .int .i64 (0), .int .i64 (0), .map none] 88), pt b6 (.cells #[.map (some mp3), .map (some mh4), Ix (X.s.last), Ix (X.s.su.a0), Ix (X.s.su.a1), Ix (X.s.su.a2), Ix (X.s.su.a3), .map (some mm5)] 88)]) (by rw [hje, List.drop_length]; rfl) ?_
     refine c_any [⟨[], [], [0], [71], fun f => f 71 = .agg #[.pointer (some ⟨rb, 0, none⟩)]⟩, ⟨[0], [0], [], [72], fun f => f 72 = Ix (x.2.r.at_)⟩, ⟨[], [], [0], [73], fun f => f 73 = .agg #[.pointer (some ⟨rb, 0, none⟩)]⟩, ⟨[0, 1, 2], [2], [], [74], fun f => f 74 = Ix (x.2.r.e)⟩, ⟨[0, 1], [], [1], [75], fun f => f 75 = .pointer (some ⟨b17, 3, none⟩)⟩, ⟨[0, 1, 4], [4], [], [76], fun f => f 76 = .pointer (some ⟨b17, 4, none⟩)⟩, ⟨[0, 1, 2, 3, 4, 5], [5, 1], [], [], fun _ => True⟩, ⟨[0, 1, 2, 3, 4, 5, 6], [], [1], [77], fun f => f 77 = .pointer (some ⟨b17, 3, none⟩)⟩, ⟨[0, 1, 2, 3, 4, 5, 6, 7], [7], [], [78], fun f => f 78 = .pointer (some ⟨b17, 5, none⟩)⟩, ⟨[0, 1, 2, 3, 4, 5, 6, 7, 8], [8, 3], [], [], fun _ => True⟩] [⟨none, (some 1), [1], [], fun _ => rdrR rb (bitsV (U x.2.r.at_) 9 ++ (bitsV (U x.2.r.e) 16 ++ (msK (ms.drop (kms + 1)) [])))⟩, ⟨none, none, [], [], fun _ => rowF IntF 3 q d hl⟩, ⟨none, (some 6), [6], [], fun _ => pt b17 (.cells #[Ix (x.2.d.author), Ix (x.2.d.number), .slice p15 (x.2.d.acts.length) c16, .bool false, .int .i64 (0), .int .i64 (0), .slice q (hl.length) d] 82)⟩, ⟨none, none, [], [], fun _ => rowF ActF 47 p15 c16 x.2.d.acts⟩, ⟨none, none, [], [], fun _ => memR LL⟩, ⟨none, none, [], [], fun _ => mpR PuM mp3 ps⟩, ⟨none, none, [], [], fun _ => mpR HoM mh4 gs⟩, ⟨none, none, [], [], fun _ => mpR MeM mm5 (hdl LL)⟩, ⟨none, none, [0, 2], [], fun _ => pt b2 (.cells #[.pointer (some ⟨rb, 0, none⟩)] 168)⟩, ⟨none, none, [], [], fun _ => pt b1 (.cells #[.map none, .map none, .int .i64 (0), .int .i64 (0), .int .i64 (0), .int .i64 (0), .int .i64 (0), .map none] 88)⟩, ⟨none, none, [], [], fun _ => pt b6 (.cells #[.map (some mp3), .map (some mh4), Ix (X.s.last), Ix (X.s.su.a0), Ix (X.s.su.a1), Ix (X.s.su.a2), Ix (X.s.su.a3), .map (some mm5)] 88)⟩, ⟨(some 1), (some 3), [3], [], fun _ => rdrR rb (bitsV (U x.2.r.e) 16 ++ (msK (ms.drop (kms + 1)) []))⟩, ⟨(some 3), none, [], [], fun _ => rdrR rb (msK (ms.drop (kms + 1)) [])⟩, ⟨(some 6), (some 9), [9], [], fun _ => pt b17 (.cells #[Ix (x.2.d.author), Ix (x.2.d.number), .slice p15 (x.2.d.acts.length) c16, .bool false, Ix (x.2.r.at_), .int .i64 (0), .slice q (hl.length) d] 82)⟩, ⟨(some 9), none, [], [], fun _ => pt b17 (.cells #[Ix (x.2.d.author), Ix (x.2.d.number), .slice p15 (x.2.d.acts.length) c16, .bool false, Ix (x.2.r.at_), Ix (x.2.r.e), .slice q (hl.length) d] 82)⟩] [(4, .pointer (some ⟨b2, 0, none⟩)), (9, .pointer (some ⟨b17, 0, none⟩)), (2, .pointer (some ⟨b1, 0, none⟩)), (5, .pointer (some ⟨b6, 0, none⟩)), (8, .bool true), (51, Nx (ms.length)), (52, Nx (kms))] [2, 0, 3, 4, 1, 5, 6] [] (by kernel_rfl) (by kernel_rfl) (by kernel_rfl) (by kernel_rfl) rfl ⟨rfl, rfl, rfl, rfl, rfl, rfl, rfl, trivial⟩ ⟨?_, ?_, ?_, ?_, ?_, ?_, ?_, ?_, ?_, ?_, trivial⟩ ?_
     ·rintro f M - ⟨i0, -⟩
      have hs4 : f 4 = .pointer (some ⟨b2, 0, none⟩) := i0
      refine ob_start (L' := pt b2 (.cells #[.pointer (some ⟨rb, 0, none⟩)] 168) :: M) (by rfl) (up_cons rfl hs4) ?_
      refine l_val (v := .agg #[.pointer (some ⟨rb, 0, none⟩)]) rfl rfl rfl (e_load tt132 (cs := [.pointer (some ⟨rb, 0, none⟩)]) rfl (k_pt 0 (cs := #[.pointer (some ⟨rb, 0, none⟩)]) (vs := [.pointer (some ⟨rb, 0, none⟩)]) rfl rfl) rfl) ?_
      refine l_nil ?_
      exact f_owes_d (up_cons rfl hs4) rfl (perm_front 0 rfl)
     ·rintro f M ⟨k0, -⟩ -
      have hs71 : f 71 = .agg #[.pointer (some ⟨rb, 0, none⟩)] := k0
      refine ob_start (L' := rdrR rb (bitsV (U x.2.r.at_) 9 ++ (bitsV (U x.2.r.e) 16 ++ (msK (ms.drop (kms + 1)) []))) :: M) (by rfl) (up_cons rfl hs71) ?_
      refine l_call rfl rfl rfl (cl_value (fst := []) (cap := []) (vs := [.agg #[.pointer (some ⟨rb, 0, none⟩)], .int .i64 (9)]) (all := [.agg #[.pointer (some ⟨rb, 0, none⟩)], .int .i64 (9)]) tt133 rfl rfl rfl) ?_
      intro w hw
      replace hw := hw.perm (L' := _ :: M) (by exact (perm_front 0 rfl))
      obtain ⟨β1, sb, kn, hw1, back⟩ := St.frame (L := [_]) (M := M) hw
      refine (tget_ok β1 w rb _ x.2.r.at_ 9 hmf.at_ hw1).mono ?_
      rintro e w' ⟨rfl, hw'⟩
      refine ⟨_, rfl, _, back _ _ hw', ?_⟩
      clear hw hw1 hw' back kn sb
      refine l_nil ?_
      exact f_owes_d (up_cons rfl hs71) rfl (perm_front 0 rfl)
     ·rintro f M - ⟨i0, -⟩
      have hs4 : f 4 = .pointer (some ⟨b2, 0, none⟩) := i0
      refine ob_start (L' := pt b2 (.cells #[.pointer (some ⟨rb, 0, none⟩)] 168) :: M) (by rfl) (up_cons rfl hs4) ?_
      refine l_val (v := .agg #[.pointer (some ⟨rb, 0, none⟩)]) rfl rfl rfl (e_load tt132 (cs := [.pointer (some ⟨rb, 0, none⟩)]) rfl (k_pt 0 (cs := #[.pointer (some ⟨rb, 0, none⟩)]) (vs := [.pointer (some ⟨rb, 0, none⟩)]) rfl rfl) rfl) ?_
      refine l_nil ?_
      exact f_owes_d (up_cons rfl hs4) rfl (perm_front 0 rfl)
     ·rintro f M ⟨k0, -⟩ -
      have hs73 : f 73 = .agg #[.pointer (some ⟨rb, 0, none⟩)] := k0
      refine ob_start (L' := rdrR rb (bitsV (U x.2.r.e) 16 ++ (msK (ms.drop (kms + 1)) [])) :: M) (by rfl) (up_cons rfl hs73) ?_
      refine l_call rfl rfl rfl (cl_value (fst := []) (cap := []) (vs := [.agg #[.pointer (some ⟨rb, 0, none⟩)], .int .i64 (16)]) (all := [.agg #[.pointer (some ⟨rb, 0, none⟩)], .int .i64 (16)]) tt133 rfl rfl rfl) ?_
      intro w hw
      replace hw := hw.perm (L' := _ :: M) (by exact (perm_front 0 rfl))
      obtain ⟨β1, sb, kn, hw1, back⟩ := St.frame (L := [_]) (M := M) hw
      refine (tget_ok β1 w rb _ x.2.r.e 16 hmf.e hw1).mono ?_
      rintro e w' ⟨rfl, hw'⟩
      refine ⟨_, rfl, _, back _ _ hw', ?_⟩
      clear hw hw1 hw' back kn sb
      refine l_nil ?_
      exact f_owes_d (up_cons rfl hs73) rfl (perm_front 0 rfl)
     ·rintro f M - ⟨i0, -⟩
      have hs9 : f 9 = .pointer (some ⟨b17, 0, none⟩) := i0
      refine ob_start (L' := M) (by rfl) (up_cons rfl hs9) ?_
      refine l_val (v := .pointer (some ⟨b17, 3, none⟩)) rfl rfl rfl (e_fieldPt (b := b17) (o := 0) rfl tt105) ?_
      refine l_nil ?_
      exact f_owes_d (up_cons rfl hs9) rfl (List.Perm.refl _)
     ·rintro f M ⟨k0, -⟩ -
      have hs75 : f 75 = .pointer (some ⟨b17, 3, none⟩) := k0
      refine ob_start (L' := M) (by rfl) (up_cons rfl hs75) ?_
      refine l_val (v := .pointer (some ⟨b17, 4, none⟩)) rfl rfl rfl (e_fieldPt (b := b17) (o := 3) rfl tt144) ?_
      refine l_nil ?_
      exact f_owes_d (up_cons rfl hs75) rfl (List.Perm.refl _)
     ·rintro f M ⟨k0, k1, -⟩ -
      have hs76 : f 76 = .pointer (some ⟨b17, 4, none⟩) := k0
      have hs72 : f 72 = Ix (x.2.r.at_) := k1
      refine ob_start (L' := pt b17 (.cells #[Ix (x.2.d.author), Ix (x.2.d.number), .slice p15 (x.2.d.acts.length) c16, .bool false, .int .i64 (0), .int .i64 (0), .slice q (hl.length) d] 82) :: M) (by rfl) (up_cons (up_cons rfl hs76) hs72) ?_
      refine l_mu rfl rfl (m_store 0 tt2 (b := b17) (o := 4) (T := 82) (cs := #[Ix (x.2.d.author), Ix (x.2.d.number), .slice p15 (x.2.d.acts.length) c16, .bool false, .int .i64 (0), .int .i64 (0), .slice q (hl.length) d]) (cs' := #[Ix (x.2.d.author), Ix (x.2.d.number), .slice p15 (x.2.d.acts.length) c16, .bool false, Ix (x.2.r.at_), .int .i64 (0), .slice q (hl.length) d]) (v := Ix (x.2.r.at_)) rfl rfl rfl rfl rfl rfl rfl) ?_
      refine l_nil ?_
      exact f_owes_n (up_cons (up_cons rfl hs76) hs72) trivial (perm_front 0 rfl)
     ·rintro f M - ⟨i0, -⟩
      have hs9 : f 9 = .pointer (some ⟨b17, 0, none⟩) := i0
      refine ob_start (L' := M) (by rfl) (up_cons rfl hs9) ?_
      refine l_val (v := .pointer (some ⟨b17, 3, none⟩)) rfl rfl rfl (e_fieldPt (b := b17) (o := 0) rfl tt105) ?_
      refine l_nil ?_
      exact f_owes_d (up_cons rfl hs9) rfl (List.Perm.refl _)
     ·rintro f M ⟨k0, -⟩ -
      have hs77 : f 77 = .pointer (some ⟨b17, 3, none⟩) := k0
      refine ob_start (L' := M) (by rfl) (up_cons rfl hs77) ?_
      refine l_val (v := .pointer (some ⟨b17, 5, none⟩)) rfl rfl rfl (e_fieldPt (b := b17) (o := 3) rfl tt145) ?_
      refine l_nil ?_
      exact f_owes_d (up_cons rfl hs77) rfl (List.Perm.refl _)
     ·rintro f M ⟨k0, k1, -⟩ -
      have hs78 : f 78 = .pointer (some ⟨b17, 5, none⟩) := k0
      have hs74 : f 74 = Ix (x.2.r.e) := k1
      refine ob_start (L' := pt b17 (.cells #[Ix (x.2.d.author), Ix (x.2.d.number), .slice p15 (x.2.d.acts.length) c16, .bool false, Ix (x.2.r.at_), .int .i64 (0), .slice q (hl.length) d] 82) :: M) (by rfl) (up_cons (up_cons rfl hs78) hs74) ?_
      refine l_mu rfl rfl (m_store 0 tt126 (b := b17) (o := 5) (T := 82) (cs := #[Ix (x.2.d.author), Ix (x.2.d.number), .slice p15 (x.2.d.acts.length) c16, .bool false, Ix (x.2.r.at_), .int .i64 (0), .slice q (hl.length) d]) (cs' := #[Ix (x.2.d.author), Ix (x.2.d.number), .slice p15 (x.2.d.acts.length) c16, .bool false, Ix (x.2.r.at_), Ix (x.2.r.e), .slice q (hl.length) d]) (v := Ix (x.2.r.e)) rfl rfl rfl rfl rfl rfl rfl) ?_
      refine l_nil ?_
      exact f_owes_n (up_cons (up_cons rfl hs78) hs74) trivial (perm_front 0 rfl)
     rintro fa26 ⟨-, -, -, -, -, -, -, -, -, -, -⟩ ⟨j0, j1, j2, j3, j4, j5, j6, -⟩
     refine f_re (L' := [rowF IntF 3 q d hl, rowF ActF 47 p15 c16 x.2.d.acts, memR LL, mpR PuM mp3 ps, mpR HoM mh4 gs, mpR MeM mm5 (hdl LL), pt b2 (.cells #[.pointer (some ⟨rb, 0, none⟩)] 168), pt b1 (.cells #[.map none, .map none, .int .i64 (0), .int .i64 (0), .int .i64 (0), .int .i64 (0), .int .i64 (0), .map none] 88), pt b6 (.cells #[.map (some mp3), .map (some mh4), Ix (X.s.last), Ix (X.s.su.a0), Ix (X.s.su.a1), Ix (X.s.su.a2), Ix (X.s.su.a3), .map (some mm5)] 88), rdrR rb (msK (ms.drop (kms + 1)) []), pt b17 (.cells #[Ix (x.2.d.author), Ix (x.2.d.number), .slice p15 (x.2.d.acts.length) c16, .bool false, Ix (x.2.r.at_), Ix (x.2.r.e), .slice q (hl.length) d] 82)]) (by rfl) ?_
     refine f_rebase (d := 2) (v := .pointer (some ⟨b1, 0, none⟩)) j0 ?_
     refine f_rebase (d := 4) (v := .pointer (some ⟨b2, 0, none⟩)) j1 ?_
     refine f_rebase (d := 5) (v := .pointer (some ⟨b6, 0, none⟩)) j2 ?_
     refine f_rebase (d := 8) (v := .bool true) j3 ?_
     refine f_rebase (d := 9) (v := .pointer (some ⟨b17, 0, none⟩)) j4 ?_
     refine f_rebase (d := 51) (v := Nx (ms.length)) j5 ?_
     refine f_rebase (d := 52) (v := Nx (kms)) j6 ?_
     refine f_then ?_
     refine c_seq ?_
     refine c_region ?_
     refine l_val (v := .pointer (some ⟨b17, 3, none⟩)) rfl rfl rfl (e_fieldPt (b := b17) (o := 0) rfl tt105) ?_
     refine l_val (v := .pointer (some ⟨b17, 5, none⟩)) rfl rfl rfl (e_fieldPt (b := b17) (o := 3) rfl tt145) ?_
     refine l_val (v := Ix (x.2.r.e)) rfl rfl rfl (e_load1 tt126 (v := Ix (x.2.r.e)) rfl (k_pt 10 (cs := #[Ix (x.2.d.author), Ix (x.2.d.number), .slice p15 (x.2.d.acts.length) c16, .bool false, Ix (x.2.r.at_), Ix (x.2.r.e), .slice q (hl.length) d]) (vs := [Ix (x.2.r.e)]) rfl rfl)) ?_
     refine l_val (v := .bool (decide ((x.2.r.e) = (0 : Int)))) rfl rfl rfl (e_eql (a := (x.2.r.e)) (b := (0 : Int)) rfl rfl) ?_
     refine l_val (v := .pointer (some ⟨b17, 3, none⟩)) rfl rfl rfl (e_fieldPt (b := b17) (o := 0) rfl tt105) ?_
     refine l_val (v := .pointer (some ⟨b17, 3, none⟩)) rfl rfl rfl (e_fieldPt (b := b17) (o := 3) rfl tt146) ?_
     refine l_mu rfl rfl (m_store 10 tt95 (b := b17) (o := 3) (T := 82) (cs := #[Ix (x.2.d.author), Ix (x.2.d.number), .slice p15 (x.2.d.acts.length) c16, .bool false, Ix (x.2.r.at_), Ix (x.2.r.e), .slice q (hl.length) d]) (cs' := #[Ix (x.2.d.author), Ix (x.2.d.number), .slice p15 (x.2.d.acts.length) c16, .bool (decide ((x.2.r.e) = (0 : Int))), Ix (x.2.r.at_), Ix (x.2.r.e), .slice q (hl.length) d]) (v := .bool (decide ((x.2.r.e) = (0 : Int)))) rfl rfl rfl rfl rfl rfl rfl) ?_
     refine l_nil ?_
     refine f_then ?_
     refine c_seq ?_
     refine c_region ?_
     refine l_val (v := .bool true) rfl rfl rfl (e_move) ?_
     refine l_val (v := .bool true) rfl rfl rfl (e_move) ?_
     refine g_val (v := .pointer (some ⟨b17, 0, none⟩)) rfl rfl rfl rfl rfl (e_fieldPt (b := b17) (o := 0) rfl tt103) ?_
     refine g_val (v := .agg #[Ix (x.2.d.author), Ix (x.2.d.number), .slice p15 (x.2.d.acts.length) c16]) rfl rfl rfl rfl rfl (e_load tt65 (cs := [Ix (x.2.d.author), Ix (x.2.d.number), .slice p15 (x.2.d.acts.length) c16]) rfl (k_pt 10 (cs := #[Ix (x.2.d.author), Ix (x.2.d.number), .slice p15 (x.2.d.acts.length) c16, .bool (decide ((x.2.r.e) = (0 : Int))), Ix (x.2.r.at_), Ix (x.2.r.e), .slice q (hl.length) d]) (vs := [Ix (x.2.d.author), Ix (x.2.d.number), .slice p15 (x.2.d.acts.length) c16]) rfl rfl) rfl) ?_
     refine g_call rfl rfl rfl rfl rfl (cl_value (fst := []) (cap := []) (vs := [.agg #[Ix (x.2.d.author), Ix (x.2.d.number), .slice p15 (x.2.d.acts.length) c16]]) (all := [.agg #[Ix (x.2.d.author), Ix (x.2.d.number), .slice p15 (x.2.d.acts.length) c16]]) tt102 rfl rfl rfl) ?_
     intro w hw
     obtain ⟨β1, sb, kn, hw1, back⟩ := St.frame_all hw
     refine (dformed_ok β1 w hw1 x.2.d.author x.2.d.number _ x.2.d.acts (kn _ (k_flN 1 (F := ActF) (m := x.2.d.acts.length) rfl rfl))).mono ?_
     rintro e w' ⟨rfl, hw'⟩
     refine ⟨_, rfl, _, back _ _ hw', ?_⟩
     clear hw hw1 hw' back kn sb
     refine l_val (v := .bool (dformed x.2.d.author x.2.d.number x.2.d.acts)) rfl rfl rfl (e_pick_t rfl) ?_
     refine l_val (v := .bool (dformed x.2.d.author x.2.d.number x.2.d.acts)) rfl rfl rfl (e_assign) ?_
     refine l_nil ?_
     refine f_then ?_
     refine c_region ?_
     refine l_val (v := .pointer (some ⟨b6, 7, none⟩)) rfl rfl rfl (e_fieldPt (b := b6) (o := 0) rfl tt57) ?_
     refine l_val (v := .map (some mm5)) rfl rfl rfl (e_load1 tt58 (v := .map (some mm5)) rfl (k_pt 8 (cs := #[.map (some mp3), .map (some mh4), Ix (X.s.last), Ix (X.s.su.a0), Ix (X.s.su.a1), Ix (X.s.su.a2), Ix (X.s.su.a3), .map (some mm5)]) (vs := [.map (some mm5)]) rfl rfl)) ?_
     refine l_val (v := .pointer (some ⟨b17, 0, none⟩)) rfl rfl rfl (e_fieldPt (b := b17) (o := 0) rfl tt103) ?_
     refine l_val (v := .pointer (some ⟨b17, 0, none⟩)) rfl rfl rfl (e_fieldPt (b := b17) (o := 0) rfl tt20) ?_
     refine l_val (v := Ix (x.2.d.author)) rfl rfl rfl (e_load1 tt2 (v := Ix (x.2.d.author)) rfl (k_pt 10 (cs := #[Ix (x.2.d.author), Ix (x.2.d.number), .slice p15 (x.2.d.acts.length) c16, .bool (decide ((x.2.r.e) = (0 : Int))), Ix (x.2.r.at_), Ix (x.2.r.e), .slice q (hl.length) d]) (vs := [Ix (x.2.d.author)]) rfl rfl)) ?_
     refine l_val (v := .agg #[Ix (x.2.d.author), Ix (x.2.d.number), .slice p15 (x.2.d.acts.length) c16, .bool (decide ((x.2.r.e) = (0 : Int))), Ix (x.2.r.at_), Ix (x.2.r.e), .slice q (hl.length) d]) rfl rfl rfl (e_load tt101 (cs := [Ix (x.2.d.author), Ix (x.2.d.number), .slice p15 (x.2.d.acts.length) c16, .bool (decide ((x.2.r.e) = (0 : Int))), Ix (x.2.r.at_), Ix (x.2.r.e), .slice q (hl.length) d]) rfl (k_pt 10 (cs := #[Ix (x.2.d.author), Ix (x.2.d.number), .slice p15 (x.2.d.acts.length) c16, .bool (decide ((x.2.r.e) = (0 : Int))), Ix (x.2.r.at_), Ix (x.2.r.e), .slice q (hl.length) d]) (vs := [Ix (x.2.d.author), Ix (x.2.d.number), .slice p15 (x.2.d.acts.length) c16, .bool (decide ((x.2.r.e) = (0 : Int))), Ix (x.2.r.at_), Ix (x.2.r.e), .slice q (hl.length) d]) rfl rfl) rfl) ?_
     refine l_mu rfl rfl (m_mput (K := MeM) (b := mm5) (ks := (hdl LL)) (k := (x.2.d.author)) (v := (⟨x.2.d.author, x.2.d.number, p15, x.2.d.acts.length, c16, (decide ((x.2.r.e) = (0 : Int))), x.2.r.at_, x.2.r.e, q, hl.length, d⟩ : KMh)) 5 rfl rfl rfl rfl rfl) ?_
     refine l_nil ?_
     refine f_block ?_
     refine f_then ?_
     refine c_region ?_
     refine l_val (v := Nx (kms + 1)) rfl rfl rfl (e_add (a := ((kms : Nat) : Int)) (b := (1 : Int)) rfl rfl (i64n (by omega) (by omega))) ?_
     refine l_val (v := Nx (kms + 1)) rfl rfl rfl (e_move) ?_
     refine l_nil ?_
     refine f_perm (L' := [rowF ActF 47 p15 c16 x.2.d.acts, rowF IntF 3 q d hl, memR LL, mpR PuM mp3 ps, mpR HoM mh4 gs, mpR MeM mm5 (MeM.put (hdl LL) (x.2.d.author) (⟨x.2.d.author, x.2.d.number, p15, x.2.d.acts.length, c16, (decide ((x.2.r.e) = (0 : Int))), x.2.r.at_, x.2.r.e, q, hl.length, d⟩ : KMh)), pt b2 (.cells #[.pointer (some ⟨rb, 0, none⟩)] 168), pt b1 (.cells #[.map none, .map none, .int .i64 (0), .int .i64 (0), .int .i64 (0), .int .i64 (0), .int .i64 (0), .map none] 88), pt b6 (.cells #[.map (some mp3), .map (some mh4), Ix (X.s.last), Ix (X.s.su.a0), Ix (X.s.su.a1), Ix (X.s.su.a2), Ix (X.s.su.a3), .map (some mm5)] 88), rdrR rb (msK (ms.drop (kms + 1)) []), pt b17 (.cells #[Ix (x.2.d.author), Ix (x.2.d.number), .slice p15 (x.2.d.acts.length) c16, .bool (decide ((x.2.r.e) = (0 : Int))), Ix (x.2.r.at_), Ix (x.2.r.e), .slice q (hl.length) d] 82)]) (perm_ix [1, 0, 2, 3, 4, 5, 6, 7, 8, 9, 10] 11 rfl (by kernel_rfl) (by kernel_rfl)) ?_
     refine f_merge (L := [rowF ActF 47 p15 c16 x.2.d.acts, rowF IntF 3 q d hl, memR LL]) (M := [mpR PuM mp3 ps, mpR HoM mh4 gs, mpR MeM mm5 (MeM.put (hdl LL) (x.2.d.author) (⟨x.2.d.author, x.2.d.number, p15, x.2.d.acts.length, c16, (decide ((x.2.r.e) = (0 : Int))), x.2.r.at_, x.2.r.e, q, hl.length, d⟩ : KMh)), pt b2 (.cells #[.pointer (some ⟨rb, 0, none⟩)] 168), pt b1 (.cells #[.map none, .map none, .int .i64 (0), .int .i64 (0), .int .i64 (0), .int .i64 (0), .int .i64 (0), .map none] 88), pt b6 (.cells #[.map (some mp3), .map (some mh4), Ix (X.s.last), Ix (X.s.su.a0), Ix (X.s.su.a1), Ix (X.s.su.a2), Ix (X.s.su.a3), .map (some mm5)] 88), rdrR rb (msK (ms.drop (kms + 1)) []), pt b17 (.cells #[Ix (x.2.d.author), Ix (x.2.d.number), .slice p15 (x.2.d.acts.length) c16, .bool (decide ((x.2.r.e) = (0 : Int))), Ix (x.2.r.at_), Ix (x.2.r.e), .slice q (hl.length) d] 82)]) (r := memR (LL ++ [((⟨x.2.d.author, x.2.d.number, p15, x.2.d.acts.length, c16, (decide ((x.2.r.e) = (0 : Int))), x.2.r.at_, x.2.r.e, q, hl.length, d⟩ : KMh), (⟨⟨x.2.d.author, x.2.d.number, x.2.d.acts⟩, ⟨decide (x.2.r.e = (0 : Int)), x.2.r.at_, x.2.r.e, hl⟩⟩ : KMem))])) (fun a ha => memR_add a ha) ?_
     refine f_re (L' := [memR (LL ++ [((⟨x.2.d.author, x.2.d.number, p15, x.2.d.acts.length, c16, (decide ((x.2.r.e) = (0 : Int))), x.2.r.at_, x.2.r.e, q, hl.length, d⟩ : KMh), x.2)]), mpR PuM mp3 ps, mpR HoM mh4 gs, mpR MeM mm5 (MeM.put (hdl LL) (x.2.d.author) (⟨x.2.d.author, x.2.d.number, p15, x.2.d.acts.length, c16, (decide ((x.2.r.e) = (0 : Int))), x.2.r.at_, x.2.r.e, q, hl.length, d⟩ : KMh)), pt b2 (.cells #[.pointer (some ⟨rb, 0, none⟩)] 168), pt b1 (.cells #[.map none, .map none, .int .i64 (0), .int .i64 (0), .int .i64 (0), .int .i64 (0), .int .i64 (0), .map none] 88), pt b6 (.cells #[.map (some mp3), .map (some mh4), Ix (X.s.last), Ix (X.s.su.a0), Ix (X.s.su.a1), Ix (X.s.su.a2), Ix (X.s.su.a3), .map (some mm5)] 88), rdrR rb (msK (ms.drop (kms + 1)) []), pt b17 (.cells #[Ix (x.2.d.author), Ix (x.2.d.number), .slice p15 (x.2.d.acts.length) c16, .bool (decide ((x.2.r.e) = (0 : Int))), Ix (x.2.r.at_), Ix (x.2.r.e), .slice q (hl.length) d] 82)]) (by rw [mem_eta hmf.dn hhl]) ?_
     refine f_perm (L' := [rdrR rb (msK (ms.drop (kms + 1)) []), memR (LL ++ [((⟨x.2.d.author, x.2.d.number, p15, x.2.d.acts.length, c16, (decide ((x.2.r.e) = (0 : Int))), x.2.r.at_, x.2.r.e, q, hl.length, d⟩ : KMh), x.2)]), mpR PuM mp3 ps, mpR HoM mh4 gs, mpR MeM mm5 (MeM.put (hdl LL) (x.2.d.author) (⟨x.2.d.author, x.2.d.number, p15, x.2.d.acts.length, c16, (decide ((x.2.r.e) = (0 : Int))), x.2.r.at_, x.2.r.e, q, hl.length, d⟩ : KMh)), pt b2 (.cells #[.pointer (some ⟨rb, 0, none⟩)] 168), pt b1 (.cells #[.map none, .map none, .int .i64 (0), .int .i64 (0), .int .i64 (0), .int .i64 (0), .int .i64 (0), .map none] 88), pt b6 (.cells #[.map (some mp3), .map (some mh4), Ix (X.s.last), Ix (X.s.su.a0), Ix (X.s.su.a1), Ix (X.s.su.a2), Ix (X.s.su.a3), .map (some mm5)] 88), pt b17 (.cells #[Ix (x.2.d.author), Ix (x.2.d.number), .slice p15 (x.2.d.acts.length) c16, .bool (decide ((x.2.r.e) = (0 : Int))), Ix (x.2.r.at_), Ix (x.2.r.e), .slice q (hl.length) d] 82)]) (perm_ix [7, 0, 1, 2, 3, 4, 5, 6, 8] 9 rfl (by kernel_rfl) (by kernel_rfl)) ?_
     refine f_mask (L' := [rdrR rb (msK (ms.drop (kms + 1)) []), memR (LL ++ [((⟨x.2.d.author, x.2.d.number, p15, x.2.d.acts.length, c16, (decide ((x.2.r.e) = (0 : Int))), x.2.r.at_, x.2.r.e, q, hl.length, d⟩ : KMh), x.2)]), mpR PuM mp3 ps, mpR HoM mh4 gs, mpR MeM mm5 (MeM.put (hdl LL) (x.2.d.author) (⟨x.2.d.author, x.2.d.number, p15, x.2.d.acts.length, c16, (decide ((x.2.r.e) = (0 : Int))), x.2.r.at_, x.2.r.e, q, hl.length, d⟩ : KMh)), pt b2 (.cells #[.pointer (some ⟨rb, 0, none⟩)] 168), pt b1 (.cells #[.map none, .map none, .int .i64 (0), .int .i64 (0), .int .i64 (0), .int .i64 (0), .int .i64 (0), .map none] 88), pt b6 (.cells #[.map (some mp3), .map (some mh4), Ix (X.s.last), Ix (X.s.su.a0), Ix (X.s.su.a1), Ix (X.s.su.a2), Ix (X.s.su.a3), .map (some mm5)] 88)]) [true, true, true, true, true, true, true, true, false] rfl ?_
     exact f_cut ⟨(kms + 1, (LL ++ [((⟨x.2.d.author, x.2.d.number, p15, x.2.d.acts.length, c16, (decide ((x.2.r.e) = (0 : Int))), x.2.r.at_, x.2.r.e, q, hl.length, d⟩ : KMh), x.2)])), ⟨⟨rfl, rfl, rfl, congrArg Value.bool hmf.fm, rfl, rfl⟩, by rw [hdl_next hsf.md hx hml hmk], ⟨by omega, mml_next hx hml hmk, hd_all hho ⟨rfl, rfl, rfl, hmf.dn.symm, rfl, rfl, by rw [hhl]⟩⟩⟩, (show ms.length - (kms + 1) < ms.length - kms from by omega)⟩
   ·
    refine c_exit ?_
    refine f_then_exit ?_
    refine f_then_exit ?_
    refine f_exit ?_
    refine f_then ?_
    refine c_seq ?_
    have hkem : kms = ms.length := by omega
    replace hml : mml LL = ms := by rw [hml, hkem, List.take_length]
    refine c_re (L' := [rdrR rb [], memR LL, mpR PuM mp3 ps, mpR HoM mh4 gs, mpR MeM mm5 (hdl LL), pt b2 (.cells #[.pointer (some ⟨rb, 0, none⟩)] 168), pt b1 (.cells #[.map none, .map none, .int .i64 (0), .int .i64 (0), .int .i64 (0), .int .i64 (0), .int .i64 (0), .map none] 88), pt b6 (.cells #[.map (some mp3), .map (some mh4), Ix (X.s.last), Ix (X.s.su.a0), Ix (X.s.su.a1), Ix (X.s.su.a2), Ix (X.s.su.a3), .map (some mm5)] 88)]) (by rw [hkem, List.drop_length]; rfl) ?_
    refine c_any [⟨[], [], [0], [98], fun f => f 98 = .agg #[.map (some mp3), .map (some mh4), Ix (X.s.last), Ix (X.s.su.a0), Ix (X.s.su.a1), Ix (X.s.su.a2), Ix (X.s.su.a3), .map (some mm5)]⟩, ⟨[], [], [1], [99], fun f => f 99 = .bool true⟩, ⟨[1], [1], [], [100], fun f => f 100 = .bool true⟩, ⟨[1, 2], [2], [2], [101], fun f => f 101 = .pointer (some ⟨b2, 0, none⟩)⟩, ⟨[1, 2, 3], [3, 2], [], [102], fun f => f 102 = .pointer (some ⟨rb, 0, none⟩)⟩, ⟨[1, 2, 3, 4], [4, 2], [], [103], fun f => f 103 = .int .i64 (0)⟩, ⟨[1, 2, 3, 4, 5], [5, 2], [], [104], fun f => f 104 = .bool true⟩, ⟨[1, 2, 3, 4, 5, 6], [2, 6], [], [105], fun f => f 105 = .bool true⟩, ⟨[0, 1, 2, 3, 4, 5], [0], [3], [], fun _ => True⟩, ⟨[0, 1, 2, 3, 4, 5, 6, 7, 8], [7], [], [3], fun f => f 3 = .bool true⟩] [⟨none, none, [5], [], fun _ => rdrR rb []⟩, ⟨none, none, [], [], fun _ => memR LL⟩, ⟨none, none, [], [], fun _ => mpR PuM mp3 ps⟩, ⟨none, none, [], [], fun _ => mpR HoM mh4 gs⟩, ⟨none, none, [], [], fun _ => mpR MeM mm5 (hdl LL)⟩, ⟨none, none, [4], [], fun _ => pt b2 (.cells #[.pointer (some ⟨rb, 0, none⟩)] 168)⟩, ⟨none, (some 8), [8], [], fun _ => pt b1 (.cells #[.map none, .map none, .int .i64 (0), .int .i64 (0), .int .i64 (0), .int .i64 (0), .int .i64 (0), .map none] 88)⟩, ⟨none, none, [0], [], fun _ => pt b6 (.cells #[.map (some mp3), .map (some mh4), Ix (X.s.last), Ix (X.s.su.a0), Ix (X.s.su.a1), Ix (X.s.su.a2), Ix (X.s.su.a3), .map (some mm5)] 88)⟩, ⟨(some 8), none, [], [], fun _ => pt b1 (.cells #[.map (some mp3), .map (some mh4), Ix (X.s.last), Ix (X.s.su.a0), Ix (X.s.su.a1), Ix (X.s.su.a2), Ix (X.s.su.a3), .map (some mm5)] 88)⟩] [(5, .pointer (some ⟨b6, 0, none⟩)), (8, .bool true), (4, .pointer (some ⟨b2, 0, none⟩)), (2, .pointer (some ⟨b1, 0, none⟩))] [3] [] (by kernel_rfl) (by kernel_rfl) (by kernel_rfl) (by kernel_rfl) rfl ⟨rfl, rfl, rfl, rfl, trivial⟩ ⟨?_, ?_, ?_, ?_, ?_, ?_, ?_, ?_, ?_, ?_, trivial⟩ ?_
    ·rintro f M - ⟨i0, -⟩
     have hs5 : f 5 = .pointer (some ⟨b6, 0, none⟩) := i0
     refine ob_start (L' := pt b6 (.cells #[.map (some mp3), .map (some mh4), Ix (X.s.last), Ix (X.s.su.a0), Ix (X.s.su.a1), Ix (X.s.su.a2), Ix (X.s.su.a3), .map (some mm5)] 88) :: M) (by rfl) (up_cons rfl hs5) ?_
     refine l_val (v := .agg #[.map (some mp3), .map (some mh4), Ix (X.s.last), Ix (X.s.su.a0), Ix (X.s.su.a1), Ix (X.s.su.a2), Ix (X.s.su.a3), .map (some mm5)]) rfl rfl rfl (e_load tt54 (cs := [.map (some mp3), .map (some mh4), Ix (X.s.last), Ix (X.s.su.a0), Ix (X.s.su.a1), Ix (X.s.su.a2), Ix (X.s.su.a3), .map (some mm5)]) rfl (k_pt 0 (cs := #[.map (some mp3), .map (some mh4), Ix (X.s.last), Ix (X.s.su.a0), Ix (X.s.su.a1), Ix (X.s.su.a2), Ix (X.s.su.a3), .map (some mm5)]) (vs := [.map (some mp3), .map (some mh4), Ix (X.s.last), Ix (X.s.su.a0), Ix (X.s.su.a1), Ix (X.s.su.a2), Ix (X.s.su.a3), .map (some mm5)]) rfl rfl) rfl) ?_
     refine l_nil ?_
     exact f_owes_d (up_cons rfl hs5) rfl (perm_front 0 rfl)
    ·rintro f M - ⟨i0, -⟩
     have hs8 : f 8 = .bool true := i0
     refine ob_start (L' := M) (by rfl) (up_cons rfl hs8) ?_
     refine l_val (v := .bool true) rfl rfl rfl (e_move) ?_
     refine l_nil ?_
     exact f_owes_d (up_cons rfl hs8) rfl (List.Perm.refl _)
    ·rintro f M ⟨k0, -⟩ -
     have hs99 : f 99 = .bool true := k0
     refine ob_start (L' := M) (by rfl) (up_cons rfl hs99) ?_
     refine l_val (v := .bool true) rfl rfl rfl (e_move) ?_
     refine l_nil ?_
     exact f_owes_d (up_cons rfl hs99) rfl (List.Perm.refl _)
    ·rintro f M ⟨k0, -⟩ ⟨i0, -⟩
     have hs4 : f 4 = .pointer (some ⟨b2, 0, none⟩) := i0
     have hs100 : f 100 = .bool true := k0
     refine ob_start (L' := M) (by rfl) (up_cons (up_cons rfl hs4) hs100) ?_
     refine g_val (v := .pointer (some ⟨b2, 0, none⟩)) rfl rfl rfl rfl rfl (e_fieldPt (b := b2) (o := 0) rfl tt129) ?_
     refine l_nil ?_
     exact f_owes_d (up_cons (up_cons rfl hs4) hs100) rfl (List.Perm.refl _)
    ·rintro f M ⟨k0, k1, -⟩ -
     have hs101 : f 101 = .pointer (some ⟨b2, 0, none⟩) := k0
     have hs100 : f 100 = .bool true := k1
     refine ob_start (L' := pt b2 (.cells #[.pointer (some ⟨rb, 0, none⟩)] 168) :: M) (by rfl) (up_cons (up_cons rfl hs101) hs100) ?_
     refine g_val (v := .pointer (some ⟨rb, 0, none⟩)) rfl rfl rfl rfl rfl (e_load1 tt130 (v := .pointer (some ⟨rb, 0, none⟩)) rfl (k_pt 0 (cs := #[.pointer (some ⟨rb, 0, none⟩)]) (vs := [.pointer (some ⟨rb, 0, none⟩)]) rfl rfl)) ?_
     refine l_nil ?_
     exact f_owes_d (up_cons (up_cons rfl hs101) hs100) rfl (perm_front 0 rfl)
    ·rintro f M ⟨k0, k1, -⟩ -
     have hs102 : f 102 = .pointer (some ⟨rb, 0, none⟩) := k0
     have hs100 : f 100 = .bool true := k1
     refine ob_start (L' := rdrR rb [] :: M) (by rfl) (up_cons (up_cons rfl hs102) hs100) ?_
     refine g_call rfl rfl rfl rfl rfl (cl_value (fst := []) (cap := []) (vs := [.pointer (some ⟨rb, 0, none⟩)]) (all := [.pointer (some ⟨rb, 0, none⟩)]) tt147 rfl rfl rfl) ?_
     intro w hw
     replace hw := hw.perm (L' := _ :: M) (by exact (perm_front 0 rfl))
     obtain ⟨β1, sb, kn, hw1, back⟩ := St.frame (L := [_]) (M := M) hw
     refine (rend_ok β1 w rb hw1).mono ?_
     rintro e w' ⟨rfl, hw'⟩
     refine ⟨_, rfl, _, back _ _ hw', ?_⟩
     clear hw hw1 hw' back kn sb
     refine l_nil ?_
     exact f_owes_d (up_cons (up_cons rfl hs102) hs100) rfl (perm_front 0 rfl)
    ·rintro f M ⟨k0, k1, -⟩ -
     have hs103 : f 103 = .int .i64 (0) := k0
     have hs100 : f 100 = .bool true := k1
     refine ob_start (L' := M) (by rfl) (up_cons (up_cons rfl hs103) hs100) ?_
     refine g_val (v := .bool true) rfl rfl rfl rfl rfl (e_eql (a := (0 : Int)) (b := (0 : Int)) rfl rfl) ?_
     refine l_nil ?_
     exact f_owes_d (up_cons (up_cons rfl hs103) hs100) rfl (List.Perm.refl _)
    ·rintro f M ⟨k0, k1, -⟩ -
     have hs100 : f 100 = .bool true := k0
     have hs104 : f 104 = .bool true := k1
     refine ob_start (L' := M) (by rfl) (up_cons (up_cons rfl hs100) hs104) ?_
     refine l_val (v := .bool true) rfl rfl rfl (e_pick_t rfl) ?_
     refine l_nil ?_
     exact f_owes_d (up_cons (up_cons rfl hs100) hs104) rfl (List.Perm.refl _)
    ·rintro f M ⟨k0, -⟩ ⟨i0, -⟩
     have hs2 : f 2 = .pointer (some ⟨b1, 0, none⟩) := i0
     have hs98 : f 98 = .agg #[.map (some mp3), .map (some mh4), Ix (X.s.last), Ix (X.s.su.a0), Ix (X.s.su.a1), Ix (X.s.su.a2), Ix (X.s.su.a3), .map (some mm5)] := k0
     refine ob_start (L' := pt b1 (.cells #[.map none, .map none, .int .i64 (0), .int .i64 (0), .int .i64 (0), .int .i64 (0), .int .i64 (0), .map none] 88) :: M) (by rfl) (up_cons (up_cons rfl hs2) hs98) ?_
     refine l_mu rfl rfl (m_store 0 tt54 (b := b1) (o := 0) (T := 88) (cs := #[.map none, .map none, .int .i64 (0), .int .i64 (0), .int .i64 (0), .int .i64 (0), .int .i64 (0), .map none]) (cs' := #[.map (some mp3), .map (some mh4), Ix (X.s.last), Ix (X.s.su.a0), Ix (X.s.su.a1), Ix (X.s.su.a2), Ix (X.s.su.a3), .map (some mm5)]) (v := .agg #[.map (some mp3), .map (some mh4), Ix (X.s.last), Ix (X.s.su.a0), Ix (X.s.su.a1), Ix (X.s.su.a2), Ix (X.s.su.a3), .map (some mm5)]) rfl rfl rfl rfl rfl rfl rfl) ?_
     refine l_nil ?_
     exact f_owes_n (up_cons (up_cons rfl hs2) hs98) trivial (perm_front 0 rfl)
    ·rintro f M ⟨k0, -⟩ -
     have hs105 : f 105 = .bool true := k0
     refine ob_start (L' := M) (by rfl) (up_cons rfl hs105) ?_
     refine l_val (v := .bool true) rfl rfl rfl (e_assign) ?_
     refine l_nil ?_
     exact f_owes_d (up_cons rfl hs105) rfl (List.Perm.refl _)
    rintro fa27 ⟨-, -, -, -, -, -, -, -, -, k9, -⟩ ⟨j0, -⟩
    refine f_re (L' := [rdrR rb [], memR LL, mpR PuM mp3 ps, mpR HoM mh4 gs, mpR MeM mm5 (hdl LL), pt b2 (.cells #[.pointer (some ⟨rb, 0, none⟩)] 168), pt b6 (.cells #[.map (some mp3), .map (some mh4), Ix (X.s.last), Ix (X.s.su.a0), Ix (X.s.su.a1), Ix (X.s.su.a2), Ix (X.s.su.a3), .map (some mm5)] 88), pt b1 (.cells #[.map (some mp3), .map (some mh4), Ix (X.s.last), Ix (X.s.su.a0), Ix (X.s.su.a1), Ix (X.s.su.a2), Ix (X.s.su.a3), .map (some mm5)] 88)]) (by rfl) ?_
    refine f_rebase (d := 2) (v := .pointer (some ⟨b1, 0, none⟩)) j0 ?_
    refine f_rebase (d := 3) (v := .bool true) k9 ?_
    refine f_then ?_
    refine c_ret ?_
    refine retG (l := [.cell 2 88, .tmp 3]) (m := [.agg #[.map (some mp3), .map (some mh4), Ix (X.s.last), Ix (X.s.su.a0), Ix (X.s.su.a1), Ix (X.s.su.a2), Ix (X.s.su.a3), .map (some mm5)], .bool true]) (v := .tuple #[.agg #[.map (some mp3), .map (some mh4), Ix (X.s.last), Ix (X.s.su.a0), Ix (X.s.su.a1), Ix (X.s.su.a2), Ix (X.s.su.a3), .map (some mm5)], .bool true]) Tryz.results85 ⟨rd_cell tt54 (cs := [.map (some mp3), .map (some mh4), Ix (X.s.last), Ix (X.s.su.a0), Ix (X.s.su.a1), Ix (X.s.su.a2), Ix (X.s.su.a3), .map (some mm5)]) rfl (k_pt 7 (cs := #[.map (some mp3), .map (some mh4), Ix (X.s.last), Ix (X.s.su.a0), Ix (X.s.su.a1), Ix (X.s.su.a2), Ix (X.s.su.a3), .map (some mm5)]) (vs := [.map (some mp3), .map (some mh4), Ix (X.s.last), Ix (X.s.su.a0), Ix (X.s.su.a1), Ix (X.s.su.a2), Ix (X.s.su.a3), .map (some mm5)]) rfl rfl) rfl, rd_tmp (v := .bool true) rfl, trivial⟩ rfl ?_
    intro w hw
    replace hw := hw.perm (L' := [mpR PuM mp3 ps, mpR HoM mh4 gs, mpR MeM mm5 (hdl LL), memR LL, rdrR rb [], pt b2 (.cells #[.pointer (some ⟨rb, 0, none⟩)] 168), pt b6 (.cells #[.map (some mp3), .map (some mh4), Ix (X.s.last), Ix (X.s.su.a0), Ix (X.s.su.a1), Ix (X.s.su.a2), Ix (X.s.su.a3), .map (some mm5)] 88), pt b1 (.cells #[.map (some mp3), .map (some mh4), Ix (X.s.last), Ix (X.s.su.a0), Ix (X.s.su.a1), Ix (X.s.su.a2), Ix (X.s.su.a3), .map (some mm5)] 88)]) (by exact (perm_ix [2, 3, 4, 1, 0, 5, 6, 7] 8 rfl (by kernel_rfl) (by kernel_rfl)))
    replace hw := st_mask (L' := [mpR PuM mp3 ps, mpR HoM mh4 gs, mpR MeM mm5 (hdl LL), memR LL]) [true, true, true, true, false, false, false, false] rfl hw
    exact ⟨mp3, mh4, mm5, LL, hml, hho, rfl, hw⟩
end Go.Proofs
