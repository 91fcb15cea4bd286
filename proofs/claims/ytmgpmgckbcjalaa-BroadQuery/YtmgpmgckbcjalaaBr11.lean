/-
  BroadQuery: walked. Printed by a program of my own.
-/
import Derived.Test.YtmgpmgckbcjalaaBr10
import Derived.Test.YtmgpmgckbcjalaaBrLaw2
namespace Go.Proofs
open Go Go.Sl Go.Brd
theorem tf102 : cfB Try.prog 12 = true := by kernel_rfl
theorem tf103 : cfB Try.prog 14 = true := by kernel_rfl
set_option maxHeartbeats 4000000 in
theorem queryL_ok (β : Base) (w : World) (hw : St β [] w) (v : Value) (fs : List KF) (fg fh : KF) (hs : Sl FormF.R β.heap v fs) : Calls Try.prog 5 #[v, .agg #[Bx (fg.x), Bx (fg.y), Bx (fg.w), Bx (fg.h)], .agg #[Bx (fh.x), Bx (fh.y), Bx (fh.w), Bx (fh.h)]] w fun r w' => r = .returned (.bool true) ∧ St β [] w' := by
  obtain ⟨va, vc, rfl, vl, vm, ve⟩ := hs.get
  refine enter (n := 117) Try.func5 rfl Try.ntmps5 rfl ?_ hw
  refine c_seq ?_
  refine c_region ?_
  refine l_mv rfl rfl rfl (m_box (v := .agg #[Bx (fg.x), Bx (fg.y), Bx (fg.w), Bx (fg.h)]) rfl) ?_
  rintro _ _ ⟨b1, rfl, rfl⟩
  refine l_mv rfl rfl rfl (m_box (v := .agg #[Bx (fh.x), Bx (fh.y), Bx (fh.w), Bx (fh.h)]) rfl) ?_
  rintro _ _ ⟨b2, rfl, rfl⟩
  refine l_val (v := .bool false) rfl rfl rfl (e_assign) ?_
  refine l_nil ?_
  refine f_then ?_
  refine c_seq ?_
  refine c_seq ?_
  refine c_region ?_
  refine l_call rfl rfl rfl (cl_value (fst := []) (cap := []) (vs := []) (all := []) tf98 rfl rfl rfl) ?_
  intro w hw
  obtain ⟨β1, sb, kn, hw1, back⟩ := St.frame_all hw
  refine (awake_ok β1 w hw1).mono ?_
  rintro e w' ⟨rfl, hw'⟩
  refine ⟨_, rfl, _, back _ _ hw', ?_⟩
  clear hw hw1 hw' back kn sb
  refine l_val (v := .bool false) rfl rfl rfl (e_not (a := true) rfl) ?_
  refine l_nil ?_
  refine f_then ?_
  refine c_no rfl ?_
  refine c_skip ?_
  refine f_then ?_
  refine c_seq ?_
  refine c_any [⟨[], [], [0], [20], fun f => f 20 = .slice va (fs.length) (vc)⟩, ⟨[0], [0], [], [21], fun f => f 21 = .slice (sla (f 21)) ((listA fs).length) (slc (f 21))⟩, ⟨[], [], [1], [22], fun f => f 22 = .agg #[Bx (fg.x), Bx (fg.y), Bx (fg.w), Bx (fg.h)]⟩, ⟨[0, 1, 2], [2], [], [23], fun f => f 23 = .agg (aC (madeA fg))⟩, ⟨[], [], [2], [24], fun f => f 24 = .agg #[Bx (fh.x), Bx (fh.y), Bx (fh.w), Bx (fh.h)]⟩, ⟨[0, 1, 2, 3, 4], [4], [], [25], fun f => f 25 = .agg (aC (madeA fh))⟩, ⟨[], [], [], [8], fun f => f 8 = .pointer (some ⟨(blk (f 8)), 0, none⟩)⟩, ⟨[], [], [], [9], fun f => f 9 = .pointer (some ⟨(blk (f 9)), 0, none⟩)⟩, ⟨[0, 1, 2, 3, 4, 5, 6, 7], [1], [], [7, 21], fun f => f 7 = .slice (sla (f 21)) ((listA fs).length) (slc (f 21))⟩, ⟨[0, 1, 2, 3, 4, 5, 6, 7, 8], [6, 3], [], [], fun _ => True⟩, ⟨[0, 1, 2, 3, 4, 5, 6, 7, 8, 9], [7, 5], [], [], fun _ => True⟩] [⟨none, none, [4], [], fun _ => pt b2 (.cells #[Bx (fh.x), Bx (fh.y), Bx (fh.w), Bx (fh.h)] 43)⟩, ⟨none, none, [2], [], fun _ => pt b1 (.cells #[Bx (fg.x), Bx (fg.y), Bx (fg.w), Bx (fg.h)] 43)⟩, ⟨(some 1), none, [], [21], fun f => rowF AreaF 25 (sla (f 21)) (slc (f 21)) (listA fs)⟩, ⟨(some 6), (some 9), [9], [8], fun f => pt (blk (f 8)) (.cells #[.int .i64 (0), .int .i64 (0), .int .i64 (0), .int .i64 (0)] 25)⟩, ⟨(some 7), (some 10), [10], [9], fun f => pt (blk (f 9)) (.cells #[.int .i64 (0), .int .i64 (0), .int .i64 (0), .int .i64 (0)] 25)⟩, ⟨(some 9), none, [], [8], fun f => pt (blk (f 8)) (.cells (aC (madeA fg)) 25)⟩, ⟨(some 10), none, [], [9], fun f => pt (blk (f 9)) (.cells (aC (madeA fh)) 25)⟩] [(0, .slice va (fs.length) (vc)), (4, .pointer (some ⟨b1, 0, none⟩)), (5, .pointer (some ⟨b2, 0, none⟩))] [] [] (by kernel_rfl) (by kernel_rfl) (by kernel_rfl) (by kernel_rfl) rfl ⟨rfl, rfl, rfl, trivial⟩ ⟨?_, ?_, ?_, ?_, ?_, ?_, ?_, ?_, ?_, ?_, ?_, trivial⟩ ?_
  · rintro f M - ⟨i0, -⟩
    have hs0 : f 0 = .slice va (fs.length) (vc) := i0
    refine ob_start (L' := M) (by rfl) (up_cons rfl hs0) ?_
    refine l_val (v := .slice va (fs.length) (vc)) rfl rfl rfl (e_move) ?_
    refine l_nil ?_
    exact f_owes_d (up_cons rfl hs0) rfl (List.Perm.refl _)
  · rintro f M ⟨k0, -⟩ -
    have hs20 : f 20 = .slice va (fs.length) (vc) := k0
    refine ob_start (L' := M) (by rfl) (up_cons rfl hs20) ?_
    refine l_call rfl rfl rfl (cl_value (fst := []) (cap := []) (vs := [.slice va (fs.length) (vc)]) (all := [.slice va (fs.length) (vc)]) tf102 rfl rfl rfl) ?_
    intro w hw
    obtain ⟨β1, sb, kn, hw1, back⟩ := St.frame_all hw
    refine (list_ok β1 w hw1 _ fs (Sl.mono _ _ _ _ _ sb (⟨⟨_, _, rfl, vl, vm, ve⟩⟩ : Sl FormF.R _ _ fs))).mono ?_
    rintro e w' ⟨p5, c6, rfl, hw'⟩
    refine ⟨_, rfl, _, back _ _ hw', ?_⟩
    clear hw hw1 hw' back kn sb
    refine l_nil ?_
    exact f_owes_d (up_cons rfl hs20) rfl (perm_front 0 rfl)
  · rintro f M - ⟨i0, -⟩
    have hs4 : f 4 = .pointer (some ⟨b1, 0, none⟩) := i0
    refine ob_start (L' := pt b1 (.cells #[Bx (fg.x), Bx (fg.y), Bx (fg.w), Bx (fg.h)] 43) :: M) (by rfl) (up_cons rfl hs4) ?_
    refine l_val (v := .agg #[Bx (fg.x), Bx (fg.y), Bx (fg.w), Bx (fg.h)]) rfl rfl rfl (e_load tf95 (cs := [Bx (fg.x), Bx (fg.y), Bx (fg.w), Bx (fg.h)]) rfl (k_pt 0 (cs := #[Bx (fg.x), Bx (fg.y), Bx (fg.w), Bx (fg.h)]) (vs := [Bx (fg.x), Bx (fg.y), Bx (fg.w), Bx (fg.h)]) rfl rfl) rfl) ?_
    refine l_nil ?_
    exact f_owes_d (up_cons rfl hs4) rfl (perm_front 0 rfl)
  · rintro f M ⟨k0, -⟩ -
    have hs22 : f 22 = .agg #[Bx (fg.x), Bx (fg.y), Bx (fg.w), Bx (fg.h)] := k0
    refine ob_start (L' := M) (by rfl) (up_cons rfl hs22) ?_
    refine l_call rfl rfl rfl (cl_value (fst := []) (cap := []) (vs := [.agg #[Bx (fg.x), Bx (fg.y), Bx (fg.w), Bx (fg.h)]]) (all := [.agg #[Bx (fg.x), Bx (fg.y), Bx (fg.w), Bx (fg.h)]]) tf96 rfl rfl rfl) ?_
    intro w hw
    obtain ⟨β1, sb, kn, hw1, back⟩ := St.frame_all hw
    refine (made_ok β1 w hw1 fg).mono ?_
    rintro e w' ⟨rfl, hw'⟩
    refine ⟨_, rfl, _, back _ _ hw', ?_⟩
    clear hw hw1 hw' back kn sb
    refine l_nil ?_
    exact f_owes_d (up_cons rfl hs22) rfl (List.Perm.refl _)
  · rintro f M - ⟨i0, -⟩
    have hs5 : f 5 = .pointer (some ⟨b2, 0, none⟩) := i0
    refine ob_start (L' := pt b2 (.cells #[Bx (fh.x), Bx (fh.y), Bx (fh.w), Bx (fh.h)] 43) :: M) (by rfl) (up_cons rfl hs5) ?_
    refine l_val (v := .agg #[Bx (fh.x), Bx (fh.y), Bx (fh.w), Bx (fh.h)]) rfl rfl rfl (e_load tf95 (cs := [Bx (fh.x), Bx (fh.y), Bx (fh.w), Bx (fh.h)]) rfl (k_pt 0 (cs := #[Bx (fh.x), Bx (fh.y), Bx (fh.w), Bx (fh.h)]) (vs := [Bx (fh.x), Bx (fh.y), Bx (fh.w), Bx (fh.h)]) rfl rfl) rfl) ?_
    refine l_nil ?_
    exact f_owes_d (up_cons rfl hs5) rfl (perm_front 0 rfl)
  · rintro f M ⟨k0, -⟩ -
    have hs24 : f 24 = .agg #[Bx (fh.x), Bx (fh.y), Bx (fh.w), Bx (fh.h)] := k0
    refine ob_start (L' := M) (by rfl) (up_cons rfl hs24) ?_
    refine l_call rfl rfl rfl (cl_value (fst := []) (cap := []) (vs := [.agg #[Bx (fh.x), Bx (fh.y), Bx (fh.w), Bx (fh.h)]]) (all := [.agg #[Bx (fh.x), Bx (fh.y), Bx (fh.w), Bx (fh.h)]]) tf96 rfl rfl rfl) ?_
    intro w hw
    obtain ⟨β1, sb, kn, hw1, back⟩ := St.frame_all hw
    refine (made_ok β1 w hw1 fh).mono ?_
    rintro e w' ⟨rfl, hw'⟩
    refine ⟨_, rfl, _, back _ _ hw', ?_⟩
    clear hw hw1 hw' back kn sb
    refine l_nil ?_
    exact f_owes_d (up_cons rfl hs24) rfl (List.Perm.refl _)
  · rintro f M - -
    refine ob_start (L' := M) (by rfl) rfl ?_
    refine l_mv rfl rfl rfl (m_alloc tf6) ?_
    rintro _ _ ⟨b8, rfl, rfl⟩
    refine l_nil ?_
    exact f_owes_d rfl rfl (perm_front 0 rfl)
  · rintro f M - -
    refine ob_start (L' := M) (by rfl) rfl ?_
    refine l_mv rfl rfl rfl (m_alloc tf6) ?_
    rintro _ _ ⟨b10, rfl, rfl⟩
    refine l_nil ?_
    exact f_owes_d rfl rfl (perm_front 0 rfl)
  · rintro f M ⟨k0, -⟩ -
    have hs21 : f 21 = .slice (sla (f 21)) ((listA fs).length) (slc (f 21)) := k0
    refine ob_start (L' := M) (by rfl) (up_cons rfl hs21) ?_
    refine l_val (v := .slice (sla (f 21)) ((listA fs).length) (slc (f 21))) rfl rfl rfl (e_assign) ?_
    refine l_nil ?_
    exact f_owes_d (up_cons rfl hs21) rfl (List.Perm.refl _)
  · rintro f M ⟨k0, k1, -⟩ -
    have hs8 : f 8 = .pointer (some ⟨(blk (f 8)), 0, none⟩) := k0
    have hs23 : f 23 = .agg (aC (madeA fg)) := k1
    refine ob_start (L' := pt (blk (f 8)) (.cells #[.int .i64 (0), .int .i64 (0), .int .i64 (0), .int .i64 (0)] 25) :: M) (by rfl) (up_cons (up_cons rfl hs8) hs23) ?_
    refine l_mu rfl rfl (m_store 0 tf10 (b := (blk (f 8))) (o := 0) (T := 25) (cs := #[.int .i64 (0), .int .i64 (0), .int .i64 (0), .int .i64 (0)]) (cs' := (aC (madeA fg))) (v := .agg (aC (madeA fg))) rfl rfl rfl rfl rfl rfl rfl) ?_
    refine l_nil ?_
    exact f_owes_n (up_cons (up_cons rfl hs8) hs23) trivial (perm_front 0 rfl)
  · rintro f M ⟨k0, k1, -⟩ -
    have hs9 : f 9 = .pointer (some ⟨(blk (f 9)), 0, none⟩) := k0
    have hs25 : f 25 = .agg (aC (madeA fh)) := k1
    refine ob_start (L' := pt (blk (f 9)) (.cells #[.int .i64 (0), .int .i64 (0), .int .i64 (0), .int .i64 (0)] 25) :: M) (by rfl) (up_cons (up_cons rfl hs9) hs25) ?_
    refine l_mu rfl rfl (m_store 0 tf10 (b := (blk (f 9))) (o := 0) (T := 25) (cs := #[.int .i64 (0), .int .i64 (0), .int .i64 (0), .int .i64 (0)]) (cs' := (aC (madeA fh))) (v := .agg (aC (madeA fh))) rfl rfl rfl rfl rfl rfl rfl) ?_
    refine l_nil ?_
    exact f_owes_n (up_cons (up_cons rfl hs9) hs25) trivial (perm_front 0 rfl)
  rintro fa11 ⟨-, -, -, -, -, -, k6, k7, k8, -, -, -⟩ -
  refine f_re (L' := [pt b2 (.cells #[Bx (fh.x), Bx (fh.y), Bx (fh.w), Bx (fh.h)] 43), pt b1 (.cells #[Bx (fg.x), Bx (fg.y), Bx (fg.w), Bx (fg.h)] 43), rowF AreaF 25 (sla (fa11 21)) (slc (fa11 21)) (listA fs), pt (blk (fa11 8)) (.cells (aC (madeA fg)) 25), pt (blk (fa11 9)) (.cells (aC (madeA fh)) 25)]) (by rfl) ?_
  refine f_rebase (d := 7) (v := .slice (sla (fa11 21)) ((listA fs).length) (slc (fa11 21))) k8 ?_
  refine f_rebase (d := 8) (v := .pointer (some ⟨(blk (fa11 8)), 0, none⟩)) k6 ?_
  refine f_rebase (d := 9) (v := .pointer (some ⟨(blk (fa11 9)), 0, none⟩)) k7 ?_
  refine f_then ?_
  refine c_seq ?_
  generalize hlE : listA fs = l
  generalize haE : madeA fg = a
  generalize hbE : madeA fh = b
  have hl40 : l.length ≤ 40 := hlE ▸ listA_len fs
  have hok : ∀ z ∈ l, okA z := fun z hz => listA_ok (l := fs) (hlE ▸ hz)
  have oka : okA a := haE ▸ made_okA fg
  have okb : okA b := hbE ▸ made_okA fh
  have okj := joinR_okA oka okb
  refine c_region ?_
  refine l_val (v := .slice (sla (fa11 21)) (l.length) (slc (fa11 21))) rfl rfl rfl (e_move) ?_
  refine l_call rfl rfl rfl (cl_value (fst := []) (cap := []) (vs := [.slice (sla (fa11 21)) (l.length) (slc (fa11 21)), .int .i64 (5)]) (all := [.slice (sla (fa11 21)) (l.length) (slc (fa11 21)), .int .i64 (5)]) tf103 rfl rfl rfl) ?_
  intro w hw
  obtain ⟨β1, sb, kn, hw1, back⟩ := St.frame_all hw
  refine (filled_ok β1 w hw1 _ l 5 (kn _ (k_flN 2 (F := AreaF) (m := l.length) rfl rfl)) (by decide) (by decide) hl40 hok).mono ?_
  rintro e w' ⟨b12, rfl, hw'⟩
  refine ⟨_, rfl, _, back _ _ hw', ?_⟩
  clear hw hw1 hw' back kn sb
  refine l_val (v := .tuple #[.pointer (some ⟨b12, 0, none⟩), .bool true]) rfl rfl rfl (e_move) ?_
  refine l_val (v := .pointer (some ⟨b12, 0, none⟩)) rfl rfl rfl (e_extract (vs := #[.pointer (some ⟨b12, 0, none⟩), .bool true]) rfl rfl) ?_
  refine l_val (v := .bool true) rfl rfl rfl (e_extract (vs := #[.pointer (some ⟨b12, 0, none⟩), .bool true]) rfl rfl) ?_
  refine l_val (v := .pointer (some ⟨b12, 0, none⟩)) rfl rfl rfl (e_assign) ?_
  refine l_val (v := .bool true) rfl rfl rfl (e_assign) ?_
  refine l_nil ?_
  refine f_then ?_
  refine c_seq ?_
  refine c_any [⟨[], [], [0], [31], fun f => f 31 = .pointer (some ⟨b12, 0, none⟩)⟩, ⟨[], [], [1], [32], fun f => f 32 = .agg (aC a)⟩, ⟨[0, 1], [0, 1], [], [33], fun f => f 33 = .slice (sla (f 33)) ((queryX (fillS l 5) a).length) (slc (f 33))⟩, ⟨[], [], [0], [34], fun f => f 34 = .pointer (some ⟨b12, 0, none⟩)⟩, ⟨[], [], [1], [35], fun f => f 35 = .agg (aC a)⟩, ⟨[], [], [2], [36], fun f => f 36 = .agg (aC b)⟩, ⟨[0, 1, 2, 4, 5], [4, 5], [], [37], fun f => f 37 = .agg (aC (joinR a b))⟩, ⟨[0, 1, 2, 3, 4, 5, 6], [3, 6], [], [38], fun f => f 38 = .slice (sla (f 38)) ((queryX (fillS l 5) (joinR a b)).length) (slc (f 38))⟩, ⟨[0, 1, 2, 3, 4, 5, 6, 7], [2], [], [12, 33], fun f => f 12 = .slice (sla (f 33)) ((queryX (fillS l 5) a).length) (slc (f 33))⟩, ⟨[0, 1, 2, 3, 4, 5, 6, 7, 8], [7], [], [13, 38], fun f => f 13 = .slice (sla (f 38)) ((queryX (fillS l 5) (joinR a b)).length) (slc (f 38))⟩] [⟨none, (some 2), [2], [], fun _ => spcR b12 (fillS l 5)⟩, ⟨none, none, [], [], fun _ => pt b2 (.cells #[Bx (fh.x), Bx (fh.y), Bx (fh.w), Bx (fh.h)] 43)⟩, ⟨none, none, [], [], fun _ => pt b1 (.cells #[Bx (fg.x), Bx (fg.y), Bx (fg.w), Bx (fg.h)] 43)⟩, ⟨none, none, [], [], fun _ => rowF AreaF 25 (sla (fa11 21)) (slc (fa11 21)) l⟩, ⟨none, none, [1, 4], [], fun _ => pt (blk (fa11 8)) (.cells (aC a) 25)⟩, ⟨none, none, [5], [], fun _ => pt (blk (fa11 9)) (.cells (aC b) 25)⟩, ⟨(some 2), none, [], [33], fun f => rowF IntF 3 (sla (f 33)) (slc (f 33)) (queryX (fillS l 5) a)⟩, ⟨(some 2), (some 7), [7], [], fun _ => spcR b12 (fillS l 5)⟩, ⟨(some 7), none, [], [38], fun f => rowF IntF 3 (sla (f 38)) (slc (f 38)) (queryX (fillS l 5) (joinR a b))⟩, ⟨(some 7), none, [], [], fun _ => spcR b12 (fillS l 5)⟩] [(10, .pointer (some ⟨b12, 0, none⟩)), (8, .pointer (some ⟨(blk (fa11 8)), 0, none⟩)), (9, .pointer (some ⟨(blk (fa11 9)), 0, none⟩)), (7, .slice (sla (fa11 21)) (l.length) (slc (fa11 21))), (11, .bool true)] [3, 1, 2, 4] [] (by kernel_rfl) (by kernel_rfl) (by kernel_rfl) (by kernel_rfl) rfl ⟨rfl, rfl, rfl, rfl, rfl, trivial⟩ ⟨?_, ?_, ?_, ?_, ?_, ?_, ?_, ?_, ?_, ?_, trivial⟩ ?_
  · rintro f M - ⟨i0, -⟩
    have hs10 : f 10 = .pointer (some ⟨b12, 0, none⟩) := i0
    refine ob_start (L' := M) (by rfl) (up_cons rfl hs10) ?_
    refine l_val (v := .pointer (some ⟨b12, 0, none⟩)) rfl rfl rfl (e_move) ?_
    refine l_nil ?_
    exact f_owes_d (up_cons rfl hs10) rfl (List.Perm.refl _)
  · rintro f M - ⟨i0, -⟩
    have hs8 : f 8 = .pointer (some ⟨(blk (fa11 8)), 0, none⟩) := i0
    refine ob_start (L' := pt (blk (fa11 8)) (.cells (aC a) 25) :: M) (by rfl) (up_cons rfl hs8) ?_
    refine l_val (v := .agg (aC a)) rfl rfl rfl (e_load tf10 (cs := (areaE a)) rfl (k_pt 0 (cs := (aC a)) (vs := (areaE a)) rfl rfl) rfl) ?_
    refine l_nil ?_
    exact f_owes_d (up_cons rfl hs8) rfl (perm_front 0 rfl)
  · rintro f M ⟨k0, k1, -⟩ -
    have hs31 : f 31 = .pointer (some ⟨b12, 0, none⟩) := k0
    have hs32 : f 32 = .agg (aC a) := k1
    refine ob_start (L' := spcR b12 (fillS l 5) :: M) (by rfl) (up_cons (up_cons rfl hs31) hs32) ?_
    refine l_call rfl rfl rfl (cl_value (fst := []) (cap := []) (vs := [.pointer (some ⟨b12, 0, none⟩), .agg (aC a)]) (all := [.pointer (some ⟨b12, 0, none⟩), .agg (aC a)]) tf84 rfl rfl rfl) ?_
    intro w hw
    replace hw := hw.perm (L' := _ :: M) (by exact (perm_front 0 rfl))
    obtain ⟨β1, sb, kn, hw1, back⟩ := St.frame (L := [_]) (M := M) hw
    refine (query_ok β1 w b12 (fillS l 5) hw1 (fill_okS (by decide) (by omega) hok) a).mono ?_
    rintro e w' ⟨p15, c16, rfl, hw'⟩
    refine ⟨_, rfl, _, back _ _ hw', ?_⟩
    clear hw hw1 hw' back kn sb
    refine l_nil ?_
    exact f_owes_d (up_cons (up_cons rfl hs31) hs32) rfl ((perm_front 1 rfl).trans (perm_front 1 rfl))
  · rintro f M - ⟨i0, -⟩
    have hs10 : f 10 = .pointer (some ⟨b12, 0, none⟩) := i0
    refine ob_start (L' := M) (by rfl) (up_cons rfl hs10) ?_
    refine l_val (v := .pointer (some ⟨b12, 0, none⟩)) rfl rfl rfl (e_move) ?_
    refine l_nil ?_
    exact f_owes_d (up_cons rfl hs10) rfl (List.Perm.refl _)
  · rintro f M - ⟨i0, -⟩
    have hs8 : f 8 = .pointer (some ⟨(blk (fa11 8)), 0, none⟩) := i0
    refine ob_start (L' := pt (blk (fa11 8)) (.cells (aC a) 25) :: M) (by rfl) (up_cons rfl hs8) ?_
    refine l_val (v := .agg (aC a)) rfl rfl rfl (e_load tf10 (cs := (areaE a)) rfl (k_pt 0 (cs := (aC a)) (vs := (areaE a)) rfl rfl) rfl) ?_
    refine l_nil ?_
    exact f_owes_d (up_cons rfl hs8) rfl (perm_front 0 rfl)
  · rintro f M - ⟨i0, -⟩
    have hs9 : f 9 = .pointer (some ⟨(blk (fa11 9)), 0, none⟩) := i0
    refine ob_start (L' := pt (blk (fa11 9)) (.cells (aC b) 25) :: M) (by rfl) (up_cons rfl hs9) ?_
    refine l_val (v := .agg (aC b)) rfl rfl rfl (e_load tf10 (cs := (areaE b)) rfl (k_pt 0 (cs := (aC b)) (vs := (areaE b)) rfl rfl) rfl) ?_
    refine l_nil ?_
    exact f_owes_d (up_cons rfl hs9) rfl (perm_front 0 rfl)
  · rintro f M ⟨k0, k1, -⟩ -
    have hs35 : f 35 = .agg (aC a) := k0
    have hs36 : f 36 = .agg (aC b) := k1
    refine ob_start (L' := M) (by rfl) (up_cons (up_cons rfl hs35) hs36) ?_
    refine l_call rfl rfl rfl (cl_value (fst := []) (cap := []) (vs := [.agg (aC a), .agg (aC b)]) (all := [.agg (aC a), .agg (aC b)]) tf82 rfl rfl rfl) ?_
    intro w hw
    obtain ⟨β1, sb, kn, hw1, back⟩ := St.frame_all hw
    refine (join_ok β1 w hw1 a b).mono ?_
    rintro e w' ⟨rfl, hw'⟩
    refine ⟨_, rfl, _, back _ _ hw', ?_⟩
    clear hw hw1 hw' back kn sb
    refine l_nil ?_
    exact f_owes_d (up_cons (up_cons rfl hs35) hs36) rfl (List.Perm.refl _)
  · rintro f M ⟨k0, k1, -⟩ -
    have hs34 : f 34 = .pointer (some ⟨b12, 0, none⟩) := k0
    have hs37 : f 37 = .agg (aC (joinR a b)) := k1
    refine ob_start (L' := spcR b12 (fillS l 5) :: M) (by rfl) (up_cons (up_cons rfl hs34) hs37) ?_
    refine l_call rfl rfl rfl (cl_value (fst := []) (cap := []) (vs := [.pointer (some ⟨b12, 0, none⟩), .agg (aC (joinR a b))]) (all := [.pointer (some ⟨b12, 0, none⟩), .agg (aC (joinR a b))]) tf84 rfl rfl rfl) ?_
    intro w hw
    replace hw := hw.perm (L' := _ :: M) (by exact (perm_front 0 rfl))
    obtain ⟨β1, sb, kn, hw1, back⟩ := St.frame (L := [_]) (M := M) hw
    refine (query_ok β1 w b12 (fillS l 5) hw1 (fill_okS (by decide) (by omega) hok) (joinR a b)).mono ?_
    rintro e w' ⟨p19, c20, rfl, hw'⟩
    refine ⟨_, rfl, _, back _ _ hw', ?_⟩
    clear hw hw1 hw' back kn sb
    refine l_nil ?_
    exact f_owes_d (up_cons (up_cons rfl hs34) hs37) rfl ((perm_front 1 rfl).trans (perm_front 1 rfl))
  · rintro f M ⟨k0, -⟩ -
    have hs33 : f 33 = .slice (sla (f 33)) ((queryX (fillS l 5) a).length) (slc (f 33)) := k0
    refine ob_start (L' := M) (by rfl) (up_cons rfl hs33) ?_
    refine l_val (v := .slice (sla (f 33)) ((queryX (fillS l 5) a).length) (slc (f 33))) rfl rfl rfl (e_assign) ?_
    refine l_nil ?_
    exact f_owes_d (up_cons rfl hs33) rfl (List.Perm.refl _)
  · rintro f M ⟨k0, -⟩ -
    have hs38 : f 38 = .slice (sla (f 38)) ((queryX (fillS l 5) (joinR a b)).length) (slc (f 38)) := k0
    refine ob_start (L' := M) (by rfl) (up_cons rfl hs38) ?_
    refine l_val (v := .slice (sla (f 38)) ((queryX (fillS l 5) (joinR a b)).length) (slc (f 38))) rfl rfl rfl (e_assign) ?_
    refine l_nil ?_
    exact f_owes_d (up_cons rfl hs38) rfl (List.Perm.refl _)
  rintro fa21 ⟨-, -, -, -, -, -, -, -, k8, k9, -⟩ ⟨j0, j1, j2, j3, -⟩
  refine f_re (L' := [pt b2 (.cells #[Bx (fh.x), Bx (fh.y), Bx (fh.w), Bx (fh.h)] 43), pt b1 (.cells #[Bx (fg.x), Bx (fg.y), Bx (fg.w), Bx (fg.h)] 43), rowF AreaF 25 (sla (fa11 21)) (slc (fa11 21)) l, pt (blk (fa11 8)) (.cells (aC a) 25), pt (blk (fa11 9)) (.cells (aC b) 25), rowF IntF 3 (sla (fa21 33)) (slc (fa21 33)) (queryX (fillS l 5) a), rowF IntF 3 (sla (fa21 38)) (slc (fa21 38)) (queryX (fillS l 5) (joinR a b)), spcR b12 (fillS l 5)]) (by rfl) ?_
  refine f_rebase (d := 7) (v := .slice (sla (fa11 21)) (l.length) (slc (fa11 21))) j0 ?_
  refine f_rebase (d := 8) (v := .pointer (some ⟨(blk (fa11 8)), 0, none⟩)) j1 ?_
  refine f_rebase (d := 9) (v := .pointer (some ⟨(blk (fa11 9)), 0, none⟩)) j2 ?_
  refine f_rebase (d := 11) (v := .bool true) j3 ?_
  refine f_rebase (d := 12) (v := .slice (sla (fa21 33)) ((queryX (fillS l 5) a).length) (slc (fa21 33))) k8 ?_
  refine f_rebase (d := 13) (v := .slice (sla (fa21 38)) ((queryX (fillS l 5) (joinR a b)).length) (slc (fa21 38))) k9 ?_
  refine f_then ?_
  refine c_seq ?_
  rw [query_fill (by decide) hok oka, query_fill (by decide) hok okj]
  have hqa := hitL_len l 5 a
  have hqj := hitL_len l 5 (joinR a b)
  refine c_region ?_
  refine l_val (v := .int .i64 (0)) rfl rfl rfl (e_assign) ?_
  refine l_val (v := .int .i64 (0)) rfl rfl rfl (e_assign) ?_
  refine l_nil ?_
  refine f_then ?_
  refine c_seq ?_
  refine c_seq ?_
  refine c_region ?_
  refine l_val (v := .slice (sla (fa11 21)) (l.length) (slc (fa11 21))) rfl rfl rfl (e_move) ?_
  refine l_val (v := Nx (l.length)) rfl rfl rfl (e_len (a := (sla (fa11 21))) (n := l.length) (c := (slc (fa11 21))) rfl tf42) ?_
  refine l_val (v := .int .i64 (0)) rfl rfl rfl (e_move) ?_
  refine l_nil ?_
  refine f_then ?_
  refine c_block ?_
  refine c_loop (fun (x_ : Nat × Nat × Nat) (f : Fm) (L : List Res) => match x_ with | (k, n1, n2) => (f 8 = .pointer (some ⟨(blk (fa11 8)), 0, none⟩) ∧ f 9 = .pointer (some ⟨(blk (fa11 9)), 0, none⟩) ∧ f 11 = .bool true ∧ f 12 = .slice (sla (fa21 33)) ((hitL l 5 a).length) (slc (fa21 33)) ∧ f 13 = .slice (sla (fa21 38)) ((hitL l 5 (joinR a b)).length) (slc (fa21 38)) ∧ f 14 = Nx (n1) ∧ f 15 = Nx (n2) ∧ f 39 = .slice (sla (fa11 21)) (l.length) (slc (fa11 21)) ∧ f 40 = Nx (l.length) ∧ f 41 = Nx (k)) ∧ L = [pt b2 (.cells #[Bx (fh.x), Bx (fh.y), Bx (fh.w), Bx (fh.h)] 43), pt b1 (.cells #[Bx (fg.x), Bx (fg.y), Bx (fg.w), Bx (fg.h)] 43), rowF AreaF 25 (sla (fa11 21)) (slc (fa11 21)) l, pt (blk (fa11 8)) (.cells (aC a) 25), pt (blk (fa11 9)) (.cells (aC b) 25), rowF IntF 3 (sla (fa21 33)) (slc (fa21 33)) (hitL l 5 a), rowF IntF 3 (sla (fa21 38)) (slc (fa21 38)) (hitL l 5 (joinR a b)), spcR b12 (fillS l 5)] ∧ (k ≤ l.length ∧ n1 = (hitL (l.take k) 5 a).length ∧ n2 = (hitL (l.take k) 5 (joinR a b)).length)) (fun (x_ : Nat × Nat × Nat) => match x_ with | (k, n1, n2) => l.length - k) (0, 0, 0) ?_ ?_
  · exact ⟨⟨rfl, rfl, rfl, rfl, rfl, rfl, rfl, rfl, rfl, rfl⟩, rfl, ⟨by omega, rfl, rfl⟩⟩
  rintro ⟨k, n1, n2⟩ f0 L0 ⟨⟨hs8, hs9, hs11, hs12, hs13, hs14, hs15, hs39, hs40, hs41⟩, hL, ⟨hk, hn1, hn2⟩⟩
  subst L0
  refine rebase (d := 8) hs8 ?_
  refine rebase (d := 9) hs9 ?_
  refine rebase (d := 11) hs11 ?_
  refine rebase (d := 12) hs12 ?_
  refine rebase (d := 13) hs13 ?_
  refine rebase (d := 14) hs14 ?_
  refine rebase (d := 15) hs15 ?_
  refine rebase (d := 39) hs39 ?_
  refine rebase (d := 40) hs40 ?_
  refine rebase (d := 41) hs41 ?_
  clear hs8 hs9 hs11 hs12 hs13 hs14 hs15 hs39 hs40 hs41
  have g1 := hitL_len (l.take k) 5 a
  have g2 := hitL_len (l.take k) 5 (joinR a b)
  rw [List.length_take] at g1 g2
  refine c_seq ?_
  refine c_region ?_
  refine l_val (v := .bool (decide (((k : Nat) : Int) < ((l.length : Nat) : Int)))) rfl rfl rfl (e_lss (a := ((k : Nat) : Int)) (b := ((l.length : Nat) : Int)) rfl rfl) ?_
  refine l_nil ?_
  refine f_then ?_
  refine c_seq ?_
  refine c_if (((k : Nat) : Int) < ((l.length : Nat) : Int)) rfl (fun hc22 => ?_) (fun hc22 => ?_)
  ·
    refine c_skip ?_
    refine f_then ?_
    refine c_seq ?_
    refine c_block ?_
    refine c_seq ?_
    refine c_region ?_
    refine l_val (v := Nx (k)) rfl rfl rfl (e_move) ?_
    refine l_val (v := .pointer (some ((ba (sla (fa11 21))).add (k * 4)))) rfl rfl rfl (e_indexFlN 2 (F := AreaF) (j := k) (m := l.length) (xs := l) rfl rfl rfl tf43 (by omega) rfl) ?_
    obtain ⟨y, hy⟩ : ∃ x_, l[k]? = some x_ := ⟨_, List.getElem?_eq_getElem (by omega)⟩
    refine l_val (v := .agg (aC y)) rfl rfl rfl (e_load tf10 (cs := (areaE y)) rfl (k_flAt 2 (F := AreaF) rfl hy) rfl) ?_
    refine l_mv rfl rfl rfl (m_alloc tf6) ?_
    rintro _ _ ⟨b23, rfl, rfl⟩
    refine l_val (v := Nx (k)) rfl rfl rfl (e_assign) ?_
    refine l_mu rfl rfl (m_store 0 tf10 (b := b23) (o := 0) (T := 25) (cs := #[.int .i64 (0), .int .i64 (0), .int .i64 (0), .int .i64 (0)]) (cs' := (aC y)) (v := .agg (aC y)) rfl rfl rfl rfl rfl rfl rfl) ?_
    refine l_nil ?_
    refine f_then ?_
    refine c_seq ?_
    refine c_seq ?_
    have oky := hok y (List.mem_of_getElem? hy)
    refine c_quiet (by kernel_rfl) (by kernel_rfl) ?_
    refine q_val (v := .agg (aC y)) rfl rfl rfl (e_load tf10 (cs := (areaE y)) rfl (k_pt 0 (cs := (aC y)) (vs := (areaE y)) rfl rfl) rfl) ?_
    refine q_val (v := .agg (aC a)) rfl rfl rfl (e_load tf10 (cs := (areaE a)) rfl (k_pt 4 (cs := (aC a)) (vs := (areaE a)) rfl rfl) rfl) ?_
    refine q_call (v := .bool (decide (meetA y a))) rfl rfl rfl (cl_value (fst := []) (cap := []) (vs := [.agg (aC y), .agg (aC a)]) (all := [.agg (aC y), .agg (aC a)]) tf13 rfl rfl rfl) (fun w hw => ?_) ?_
    · obtain ⟨β1, sb, kn, hw1, back⟩ := St.frame_all hw
      exact (meet_ok β1 w hw1 y a).mono (fun e w' ⟨he, hw'⟩ => ⟨he, st_mask [true, true, true, true, true, true, true, true, true] rfl (back _ _ hw')⟩)
    refine q_val (v := .agg (aC y)) rfl rfl rfl (e_load tf10 (cs := (areaE y)) rfl (k_pt 0 (cs := (aC y)) (vs := (areaE y)) rfl rfl) rfl) ?_
    refine q_val (v := .agg (aC a)) rfl rfl rfl (e_load tf10 (cs := (areaE a)) rfl (k_pt 4 (cs := (aC a)) (vs := (areaE a)) rfl rfl) rfl) ?_
    refine q_call (v := .bool (decide (touchA y a))) rfl rfl rfl (cl_value (fst := []) (cap := []) (vs := [.agg (aC y), .agg (aC a)]) (all := [.agg (aC y), .agg (aC a)]) tf100 rfl rfl rfl) (fun w hw => ?_) ?_
    · obtain ⟨β1, sb, kn, hw1, back⟩ := St.frame_all hw
      exact (touch_ok β1 w hw1 y a).mono (fun e w' ⟨he, hw'⟩ => ⟨he, st_mask [true, true, true, true, true, true, true, true, true] rfl (back _ _ hw')⟩)
    refine q_val (v := .bool (!((decide (meetA y a)) == (decide (touchA y a))))) rfl rfl rfl (e_neq_b (a := decide (meetA y a)) (b := decide (touchA y a)) rfl rfl tf99) ?_
    refine q_val (v := .bool (!((decide (meetA y a)) == (decide (touchA y a))))) rfl rfl rfl (e_move) ?_
    refine q_splitb (s := 53) (b := !((decide (meetA y a)) == (decide (touchA y a)))) rfl (fun h => ?_) (fun h => ?_)
    (rw [(show (!((decide (meetA y a)) == (decide (touchA y a)))) = false from by simp [meet_touch oky oka])] at h; cases h)
    refine qg_val (v := .agg (aC a)) rfl rfl rfl rfl rfl (e_load tf10 (cs := (areaE a)) rfl (k_pt 4 (cs := (aC a)) (vs := (areaE a)) rfl rfl) rfl) ?_
    refine qg_val (v := .agg (aC y)) rfl rfl rfl rfl rfl (e_load tf10 (cs := (areaE y)) rfl (k_pt 0 (cs := (aC y)) (vs := (areaE y)) rfl rfl) rfl) ?_
    refine qg_call (v := .bool (decide (meetA a y))) rfl rfl rfl rfl rfl (cl_value (fst := []) (cap := []) (vs := [.agg (aC a), .agg (aC y)]) (all := [.agg (aC a), .agg (aC y)]) tf13 rfl rfl rfl) (fun w hw => ?_) ?_
    · obtain ⟨β1, sb, kn, hw1, back⟩ := St.frame_all hw
      exact (meet_ok β1 w hw1 a y).mono (fun e w' ⟨he, hw'⟩ => ⟨he, st_mask [true, true, true, true, true, true, true, true, true] rfl (back _ _ hw')⟩)
    refine qg_val (v := .agg (aC y)) rfl rfl rfl rfl rfl (e_load tf10 (cs := (areaE y)) rfl (k_pt 0 (cs := (aC y)) (vs := (areaE y)) rfl rfl) rfl) ?_
    refine qg_val (v := .agg (aC a)) rfl rfl rfl rfl rfl (e_load tf10 (cs := (areaE a)) rfl (k_pt 4 (cs := (aC a)) (vs := (areaE a)) rfl rfl) rfl) ?_
    refine qg_call (v := .bool (decide (touchA y a))) rfl rfl rfl rfl rfl (cl_value (fst := []) (cap := []) (vs := [.agg (aC y), .agg (aC a)]) (all := [.agg (aC y), .agg (aC a)]) tf100 rfl rfl rfl) (fun w hw => ?_) ?_
    · obtain ⟨β1, sb, kn, hw1, back⟩ := St.frame_all hw
      exact (touch_ok β1 w hw1 y a).mono (fun e w' ⟨he, hw'⟩ => ⟨he, st_mask [true, true, true, true, true, true, true, true, true] rfl (back _ _ hw')⟩)
    refine qg_val (v := .bool (!((decide (meetA a y)) == (decide (touchA y a))))) rfl rfl rfl rfl rfl (e_neq_b (a := decide (meetA a y)) (b := decide (touchA y a)) rfl rfl tf99) ?_
    refine q_val (v := .bool (!((decide (meetA a y)) == (decide (touchA y a))))) rfl rfl rfl (e_pick_f rfl) ?_
    refine q_nil ?_
    refine f_then ?_
    refine c_ifb (!((decide (meetA a y)) == (decide (touchA y a)))) rfl (fun hc24 => ?_) (fun hc24 => ?_)
    ·
      rw [(show (!((decide (meetA a y)) == (decide (touchA y a)))) = false from by simp [meet_comm a y, meet_touch oky oka])] at hc24; cases hc24
    ·
      refine c_skip ?_
      refine f_then ?_
      refine c_seq ?_
      refine c_seq ?_
      refine c_region ?_
      refine l_val (v := .agg (aC y)) rfl rfl rfl (e_load tf10 (cs := (areaE y)) rfl (k_pt 0 (cs := (aC y)) (vs := (areaE y)) rfl rfl) rfl) ?_
      refine l_val (v := .agg (aC a)) rfl rfl rfl (e_load tf10 (cs := (areaE a)) rfl (k_pt 4 (cs := (aC a)) (vs := (areaE a)) rfl rfl) rfl) ?_
      refine l_call rfl rfl rfl (cl_value (fst := []) (cap := []) (vs := [.agg (aC y), .agg (aC a)]) (all := [.agg (aC y), .agg (aC a)]) tf100 rfl rfl rfl) ?_
      intro w hw
      obtain ⟨β1, sb, kn, hw1, back⟩ := St.frame_all hw
      refine (touch_ok β1 w hw1 y a).mono ?_
      rintro e w' ⟨rfl, hw'⟩
      refine ⟨_, rfl, _, back _ _ hw', ?_⟩
      clear hw hw1 hw' back kn sb
      refine l_nil ?_
      refine f_then ?_
      refine c_if (touchA y a) rfl (fun hc25 => ?_) (fun hc25 => ?_)
      ·
        refine c_seq ?_
        refine c_seq ?_
        have hlt := hit_lt hy hc25 hn1
        refine c_region ?_
        refine l_val (v := Nx (n1)) rfl rfl rfl (e_move) ?_
        refine l_val (v := .slice (sla (fa21 33)) ((hitL l 5 a).length) (slc (fa21 33))) rfl rfl rfl (e_move) ?_
        refine l_val (v := Nx ((hitL l 5 a).length)) rfl rfl rfl (e_len (a := (sla (fa21 33))) (n := (hitL l 5 a).length) (c := (slc (fa21 33))) rfl tf15) ?_
        refine l_val (v := .bool (decide ((((hitL l 5 a).length : Nat) : Int) ≤ ((n1 : Nat) : Int)))) rfl rfl rfl (e_geq (a := ((n1 : Nat) : Int)) (b := (((hitL l 5 a).length : Nat) : Int)) rfl rfl) ?_
        refine l_val (v := .bool (decide ((((hitL l 5 a).length : Nat) : Int) ≤ ((n1 : Nat) : Int)))) rfl rfl rfl (e_move) ?_
        refine l_split (s := 69) (p := (((hitL l 5 a).length : Nat) : Int) ≤ ((n1 : Nat) : Int)) rfl (fun h => ?_) (fun h => ?_)
        exact absurd h (fun q => by omega)
        refine g_val (v := .slice (sla (fa21 33)) ((hitL l 5 a).length) (slc (fa21 33))) rfl rfl rfl rfl rfl (e_move) ?_
        refine g_val (v := Nx (n1)) rfl rfl rfl rfl rfl (e_move) ?_
        refine g_val (v := .pointer (some ((ba (sla (fa21 33))).add (n1 * 1)))) rfl rfl rfl rfl rfl (e_indexFlN 6 (F := IntF) (j := n1) (m := (hitL l 5 a).length) (xs := (hitL l 5 a)) rfl rfl rfl tf16 (by omega) rfl) ?_
        obtain ⟨u, hu⟩ : ∃ x_, (hitL l 5 a)[n1]? = some x_ := ⟨_, List.getElem?_eq_getElem (by omega)⟩
        refine g_val (v := Ix (u)) rfl rfl rfl rfl rfl (e_load1 tf2 (v := Ix (u)) rfl (k_flAt 6 (F := IntF) rfl hu)) ?_
        refine g_val (v := Nx (k)) rfl rfl rfl rfl rfl (e_move) ?_
        refine g_val (v := Nx (5 * k)) rfl rfl rfl rfl rfl (e_mul (a := (5 : Int)) (b := ((k : Nat) : Int)) rfl rfl (i64n (by omega) (by omega))) ?_
        refine g_val (v := .bool (decide ((u) ≠ ((5 * k : Nat) : Int)))) rfl rfl rfl rfl rfl (e_neq (a := (u)) (b := ((5 * k : Nat) : Int)) rfl rfl) ?_
        refine l_val (v := .bool (decide ((u) ≠ ((5 * k : Nat) : Int)))) rfl rfl rfl (e_pick_f rfl) ?_
        refine l_nil ?_
        refine f_then ?_
        refine c_if ((u) ≠ ((5 * k : Nat) : Int)) rfl (fun hc26 => ?_) (fun hc26 => ?_)
        ·
          exact absurd hc26 (fun q => q (by have e := hu.symm.trans (hit_at hy hc25 hn1); injection e with e; omega))
        ·
          refine c_skip ?_
          refine f_then ?_
          refine c_region ?_
          refine l_val (v := Nx (n1)) rfl rfl rfl (e_move) ?_
          refine l_val (v := Nx (n1 + 1)) rfl rfl rfl (e_add (a := ((n1 : Nat) : Int)) (b := (1 : Int)) rfl rfl (i64n (by omega) (by omega))) ?_
          refine l_val (v := Nx (n1 + 1)) rfl rfl rfl (e_assign) ?_
          refine l_nil ?_
          refine f_then ?_
          refine c_seq ?_
          have hJ := touch_join oka okb (.inl hc25)
          have hlj := hit_lt hy hJ hn2
          refine c_region ?_
          refine l_val (v := Nx (n2)) rfl rfl rfl (e_move) ?_
          refine l_val (v := .slice (sla (fa21 38)) ((hitL l 5 (joinR a b)).length) (slc (fa21 38))) rfl rfl rfl (e_move) ?_
          refine l_val (v := Nx ((hitL l 5 (joinR a b)).length)) rfl rfl rfl (e_len (a := (sla (fa21 38))) (n := (hitL l 5 (joinR a b)).length) (c := (slc (fa21 38))) rfl tf15) ?_
          refine l_val (v := .bool (decide (((n2 : Nat) : Int) < (((hitL l 5 (joinR a b)).length : Nat) : Int)))) rfl rfl rfl (e_lss (a := ((n2 : Nat) : Int)) (b := (((hitL l 5 (joinR a b)).length : Nat) : Int)) rfl rfl) ?_
          refine l_val (v := .bool (decide (((n2 : Nat) : Int) < (((hitL l 5 (joinR a b)).length : Nat) : Int)))) rfl rfl rfl (e_move) ?_
          refine l_split (s := 84) (p := ((n2 : Nat) : Int) < (((hitL l 5 (joinR a b)).length : Nat) : Int)) rfl (fun h => ?_) (fun h => ?_)
          rotate_left; exact absurd (by omega) h
          refine g_val (v := .slice (sla (fa21 38)) ((hitL l 5 (joinR a b)).length) (slc (fa21 38))) rfl rfl rfl rfl rfl (e_move) ?_
          refine g_val (v := Nx (n2)) rfl rfl rfl rfl rfl (e_move) ?_
          refine g_val (v := .pointer (some ((ba (sla (fa21 38))).add (n2 * 1)))) rfl rfl rfl rfl rfl (e_indexFlN 7 (F := IntF) (j := n2) (m := (hitL l 5 (joinR a b)).length) (xs := (hitL l 5 (joinR a b))) rfl rfl rfl tf16 (by omega) rfl) ?_
          obtain ⟨v, hv⟩ : ∃ x_, (hitL l 5 (joinR a b))[n2]? = some x_ := ⟨_, List.getElem?_eq_getElem (by omega)⟩
          refine g_val (v := Ix (v)) rfl rfl rfl rfl rfl (e_load1 tf2 (v := Ix (v)) rfl (k_flAt 7 (F := IntF) rfl hv)) ?_
          refine g_val (v := Nx (k)) rfl rfl rfl rfl rfl (e_move) ?_
          refine g_val (v := Nx (5 * k)) rfl rfl rfl rfl rfl (e_mul (a := (5 : Int)) (b := ((k : Nat) : Int)) rfl rfl (i64n (by omega) (by omega))) ?_
          refine g_val (v := .bool (decide ((v) = ((5 * k : Nat) : Int)))) rfl rfl rfl rfl rfl (e_eql (a := (v)) (b := ((5 * k : Nat) : Int)) rfl rfl) ?_
          refine l_val (v := .bool (decide ((v) = ((5 * k : Nat) : Int)))) rfl rfl rfl (e_pick_t rfl) ?_
          refine l_nil ?_
          refine f_then ?_
          refine c_if ((v) = ((5 * k : Nat) : Int)) rfl (fun hc27 => ?_) (fun hc27 => ?_)
          ·
            refine c_region ?_
            refine l_val (v := Nx (n2)) rfl rfl rfl (e_move) ?_
            refine l_val (v := Nx (n2 + 1)) rfl rfl rfl (e_add (a := ((n2 : Nat) : Int)) (b := (1 : Int)) rfl rfl (i64n (by omega) (by omega))) ?_
            refine l_val (v := Nx (n2 + 1)) rfl rfl rfl (e_assign) ?_
            refine l_nil ?_
            refine f_block ?_
            refine f_then ?_
            refine c_region ?_
            refine l_val (v := Nx (k + 1)) rfl rfl rfl (e_add (a := ((k : Nat) : Int)) (b := (1 : Int)) rfl rfl (i64n (by omega) (by omega))) ?_
            refine l_val (v := Nx (k + 1)) rfl rfl rfl (e_move) ?_
            refine l_nil ?_
            refine f_mask (L' := [pt b2 (.cells #[Bx (fh.x), Bx (fh.y), Bx (fh.w), Bx (fh.h)] 43), pt b1 (.cells #[Bx (fg.x), Bx (fg.y), Bx (fg.w), Bx (fg.h)] 43), rowF AreaF 25 (sla (fa11 21)) (slc (fa11 21)) l, pt (blk (fa11 8)) (.cells (aC a) 25), pt (blk (fa11 9)) (.cells (aC b) 25), rowF IntF 3 (sla (fa21 33)) (slc (fa21 33)) (hitL l 5 a), rowF IntF 3 (sla (fa21 38)) (slc (fa21 38)) (hitL l 5 (joinR a b)), spcR b12 (fillS l 5)]) [false, true, true, true, true, true, true, true, true] rfl ?_
            exact f_cut ⟨(k + 1, n1 + 1, n2 + 1), ⟨⟨rfl, rfl, rfl, rfl, rfl, rfl, rfl, rfl, rfl, rfl⟩, rfl, ⟨by omega, hit_yes_len hy hc25 hn1, hit_yes_len hy hJ hn2⟩⟩, (show l.length - (k + 1) < l.length - k from by omega)⟩
          ·
            exact absurd (by have e := hv.symm.trans (hit_at hy hJ hn2); injection e with e; omega) hc27
      ·
        refine c_skip ?_
        refine f_then ?_
        refine c_seq ?_
        by_cases hJ : touchA y (joinR a b)
        ·
          have hlj := hit_lt hy hJ hn2
          refine c_region ?_
          refine l_val (v := Nx (n2)) rfl rfl rfl (e_move) ?_
          refine l_val (v := .slice (sla (fa21 38)) ((hitL l 5 (joinR a b)).length) (slc (fa21 38))) rfl rfl rfl (e_move) ?_
          refine l_val (v := Nx ((hitL l 5 (joinR a b)).length)) rfl rfl rfl (e_len (a := (sla (fa21 38))) (n := (hitL l 5 (joinR a b)).length) (c := (slc (fa21 38))) rfl tf15) ?_
          refine l_val (v := .bool (decide (((n2 : Nat) : Int) < (((hitL l 5 (joinR a b)).length : Nat) : Int)))) rfl rfl rfl (e_lss (a := ((n2 : Nat) : Int)) (b := (((hitL l 5 (joinR a b)).length : Nat) : Int)) rfl rfl) ?_
          refine l_val (v := .bool (decide (((n2 : Nat) : Int) < (((hitL l 5 (joinR a b)).length : Nat) : Int)))) rfl rfl rfl (e_move) ?_
          refine l_split (s := 84) (p := ((n2 : Nat) : Int) < (((hitL l 5 (joinR a b)).length : Nat) : Int)) rfl (fun h => ?_) (fun h => ?_)
          rotate_left; exact absurd (by omega) h
          refine g_val (v := .slice (sla (fa21 38)) ((hitL l 5 (joinR a b)).length) (slc (fa21 38))) rfl rfl rfl rfl rfl (e_move) ?_
          refine g_val (v := Nx (n2)) rfl rfl rfl rfl rfl (e_move) ?_
          refine g_val (v := .pointer (some ((ba (sla (fa21 38))).add (n2 * 1)))) rfl rfl rfl rfl rfl (e_indexFlN 7 (F := IntF) (j := n2) (m := (hitL l 5 (joinR a b)).length) (xs := (hitL l 5 (joinR a b))) rfl rfl rfl tf16 (by omega) rfl) ?_
          obtain ⟨v, hv⟩ : ∃ x_, (hitL l 5 (joinR a b))[n2]? = some x_ := ⟨_, List.getElem?_eq_getElem (by omega)⟩
          refine g_val (v := Ix (v)) rfl rfl rfl rfl rfl (e_load1 tf2 (v := Ix (v)) rfl (k_flAt 7 (F := IntF) rfl hv)) ?_
          refine g_val (v := Nx (k)) rfl rfl rfl rfl rfl (e_move) ?_
          refine g_val (v := Nx (5 * k)) rfl rfl rfl rfl rfl (e_mul (a := (5 : Int)) (b := ((k : Nat) : Int)) rfl rfl (i64n (by omega) (by omega))) ?_
          refine g_val (v := .bool (decide ((v) = ((5 * k : Nat) : Int)))) rfl rfl rfl rfl rfl (e_eql (a := (v)) (b := ((5 * k : Nat) : Int)) rfl rfl) ?_
          refine l_val (v := .bool (decide ((v) = ((5 * k : Nat) : Int)))) rfl rfl rfl (e_pick_t rfl) ?_
          refine l_nil ?_
          refine f_then ?_
          refine c_if ((v) = ((5 * k : Nat) : Int)) rfl (fun hc28 => ?_) (fun hc28 => ?_)
          ·
            refine c_region ?_
            refine l_val (v := Nx (n2)) rfl rfl rfl (e_move) ?_
            refine l_val (v := Nx (n2 + 1)) rfl rfl rfl (e_add (a := ((n2 : Nat) : Int)) (b := (1 : Int)) rfl rfl (i64n (by omega) (by omega))) ?_
            refine l_val (v := Nx (n2 + 1)) rfl rfl rfl (e_assign) ?_
            refine l_nil ?_
            refine f_block ?_
            refine f_then ?_
            refine c_region ?_
            refine l_val (v := Nx (k + 1)) rfl rfl rfl (e_add (a := ((k : Nat) : Int)) (b := (1 : Int)) rfl rfl (i64n (by omega) (by omega))) ?_
            refine l_val (v := Nx (k + 1)) rfl rfl rfl (e_move) ?_
            refine l_nil ?_
            refine f_mask (L' := [pt b2 (.cells #[Bx (fh.x), Bx (fh.y), Bx (fh.w), Bx (fh.h)] 43), pt b1 (.cells #[Bx (fg.x), Bx (fg.y), Bx (fg.w), Bx (fg.h)] 43), rowF AreaF 25 (sla (fa11 21)) (slc (fa11 21)) l, pt (blk (fa11 8)) (.cells (aC a) 25), pt (blk (fa11 9)) (.cells (aC b) 25), rowF IntF 3 (sla (fa21 33)) (slc (fa21 33)) (hitL l 5 a), rowF IntF 3 (sla (fa21 38)) (slc (fa21 38)) (hitL l 5 (joinR a b)), spcR b12 (fillS l 5)]) [false, true, true, true, true, true, true, true, true] rfl ?_
            exact f_cut ⟨(k + 1, n1, n2 + 1), ⟨⟨rfl, rfl, rfl, rfl, rfl, rfl, rfl, rfl, rfl, rfl⟩, rfl, ⟨by omega, hit_no_len hy hc25 hn1, hit_yes_len hy hJ hn2⟩⟩, (show l.length - (k + 1) < l.length - k from by omega)⟩
          ·
            exact absurd (by have e := hv.symm.trans (hit_at hy hJ hn2); injection e with e; omega) hc28
        ·
          refine c_region ?_
          refine l_val (v := Nx (n2)) rfl rfl rfl (e_move) ?_
          refine l_val (v := .slice (sla (fa21 38)) ((hitL l 5 (joinR a b)).length) (slc (fa21 38))) rfl rfl rfl (e_move) ?_
          refine l_val (v := Nx ((hitL l 5 (joinR a b)).length)) rfl rfl rfl (e_len (a := (sla (fa21 38))) (n := (hitL l 5 (joinR a b)).length) (c := (slc (fa21 38))) rfl tf15) ?_
          refine l_val (v := .bool (decide (((n2 : Nat) : Int) < (((hitL l 5 (joinR a b)).length : Nat) : Int)))) rfl rfl rfl (e_lss (a := ((n2 : Nat) : Int)) (b := (((hitL l 5 (joinR a b)).length : Nat) : Int)) rfl rfl) ?_
          refine l_val (v := .bool (decide (((n2 : Nat) : Int) < (((hitL l 5 (joinR a b)).length : Nat) : Int)))) rfl rfl rfl (e_move) ?_
          refine l_split (s := 84) (p := ((n2 : Nat) : Int) < (((hitL l 5 (joinR a b)).length : Nat) : Int)) rfl (fun hg29 => ?_) (fun hg29 => ?_)
          ·
            refine g_val (v := .slice (sla (fa21 38)) ((hitL l 5 (joinR a b)).length) (slc (fa21 38))) rfl rfl rfl rfl rfl (e_move) ?_
            refine g_val (v := Nx (n2)) rfl rfl rfl rfl rfl (e_move) ?_
            refine g_val (v := .pointer (some ((ba (sla (fa21 38))).add (n2 * 1)))) rfl rfl rfl rfl rfl (e_indexFlN 7 (F := IntF) (j := n2) (m := (hitL l 5 (joinR a b)).length) (xs := (hitL l 5 (joinR a b))) rfl rfl rfl tf16 (by omega) rfl) ?_
            obtain ⟨v, hv⟩ : ∃ x_, (hitL l 5 (joinR a b))[n2]? = some x_ := ⟨_, List.getElem?_eq_getElem (by omega)⟩
            refine g_val (v := Ix (v)) rfl rfl rfl rfl rfl (e_load1 tf2 (v := Ix (v)) rfl (k_flAt 7 (F := IntF) rfl hv)) ?_
            refine g_val (v := Nx (k)) rfl rfl rfl rfl rfl (e_move) ?_
            refine g_val (v := Nx (5 * k)) rfl rfl rfl rfl rfl (e_mul (a := (5 : Int)) (b := ((k : Nat) : Int)) rfl rfl (i64n (by omega) (by omega))) ?_
            refine g_val (v := .bool (decide ((v) = ((5 * k : Nat) : Int)))) rfl rfl rfl rfl rfl (e_eql (a := (v)) (b := ((5 * k : Nat) : Int)) rfl rfl) ?_
            refine l_val (v := .bool (decide ((v) = ((5 * k : Nat) : Int)))) rfl rfl rfl (e_pick_t rfl) ?_
            refine l_nil ?_
            refine f_then ?_
            refine c_if ((v) = ((5 * k : Nat) : Int)) rfl (fun hc30 => ?_) (fun hc30 => ?_)
            ·
              exact absurd hc30 (fun q => hitL_no (by decide) hy hJ hv (by omega))
            ·
              refine c_seq ?_
              refine c_region ?_
              refine l_val (v := .agg (aC y)) rfl rfl rfl (e_load tf10 (cs := (areaE y)) rfl (k_pt 0 (cs := (aC y)) (vs := (areaE y)) rfl rfl) rfl) ?_
              refine l_val (v := .agg (aC a)) rfl rfl rfl (e_load tf10 (cs := (areaE a)) rfl (k_pt 4 (cs := (aC a)) (vs := (areaE a)) rfl rfl) rfl) ?_
              refine l_call rfl rfl rfl (cl_value (fst := []) (cap := []) (vs := [.agg (aC y), .agg (aC a)]) (all := [.agg (aC y), .agg (aC a)]) tf100 rfl rfl rfl) ?_
              intro w hw
              obtain ⟨β1, sb, kn, hw1, back⟩ := St.frame_all hw
              refine (touch_ok β1 w hw1 y a).mono ?_
              rintro e w' ⟨rfl, hw'⟩
              refine ⟨_, rfl, _, back _ _ hw', ?_⟩
              clear hw hw1 hw' back kn sb
              refine l_val (v := .bool (decide (touchA y a))) rfl rfl rfl (e_move) ?_
              refine l_split (s := 98) (p := touchA y a) rfl (fun h => ?_) (fun h => ?_)
              exact absurd h hc25
              refine g_val (v := .agg (aC y)) rfl rfl rfl rfl rfl (e_load tf10 (cs := (areaE y)) rfl (k_pt 0 (cs := (aC y)) (vs := (areaE y)) rfl rfl) rfl) ?_
              refine g_val (v := .agg (aC b)) rfl rfl rfl rfl rfl (e_load tf10 (cs := (areaE b)) rfl (k_pt 5 (cs := (aC b)) (vs := (areaE b)) rfl rfl) rfl) ?_
              refine g_call rfl rfl rfl rfl rfl (cl_value (fst := []) (cap := []) (vs := [.agg (aC y), .agg (aC b)]) (all := [.agg (aC y), .agg (aC b)]) tf100 rfl rfl rfl) ?_
              intro w hw
              obtain ⟨β1, sb, kn, hw1, back⟩ := St.frame_all hw
              refine (touch_ok β1 w hw1 y b).mono ?_
              rintro e w' ⟨rfl, hw'⟩
              refine ⟨_, rfl, _, back _ _ hw', ?_⟩
              clear hw hw1 hw' back kn sb
              refine l_val (v := .bool (decide (touchA y b))) rfl rfl rfl (e_pick_f rfl) ?_
              refine l_nil ?_
              refine f_then ?_
              refine c_if (touchA y b) rfl (fun hc31 => ?_) (fun hc31 => ?_)
              ·
                exact absurd hc31 (fun q => hJ (touch_join oka okb (.inr q)))
              ·
                refine c_skip ?_
                refine f_block ?_
                refine f_then ?_
                refine c_region ?_
                refine l_val (v := Nx (k + 1)) rfl rfl rfl (e_add (a := ((k : Nat) : Int)) (b := (1 : Int)) rfl rfl (i64n (by omega) (by omega))) ?_
                refine l_val (v := Nx (k + 1)) rfl rfl rfl (e_move) ?_
                refine l_nil ?_
                refine f_mask (L' := [pt b2 (.cells #[Bx (fh.x), Bx (fh.y), Bx (fh.w), Bx (fh.h)] 43), pt b1 (.cells #[Bx (fg.x), Bx (fg.y), Bx (fg.w), Bx (fg.h)] 43), rowF AreaF 25 (sla (fa11 21)) (slc (fa11 21)) l, pt (blk (fa11 8)) (.cells (aC a) 25), pt (blk (fa11 9)) (.cells (aC b) 25), rowF IntF 3 (sla (fa21 33)) (slc (fa21 33)) (hitL l 5 a), rowF IntF 3 (sla (fa21 38)) (slc (fa21 38)) (hitL l 5 (joinR a b)), spcR b12 (fillS l 5)]) [false, true, true, true, true, true, true, true, true] rfl ?_
                exact f_cut ⟨(k + 1, n1, n2), ⟨⟨rfl, rfl, rfl, rfl, rfl, rfl, rfl, rfl, rfl, rfl⟩, rfl, ⟨by omega, hit_no_len hy hc25 hn1, hit_no_len hy hJ hn2⟩⟩, (show l.length - (k + 1) < l.length - k from by omega)⟩
          ·
            refine l_skip rfl rfl rfl rfl rfl rfl ?_
            refine l_skip rfl rfl rfl rfl rfl rfl ?_
            refine l_skip rfl rfl rfl rfl rfl rfl ?_
            refine l_skip rfl rfl rfl rfl rfl rfl ?_
            refine l_skip rfl rfl rfl rfl rfl rfl ?_
            refine l_skip rfl rfl rfl rfl rfl rfl ?_
            refine l_skip rfl rfl rfl rfl rfl rfl ?_
            refine l_val (v := .bool false) rfl rfl rfl (e_pick_f rfl) ?_
            refine l_nil ?_
            refine f_then ?_
            refine c_no rfl ?_
            refine c_seq ?_
            refine c_region ?_
            refine l_val (v := .agg (aC y)) rfl rfl rfl (e_load tf10 (cs := (areaE y)) rfl (k_pt 0 (cs := (aC y)) (vs := (areaE y)) rfl rfl) rfl) ?_
            refine l_val (v := .agg (aC a)) rfl rfl rfl (e_load tf10 (cs := (areaE a)) rfl (k_pt 4 (cs := (aC a)) (vs := (areaE a)) rfl rfl) rfl) ?_
            refine l_call rfl rfl rfl (cl_value (fst := []) (cap := []) (vs := [.agg (aC y), .agg (aC a)]) (all := [.agg (aC y), .agg (aC a)]) tf100 rfl rfl rfl) ?_
            intro w hw
            obtain ⟨β1, sb, kn, hw1, back⟩ := St.frame_all hw
            refine (touch_ok β1 w hw1 y a).mono ?_
            rintro e w' ⟨rfl, hw'⟩
            refine ⟨_, rfl, _, back _ _ hw', ?_⟩
            clear hw hw1 hw' back kn sb
            refine l_val (v := .bool (decide (touchA y a))) rfl rfl rfl (e_move) ?_
            refine l_split (s := 98) (p := touchA y a) rfl (fun h => ?_) (fun h => ?_)
            exact absurd h hc25
            refine g_val (v := .agg (aC y)) rfl rfl rfl rfl rfl (e_load tf10 (cs := (areaE y)) rfl (k_pt 0 (cs := (aC y)) (vs := (areaE y)) rfl rfl) rfl) ?_
            refine g_val (v := .agg (aC b)) rfl rfl rfl rfl rfl (e_load tf10 (cs := (areaE b)) rfl (k_pt 5 (cs := (aC b)) (vs := (areaE b)) rfl rfl) rfl) ?_
            refine g_call rfl rfl rfl rfl rfl (cl_value (fst := []) (cap := []) (vs := [.agg (aC y), .agg (aC b)]) (all := [.agg (aC y), .agg (aC b)]) tf100 rfl rfl rfl) ?_
            intro w hw
            obtain ⟨β1, sb, kn, hw1, back⟩ := St.frame_all hw
            refine (touch_ok β1 w hw1 y b).mono ?_
            rintro e w' ⟨rfl, hw'⟩
            refine ⟨_, rfl, _, back _ _ hw', ?_⟩
            clear hw hw1 hw' back kn sb
            refine l_val (v := .bool (decide (touchA y b))) rfl rfl rfl (e_pick_f rfl) ?_
            refine l_nil ?_
            refine f_then ?_
            refine c_if (touchA y b) rfl (fun hc32 => ?_) (fun hc32 => ?_)
            ·
              exact absurd hc32 (fun q => hJ (touch_join oka okb (.inr q)))
            ·
              refine c_skip ?_
              refine f_block ?_
              refine f_then ?_
              refine c_region ?_
              refine l_val (v := Nx (k + 1)) rfl rfl rfl (e_add (a := ((k : Nat) : Int)) (b := (1 : Int)) rfl rfl (i64n (by omega) (by omega))) ?_
              refine l_val (v := Nx (k + 1)) rfl rfl rfl (e_move) ?_
              refine l_nil ?_
              refine f_mask (L' := [pt b2 (.cells #[Bx (fh.x), Bx (fh.y), Bx (fh.w), Bx (fh.h)] 43), pt b1 (.cells #[Bx (fg.x), Bx (fg.y), Bx (fg.w), Bx (fg.h)] 43), rowF AreaF 25 (sla (fa11 21)) (slc (fa11 21)) l, pt (blk (fa11 8)) (.cells (aC a) 25), pt (blk (fa11 9)) (.cells (aC b) 25), rowF IntF 3 (sla (fa21 33)) (slc (fa21 33)) (hitL l 5 a), rowF IntF 3 (sla (fa21 38)) (slc (fa21 38)) (hitL l 5 (joinR a b)), spcR b12 (fillS l 5)]) [false, true, true, true, true, true, true, true, true] rfl ?_
              exact f_cut ⟨(k + 1, n1, n2), ⟨⟨rfl, rfl, rfl, rfl, rfl, rfl, rfl, rfl, rfl, rfl⟩, rfl, ⟨by omega, hit_no_len hy hc25 hn1, hit_no_len hy hJ hn2⟩⟩, (show l.length - (k + 1) < l.length - k from by omega)⟩
  ·
    refine c_exit ?_
    refine f_then_exit ?_
    refine f_then_exit ?_
    refine f_exit ?_
    refine f_then ?_
    refine c_seq ?_
    rw [List.take_of_length_le (by omega)] at hn1 hn2
    refine c_region ?_
    refine l_val (v := .bool true) rfl rfl rfl (e_move) ?_
    refine l_val (v := .bool true) rfl rfl rfl (e_move) ?_
    refine g_val (v := Nx (n1)) rfl rfl rfl rfl rfl (e_move) ?_
    refine g_val (v := .slice (sla (fa21 33)) ((hitL l 5 a).length) (slc (fa21 33))) rfl rfl rfl rfl rfl (e_move) ?_
    refine g_val (v := Nx ((hitL l 5 a).length)) rfl rfl rfl rfl rfl (e_len (a := (sla (fa21 33))) (n := (hitL l 5 a).length) (c := (slc (fa21 33))) rfl tf15) ?_
    refine g_val (v := .bool (decide (((n1 : Nat) : Int) = (((hitL l 5 a).length : Nat) : Int)))) rfl rfl rfl rfl rfl (e_eql (a := ((n1 : Nat) : Int)) (b := (((hitL l 5 a).length : Nat) : Int)) rfl rfl) ?_
    refine l_val (v := .bool (decide (((n1 : Nat) : Int) = (((hitL l 5 a).length : Nat) : Int)))) rfl rfl rfl (e_pick_t rfl) ?_
    refine l_val (v := .bool (decide (((n1 : Nat) : Int) = (((hitL l 5 a).length : Nat) : Int)))) rfl rfl rfl (e_move) ?_
    refine l_split (s := 111) (p := ((n1 : Nat) : Int) = (((hitL l 5 a).length : Nat) : Int)) rfl (fun h => ?_) (fun h => ?_)
    rotate_left; exact absurd (by omega) h
    refine g_val (v := Nx (n2)) rfl rfl rfl rfl rfl (e_move) ?_
    refine g_val (v := .slice (sla (fa21 38)) ((hitL l 5 (joinR a b)).length) (slc (fa21 38))) rfl rfl rfl rfl rfl (e_move) ?_
    refine g_val (v := Nx ((hitL l 5 (joinR a b)).length)) rfl rfl rfl rfl rfl (e_len (a := (sla (fa21 38))) (n := (hitL l 5 (joinR a b)).length) (c := (slc (fa21 38))) rfl tf15) ?_
    refine g_val (v := .bool (decide (((n2 : Nat) : Int) = (((hitL l 5 (joinR a b)).length : Nat) : Int)))) rfl rfl rfl rfl rfl (e_eql (a := ((n2 : Nat) : Int)) (b := (((hitL l 5 (joinR a b)).length : Nat) : Int)) rfl rfl) ?_
    refine l_val (v := .bool (decide (((n2 : Nat) : Int) = (((hitL l 5 (joinR a b)).length : Nat) : Int)))) rfl rfl rfl (e_pick_t rfl) ?_
    refine l_val (v := .bool (decide (((n2 : Nat) : Int) = (((hitL l 5 (joinR a b)).length : Nat) : Int)))) rfl rfl rfl (e_assign) ?_
    refine l_nil ?_
    refine f_then ?_
    refine c_ret ?_
    refine ret1 Try.results5 (v := .bool (decide (((n2 : Nat) : Int) = (((hitL l 5 (joinR a b)).length : Nat) : Int)))) rfl ?_
    intro w hw
    exact ⟨congrArg (fun b : Bool => Ending.returned (.bool b)) (decide_eq_true (by omega)), st_mask [false, false, false, false, false, false, false, false] rfl hw⟩
end Go.Proofs
