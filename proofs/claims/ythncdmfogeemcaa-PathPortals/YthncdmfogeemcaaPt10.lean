/-
  PathPortals: walked. Printed by a program of my own.
-/
import Derived.Test.YthncdmfogeemcaaPt9
import Derived.Test.YthncdmfogeemcaaPtPos
namespace Go.Pth
open Go.Sl Go.Brd
theorem skip_why {a b C : KA} (h : touchA a b ↔ C.lx ≤ C.hx ∧ C.ly ≤ C.hy) (w : C.hx < C.lx ∨ C.hy < C.ly ∨ (C.lx = C.hx ∧ C.ly = C.hy)) : ¬ touchA a b ∨ (C.lx = C.hx ∧ C.ly = C.hy) := by
  rcases w with w | w | w
  · exact .inl fun q => by have := h.1 q; omega
  · exact .inl fun q => by have := h.1 q; omega
  · exact .inr w
end Go.Pth
namespace Go.Proofs
open Go Go.Sl Go.Brd Go.Pth
theorem sb121 : cfB Try.prog 8 = true := by kernel_rfl
set_option maxHeartbeats 4000000 in
theorem portalsL_ok (β : Base) (w : World) (hw : St β [] w) (v : Value) (bs : List UInt8) (hs : Sl U8R β.heap v bs) : Calls Try.prog 4 #[v] w fun r w' => r = .returned (.bool true) ∧ St β [] w' := by
  obtain ⟨va, vc, rfl, vl, vm, ve⟩ := hs.get
  refine enter (n := 193) Try.func4 rfl Try.ntmps4 rfl ?_ hw
  refine c_seq ?_
  refine c_region ?_
  refine l_val (v := .bool false) rfl rfl rfl (e_assign) ?_
  refine l_nil ?_
  refine f_then ?_
  refine c_seq ?_
  refine c_seq ?_
  refine c_region ?_
  refine l_call rfl rfl rfl (cl_value (fst := []) (cap := []) (vs := []) (all := []) tz108 rfl rfl rfl) ?_
  intro w hw
  obtain ⟨β1, sb, kn, hw1, back⟩ := St.frame_all hw
  refine (awake_ok β1 w hw1).mono ?_
  rintro e w' ⟨rfl, hw'⟩
  refine ⟨_, rfl, _, back _ _ hw', ?_⟩
  clear hw hw1 hw' back kn sb
  refine l_val (v := .bool false) rfl rfl rfl (e_not (a := true) rfl) ?_
  refine l_nil ?_
  refine f_then ?_
  refine c_no rfl ?_
  refine c_skip ?_
  refine f_then ?_
  refine c_seq ?_
  refine c_region ?_
  refine l_val (v := .slice va (bs.length) (vc)) rfl rfl rfl (e_move) ?_
  refine l_call rfl rfl rfl (cl_value (fst := []) (cap := []) (vs := [.slice va (bs.length) (vc)]) (all := [.slice va (bs.length) (vc)]) sb121 rfl rfl rfl) ?_
  intro w hw
  obtain ⟨β1, sb, kn, hw1, back⟩ := St.frame_all hw
  refine (madeB_ok β1 w hw1 _ bs (Sl.mono _ _ _ _ _ sb (⟨⟨_, _, rfl, vl, vm, ve⟩⟩ : Sl U8R _ _ bs))).mono ?_
  rintro e w' ⟨p1, c2, l, rfl, hB, hw'⟩
  refine ⟨_, rfl, _, back _ _ hw', ?_⟩
  clear hw hw1 hw' back kn sb
  refine l_val (v := .slice p1 (l.length) c2) rfl rfl rfl (e_assign) ?_
  refine l_nil ?_
  refine f_then ?_
  refine c_seq ?_
  have hM := hB.okM
  have hl24 := hB.len
  have hsm := hB.small
  have hpl4 := portL_len (l := l) (by omega)
  refine c_region ?_
  refine l_val (v := .slice p1 (l.length) c2) rfl rfl rfl (e_move) ?_
  refine l_call rfl rfl rfl (cl_value (fst := []) (cap := []) (vs := [.slice p1 (l.length) c2]) (all := [.slice p1 (l.length) c2]) tv60 rfl rfl rfl) ?_
  intro w hw
  obtain ⟨β1, sb, kn, hw1, back⟩ := St.frame_all hw
  refine (portalsM_ok β1 w hw1 _ l (kn _ (k_flN 0 (F := AreaF) (m := l.length) rfl rfl)) hM).mono ?_
  rintro e w' ⟨p3, c4, rfl, hw'⟩
  refine ⟨_, rfl, _, back _ _ hw', ?_⟩
  clear hw hw1 hw' back kn sb
  refine l_val (v := .tuple #[.slice p3 ((portL l).length) c4, .int .i64 (0)]) rfl rfl rfl (e_move) ?_
  refine l_val (v := .slice p3 ((portL l).length) c4) rfl rfl rfl (e_extract (vs := #[.slice p3 ((portL l).length) c4, .int .i64 (0)]) rfl rfl) ?_
  refine l_val (v := .int .i64 (0)) rfl rfl rfl (e_extract (vs := #[.slice p3 ((portL l).length) c4, .int .i64 (0)]) rfl rfl) ?_
  refine l_val (v := .slice p3 ((portL l).length) c4) rfl rfl rfl (e_assign) ?_
  refine l_val (v := .int .i64 (0)) rfl rfl rfl (e_assign) ?_
  refine l_nil ?_
  refine f_then ?_
  refine c_seq ?_
  refine c_seq ?_
  refine c_region ?_
  refine l_val (v := .int .i64 (0)) rfl rfl rfl (e_move) ?_
  refine l_val (v := .bool false) rfl rfl rfl (e_neq (a := (0 : Int)) (b := (0 : Int)) rfl rfl) ?_
  refine l_val (v := .bool false) rfl rfl rfl (e_move) ?_
  refine g_val (v := .slice p1 (l.length) c2) rfl rfl rfl rfl rfl (e_move) ?_
  refine g_call rfl rfl rfl rfl rfl (cl_value (fst := []) (cap := []) (vs := [.slice p1 (l.length) c2]) (all := [.slice p1 (l.length) c2]) tu27 rfl rfl rfl) ?_
  intro w hw
  obtain ⟨β1, sb, kn, hw1, back⟩ := St.frame_all hw
  refine (valid_ok β1 w hw1 _ l (kn _ (k_flN 1 (F := AreaF) (m := l.length) rfl rfl))).mono ?_
  rintro e w' ⟨rfl, hw'⟩
  refine ⟨_, rfl, _, back _ _ hw', ?_⟩
  clear hw hw1 hw' back kn sb
  refine g_val (v := .bool (decide (¬ (okM l)))) rfl rfl rfl rfl rfl (e_not_p (p := okM l) rfl) ?_
  refine l_val (v := .bool (decide (¬ (okM l)))) rfl rfl rfl (e_pick_f rfl) ?_
  refine l_nil ?_
  refine f_then ?_
  refine c_if (¬ (okM l)) rfl (fun hc5 => ?_) (fun hc5 => ?_)
  ·
    exact absurd hc5 (fun q => q hM)
  ·
    refine c_skip ?_
    refine f_then ?_
    refine c_seq ?_
    refine c_region ?_
    refine l_val (v := .int .i64 (0)) rfl rfl rfl (e_assign) ?_
    refine l_nil ?_
    refine f_then ?_
    refine c_seq ?_
    refine c_seq ?_
    refine c_region ?_
    refine l_val (v := .slice p1 (l.length) c2) rfl rfl rfl (e_move) ?_
    refine l_val (v := Nx (l.length)) rfl rfl rfl (e_len (a := p1) (n := l.length) (c := c2) rfl tp13) ?_
    refine l_val (v := .int .i64 (0)) rfl rfl rfl (e_move) ?_
    refine l_nil ?_
    refine f_then ?_
    refine c_block ?_
    refine c_loop (fun (x_ : Nat × Nat) (f : Fm) (L : List Res) => match x_ with | (i, n) => (f 3 = .slice p1 (l.length) c2 ∧ f 4 = .slice p3 ((portL l).length) c4 ∧ f 6 = Nx (n) ∧ f 36 = .slice p1 (l.length) c2 ∧ f 37 = Nx (l.length) ∧ f 38 = Nx (i)) ∧ L = [rowF PoF 46 p3 c4 (portL l), rowF AreaF 43 p1 c2 l] ∧ (i ≤ l.length ∧ n = posQ l i (i + 1))) (fun (x_ : Nat × Nat) => match x_ with | (i, n) => l.length - i) (0, 0) ?_ ?_
    · exact ⟨⟨rfl, rfl, rfl, rfl, rfl, rfl⟩, rfl, ⟨by omega, posQ_start l⟩⟩
    rintro ⟨i, n⟩ f0 L0 ⟨⟨hs3, hs4, hs6, hs36, hs37, hs38⟩, hL, ⟨hil, hn⟩⟩
    subst L0
    refine rebase (d := 3) hs3 ?_
    refine rebase (d := 4) hs4 ?_
    refine rebase (d := 6) hs6 ?_
    refine rebase (d := 36) hs36 ?_
    refine rebase (d := 37) hs37 ?_
    refine rebase (d := 38) hs38 ?_
    clear hs3 hs4 hs6 hs36 hs37 hs38
    refine c_seq ?_
    refine c_region ?_
    refine l_val (v := .bool (decide (((i : Nat) : Int) < ((l.length : Nat) : Int)))) rfl rfl rfl (e_lss (a := ((i : Nat) : Int)) (b := ((l.length : Nat) : Int)) rfl rfl) ?_
    refine l_nil ?_
    refine f_then ?_
    refine c_seq ?_
    refine c_if (((i : Nat) : Int) < ((l.length : Nat) : Int)) rfl (fun hc6 => ?_) (fun hc6 => ?_)
    ·
      refine c_skip ?_
      refine f_then ?_
      refine c_seq ?_
      refine c_block ?_
      refine c_seq ?_
      refine c_region ?_
      refine l_val (v := Nx (i)) rfl rfl rfl (e_move) ?_
      refine l_val (v := .pointer (some ((ba p1).add (i * 4)))) rfl rfl rfl (e_indexFlN 1 (F := AreaF) (j := i) (m := l.length) (xs := l) rfl rfl rfl tp14 (by omega) rfl) ?_
      obtain ⟨x7, hx8⟩ : ∃ x_, l[i]? = some x_ := ⟨_, List.getElem?_eq_getElem (by omega)⟩
      refine l_val (v := .agg (aC x7)) rfl rfl rfl (e_load tp10 (cs := (areaE x7)) rfl (k_flAt 1 (F := AreaF) rfl hx8) rfl) ?_
      refine l_mv rfl rfl rfl (m_alloc tp8) ?_
      rintro _ _ ⟨b9, rfl, rfl⟩
      refine l_val (v := Nx (i)) rfl rfl rfl (e_assign) ?_
      refine l_mu rfl rfl (m_store 0 tp10 (b := b9) (o := 0) (T := 43) (cs := #[.int .i64 (0), .int .i64 (0), .int .i64 (0), .int .i64 (0)]) (cs' := (aC x7)) (v := .agg (aC x7)) rfl rfl rfl rfl rfl rfl rfl) ?_
      refine l_nil ?_
      refine f_then ?_
      refine c_seq ?_
      refine c_region ?_
      refine l_val (v := Nx (i)) rfl rfl rfl (e_move) ?_
      refine l_val (v := Nx (i + 1)) rfl rfl rfl (e_add (a := ((i : Nat) : Int)) (b := (1 : Int)) rfl rfl (i64n (by omega) (by omega))) ?_
      refine l_val (v := Nx (i + 1)) rfl rfl rfl (e_assign) ?_
      refine l_nil ?_
      refine f_then ?_
      refine c_block ?_
      refine c_loop (fun (x_ : Nat × Nat) (f : Fm) (L : List Res) => match x_ with | (k, n) => (f 3 = .slice p1 (l.length) c2 ∧ f 4 = .slice p3 ((portL l).length) c4 ∧ f 6 = Nx (n) ∧ f 7 = Nx (i) ∧ f 8 = .pointer (some ⟨b9, 0, none⟩) ∧ f 9 = Nx (k) ∧ f 36 = .slice p1 (l.length) c2 ∧ f 37 = Nx (l.length) ∧ f 38 = Nx (i)) ∧ L = [pt b9 (.cells (aC x7) 43), rowF PoF 46 p3 c4 (portL l), rowF AreaF 43 p1 c2 l] ∧ (i + 1 ≤ k ∧ k ≤ l.length ∧ n = posQ l i k)) (fun (x_ : Nat × Nat) => match x_ with | (k, n) => l.length - k) ((i + 1), n) ?_ ?_
      · exact ⟨⟨rfl, rfl, rfl, rfl, rfl, rfl, rfl, rfl, rfl⟩, rfl, ⟨by omega, by omega, hn⟩⟩
      rintro ⟨k, n⟩ f0 L0 ⟨⟨hs3, hs4, hs6, hs7, hs8, hs9, hs36, hs37, hs38⟩, hL, ⟨hik, hkl, hn⟩⟩
      subst L0
      refine rebase (d := 3) hs3 ?_
      refine rebase (d := 4) hs4 ?_
      refine rebase (d := 6) hs6 ?_
      refine rebase (d := 7) hs7 ?_
      refine rebase (d := 8) hs8 ?_
      refine rebase (d := 9) hs9 ?_
      refine rebase (d := 36) hs36 ?_
      refine rebase (d := 37) hs37 ?_
      refine rebase (d := 38) hs38 ?_
      clear hs3 hs4 hs6 hs7 hs8 hs9 hs36 hs37 hs38
      refine c_seq ?_
      refine c_seq ?_
      refine c_region ?_
      refine l_val (v := Nx (k)) rfl rfl rfl (e_move) ?_
      refine l_val (v := .slice p1 (l.length) c2) rfl rfl rfl (e_move) ?_
      refine l_val (v := Nx (l.length)) rfl rfl rfl (e_len (a := p1) (n := l.length) (c := c2) rfl tp13) ?_
      refine l_val (v := .bool (decide (((k : Nat) : Int) < ((l.length : Nat) : Int)))) rfl rfl rfl (e_lss (a := ((k : Nat) : Int)) (b := ((l.length : Nat) : Int)) rfl rfl) ?_
      refine l_nil ?_
      refine f_then ?_
      refine c_if (((k : Nat) : Int) < ((l.length : Nat) : Int)) rfl (fun hc10 => ?_) (fun hc10 => ?_)
      ·
        refine c_skip ?_
        refine f_then ?_
        refine c_seq ?_
        refine c_block ?_
        refine c_seq ?_
        refine c_region ?_
        refine l_val (v := .slice p1 (l.length) c2) rfl rfl rfl (e_move) ?_
        refine l_val (v := Nx (k)) rfl rfl rfl (e_move) ?_
        refine l_val (v := .pointer (some ((ba p1).add (k * 4)))) rfl rfl rfl (e_indexFlN 2 (F := AreaF) (j := k) (m := l.length) (xs := l) rfl rfl rfl tp14 (by omega) rfl) ?_
        obtain ⟨x11, hx12⟩ : ∃ x_, l[k]? = some x_ := ⟨_, List.getElem?_eq_getElem (by omega)⟩
        refine l_val (v := .agg (aC x11)) rfl rfl rfl (e_load tp10 (cs := (areaE x11)) rfl (k_flAt 2 (F := AreaF) rfl hx12) rfl) ?_
        refine l_mv rfl rfl rfl (m_alloc tp8) ?_
        rintro _ _ ⟨b13, rfl, rfl⟩
        refine l_mu rfl rfl (m_store 0 tp10 (b := b13) (o := 0) (T := 43) (cs := #[.int .i64 (0), .int .i64 (0), .int .i64 (0), .int .i64 (0)]) (cs' := (aC x11)) (v := .agg (aC x11)) rfl rfl rfl rfl rfl rfl rfl) ?_
        refine l_nil ?_
        refine f_then ?_
        refine c_seq ?_
        refine c_any [⟨[], [], [0], [55], fun f => f 55 = .pointer (some ⟨b9, 0, none⟩)⟩, ⟨[0], [0], [], [56], fun f => f 56 = .pointer (some ⟨b9, 0, none⟩)⟩, ⟨[0, 1], [1], [], [57], fun f => f 57 = Ix (x7.lx)⟩, ⟨[], [], [1], [58], fun f => f 58 = .pointer (some ⟨b13, 0, none⟩)⟩, ⟨[3], [3], [], [59], fun f => f 59 = .pointer (some ⟨b13, 0, none⟩)⟩, ⟨[3, 4], [4], [], [60], fun f => f 60 = Ix (x11.lx)⟩, ⟨[0, 1, 2, 3, 4, 5], [2, 5], [], [61], fun f => f 61 = Ix (max (x7.lx) (x11.lx))⟩, ⟨[], [], [0], [62], fun f => f 62 = .pointer (some ⟨b9, 0, none⟩)⟩, ⟨[7], [7], [], [63], fun f => f 63 = .pointer (some ⟨b9, 1, none⟩)⟩, ⟨[7, 8], [8], [], [64], fun f => f 64 = Ix (x7.ly)⟩, ⟨[], [], [1], [65], fun f => f 65 = .pointer (some ⟨b13, 0, none⟩)⟩, ⟨[10], [10], [], [66], fun f => f 66 = .pointer (some ⟨b13, 1, none⟩)⟩, ⟨[10, 11], [11], [], [67], fun f => f 67 = Ix (x11.ly)⟩, ⟨[7, 8, 9, 10, 11, 12], [9, 12], [], [68], fun f => f 68 = Ix (max (x7.ly) (x11.ly))⟩, ⟨[0, 1, 2, 3, 4, 5, 6, 7, 8, 9, 10, 11, 12, 13], [6, 13], [], [69], fun f => f 69 = .agg #[Ix (max (x7.lx) (x11.lx)), Ix (max (x7.ly) (x11.ly))]⟩, ⟨[], [], [0], [70], fun f => f 70 = .pointer (some ⟨b9, 2, none⟩)⟩, ⟨[15], [15], [], [71], fun f => f 71 = .pointer (some ⟨b9, 2, none⟩)⟩, ⟨[15, 16], [16], [], [72], fun f => f 72 = Ix (x7.hx)⟩, ⟨[], [], [1], [73], fun f => f 73 = .pointer (some ⟨b13, 2, none⟩)⟩, ⟨[18], [18], [], [74], fun f => f 74 = .pointer (some ⟨b13, 2, none⟩)⟩, ⟨[18, 19], [19], [], [75], fun f => f 75 = Ix (x11.hx)⟩, ⟨[15, 16, 17, 18, 19, 20], [17, 20], [], [76], fun f => f 76 = Ix (min (x7.hx) (x11.hx))⟩, ⟨[], [], [0], [77], fun f => f 77 = .pointer (some ⟨b9, 2, none⟩)⟩, ⟨[22], [22], [], [78], fun f => f 78 = .pointer (some ⟨b9, 3, none⟩)⟩, ⟨[22, 23], [23], [], [79], fun f => f 79 = Ix (x7.hy)⟩, ⟨[], [], [1], [80], fun f => f 80 = .pointer (some ⟨b13, 2, none⟩)⟩, ⟨[25], [25], [], [81], fun f => f 81 = .pointer (some ⟨b13, 3, none⟩)⟩, ⟨[25, 26], [26], [], [82], fun f => f 82 = Ix (x11.hy)⟩, ⟨[22, 23, 24, 25, 26, 27], [24, 27], [], [83], fun f => f 83 = Ix (min (x7.hy) (x11.hy))⟩, ⟨[0, 1, 2, 3, 4, 5, 6, 7, 8, 9, 10, 11, 12, 13, 14, 15, 16, 17, 18, 19, 20, 21, 22, 23, 24, 25, 26, 27, 28], [21, 28], [], [84], fun f => f 84 = .agg #[Ix (min (x7.hx) (x11.hx)), Ix (min (x7.hy) (x11.hy))]⟩, ⟨[], [], [], [11], fun f => f 11 = .pointer (some ⟨(blk (f 11)), 0, none⟩)⟩, ⟨[], [], [], [12], fun f => f 12 = .pointer (some ⟨(blk (f 12)), 0, none⟩)⟩, ⟨[0, 1, 2, 3, 4, 5, 6, 7, 8, 9, 10, 11, 12, 13, 14, 15, 16, 17, 18, 19, 20, 21, 22, 23, 24, 25, 26, 27, 28, 29, 30, 31], [30, 14], [], [], fun _ => True⟩, ⟨[0, 1, 2, 3, 4, 5, 6, 7, 8, 9, 10, 11, 12, 13, 14, 15, 16, 17, 18, 19, 20, 21, 22, 23, 24, 25, 26, 27, 28, 29, 30, 31, 32], [31, 29], [], [], fun _ => True⟩] [⟨none, none, [5, 12, 20, 27], [], fun _ => pt b13 (.cells (aC x11) 43)⟩, ⟨none, none, [2, 9, 17, 24], [], fun _ => pt b9 (.cells (aC x7) 43)⟩, ⟨none, none, [], [], fun _ => rowF PoF 46 p3 c4 (portL l)⟩, ⟨none, none, [], [], fun _ => rowF AreaF 43 p1 c2 l⟩, ⟨(some 30), (some 32), [32], [11], fun f => pt (blk (f 11)) (.cells #[.int .i64 (0), .int .i64 (0)] 28)⟩, ⟨(some 31), (some 33), [33], [12], fun f => pt (blk (f 12)) (.cells #[.int .i64 (0), .int .i64 (0)] 28)⟩, ⟨(some 32), none, [], [11], fun f => pt (blk (f 11)) (.cells #[Ix (max (x7.lx) (x11.lx)), Ix (max (x7.ly) (x11.ly))] 28)⟩, ⟨(some 33), none, [], [12], fun f => pt (blk (f 12)) (.cells #[Ix (min (x7.hx) (x11.hx)), Ix (min (x7.hy) (x11.hy))] 28)⟩] [(8, .pointer (some ⟨b9, 0, none⟩)), (10, .pointer (some ⟨b13, 0, none⟩)), (3, .slice p1 (l.length) c2), (4, .slice p3 ((portL l).length) c4), (6, Nx (n)), (7, Nx (i)), (9, Nx (k)), (36, .slice p1 (l.length) c2), (37, Nx (l.length)), (38, Nx (i))] [2, 3, 4, 5, 0, 6, 7, 8, 9] [] (by kernel_rfl) (by kernel_rfl) (by kernel_rfl) (by kernel_rfl) rfl ⟨rfl, rfl, rfl, rfl, rfl, rfl, rfl, rfl, rfl, rfl, trivial⟩ ⟨?_, ?_, ?_, ?_, ?_, ?_, ?_, ?_, ?_, ?_, ?_, ?_, ?_, ?_, ?_, ?_, ?_, ?_, ?_, ?_, ?_, ?_, ?_, ?_, ?_, ?_, ?_, ?_, ?_, ?_, ?_, ?_, ?_, ?_, trivial⟩ ?_
        · rintro f M - ⟨i0, -⟩
          have hs8 : f 8 = .pointer (some ⟨b9, 0, none⟩) := i0
          refine ob_start (L' := M) (by rfl) (up_cons rfl hs8) ?_
          refine l_val (v := .pointer (some ⟨b9, 0, none⟩)) rfl rfl rfl (e_fieldPt (b := b9) (o := 0) rfl tp0) ?_
          refine l_nil ?_
          exact f_owes_d (up_cons rfl hs8) rfl (List.Perm.refl _)
        · rintro f M ⟨k0, -⟩ -
          have hs55 : f 55 = .pointer (some ⟨b9, 0, none⟩) := k0
          refine ob_start (L' := M) (by rfl) (up_cons rfl hs55) ?_
          refine l_val (v := .pointer (some ⟨b9, 0, none⟩)) rfl rfl rfl (e_fieldPt (b := b9) (o := 0) rfl tp1) ?_
          refine l_nil ?_
          exact f_owes_d (up_cons rfl hs55) rfl (List.Perm.refl _)
        · rintro f M ⟨k0, -⟩ -
          have hs56 : f 56 = .pointer (some ⟨b9, 0, none⟩) := k0
          refine ob_start (L' := pt b9 (.cells (aC x7) 43) :: M) (by rfl) (up_cons rfl hs56) ?_
          refine l_val (v := Ix (x7.lx)) rfl rfl rfl (e_load1 tp2 (v := Ix (x7.lx)) rfl (k_pt 0 (cs := (aC x7)) (vs := [Ix (x7.lx)]) rfl rfl)) ?_
          refine l_nil ?_
          exact f_owes_d (up_cons rfl hs56) rfl (perm_front 0 rfl)
        · rintro f M - ⟨i0, -⟩
          have hs10 : f 10 = .pointer (some ⟨b13, 0, none⟩) := i0
          refine ob_start (L' := M) (by rfl) (up_cons rfl hs10) ?_
          refine l_val (v := .pointer (some ⟨b13, 0, none⟩)) rfl rfl rfl (e_fieldPt (b := b13) (o := 0) rfl tp0) ?_
          refine l_nil ?_
          exact f_owes_d (up_cons rfl hs10) rfl (List.Perm.refl _)
        · rintro f M ⟨k0, -⟩ -
          have hs58 : f 58 = .pointer (some ⟨b13, 0, none⟩) := k0
          refine ob_start (L' := M) (by rfl) (up_cons rfl hs58) ?_
          refine l_val (v := .pointer (some ⟨b13, 0, none⟩)) rfl rfl rfl (e_fieldPt (b := b13) (o := 0) rfl tp1) ?_
          refine l_nil ?_
          exact f_owes_d (up_cons rfl hs58) rfl (List.Perm.refl _)
        · rintro f M ⟨k0, -⟩ -
          have hs59 : f 59 = .pointer (some ⟨b13, 0, none⟩) := k0
          refine ob_start (L' := pt b13 (.cells (aC x11) 43) :: M) (by rfl) (up_cons rfl hs59) ?_
          refine l_val (v := Ix (x11.lx)) rfl rfl rfl (e_load1 tp2 (v := Ix (x11.lx)) rfl (k_pt 0 (cs := (aC x11)) (vs := [Ix (x11.lx)]) rfl rfl)) ?_
          refine l_nil ?_
          exact f_owes_d (up_cons rfl hs59) rfl (perm_front 0 rfl)
        · rintro f M ⟨k0, k1, -⟩ -
          have hs57 : f 57 = Ix (x7.lx) := k0
          have hs60 : f 60 = Ix (x11.lx) := k1
          refine ob_start (L' := M) (by rfl) (up_cons (up_cons rfl hs57) hs60) ?_
          refine l_val (v := Ix (max (x7.lx) (x11.lx))) rfl rfl rfl (e_max (a := (x7.lx)) (b := (x11.lx)) rfl rfl) ?_
          refine l_nil ?_
          exact f_owes_d (up_cons (up_cons rfl hs57) hs60) rfl (List.Perm.refl _)
        · rintro f M - ⟨i0, -⟩
          have hs8 : f 8 = .pointer (some ⟨b9, 0, none⟩) := i0
          refine ob_start (L' := M) (by rfl) (up_cons rfl hs8) ?_
          refine l_val (v := .pointer (some ⟨b9, 0, none⟩)) rfl rfl rfl (e_fieldPt (b := b9) (o := 0) rfl tp0) ?_
          refine l_nil ?_
          exact f_owes_d (up_cons rfl hs8) rfl (List.Perm.refl _)
        · rintro f M ⟨k0, -⟩ -
          have hs62 : f 62 = .pointer (some ⟨b9, 0, none⟩) := k0
          refine ob_start (L' := M) (by rfl) (up_cons rfl hs62) ?_
          refine l_val (v := .pointer (some ⟨b9, 1, none⟩)) rfl rfl rfl (e_fieldPt (b := b9) (o := 0) rfl tp4) ?_
          refine l_nil ?_
          exact f_owes_d (up_cons rfl hs62) rfl (List.Perm.refl _)
        · rintro f M ⟨k0, -⟩ -
          have hs63 : f 63 = .pointer (some ⟨b9, 1, none⟩) := k0
          refine ob_start (L' := pt b9 (.cells (aC x7) 43) :: M) (by rfl) (up_cons rfl hs63) ?_
          refine l_val (v := Ix (x7.ly)) rfl rfl rfl (e_load1 tp2 (v := Ix (x7.ly)) rfl (k_pt 0 (cs := (aC x7)) (vs := [Ix (x7.ly)]) rfl rfl)) ?_
          refine l_nil ?_
          exact f_owes_d (up_cons rfl hs63) rfl (perm_front 0 rfl)
        · rintro f M - ⟨i0, -⟩
          have hs10 : f 10 = .pointer (some ⟨b13, 0, none⟩) := i0
          refine ob_start (L' := M) (by rfl) (up_cons rfl hs10) ?_
          refine l_val (v := .pointer (some ⟨b13, 0, none⟩)) rfl rfl rfl (e_fieldPt (b := b13) (o := 0) rfl tp0) ?_
          refine l_nil ?_
          exact f_owes_d (up_cons rfl hs10) rfl (List.Perm.refl _)
        · rintro f M ⟨k0, -⟩ -
          have hs65 : f 65 = .pointer (some ⟨b13, 0, none⟩) := k0
          refine ob_start (L' := M) (by rfl) (up_cons rfl hs65) ?_
          refine l_val (v := .pointer (some ⟨b13, 1, none⟩)) rfl rfl rfl (e_fieldPt (b := b13) (o := 0) rfl tp4) ?_
          refine l_nil ?_
          exact f_owes_d (up_cons rfl hs65) rfl (List.Perm.refl _)
        · rintro f M ⟨k0, -⟩ -
          have hs66 : f 66 = .pointer (some ⟨b13, 1, none⟩) := k0
          refine ob_start (L' := pt b13 (.cells (aC x11) 43) :: M) (by rfl) (up_cons rfl hs66) ?_
          refine l_val (v := Ix (x11.ly)) rfl rfl rfl (e_load1 tp2 (v := Ix (x11.ly)) rfl (k_pt 0 (cs := (aC x11)) (vs := [Ix (x11.ly)]) rfl rfl)) ?_
          refine l_nil ?_
          exact f_owes_d (up_cons rfl hs66) rfl (perm_front 0 rfl)
        · rintro f M ⟨k0, k1, -⟩ -
          have hs64 : f 64 = Ix (x7.ly) := k0
          have hs67 : f 67 = Ix (x11.ly) := k1
          refine ob_start (L' := M) (by rfl) (up_cons (up_cons rfl hs64) hs67) ?_
          refine l_val (v := Ix (max (x7.ly) (x11.ly))) rfl rfl rfl (e_max (a := (x7.ly)) (b := (x11.ly)) rfl rfl) ?_
          refine l_nil ?_
          exact f_owes_d (up_cons (up_cons rfl hs64) hs67) rfl (List.Perm.refl _)
        · rintro f M ⟨k0, k1, -⟩ -
          have hs61 : f 61 = Ix (max (x7.lx) (x11.lx)) := k0
          have hs68 : f 68 = Ix (max (x7.ly) (x11.ly)) := k1
          refine ob_start (L' := M) (by rfl) (up_cons (up_cons rfl hs61) hs68) ?_
          refine l_call rfl rfl rfl (cl_value (fst := []) (cap := []) (vs := [Ix (max (x7.lx) (x11.lx)), Ix (max (x7.ly) (x11.ly))]) (all := [Ix (max (x7.lx) (x11.lx)), Ix (max (x7.ly) (x11.ly))]) ty102 rfl rfl rfl) ?_
          intro w hw
          obtain ⟨β1, sb, kn, hw1, back⟩ := St.frame_all hw
          refine (point_ok β1 w hw1 (max (x7.lx) (x11.lx)) (max (x7.ly) (x11.ly))).mono ?_
          rintro e w' ⟨rfl, hw'⟩
          refine ⟨_, rfl, _, back _ _ hw', ?_⟩
          clear hw hw1 hw' back kn sb
          refine l_nil ?_
          exact f_owes_d (up_cons (up_cons rfl hs61) hs68) rfl (List.Perm.refl _)
        · rintro f M - ⟨i0, -⟩
          have hs8 : f 8 = .pointer (some ⟨b9, 0, none⟩) := i0
          refine ob_start (L' := M) (by rfl) (up_cons rfl hs8) ?_
          refine l_val (v := .pointer (some ⟨b9, 2, none⟩)) rfl rfl rfl (e_fieldPt (b := b9) (o := 0) rfl tp3) ?_
          refine l_nil ?_
          exact f_owes_d (up_cons rfl hs8) rfl (List.Perm.refl _)
        · rintro f M ⟨k0, -⟩ -
          have hs70 : f 70 = .pointer (some ⟨b9, 2, none⟩) := k0
          refine ob_start (L' := M) (by rfl) (up_cons rfl hs70) ?_
          refine l_val (v := .pointer (some ⟨b9, 2, none⟩)) rfl rfl rfl (e_fieldPt (b := b9) (o := 2) rfl tp1) ?_
          refine l_nil ?_
          exact f_owes_d (up_cons rfl hs70) rfl (List.Perm.refl _)
        · rintro f M ⟨k0, -⟩ -
          have hs71 : f 71 = .pointer (some ⟨b9, 2, none⟩) := k0
          refine ob_start (L' := pt b9 (.cells (aC x7) 43) :: M) (by rfl) (up_cons rfl hs71) ?_
          refine l_val (v := Ix (x7.hx)) rfl rfl rfl (e_load1 tp2 (v := Ix (x7.hx)) rfl (k_pt 0 (cs := (aC x7)) (vs := [Ix (x7.hx)]) rfl rfl)) ?_
          refine l_nil ?_
          exact f_owes_d (up_cons rfl hs71) rfl (perm_front 0 rfl)
        · rintro f M - ⟨i0, -⟩
          have hs10 : f 10 = .pointer (some ⟨b13, 0, none⟩) := i0
          refine ob_start (L' := M) (by rfl) (up_cons rfl hs10) ?_
          refine l_val (v := .pointer (some ⟨b13, 2, none⟩)) rfl rfl rfl (e_fieldPt (b := b13) (o := 0) rfl tp3) ?_
          refine l_nil ?_
          exact f_owes_d (up_cons rfl hs10) rfl (List.Perm.refl _)
        · rintro f M ⟨k0, -⟩ -
          have hs73 : f 73 = .pointer (some ⟨b13, 2, none⟩) := k0
          refine ob_start (L' := M) (by rfl) (up_cons rfl hs73) ?_
          refine l_val (v := .pointer (some ⟨b13, 2, none⟩)) rfl rfl rfl (e_fieldPt (b := b13) (o := 2) rfl tp1) ?_
          refine l_nil ?_
          exact f_owes_d (up_cons rfl hs73) rfl (List.Perm.refl _)
        · rintro f M ⟨k0, -⟩ -
          have hs74 : f 74 = .pointer (some ⟨b13, 2, none⟩) := k0
          refine ob_start (L' := pt b13 (.cells (aC x11) 43) :: M) (by rfl) (up_cons rfl hs74) ?_
          refine l_val (v := Ix (x11.hx)) rfl rfl rfl (e_load1 tp2 (v := Ix (x11.hx)) rfl (k_pt 0 (cs := (aC x11)) (vs := [Ix (x11.hx)]) rfl rfl)) ?_
          refine l_nil ?_
          exact f_owes_d (up_cons rfl hs74) rfl (perm_front 0 rfl)
        · rintro f M ⟨k0, k1, -⟩ -
          have hs72 : f 72 = Ix (x7.hx) := k0
          have hs75 : f 75 = Ix (x11.hx) := k1
          refine ob_start (L' := M) (by rfl) (up_cons (up_cons rfl hs72) hs75) ?_
          refine l_val (v := Ix (min (x7.hx) (x11.hx))) rfl rfl rfl (e_min (a := (x7.hx)) (b := (x11.hx)) rfl rfl) ?_
          refine l_nil ?_
          exact f_owes_d (up_cons (up_cons rfl hs72) hs75) rfl (List.Perm.refl _)
        · rintro f M - ⟨i0, -⟩
          have hs8 : f 8 = .pointer (some ⟨b9, 0, none⟩) := i0
          refine ob_start (L' := M) (by rfl) (up_cons rfl hs8) ?_
          refine l_val (v := .pointer (some ⟨b9, 2, none⟩)) rfl rfl rfl (e_fieldPt (b := b9) (o := 0) rfl tp3) ?_
          refine l_nil ?_
          exact f_owes_d (up_cons rfl hs8) rfl (List.Perm.refl _)
        · rintro f M ⟨k0, -⟩ -
          have hs77 : f 77 = .pointer (some ⟨b9, 2, none⟩) := k0
          refine ob_start (L' := M) (by rfl) (up_cons rfl hs77) ?_
          refine l_val (v := .pointer (some ⟨b9, 3, none⟩)) rfl rfl rfl (e_fieldPt (b := b9) (o := 2) rfl tp4) ?_
          refine l_nil ?_
          exact f_owes_d (up_cons rfl hs77) rfl (List.Perm.refl _)
        · rintro f M ⟨k0, -⟩ -
          have hs78 : f 78 = .pointer (some ⟨b9, 3, none⟩) := k0
          refine ob_start (L' := pt b9 (.cells (aC x7) 43) :: M) (by rfl) (up_cons rfl hs78) ?_
          refine l_val (v := Ix (x7.hy)) rfl rfl rfl (e_load1 tp2 (v := Ix (x7.hy)) rfl (k_pt 0 (cs := (aC x7)) (vs := [Ix (x7.hy)]) rfl rfl)) ?_
          refine l_nil ?_
          exact f_owes_d (up_cons rfl hs78) rfl (perm_front 0 rfl)
        · rintro f M - ⟨i0, -⟩
          have hs10 : f 10 = .pointer (some ⟨b13, 0, none⟩) := i0
          refine ob_start (L' := M) (by rfl) (up_cons rfl hs10) ?_
          refine l_val (v := .pointer (some ⟨b13, 2, none⟩)) rfl rfl rfl (e_fieldPt (b := b13) (o := 0) rfl tp3) ?_
          refine l_nil ?_
          exact f_owes_d (up_cons rfl hs10) rfl (List.Perm.refl _)
        · rintro f M ⟨k0, -⟩ -
          have hs80 : f 80 = .pointer (some ⟨b13, 2, none⟩) := k0
          refine ob_start (L' := M) (by rfl) (up_cons rfl hs80) ?_
          refine l_val (v := .pointer (some ⟨b13, 3, none⟩)) rfl rfl rfl (e_fieldPt (b := b13) (o := 2) rfl tp4) ?_
          refine l_nil ?_
          exact f_owes_d (up_cons rfl hs80) rfl (List.Perm.refl _)
        · rintro f M ⟨k0, -⟩ -
          have hs81 : f 81 = .pointer (some ⟨b13, 3, none⟩) := k0
          refine ob_start (L' := pt b13 (.cells (aC x11) 43) :: M) (by rfl) (up_cons rfl hs81) ?_
          refine l_val (v := Ix (x11.hy)) rfl rfl rfl (e_load1 tp2 (v := Ix (x11.hy)) rfl (k_pt 0 (cs := (aC x11)) (vs := [Ix (x11.hy)]) rfl rfl)) ?_
          refine l_nil ?_
          exact f_owes_d (up_cons rfl hs81) rfl (perm_front 0 rfl)
        · rintro f M ⟨k0, k1, -⟩ -
          have hs79 : f 79 = Ix (x7.hy) := k0
          have hs82 : f 82 = Ix (x11.hy) := k1
          refine ob_start (L' := M) (by rfl) (up_cons (up_cons rfl hs79) hs82) ?_
          refine l_val (v := Ix (min (x7.hy) (x11.hy))) rfl rfl rfl (e_min (a := (x7.hy)) (b := (x11.hy)) rfl rfl) ?_
          refine l_nil ?_
          exact f_owes_d (up_cons (up_cons rfl hs79) hs82) rfl (List.Perm.refl _)
        · rintro f M ⟨k0, k1, -⟩ -
          have hs76 : f 76 = Ix (min (x7.hx) (x11.hx)) := k0
          have hs83 : f 83 = Ix (min (x7.hy) (x11.hy)) := k1
          refine ob_start (L' := M) (by rfl) (up_cons (up_cons rfl hs76) hs83) ?_
          refine l_call rfl rfl rfl (cl_value (fst := []) (cap := []) (vs := [Ix (min (x7.hx) (x11.hx)), Ix (min (x7.hy) (x11.hy))]) (all := [Ix (min (x7.hx) (x11.hx)), Ix (min (x7.hy) (x11.hy))]) ty102 rfl rfl rfl) ?_
          intro w hw
          obtain ⟨β1, sb, kn, hw1, back⟩ := St.frame_all hw
          refine (point_ok β1 w hw1 (min (x7.hx) (x11.hx)) (min (x7.hy) (x11.hy))).mono ?_
          rintro e w' ⟨rfl, hw'⟩
          refine ⟨_, rfl, _, back _ _ hw', ?_⟩
          clear hw hw1 hw' back kn sb
          refine l_nil ?_
          exact f_owes_d (up_cons (up_cons rfl hs76) hs83) rfl (List.Perm.refl _)
        · rintro f M - -
          refine ob_start (L' := M) (by rfl) rfl ?_
          refine l_mv rfl rfl rfl (m_alloc tp5) ?_
          rintro _ _ ⟨b15, rfl, rfl⟩
          refine l_nil ?_
          exact f_owes_d rfl rfl (perm_front 0 rfl)
        · rintro f M - -
          refine ob_start (L' := M) (by rfl) rfl ?_
          refine l_mv rfl rfl rfl (m_alloc tp5) ?_
          rintro _ _ ⟨b17, rfl, rfl⟩
          refine l_nil ?_
          exact f_owes_d rfl rfl (perm_front 0 rfl)
        · rintro f M ⟨k0, k1, -⟩ -
          have hs11 : f 11 = .pointer (some ⟨(blk (f 11)), 0, none⟩) := k0
          have hs69 : f 69 = .agg #[Ix (max (x7.lx) (x11.lx)), Ix (max (x7.ly) (x11.ly))] := k1
          refine ob_start (L' := pt (blk (f 11)) (.cells #[.int .i64 (0), .int .i64 (0)] 28) :: M) (by rfl) (up_cons (up_cons rfl hs11) hs69) ?_
          refine l_mu rfl rfl (m_store 0 tp7 (b := (blk (f 11))) (o := 0) (T := 28) (cs := #[.int .i64 (0), .int .i64 (0)]) (cs' := #[Ix (max (x7.lx) (x11.lx)), Ix (max (x7.ly) (x11.ly))]) (v := .agg #[Ix (max (x7.lx) (x11.lx)), Ix (max (x7.ly) (x11.ly))]) rfl rfl rfl rfl rfl rfl rfl) ?_
          refine l_nil ?_
          exact f_owes_n (up_cons (up_cons rfl hs11) hs69) trivial (perm_front 0 rfl)
        · rintro f M ⟨k0, k1, -⟩ -
          have hs12 : f 12 = .pointer (some ⟨(blk (f 12)), 0, none⟩) := k0
          have hs84 : f 84 = .agg #[Ix (min (x7.hx) (x11.hx)), Ix (min (x7.hy) (x11.hy))] := k1
          refine ob_start (L' := pt (blk (f 12)) (.cells #[.int .i64 (0), .int .i64 (0)] 28) :: M) (by rfl) (up_cons (up_cons rfl hs12) hs84) ?_
          refine l_mu rfl rfl (m_store 0 tp7 (b := (blk (f 12))) (o := 0) (T := 28) (cs := #[.int .i64 (0), .int .i64 (0)]) (cs' := #[Ix (min (x7.hx) (x11.hx)), Ix (min (x7.hy) (x11.hy))]) (v := .agg #[Ix (min (x7.hx) (x11.hx)), Ix (min (x7.hy) (x11.hy))]) rfl rfl rfl rfl rfl rfl rfl) ?_
          refine l_nil ?_
          exact f_owes_n (up_cons (up_cons rfl hs12) hs84) trivial (perm_front 0 rfl)
        rintro fa18 ⟨-, -, -, -, -, -, -, -, -, -, -, -, -, -, -, -, -, -, -, -, -, -, -, -, -, -, -, -, -, -, k30, k31, -, -, -⟩ ⟨j0, j1, j2, j3, j4, j5, j6, j7, j8, -⟩
        refine f_re (L' := [pt b13 (.cells (aC x11) 43), pt b9 (.cells (aC x7) 43), rowF PoF 46 p3 c4 (portL l), rowF AreaF 43 p1 c2 l, pt (blk (fa18 11)) (.cells #[Ix (max (x7.lx) (x11.lx)), Ix (max (x7.ly) (x11.ly))] 28), pt (blk (fa18 12)) (.cells #[Ix (min (x7.hx) (x11.hx)), Ix (min (x7.hy) (x11.hy))] 28)]) (by rfl) ?_
        refine f_rebase (d := 3) (v := .slice p1 (l.length) c2) j0 ?_
        refine f_rebase (d := 4) (v := .slice p3 ((portL l).length) c4) j1 ?_
        refine f_rebase (d := 6) (v := Nx (n)) j2 ?_
        refine f_rebase (d := 7) (v := Nx (i)) j3 ?_
        refine f_rebase (d := 8) (v := .pointer (some ⟨b9, 0, none⟩)) j4 ?_
        refine f_rebase (d := 9) (v := Nx (k)) j5 ?_
        refine f_rebase (d := 11) (v := .pointer (some ⟨(blk (fa18 11)), 0, none⟩)) k30 ?_
        refine f_rebase (d := 12) (v := .pointer (some ⟨(blk (fa18 12)), 0, none⟩)) k31 ?_
        refine f_rebase (d := 36) (v := .slice p1 (l.length) c2) j6 ?_
        refine f_rebase (d := 37) (v := Nx (l.length)) j7 ?_
        refine f_rebase (d := 38) (v := Nx (i)) j8 ?_
        refine f_then ?_
        refine c_seq ?_
        have hcs := com_small (hsm _ (List.mem_of_getElem? hx8)) (hsm _ (List.mem_of_getElem? hx12))
        obtain ⟨C, hC⟩ : ∃ z, z = comA x7 x11 := ⟨_, rfl⟩
        refine c_re (L' := [pt b13 (.cells (aC x11) 43), pt b9 (.cells (aC x7) 43), rowF PoF 46 p3 c4 (portL l), rowF AreaF 43 p1 c2 l, pt (blk (fa18 11)) (.cells #[Ix (C.lx), Ix (C.ly)] 28), pt (blk (fa18 12)) (.cells #[Ix (C.hx), Ix (C.hy)] 28)]) (by rw [hC]; rfl) ?_
        rw [← hC] at hcs
        obtain ⟨hc1, hc2, hc3, hc4, hc5, hc6, hc7, hc8, hct⟩ := hcs
        refine c_quiet (by kernel_rfl) (by kernel_rfl) ?_
        refine q_val (v := .pointer (some ⟨(blk (fa18 12)), 0, none⟩)) rfl rfl rfl (e_fieldPt (b := (blk (fa18 12))) (o := 0) rfl tp1) ?_
        refine q_val (v := Ix (C.hx)) rfl rfl rfl (e_load1 tp2 (v := Ix (C.hx)) rfl (k_pt 5 (cs := #[Ix (C.hx), Ix (C.hy)]) (vs := [Ix (C.hx)]) rfl rfl)) ?_
        refine q_val (v := .pointer (some ⟨(blk (fa18 11)), 0, none⟩)) rfl rfl rfl (e_fieldPt (b := (blk (fa18 11))) (o := 0) rfl tp1) ?_
        refine q_val (v := Ix (C.lx)) rfl rfl rfl (e_load1 tp2 (v := Ix (C.lx)) rfl (k_pt 4 (cs := #[Ix (C.lx), Ix (C.ly)]) (vs := [Ix (C.lx)]) rfl rfl)) ?_
        refine q_val (v := Ix ((C.hx) - (C.lx))) rfl rfl rfl (e_sub (a := (C.hx)) (b := (C.lx)) rfl rfl (i64w (by omega))) ?_
        refine q_val (v := .pointer (some ⟨(blk (fa18 12)), 1, none⟩)) rfl rfl rfl (e_fieldPt (b := (blk (fa18 12))) (o := 0) rfl tp4) ?_
        refine q_val (v := Ix (C.hy)) rfl rfl rfl (e_load1 tp2 (v := Ix (C.hy)) rfl (k_pt 5 (cs := #[Ix (C.hx), Ix (C.hy)]) (vs := [Ix (C.hy)]) rfl rfl)) ?_
        refine q_val (v := .pointer (some ⟨(blk (fa18 11)), 1, none⟩)) rfl rfl rfl (e_fieldPt (b := (blk (fa18 11))) (o := 0) rfl tp4) ?_
        refine q_val (v := Ix (C.ly)) rfl rfl rfl (e_load1 tp2 (v := Ix (C.ly)) rfl (k_pt 4 (cs := #[Ix (C.lx), Ix (C.ly)]) (vs := [Ix (C.ly)]) rfl rfl)) ?_
        refine q_val (v := Ix ((C.hy) - (C.ly))) rfl rfl rfl (e_sub (a := (C.hy)) (b := (C.ly)) rfl rfl (i64w (by omega))) ?_
        refine q_val (v := Ix ((C.hx) - (C.lx))) rfl rfl rfl (e_assign) ?_
        refine q_val (v := Ix ((C.hy) - (C.ly))) rfl rfl rfl (e_assign) ?_
        refine q_nil ?_
        refine f_then ?_
        refine c_seq ?_
        refine c_seq ?_
        refine c_region ?_
        refine l_val (v := Ix ((C.hx) - (C.lx))) rfl rfl rfl (e_move) ?_
        refine l_val (v := .bool (decide (((C.hx) - (C.lx)) < (0 : Int)))) rfl rfl rfl (e_lss (a := ((C.hx) - (C.lx))) (b := (0 : Int)) rfl rfl) ?_
        refine l_val (v := .bool (decide (((C.hx) - (C.lx)) < (0 : Int)))) rfl rfl rfl (e_move) ?_
        refine l_split (s := 97) (p := ((C.hx) - (C.lx)) < (0 : Int)) rfl (fun hg19 => ?_) (fun hg19 => ?_)
        ·
          refine l_skip rfl rfl rfl rfl rfl rfl ?_
          refine l_skip rfl rfl rfl rfl rfl rfl ?_
          refine l_val (v := .bool true) rfl rfl rfl (e_pick_t rfl) ?_
          refine l_val (v := .bool true) rfl rfl rfl (e_move) ?_
          refine l_skip rfl rfl rfl rfl rfl rfl ?_
          refine l_skip rfl rfl rfl rfl rfl rfl ?_
          refine l_skip rfl rfl rfl rfl rfl rfl ?_
          refine l_skip_u rfl rfl rfl rfl rfl ?_
          refine l_skip_u rfl rfl rfl rfl rfl ?_
          refine l_skip rfl rfl rfl rfl rfl rfl ?_
          refine l_val (v := .bool true) rfl rfl rfl (e_pick_t rfl) ?_
          refine l_nil ?_
          refine f_then ?_
          refine c_yes rfl ?_
          refine c_exit ?_
          refine f_then_exit ?_
          refine f_exit ?_
          refine f_then ?_
          refine c_region ?_
          refine l_val (v := Nx (k)) rfl rfl rfl (e_move) ?_
          refine l_val (v := Nx (k + 1)) rfl rfl rfl (e_add (a := ((k : Nat) : Int)) (b := (1 : Int)) rfl rfl (i64n (by omega) (by omega))) ?_
          refine l_val (v := Nx (k + 1)) rfl rfl rfl (e_assign) ?_
          refine l_nil ?_
          refine f_mask (L' := [pt b9 (.cells (aC x7) 43), rowF PoF 46 p3 c4 (portL l), rowF AreaF 43 p1 c2 l]) [false, true, true, true, false, false] rfl ?_
          exact f_cut ⟨(k + 1, n), ⟨⟨rfl, rfl, rfl, rfl, rfl, rfl, rfl, rfl, rfl⟩, rfl, ⟨by omega, by omega, posQ_skip hx8 hx12 (by omega) (by rw [← hC]; exact skip_why hct (by omega)) hn⟩⟩, (show l.length - (k + 1) < l.length - k from by omega)⟩
        ·
          refine g_val (v := Ix ((C.hy) - (C.ly))) rfl rfl rfl rfl rfl (e_move) ?_
          refine g_val (v := .bool (decide (((C.hy) - (C.ly)) < (0 : Int)))) rfl rfl rfl rfl rfl (e_lss (a := ((C.hy) - (C.ly))) (b := (0 : Int)) rfl rfl) ?_
          refine l_val (v := .bool (decide (((C.hy) - (C.ly)) < (0 : Int)))) rfl rfl rfl (e_pick_f rfl) ?_
          refine l_val (v := .bool (decide (((C.hy) - (C.ly)) < (0 : Int)))) rfl rfl rfl (e_move) ?_
          refine l_split (s := 101) (p := ((C.hy) - (C.ly)) < (0 : Int)) rfl (fun hg20 => ?_) (fun hg20 => ?_)
          ·
            refine l_skip rfl rfl rfl rfl rfl rfl ?_
            refine l_skip rfl rfl rfl rfl rfl rfl ?_
            refine l_skip rfl rfl rfl rfl rfl rfl ?_
            refine l_skip_u rfl rfl rfl rfl rfl ?_
            refine l_skip_u rfl rfl rfl rfl rfl ?_
            refine l_skip rfl rfl rfl rfl rfl rfl ?_
            refine l_val (v := .bool true) rfl rfl rfl (e_pick_t rfl) ?_
            refine l_nil ?_
            refine f_then ?_
            refine c_yes rfl ?_
            refine c_exit ?_
            refine f_then_exit ?_
            refine f_exit ?_
            refine f_then ?_
            refine c_region ?_
            refine l_val (v := Nx (k)) rfl rfl rfl (e_move) ?_
            refine l_val (v := Nx (k + 1)) rfl rfl rfl (e_add (a := ((k : Nat) : Int)) (b := (1 : Int)) rfl rfl (i64n (by omega) (by omega))) ?_
            refine l_val (v := Nx (k + 1)) rfl rfl rfl (e_assign) ?_
            refine l_nil ?_
            refine f_mask (L' := [pt b9 (.cells (aC x7) 43), rowF PoF 46 p3 c4 (portL l), rowF AreaF 43 p1 c2 l]) [false, true, true, true, false, false] rfl ?_
            exact f_cut ⟨(k + 1, n), ⟨⟨rfl, rfl, rfl, rfl, rfl, rfl, rfl, rfl, rfl⟩, rfl, ⟨by omega, by omega, posQ_skip hx8 hx12 (by omega) (by rw [← hC]; exact skip_why hct (by omega)) hn⟩⟩, (show l.length - (k + 1) < l.length - k from by omega)⟩
          ·
            refine g_val (v := Ix ((C.hx) - (C.lx))) rfl rfl rfl rfl rfl (e_move) ?_
            refine g_val (v := .bool (decide (((C.hx) - (C.lx)) = (0 : Int)))) rfl rfl rfl rfl rfl (e_eql (a := ((C.hx) - (C.lx))) (b := (0 : Int)) rfl rfl) ?_
            refine g_val (v := .bool (decide (((C.hx) - (C.lx)) = (0 : Int)))) rfl rfl rfl rfl rfl (e_move) ?_
            refine l_split (s := 104) (p := ((C.hx) - (C.lx)) = (0 : Int)) rfl (fun hg21 => ?_) (fun hg21 => ?_)
            ·
              refine g_val (v := Ix ((C.hy) - (C.ly))) rfl rfl rfl rfl rfl (e_move) ?_
              refine g_val (v := .bool (decide (((C.hy) - (C.ly)) = (0 : Int)))) rfl rfl rfl rfl rfl (e_eql (a := ((C.hy) - (C.ly))) (b := (0 : Int)) rfl rfl) ?_
              refine g_val (v := .bool (decide (((C.hy) - (C.ly)) = (0 : Int)))) rfl rfl rfl rfl rfl (e_pick_t rfl) ?_
              refine l_val (v := .bool (decide (((C.hy) - (C.ly)) = (0 : Int)))) rfl rfl rfl (e_pick_f rfl) ?_
              refine l_nil ?_
              refine f_then ?_
              refine c_if (((C.hy) - (C.ly)) = (0 : Int)) rfl (fun hc22 => ?_) (fun hc22 => ?_)
              ·
                refine c_exit ?_
                refine f_then_exit ?_
                refine f_exit ?_
                refine f_then ?_
                refine c_region ?_
                refine l_val (v := Nx (k)) rfl rfl rfl (e_move) ?_
                refine l_val (v := Nx (k + 1)) rfl rfl rfl (e_add (a := ((k : Nat) : Int)) (b := (1 : Int)) rfl rfl (i64n (by omega) (by omega))) ?_
                refine l_val (v := Nx (k + 1)) rfl rfl rfl (e_assign) ?_
                refine l_nil ?_
                refine f_mask (L' := [pt b9 (.cells (aC x7) 43), rowF PoF 46 p3 c4 (portL l), rowF AreaF 43 p1 c2 l]) [false, true, true, true, false, false] rfl ?_
                exact f_cut ⟨(k + 1, n), ⟨⟨rfl, rfl, rfl, rfl, rfl, rfl, rfl, rfl, rfl⟩, rfl, ⟨by omega, by omega, posQ_skip hx8 hx12 (by omega) (by rw [← hC]; exact skip_why hct (by omega)) hn⟩⟩, (show l.length - (k + 1) < l.length - k from by omega)⟩
              ·
                refine c_skip ?_
                refine f_then ?_
                refine c_seq ?_
                refine c_seq ?_
                have hht : touchA x7 x11 := hct.2 ⟨by omega, by omega⟩
                have hhf : ¬ (C.lx = C.hx ∧ C.ly = C.hy) := by omega
                obtain ⟨hO, hn1⟩ := posQ_hit hx8 hx12 (by omega) hht (by rw [← hC]; exact hhf) hn
                rw [← hC] at hO
                have hnl := (List.getElem?_eq_some_iff.1 hO).1
                obtain ⟨O, hOE⟩ : ∃ z, z = (⟨i, k, (C.lx + C.hx) / 2, (C.ly + C.hy) / 2⟩ : KO) := ⟨_, rfl⟩
                rw [← hOE] at hO
                obtain ⟨ho1, ho2, ho3, ho4⟩ : O.a = i ∧ O.b = k ∧ O.x = (C.lx + C.hx) / 2 ∧ O.y = (C.ly + C.hy) / 2 := by rw [hOE]; exact ⟨rfl, rfl, rfl, rfl⟩
                refine c_region ?_
                refine l_val (v := Nx (n)) rfl rfl rfl (e_move) ?_
                refine l_val (v := .slice p3 ((portL l).length) c4) rfl rfl rfl (e_move) ?_
                refine l_val (v := Nx ((portL l).length)) rfl rfl rfl (e_len (a := p3) (n := (portL l).length) (c := c4) rfl tv61) ?_
                refine l_val (v := .bool (decide (((n : Nat) : Int) = (((portL l).length : Nat) : Int)))) rfl rfl rfl (e_eql (a := ((n : Nat) : Int)) (b := (((portL l).length : Nat) : Int)) rfl rfl) ?_
                refine l_val (v := .bool (decide (((n : Nat) : Int) = (((portL l).length : Nat) : Int)))) rfl rfl rfl (e_move) ?_
                refine l_split (s := 113) (p := ((n : Nat) : Int) = (((portL l).length : Nat) : Int)) rfl (fun h => ?_) (fun h => ?_)
                exact absurd h (by omega)
                refine g_val (v := .slice p3 ((portL l).length) c4) rfl rfl rfl rfl rfl (e_move) ?_
                refine g_val (v := Nx (n)) rfl rfl rfl rfl rfl (e_move) ?_
                refine g_val (v := .pointer (some ((ba p3).add (n * 4)))) rfl rfl rfl rfl rfl (e_indexFlN 2 (F := PoF) (j := n) (m := (portL l).length) (xs := (portL l)) rfl rfl rfl tu38 (by omega) rfl) ?_
                refine g_val (v := .pointer (some ((ba p3).add (n * 4)))) rfl rfl rfl rfl rfl (ev_eq (congrArg (fun z => Value.pointer (some z)) (show ((ba p3).add (n * 4) : Addr).add 0 = (ba p3).add (n * 4) by rw [Addr.add_add']; rfl)) (e_fieldAddr (a := (ba p3).add (n * 4)) rfl tv64)) ?_
                refine g_val (v := Nx (O.a)) rfl rfl rfl rfl rfl (e_load1 tp2 (v := Nx (O.a)) rfl (k_flPart 2 (F := PoF) (o := 0) (us := [Nx (O.a)]) rfl hO rfl)) ?_
                refine g_val (v := Nx (i)) rfl rfl rfl rfl rfl (e_move) ?_
                refine g_val (v := .bool (decide (((O.a : Nat) : Int) ≠ ((i : Nat) : Int)))) rfl rfl rfl rfl rfl (e_neq (a := ((O.a : Nat) : Int)) (b := ((i : Nat) : Int)) rfl rfl) ?_
                refine l_val (v := .bool (decide (((O.a : Nat) : Int) ≠ ((i : Nat) : Int)))) rfl rfl rfl (e_pick_f rfl) ?_
                refine l_val (v := .bool (decide (((O.a : Nat) : Int) ≠ ((i : Nat) : Int)))) rfl rfl rfl (e_move) ?_
                refine l_split (s := 122) (p := ((O.a : Nat) : Int) ≠ ((i : Nat) : Int)) rfl (fun h => ?_) (fun h => ?_)
                exact absurd h (by omega)
                refine g_val (v := .slice p3 ((portL l).length) c4) rfl rfl rfl rfl rfl (e_move) ?_
                refine g_val (v := Nx (n)) rfl rfl rfl rfl rfl (e_move) ?_
                refine g_val (v := .pointer (some ((ba p3).add (n * 4)))) rfl rfl rfl rfl rfl (e_indexFlN 2 (F := PoF) (j := n) (m := (portL l).length) (xs := (portL l)) rfl rfl rfl tu38 (by omega) rfl) ?_
                refine g_val (v := .pointer (some ((ba p3).add (n * 4 + 1)))) rfl rfl rfl rfl rfl (ev_eq (congrArg (fun z => Value.pointer (some z)) (show ((ba p3).add (n * 4) : Addr).add 1 = (ba p3).add (n * 4 + 1) by rw [Addr.add_add'])) (e_fieldAddr (a := (ba p3).add (n * 4)) rfl tv65)) ?_
                refine g_val (v := Nx (O.b)) rfl rfl rfl rfl rfl (e_load1 tp2 (v := Nx (O.b)) rfl (k_flPart 2 (F := PoF) (o := 1) (us := [Nx (O.b)]) rfl hO rfl)) ?_
                refine g_val (v := Nx (k)) rfl rfl rfl rfl rfl (e_move) ?_
                refine g_val (v := .bool (decide (((O.b : Nat) : Int) ≠ ((k : Nat) : Int)))) rfl rfl rfl rfl rfl (e_neq (a := ((O.b : Nat) : Int)) (b := ((k : Nat) : Int)) rfl rfl) ?_
                refine l_val (v := .bool (decide (((O.b : Nat) : Int) ≠ ((k : Nat) : Int)))) rfl rfl rfl (e_pick_f rfl) ?_
                refine l_nil ?_
                refine f_then ?_
                refine c_if (((O.b : Nat) : Int) ≠ ((k : Nat) : Int)) rfl (fun hc23 => ?_) (fun hc23 => ?_)
                ·
                  exact absurd hc23 (by omega)
                ·
                  refine c_skip ?_
                  refine f_then ?_
                  refine c_seq ?_
                  refine c_region ?_
                  refine l_val (v := .slice p3 ((portL l).length) c4) rfl rfl rfl (e_move) ?_
                  refine l_val (v := Nx (n)) rfl rfl rfl (e_move) ?_
                  refine l_val (v := .pointer (some ((ba p3).add (n * 4)))) rfl rfl rfl (e_indexFlN 2 (F := PoF) (j := n) (m := (portL l).length) (xs := (portL l)) rfl rfl rfl tu38 (by omega) rfl) ?_
                  refine l_val (v := .pointer (some ((ba p3).add (n * 4 + 2)))) rfl rfl rfl (ev_eq (congrArg (fun z => Value.pointer (some z)) (show ((ba p3).add (n * 4) : Addr).add 2 = (ba p3).add (n * 4 + 2) by rw [Addr.add_add'])) (e_fieldAddr (a := (ba p3).add (n * 4)) rfl tv63)) ?_
                  refine l_val (v := .agg #[Ix (O.x), Ix (O.y)]) rfl rfl rfl (e_load tp7 (cs := [Ix (O.x), Ix (O.y)]) rfl (k_flPart 2 (F := PoF) (o := 2) (us := [Ix (O.x), Ix (O.y)]) rfl hO rfl) rfl) ?_
                  refine l_mv rfl rfl rfl (m_alloc tp5) ?_
                  rintro _ _ ⟨b24, rfl, rfl⟩
                  refine l_mu rfl rfl (m_store 0 tp7 (b := b24) (o := 0) (T := 28) (cs := #[.int .i64 (0), .int .i64 (0)]) (cs' := #[Ix (O.x), Ix (O.y)]) (v := .agg #[Ix (O.x), Ix (O.y)]) rfl rfl rfl rfl rfl rfl rfl) ?_
                  refine l_nil ?_
                  refine f_then ?_
                  refine c_seq ?_
                  refine c_quiet (by kernel_rfl) (by kernel_rfl) ?_
                  refine q_val (v := .pointer (some ⟨b24, 0, none⟩)) rfl rfl rfl (e_fieldPt (b := b24) (o := 0) rfl tp1) ?_
                  refine q_val (v := Ix (O.x)) rfl rfl rfl (e_load1 tp2 (v := Ix (O.x)) rfl (k_pt 0 (cs := #[Ix (O.x), Ix (O.y)]) (vs := [Ix (O.x)]) rfl rfl)) ?_
                  refine q_val (v := .pointer (some ⟨(blk (fa18 11)), 0, none⟩)) rfl rfl rfl (e_fieldPt (b := (blk (fa18 11))) (o := 0) rfl tp1) ?_
                  refine q_val (v := Ix (C.lx)) rfl rfl rfl (e_load1 tp2 (v := Ix (C.lx)) rfl (k_pt 5 (cs := #[Ix (C.lx), Ix (C.ly)]) (vs := [Ix (C.lx)]) rfl rfl)) ?_
                  refine q_val (v := Ix ((O.x) - (C.lx))) rfl rfl rfl (e_sub (a := (O.x)) (b := (C.lx)) rfl rfl (i64w (by omega))) ?_
                  refine q_val (v := .pointer (some ⟨(blk (fa18 12)), 0, none⟩)) rfl rfl rfl (e_fieldPt (b := (blk (fa18 12))) (o := 0) rfl tp1) ?_
                  refine q_val (v := Ix (C.hx)) rfl rfl rfl (e_load1 tp2 (v := Ix (C.hx)) rfl (k_pt 6 (cs := #[Ix (C.hx), Ix (C.hy)]) (vs := [Ix (C.hx)]) rfl rfl)) ?_
                  refine q_val (v := .pointer (some ⟨b24, 0, none⟩)) rfl rfl rfl (e_fieldPt (b := b24) (o := 0) rfl tp1) ?_
                  refine q_val (v := Ix (O.x)) rfl rfl rfl (e_load1 tp2 (v := Ix (O.x)) rfl (k_pt 0 (cs := #[Ix (O.x), Ix (O.y)]) (vs := [Ix (O.x)]) rfl rfl)) ?_
                  refine q_val (v := Ix ((C.hx) - (O.x))) rfl rfl rfl (e_sub (a := (C.hx)) (b := (O.x)) rfl rfl (i64w (by omega))) ?_
                  refine q_val (v := .pointer (some ⟨b24, 1, none⟩)) rfl rfl rfl (e_fieldPt (b := b24) (o := 0) rfl tp4) ?_
                  refine q_val (v := Ix (O.y)) rfl rfl rfl (e_load1 tp2 (v := Ix (O.y)) rfl (k_pt 0 (cs := #[Ix (O.x), Ix (O.y)]) (vs := [Ix (O.y)]) rfl rfl)) ?_
                  refine q_val (v := .pointer (some ⟨(blk (fa18 11)), 1, none⟩)) rfl rfl rfl (e_fieldPt (b := (blk (fa18 11))) (o := 0) rfl tp4) ?_
                  refine q_val (v := Ix (C.ly)) rfl rfl rfl (e_load1 tp2 (v := Ix (C.ly)) rfl (k_pt 5 (cs := #[Ix (C.lx), Ix (C.ly)]) (vs := [Ix (C.ly)]) rfl rfl)) ?_
                  refine q_val (v := Ix ((O.y) - (C.ly))) rfl rfl rfl (e_sub (a := (O.y)) (b := (C.ly)) rfl rfl (i64w (by omega))) ?_
                  refine q_val (v := .pointer (some ⟨(blk (fa18 12)), 1, none⟩)) rfl rfl rfl (e_fieldPt (b := (blk (fa18 12))) (o := 0) rfl tp4) ?_
                  refine q_val (v := Ix (C.hy)) rfl rfl rfl (e_load1 tp2 (v := Ix (C.hy)) rfl (k_pt 6 (cs := #[Ix (C.hx), Ix (C.hy)]) (vs := [Ix (C.hy)]) rfl rfl)) ?_
                  refine q_val (v := .pointer (some ⟨b24, 1, none⟩)) rfl rfl rfl (e_fieldPt (b := b24) (o := 0) rfl tp4) ?_
                  refine q_val (v := Ix (O.y)) rfl rfl rfl (e_load1 tp2 (v := Ix (O.y)) rfl (k_pt 0 (cs := #[Ix (O.x), Ix (O.y)]) (vs := [Ix (O.y)]) rfl rfl)) ?_
                  refine q_val (v := Ix ((C.hy) - (O.y))) rfl rfl rfl (e_sub (a := (C.hy)) (b := (O.y)) rfl rfl (i64w (by omega))) ?_
                  refine q_val (v := Ix ((O.x) - (C.lx))) rfl rfl rfl (e_assign) ?_
                  refine q_val (v := Ix ((C.hx) - (O.x))) rfl rfl rfl (e_assign) ?_
                  refine q_val (v := Ix ((O.y) - (C.ly))) rfl rfl rfl (e_assign) ?_
                  refine q_val (v := Ix ((C.hy) - (O.y))) rfl rfl rfl (e_assign) ?_
                  refine q_nil ?_
                  refine f_then ?_
                  refine c_seq ?_
                  refine c_seq ?_
                  refine c_region ?_
                  refine l_val (v := Ix ((O.x) - (C.lx))) rfl rfl rfl (e_move) ?_
                  refine l_val (v := .bool (decide (((O.x) - (C.lx)) < (0 : Int)))) rfl rfl rfl (e_lss (a := ((O.x) - (C.lx))) (b := (0 : Int)) rfl rfl) ?_
                  refine l_val (v := .bool (decide (((O.x) - (C.lx)) < (0 : Int)))) rfl rfl rfl (e_move) ?_
                  refine l_split (s := 158) (p := ((O.x) - (C.lx)) < (0 : Int)) rfl (fun h => ?_) (fun h => ?_)
                  exact absurd h (by omega)
                  refine g_val (v := Ix ((O.y) - (C.ly))) rfl rfl rfl rfl rfl (e_move) ?_
                  refine g_val (v := .bool (decide (((O.y) - (C.ly)) < (0 : Int)))) rfl rfl rfl rfl rfl (e_lss (a := ((O.y) - (C.ly))) (b := (0 : Int)) rfl rfl) ?_
                  refine l_val (v := .bool (decide (((O.y) - (C.ly)) < (0 : Int)))) rfl rfl rfl (e_pick_f rfl) ?_
                  refine l_val (v := .bool (decide (((O.y) - (C.ly)) < (0 : Int)))) rfl rfl rfl (e_move) ?_
                  refine l_split (s := 162) (p := ((O.y) - (C.ly)) < (0 : Int)) rfl (fun h => ?_) (fun h => ?_)
                  exact absurd h (by omega)
                  refine g_val (v := Ix ((C.hx) - (O.x))) rfl rfl rfl rfl rfl (e_move) ?_
                  refine g_val (v := Ix ((O.x) - (C.lx))) rfl rfl rfl rfl rfl (e_move) ?_
                  refine g_val (v := Ix (((C.hx) - (O.x)) - ((O.x) - (C.lx)))) rfl rfl rfl rfl rfl (e_sub (a := ((C.hx) - (O.x))) (b := ((O.x) - (C.lx))) rfl rfl (i64w (by omega))) ?_
                  refine g_val (v := .bool (decide ((((C.hx) - (O.x)) - ((O.x) - (C.lx))) < (0 : Int)))) rfl rfl rfl rfl rfl (e_lss (a := (((C.hx) - (O.x)) - ((O.x) - (C.lx)))) (b := (0 : Int)) rfl rfl) ?_
                  refine l_val (v := .bool (decide ((((C.hx) - (O.x)) - ((O.x) - (C.lx))) < (0 : Int)))) rfl rfl rfl (e_pick_f rfl) ?_
                  refine l_val (v := .bool (decide ((((C.hx) - (O.x)) - ((O.x) - (C.lx))) < (0 : Int)))) rfl rfl rfl (e_move) ?_
                  refine l_split (s := 168) (p := (((C.hx) - (O.x)) - ((O.x) - (C.lx))) < (0 : Int)) rfl (fun h => ?_) (fun h => ?_)
                  exact absurd h (by omega)
                  refine g_val (v := Ix ((C.hx) - (O.x))) rfl rfl rfl rfl rfl (e_move) ?_
                  refine g_val (v := Ix ((O.x) - (C.lx))) rfl rfl rfl rfl rfl (e_move) ?_
                  refine g_val (v := Ix (((C.hx) - (O.x)) - ((O.x) - (C.lx)))) rfl rfl rfl rfl rfl (e_sub (a := ((C.hx) - (O.x))) (b := ((O.x) - (C.lx))) rfl rfl (i64w (by omega))) ?_
                  refine g_val (v := .bool (decide ((1 : Int) < (((C.hx) - (O.x)) - ((O.x) - (C.lx)))))) rfl rfl rfl rfl rfl (e_gtr (a := (((C.hx) - (O.x)) - ((O.x) - (C.lx)))) (b := (1 : Int)) rfl rfl) ?_
                  refine l_val (v := .bool (decide ((1 : Int) < (((C.hx) - (O.x)) - ((O.x) - (C.lx)))))) rfl rfl rfl (e_pick_f rfl) ?_
                  refine l_val (v := .bool (decide ((1 : Int) < (((C.hx) - (O.x)) - ((O.x) - (C.lx)))))) rfl rfl rfl (e_move) ?_
                  refine l_split (s := 174) (p := (1 : Int) < (((C.hx) - (O.x)) - ((O.x) - (C.lx)))) rfl (fun h => ?_) (fun h => ?_)
                  exact absurd h (by omega)
                  refine g_val (v := Ix ((C.hy) - (O.y))) rfl rfl rfl rfl rfl (e_move) ?_
                  refine g_val (v := Ix ((O.y) - (C.ly))) rfl rfl rfl rfl rfl (e_move) ?_
                  refine g_val (v := Ix (((C.hy) - (O.y)) - ((O.y) - (C.ly)))) rfl rfl rfl rfl rfl (e_sub (a := ((C.hy) - (O.y))) (b := ((O.y) - (C.ly))) rfl rfl (i64w (by omega))) ?_
                  refine g_val (v := .bool (decide ((((C.hy) - (O.y)) - ((O.y) - (C.ly))) < (0 : Int)))) rfl rfl rfl rfl rfl (e_lss (a := (((C.hy) - (O.y)) - ((O.y) - (C.ly)))) (b := (0 : Int)) rfl rfl) ?_
                  refine l_val (v := .bool (decide ((((C.hy) - (O.y)) - ((O.y) - (C.ly))) < (0 : Int)))) rfl rfl rfl (e_pick_f rfl) ?_
                  refine l_val (v := .bool (decide ((((C.hy) - (O.y)) - ((O.y) - (C.ly))) < (0 : Int)))) rfl rfl rfl (e_move) ?_
                  refine l_split (s := 180) (p := (((C.hy) - (O.y)) - ((O.y) - (C.ly))) < (0 : Int)) rfl (fun h => ?_) (fun h => ?_)
                  exact absurd h (by omega)
                  refine g_val (v := Ix ((C.hy) - (O.y))) rfl rfl rfl rfl rfl (e_move) ?_
                  refine g_val (v := Ix ((O.y) - (C.ly))) rfl rfl rfl rfl rfl (e_move) ?_
                  refine g_val (v := Ix (((C.hy) - (O.y)) - ((O.y) - (C.ly)))) rfl rfl rfl rfl rfl (e_sub (a := ((C.hy) - (O.y))) (b := ((O.y) - (C.ly))) rfl rfl (i64w (by omega))) ?_
                  refine g_val (v := .bool (decide ((1 : Int) < (((C.hy) - (O.y)) - ((O.y) - (C.ly)))))) rfl rfl rfl rfl rfl (e_gtr (a := (((C.hy) - (O.y)) - ((O.y) - (C.ly)))) (b := (1 : Int)) rfl rfl) ?_
                  refine l_val (v := .bool (decide ((1 : Int) < (((C.hy) - (O.y)) - ((O.y) - (C.ly)))))) rfl rfl rfl (e_pick_f rfl) ?_
                  refine l_nil ?_
                  refine f_then ?_
                  refine c_if ((1 : Int) < (((C.hy) - (O.y)) - ((O.y) - (C.ly)))) rfl (fun hc25 => ?_) (fun hc25 => ?_)
                  ·
                    exact absurd hc25 (by omega)
                  ·
                    refine c_skip ?_
                    refine f_then ?_
                    refine c_region ?_
                    refine l_val (v := Nx (n)) rfl rfl rfl (e_move) ?_
                    refine l_val (v := Nx (n + 1)) rfl rfl rfl (e_add (a := ((n : Nat) : Int)) (b := (1 : Int)) rfl rfl (i64n (by omega) (by omega))) ?_
                    refine l_val (v := Nx (n + 1)) rfl rfl rfl (e_assign) ?_
                    refine l_nil ?_
                    refine f_block ?_
                    refine f_then ?_
                    refine c_region ?_
                    refine l_val (v := Nx (k)) rfl rfl rfl (e_move) ?_
                    refine l_val (v := Nx (k + 1)) rfl rfl rfl (e_add (a := ((k : Nat) : Int)) (b := (1 : Int)) rfl rfl (i64n (by omega) (by omega))) ?_
                    refine l_val (v := Nx (k + 1)) rfl rfl rfl (e_assign) ?_
                    refine l_nil ?_
                    refine f_mask (L' := [pt b9 (.cells (aC x7) 43), rowF PoF 46 p3 c4 (portL l), rowF AreaF 43 p1 c2 l]) [false, false, true, true, true, false, false] rfl ?_
                    exact f_cut ⟨(k + 1, n + 1), ⟨⟨rfl, rfl, rfl, rfl, rfl, rfl, rfl, rfl, rfl⟩, rfl, ⟨by omega, by omega, hn1⟩⟩, (show l.length - (k + 1) < l.length - k from by omega)⟩
            ·
              refine l_skip rfl rfl rfl rfl rfl rfl ?_
              refine l_skip rfl rfl rfl rfl rfl rfl ?_
              refine g_val (v := .bool false) rfl rfl rfl rfl rfl (e_pick_f rfl) ?_
              refine l_val (v := .bool false) rfl rfl rfl (e_pick_f rfl) ?_
              refine l_nil ?_
              refine f_then ?_
              refine c_no rfl ?_
              refine c_skip ?_
              refine f_then ?_
              refine c_seq ?_
              refine c_seq ?_
              have hht : touchA x7 x11 := hct.2 ⟨by omega, by omega⟩
              have hhf : ¬ (C.lx = C.hx ∧ C.ly = C.hy) := by omega
              obtain ⟨hO, hn1⟩ := posQ_hit hx8 hx12 (by omega) hht (by rw [← hC]; exact hhf) hn
              rw [← hC] at hO
              have hnl := (List.getElem?_eq_some_iff.1 hO).1
              obtain ⟨O, hOE⟩ : ∃ z, z = (⟨i, k, (C.lx + C.hx) / 2, (C.ly + C.hy) / 2⟩ : KO) := ⟨_, rfl⟩
              rw [← hOE] at hO
              obtain ⟨ho1, ho2, ho3, ho4⟩ : O.a = i ∧ O.b = k ∧ O.x = (C.lx + C.hx) / 2 ∧ O.y = (C.ly + C.hy) / 2 := by rw [hOE]; exact ⟨rfl, rfl, rfl, rfl⟩
              refine c_region ?_
              refine l_val (v := Nx (n)) rfl rfl rfl (e_move) ?_
              refine l_val (v := .slice p3 ((portL l).length) c4) rfl rfl rfl (e_move) ?_
              refine l_val (v := Nx ((portL l).length)) rfl rfl rfl (e_len (a := p3) (n := (portL l).length) (c := c4) rfl tv61) ?_
              refine l_val (v := .bool (decide (((n : Nat) : Int) = (((portL l).length : Nat) : Int)))) rfl rfl rfl (e_eql (a := ((n : Nat) : Int)) (b := (((portL l).length : Nat) : Int)) rfl rfl) ?_
              refine l_val (v := .bool (decide (((n : Nat) : Int) = (((portL l).length : Nat) : Int)))) rfl rfl rfl (e_move) ?_
              refine l_split (s := 113) (p := ((n : Nat) : Int) = (((portL l).length : Nat) : Int)) rfl (fun h => ?_) (fun h => ?_)
              exact absurd h (by omega)
              refine g_val (v := .slice p3 ((portL l).length) c4) rfl rfl rfl rfl rfl (e_move) ?_
              refine g_val (v := Nx (n)) rfl rfl rfl rfl rfl (e_move) ?_
              refine g_val (v := .pointer (some ((ba p3).add (n * 4)))) rfl rfl rfl rfl rfl (e_indexFlN 2 (F := PoF) (j := n) (m := (portL l).length) (xs := (portL l)) rfl rfl rfl tu38 (by omega) rfl) ?_
              refine g_val (v := .pointer (some ((ba p3).add (n * 4)))) rfl rfl rfl rfl rfl (ev_eq (congrArg (fun z => Value.pointer (some z)) (show ((ba p3).add (n * 4) : Addr).add 0 = (ba p3).add (n * 4) by rw [Addr.add_add']; rfl)) (e_fieldAddr (a := (ba p3).add (n * 4)) rfl tv64)) ?_
              refine g_val (v := Nx (O.a)) rfl rfl rfl rfl rfl (e_load1 tp2 (v := Nx (O.a)) rfl (k_flPart 2 (F := PoF) (o := 0) (us := [Nx (O.a)]) rfl hO rfl)) ?_
              refine g_val (v := Nx (i)) rfl rfl rfl rfl rfl (e_move) ?_
              refine g_val (v := .bool (decide (((O.a : Nat) : Int) ≠ ((i : Nat) : Int)))) rfl rfl rfl rfl rfl (e_neq (a := ((O.a : Nat) : Int)) (b := ((i : Nat) : Int)) rfl rfl) ?_
              refine l_val (v := .bool (decide (((O.a : Nat) : Int) ≠ ((i : Nat) : Int)))) rfl rfl rfl (e_pick_f rfl) ?_
              refine l_val (v := .bool (decide (((O.a : Nat) : Int) ≠ ((i : Nat) : Int)))) rfl rfl rfl (e_move) ?_
              refine l_split (s := 122) (p := ((O.a : Nat) : Int) ≠ ((i : Nat) : Int)) rfl (fun h => ?_) (fun h => ?_)
              exact absurd h (by omega)
              refine g_val (v := .slice p3 ((portL l).length) c4) rfl rfl rfl rfl rfl (e_move) ?_
              refine g_val (v := Nx (n)) rfl rfl rfl rfl rfl (e_move) ?_
              refine g_val (v := .pointer (some ((ba p3).add (n * 4)))) rfl rfl rfl rfl rfl (e_indexFlN 2 (F := PoF) (j := n) (m := (portL l).length) (xs := (portL l)) rfl rfl rfl tu38 (by omega) rfl) ?_
              refine g_val (v := .pointer (some ((ba p3).add (n * 4 + 1)))) rfl rfl rfl rfl rfl (ev_eq (congrArg (fun z => Value.pointer (some z)) (show ((ba p3).add (n * 4) : Addr).add 1 = (ba p3).add (n * 4 + 1) by rw [Addr.add_add'])) (e_fieldAddr (a := (ba p3).add (n * 4)) rfl tv65)) ?_
              refine g_val (v := Nx (O.b)) rfl rfl rfl rfl rfl (e_load1 tp2 (v := Nx (O.b)) rfl (k_flPart 2 (F := PoF) (o := 1) (us := [Nx (O.b)]) rfl hO rfl)) ?_
              refine g_val (v := Nx (k)) rfl rfl rfl rfl rfl (e_move) ?_
              refine g_val (v := .bool (decide (((O.b : Nat) : Int) ≠ ((k : Nat) : Int)))) rfl rfl rfl rfl rfl (e_neq (a := ((O.b : Nat) : Int)) (b := ((k : Nat) : Int)) rfl rfl) ?_
              refine l_val (v := .bool (decide (((O.b : Nat) : Int) ≠ ((k : Nat) : Int)))) rfl rfl rfl (e_pick_f rfl) ?_
              refine l_nil ?_
              refine f_then ?_
              refine c_if (((O.b : Nat) : Int) ≠ ((k : Nat) : Int)) rfl (fun hc26 => ?_) (fun hc26 => ?_)
              ·
                exact absurd hc26 (by omega)
              ·
                refine c_skip ?_
                refine f_then ?_
                refine c_seq ?_
                refine c_region ?_
                refine l_val (v := .slice p3 ((portL l).length) c4) rfl rfl rfl (e_move) ?_
                refine l_val (v := Nx (n)) rfl rfl rfl (e_move) ?_
                refine l_val (v := .pointer (some ((ba p3).add (n * 4)))) rfl rfl rfl (e_indexFlN 2 (F := PoF) (j := n) (m := (portL l).length) (xs := (portL l)) rfl rfl rfl tu38 (by omega) rfl) ?_
                refine l_val (v := .pointer (some ((ba p3).add (n * 4 + 2)))) rfl rfl rfl (ev_eq (congrArg (fun z => Value.pointer (some z)) (show ((ba p3).add (n * 4) : Addr).add 2 = (ba p3).add (n * 4 + 2) by rw [Addr.add_add'])) (e_fieldAddr (a := (ba p3).add (n * 4)) rfl tv63)) ?_
                refine l_val (v := .agg #[Ix (O.x), Ix (O.y)]) rfl rfl rfl (e_load tp7 (cs := [Ix (O.x), Ix (O.y)]) rfl (k_flPart 2 (F := PoF) (o := 2) (us := [Ix (O.x), Ix (O.y)]) rfl hO rfl) rfl) ?_
                refine l_mv rfl rfl rfl (m_alloc tp5) ?_
                rintro _ _ ⟨b27, rfl, rfl⟩
                refine l_mu rfl rfl (m_store 0 tp7 (b := b27) (o := 0) (T := 28) (cs := #[.int .i64 (0), .int .i64 (0)]) (cs' := #[Ix (O.x), Ix (O.y)]) (v := .agg #[Ix (O.x), Ix (O.y)]) rfl rfl rfl rfl rfl rfl rfl) ?_
                refine l_nil ?_
                refine f_then ?_
                refine c_seq ?_
                refine c_quiet (by kernel_rfl) (by kernel_rfl) ?_
                refine q_val (v := .pointer (some ⟨b27, 0, none⟩)) rfl rfl rfl (e_fieldPt (b := b27) (o := 0) rfl tp1) ?_
                refine q_val (v := Ix (O.x)) rfl rfl rfl (e_load1 tp2 (v := Ix (O.x)) rfl (k_pt 0 (cs := #[Ix (O.x), Ix (O.y)]) (vs := [Ix (O.x)]) rfl rfl)) ?_
                refine q_val (v := .pointer (some ⟨(blk (fa18 11)), 0, none⟩)) rfl rfl rfl (e_fieldPt (b := (blk (fa18 11))) (o := 0) rfl tp1) ?_
                refine q_val (v := Ix (C.lx)) rfl rfl rfl (e_load1 tp2 (v := Ix (C.lx)) rfl (k_pt 5 (cs := #[Ix (C.lx), Ix (C.ly)]) (vs := [Ix (C.lx)]) rfl rfl)) ?_
                refine q_val (v := Ix ((O.x) - (C.lx))) rfl rfl rfl (e_sub (a := (O.x)) (b := (C.lx)) rfl rfl (i64w (by omega))) ?_
                refine q_val (v := .pointer (some ⟨(blk (fa18 12)), 0, none⟩)) rfl rfl rfl (e_fieldPt (b := (blk (fa18 12))) (o := 0) rfl tp1) ?_
                refine q_val (v := Ix (C.hx)) rfl rfl rfl (e_load1 tp2 (v := Ix (C.hx)) rfl (k_pt 6 (cs := #[Ix (C.hx), Ix (C.hy)]) (vs := [Ix (C.hx)]) rfl rfl)) ?_
                refine q_val (v := .pointer (some ⟨b27, 0, none⟩)) rfl rfl rfl (e_fieldPt (b := b27) (o := 0) rfl tp1) ?_
                refine q_val (v := Ix (O.x)) rfl rfl rfl (e_load1 tp2 (v := Ix (O.x)) rfl (k_pt 0 (cs := #[Ix (O.x), Ix (O.y)]) (vs := [Ix (O.x)]) rfl rfl)) ?_
                refine q_val (v := Ix ((C.hx) - (O.x))) rfl rfl rfl (e_sub (a := (C.hx)) (b := (O.x)) rfl rfl (i64w (by omega))) ?_
                refine q_val (v := .pointer (some ⟨b27, 1, none⟩)) rfl rfl rfl (e_fieldPt (b := b27) (o := 0) rfl tp4) ?_
                refine q_val (v := Ix (O.y)) rfl rfl rfl (e_load1 tp2 (v := Ix (O.y)) rfl (k_pt 0 (cs := #[Ix (O.x), Ix (O.y)]) (vs := [Ix (O.y)]) rfl rfl)) ?_
                refine q_val (v := .pointer (some ⟨(blk (fa18 11)), 1, none⟩)) rfl rfl rfl (e_fieldPt (b := (blk (fa18 11))) (o := 0) rfl tp4) ?_
                refine q_val (v := Ix (C.ly)) rfl rfl rfl (e_load1 tp2 (v := Ix (C.ly)) rfl (k_pt 5 (cs := #[Ix (C.lx), Ix (C.ly)]) (vs := [Ix (C.ly)]) rfl rfl)) ?_
                refine q_val (v := Ix ((O.y) - (C.ly))) rfl rfl rfl (e_sub (a := (O.y)) (b := (C.ly)) rfl rfl (i64w (by omega))) ?_
                refine q_val (v := .pointer (some ⟨(blk (fa18 12)), 1, none⟩)) rfl rfl rfl (e_fieldPt (b := (blk (fa18 12))) (o := 0) rfl tp4) ?_
                refine q_val (v := Ix (C.hy)) rfl rfl rfl (e_load1 tp2 (v := Ix (C.hy)) rfl (k_pt 6 (cs := #[Ix (C.hx), Ix (C.hy)]) (vs := [Ix (C.hy)]) rfl rfl)) ?_
                refine q_val (v := .pointer (some ⟨b27, 1, none⟩)) rfl rfl rfl (e_fieldPt (b := b27) (o := 0) rfl tp4) ?_
                refine q_val (v := Ix (O.y)) rfl rfl rfl (e_load1 tp2 (v := Ix (O.y)) rfl (k_pt 0 (cs := #[Ix (O.x), Ix (O.y)]) (vs := [Ix (O.y)]) rfl rfl)) ?_
                refine q_val (v := Ix ((C.hy) - (O.y))) rfl rfl rfl (e_sub (a := (C.hy)) (b := (O.y)) rfl rfl (i64w (by omega))) ?_
                refine q_val (v := Ix ((O.x) - (C.lx))) rfl rfl rfl (e_assign) ?_
                refine q_val (v := Ix ((C.hx) - (O.x))) rfl rfl rfl (e_assign) ?_
                refine q_val (v := Ix ((O.y) - (C.ly))) rfl rfl rfl (e_assign) ?_
                refine q_val (v := Ix ((C.hy) - (O.y))) rfl rfl rfl (e_assign) ?_
                refine q_nil ?_
                refine f_then ?_
                refine c_seq ?_
                refine c_seq ?_
                refine c_region ?_
                refine l_val (v := Ix ((O.x) - (C.lx))) rfl rfl rfl (e_move) ?_
                refine l_val (v := .bool (decide (((O.x) - (C.lx)) < (0 : Int)))) rfl rfl rfl (e_lss (a := ((O.x) - (C.lx))) (b := (0 : Int)) rfl rfl) ?_
                refine l_val (v := .bool (decide (((O.x) - (C.lx)) < (0 : Int)))) rfl rfl rfl (e_move) ?_
                refine l_split (s := 158) (p := ((O.x) - (C.lx)) < (0 : Int)) rfl (fun h => ?_) (fun h => ?_)
                exact absurd h (by omega)
                refine g_val (v := Ix ((O.y) - (C.ly))) rfl rfl rfl rfl rfl (e_move) ?_
                refine g_val (v := .bool (decide (((O.y) - (C.ly)) < (0 : Int)))) rfl rfl rfl rfl rfl (e_lss (a := ((O.y) - (C.ly))) (b := (0 : Int)) rfl rfl) ?_
                refine l_val (v := .bool (decide (((O.y) - (C.ly)) < (0 : Int)))) rfl rfl rfl (e_pick_f rfl) ?_
                refine l_val (v := .bool (decide (((O.y) - (C.ly)) < (0 : Int)))) rfl rfl rfl (e_move) ?_
                refine l_split (s := 162) (p := ((O.y) - (C.ly)) < (0 : Int)) rfl (fun h => ?_) (fun h => ?_)
                exact absurd h (by omega)
                refine g_val (v := Ix ((C.hx) - (O.x))) rfl rfl rfl rfl rfl (e_move) ?_
                refine g_val (v := Ix ((O.x) - (C.lx))) rfl rfl rfl rfl rfl (e_move) ?_
                refine g_val (v := Ix (((C.hx) - (O.x)) - ((O.x) - (C.lx)))) rfl rfl rfl rfl rfl (e_sub (a := ((C.hx) - (O.x))) (b := ((O.x) - (C.lx))) rfl rfl (i64w (by omega))) ?_
                refine g_val (v := .bool (decide ((((C.hx) - (O.x)) - ((O.x) - (C.lx))) < (0 : Int)))) rfl rfl rfl rfl rfl (e_lss (a := (((C.hx) - (O.x)) - ((O.x) - (C.lx)))) (b := (0 : Int)) rfl rfl) ?_
                refine l_val (v := .bool (decide ((((C.hx) - (O.x)) - ((O.x) - (C.lx))) < (0 : Int)))) rfl rfl rfl (e_pick_f rfl) ?_
                refine l_val (v := .bool (decide ((((C.hx) - (O.x)) - ((O.x) - (C.lx))) < (0 : Int)))) rfl rfl rfl (e_move) ?_
                refine l_split (s := 168) (p := (((C.hx) - (O.x)) - ((O.x) - (C.lx))) < (0 : Int)) rfl (fun h => ?_) (fun h => ?_)
                exact absurd h (by omega)
                refine g_val (v := Ix ((C.hx) - (O.x))) rfl rfl rfl rfl rfl (e_move) ?_
                refine g_val (v := Ix ((O.x) - (C.lx))) rfl rfl rfl rfl rfl (e_move) ?_
                refine g_val (v := Ix (((C.hx) - (O.x)) - ((O.x) - (C.lx)))) rfl rfl rfl rfl rfl (e_sub (a := ((C.hx) - (O.x))) (b := ((O.x) - (C.lx))) rfl rfl (i64w (by omega))) ?_
                refine g_val (v := .bool (decide ((1 : Int) < (((C.hx) - (O.x)) - ((O.x) - (C.lx)))))) rfl rfl rfl rfl rfl (e_gtr (a := (((C.hx) - (O.x)) - ((O.x) - (C.lx)))) (b := (1 : Int)) rfl rfl) ?_
                refine l_val (v := .bool (decide ((1 : Int) < (((C.hx) - (O.x)) - ((O.x) - (C.lx)))))) rfl rfl rfl (e_pick_f rfl) ?_
                refine l_val (v := .bool (decide ((1 : Int) < (((C.hx) - (O.x)) - ((O.x) - (C.lx)))))) rfl rfl rfl (e_move) ?_
                refine l_split (s := 174) (p := (1 : Int) < (((C.hx) - (O.x)) - ((O.x) - (C.lx)))) rfl (fun h => ?_) (fun h => ?_)
                exact absurd h (by omega)
                refine g_val (v := Ix ((C.hy) - (O.y))) rfl rfl rfl rfl rfl (e_move) ?_
                refine g_val (v := Ix ((O.y) - (C.ly))) rfl rfl rfl rfl rfl (e_move) ?_
                refine g_val (v := Ix (((C.hy) - (O.y)) - ((O.y) - (C.ly)))) rfl rfl rfl rfl rfl (e_sub (a := ((C.hy) - (O.y))) (b := ((O.y) - (C.ly))) rfl rfl (i64w (by omega))) ?_
                refine g_val (v := .bool (decide ((((C.hy) - (O.y)) - ((O.y) - (C.ly))) < (0 : Int)))) rfl rfl rfl rfl rfl (e_lss (a := (((C.hy) - (O.y)) - ((O.y) - (C.ly)))) (b := (0 : Int)) rfl rfl) ?_
                refine l_val (v := .bool (decide ((((C.hy) - (O.y)) - ((O.y) - (C.ly))) < (0 : Int)))) rfl rfl rfl (e_pick_f rfl) ?_
                refine l_val (v := .bool (decide ((((C.hy) - (O.y)) - ((O.y) - (C.ly))) < (0 : Int)))) rfl rfl rfl (e_move) ?_
                refine l_split (s := 180) (p := (((C.hy) - (O.y)) - ((O.y) - (C.ly))) < (0 : Int)) rfl (fun h => ?_) (fun h => ?_)
                exact absurd h (by omega)
                refine g_val (v := Ix ((C.hy) - (O.y))) rfl rfl rfl rfl rfl (e_move) ?_
                refine g_val (v := Ix ((O.y) - (C.ly))) rfl rfl rfl rfl rfl (e_move) ?_
                refine g_val (v := Ix (((C.hy) - (O.y)) - ((O.y) - (C.ly)))) rfl rfl rfl rfl rfl (e_sub (a := ((C.hy) - (O.y))) (b := ((O.y) - (C.ly))) rfl rfl (i64w (by omega))) ?_
                refine g_val (v := .bool (decide ((1 : Int) < (((C.hy) - (O.y)) - ((O.y) - (C.ly)))))) rfl rfl rfl rfl rfl (e_gtr (a := (((C.hy) - (O.y)) - ((O.y) - (C.ly)))) (b := (1 : Int)) rfl rfl) ?_
                refine l_val (v := .bool (decide ((1 : Int) < (((C.hy) - (O.y)) - ((O.y) - (C.ly)))))) rfl rfl rfl (e_pick_f rfl) ?_
                refine l_nil ?_
                refine f_then ?_
                refine c_if ((1 : Int) < (((C.hy) - (O.y)) - ((O.y) - (C.ly)))) rfl (fun hc28 => ?_) (fun hc28 => ?_)
                ·
                  exact absurd hc28 (by omega)
                ·
                  refine c_skip ?_
                  refine f_then ?_
                  refine c_region ?_
                  refine l_val (v := Nx (n)) rfl rfl rfl (e_move) ?_
                  refine l_val (v := Nx (n + 1)) rfl rfl rfl (e_add (a := ((n : Nat) : Int)) (b := (1 : Int)) rfl rfl (i64n (by omega) (by omega))) ?_
                  refine l_val (v := Nx (n + 1)) rfl rfl rfl (e_assign) ?_
                  refine l_nil ?_
                  refine f_block ?_
                  refine f_then ?_
                  refine c_region ?_
                  refine l_val (v := Nx (k)) rfl rfl rfl (e_move) ?_
                  refine l_val (v := Nx (k + 1)) rfl rfl rfl (e_add (a := ((k : Nat) : Int)) (b := (1 : Int)) rfl rfl (i64n (by omega) (by omega))) ?_
                  refine l_val (v := Nx (k + 1)) rfl rfl rfl (e_assign) ?_
                  refine l_nil ?_
                  refine f_mask (L' := [pt b9 (.cells (aC x7) 43), rowF PoF 46 p3 c4 (portL l), rowF AreaF 43 p1 c2 l]) [false, false, true, true, true, false, false] rfl ?_
                  exact f_cut ⟨(k + 1, n + 1), ⟨⟨rfl, rfl, rfl, rfl, rfl, rfl, rfl, rfl, rfl⟩, rfl, ⟨by omega, by omega, hn1⟩⟩, (show l.length - (k + 1) < l.length - k from by omega)⟩
      ·
        refine c_exit ?_
        refine f_then_exit ?_
        refine f_then_exit ?_
        refine f_exit ?_
        refine f_block ?_
        refine f_then ?_
        refine c_region ?_
        refine l_val (v := Nx (i + 1)) rfl rfl rfl (e_add (a := ((i : Nat) : Int)) (b := (1 : Int)) rfl rfl (i64n (by omega) (by omega))) ?_
        refine l_val (v := Nx (i + 1)) rfl rfl rfl (e_move) ?_
        refine l_nil ?_
        refine f_mask (L' := [rowF PoF 46 p3 c4 (portL l), rowF AreaF 43 p1 c2 l]) [false, true, true] rfl ?_
        exact f_cut ⟨(i + 1, n), ⟨⟨rfl, rfl, rfl, rfl, rfl, rfl⟩, rfl, ⟨by omega, by rw [hn, show k = l.length by omega]; exact posQ_row l i⟩⟩, (show l.length - (i + 1) < l.length - i from by omega)⟩
    ·
      refine c_exit ?_
      refine f_then_exit ?_
      refine f_then_exit ?_
      refine f_exit ?_
      refine f_then ?_
      refine c_seq ?_
      refine c_region ?_
      refine l_val (v := Nx (n)) rfl rfl rfl (e_move) ?_
      refine l_val (v := .slice p3 ((portL l).length) c4) rfl rfl rfl (e_move) ?_
      refine l_val (v := Nx ((portL l).length)) rfl rfl rfl (e_len (a := p3) (n := (portL l).length) (c := c4) rfl tv61) ?_
      refine l_val (v := .bool (decide (((n : Nat) : Int) = (((portL l).length : Nat) : Int)))) rfl rfl rfl (e_eql (a := ((n : Nat) : Int)) (b := (((portL l).length : Nat) : Int)) rfl rfl) ?_
      refine l_val (v := .bool (decide (((n : Nat) : Int) = (((portL l).length : Nat) : Int)))) rfl rfl rfl (e_assign) ?_
      refine l_nil ?_
      refine f_then ?_
      refine c_ret ?_
      refine ret1 Try.results4 (v := .bool (decide (((n : Nat) : Int) = (((portL l).length : Nat) : Int)))) rfl ?_
      intro w hw
      exact ⟨congrArg (fun b : Bool => Ending.returned (.bool b)) (decide_eq_true (by rw [hn, show i = l.length by omega, posQ_end])), st_mask [false, false] rfl hw⟩
end Go.Proofs
