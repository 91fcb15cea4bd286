/-
  Own work; plain Lean (DgSmall).
-/
import Derived.Test.YtbfidhbcojbklaaGreatDgSmallL
namespace Go.Proofs
open Go Go.Sl
theorem tf234 : cfB Tryz.prog 13 = true := by kernel_rfl
theorem tf235 : cfB Tryz.prog 3 = true := by kernel_rfl
set_option maxHeartbeats 4000000 in
theorem small_ok (β : Base) (w : World) (hw : St β [] w) : Calls Tryz.prog 4 #[] w fun r w' => r = .returned (.bool true) ∧ St β [] w' := by
  refine enter (n := 103) Tryz.func4 rfl Tryz.ntmps4 rfl ?_ hw
  refine c_seq ?_
  refine c_region ?_
  refine l_val (v := .bool false) rfl rfl rfl (e_assign) ?_
  refine l_nil ?_
  refine f_then ?_
  refine c_seq ?_
  refine c_region ?_
  refine l_mv rfl rfl rfl (m_slices tf39 tf52 (vs := [(0, .int .i64 (-9223372036854775808)), (1, .int .i64 (-1)), (2, .int .i64 (0)), (3, .int .i64 (1)), (4, .int .i64 (255)), (5, .int .i64 (256)), (6, .int .i64 (9223372036854775807))]) (cells := #[.int .i64 (-9223372036854775808), .int .i64 (-1), .int .i64 (0), .int .i64 (1), .int .i64 (255), .int .i64 (256), .int .i64 (9223372036854775807)]) rfl rfl rfl rfl) ?_
  rintro _ _ ⟨b1, rfl, rfl⟩
  refine l_val (v := .slice (some ⟨b1, 0, none⟩) 7 7) rfl rfl rfl (e_assign) ?_
  refine l_nil ?_
  refine f_then ?_
  refine c_seq ?_
  refine c_freeze (M := []) (K := [pt b1 (.cells #[.int .i64 (-9223372036854775808), .int .i64 (-1), .int .i64 (0), .int .i64 (1), .int .i64 (255), .int .i64 (256), .int .i64 (9223372036854775807)] 3)]) rfl (fun β₁ ext₁ kn₁ => ?_)
  have hE : Sl IntR β₁.heap (.slice (some ⟨b1, 0, none⟩) 7 7) endsK := kn₁ _ (Knows.of_res 0 rfl (fun _ _ hs h => Sl.mono IntR _ _ _ _ hs h) fun _ h => pt_slI (n := 7) (xs := endsK) h rfl rfl)
  obtain ⟨El, Em, Ee⟩ := sl_parts hE
  have hEl : endsK.length = 7 := rfl
  refine c_emp (r := gb β₁ [] []) (gb_nil _) ?_
  refine c_emp (r := row (.slice none 0 0) 35 2 0 []) (row_nil _ _ _) ?_
  refine c_region ?_
  refine l_val (v := .slice none 0 0) rfl rfl rfl (e_assign) ?_
  refine l_nil ?_
  refine f_then ?_
  refine c_seq ?_
  refine c_seq ?_
  refine c_region ?_
  refine l_val (v := .slice (some ⟨b1, 0, none⟩) (7) (7)) rfl rfl rfl (e_move) ?_
  refine l_val (v := Nx (7)) rfl rfl rfl (e_len (a := (some ⟨b1, 0, none⟩)) (n := 7) (c := 7) rfl tf38) ?_
  refine l_val (v := .int .i64 (0)) rfl rfl rfl (e_move) ?_
  refine l_nil ?_
  refine f_then ?_
  refine c_block ?_
  refine c_mask [true, true] rfl ?_
  refine c_loop (fun (x_ : Nat × Option Addr × Nat × List Value × List KEnt) (f : Fm) (L : List Res) => match x_ with | (i, lp0, lc0, us0, es0) => (f 1 = .slice (some ⟨b1, 0, none⟩) (7) (7) ∧ f 2 = .slice lp0 (es0.length) lc0 ∧ f 12 = .slice (some ⟨b1, 0, none⟩) (7) (7) ∧ f 13 = Nx (7) ∧ f 14 = Nx (i)) ∧ L = [row (.slice lp0 (es0.length) lc0) 35 2 (es0.length) ((entCells us0 es0)), gb β₁ us0 es0] ∧ (i ≤ 7 ∧ us0.length = es0.length ∧ es0.length = 7 * i ∧ small es0)) (fun (x_ : Nat × Option Addr × Nat × List Value × List KEnt) => match x_ with | (i, lp0, lc0, us0, es0) => 7 - i) (0, none, 0, [], []) ?_ ?_
  · exact ⟨⟨rfl, rfl, rfl, rfl, rfl⟩, (by simp [mask, entCells]), ⟨by omega, rfl, rfl, small_nil⟩⟩
  rintro ⟨i, lp0, lc0, us0, es0⟩ f0 L0 ⟨⟨hs1, hs2, hs12, hs13, hs14⟩, hL, ⟨hi, hu0, hn0, hsm0⟩⟩
  subst L0
  refine rebase (d := 1) hs1 ?_
  refine rebase (d := 2) hs2 ?_
  refine rebase (d := 12) hs12 ?_
  refine rebase (d := 13) hs13 ?_
  refine rebase (d := 14) hs14 ?_
  clear hs1 hs2 hs12 hs13 hs14
  refine c_seq ?_
  refine c_region ?_
  refine l_val (v := .bool (decide (((i : Nat) : Int) < ((7 : Nat) : Int)))) rfl rfl rfl (e_lss (a := ((i : Nat) : Int)) (b := ((7 : Nat) : Int)) rfl rfl) ?_
  refine l_nil ?_
  refine f_then ?_
  refine c_seq ?_
  refine c_if (((i : Nat) : Int) < ((7 : Nat) : Int)) rfl (fun hc2 => ?_) (fun hc2 => ?_)
  ·
    refine c_skip ?_
    refine f_then ?_
    refine c_seq ?_
    refine c_block ?_
    refine c_seq ?_
    refine c_region ?_
    refine l_val (v := Nx (i)) rfl rfl rfl (e_move) ?_
    obtain ⟨x3, hx4⟩ : ∃ x_, (endsK)[i]? = some x_ := ⟨_, List.getElem?_eq_getElem (by omega)⟩
    obtain ⟨ha5, cs6, hc7, rfl⟩ := Ee _ _ hx4
    refine l_val (v := .pointer (some ((ba (some ⟨b1, 0, none⟩)).add (i * 1)))) rfl rfl rfl (e_indexAddr (k := i) (len := 7) (cap := 7) (a := (some ⟨b1, 0, none⟩)) rfl rfl tf39 (by omega) ha5) ?_
    refine l_val (v := Ix (x3)) rfl rfl rfl (e_load1 tf10 (v := Ix (x3)) rfl (Knows.of_base (Cs.mono _ _) hc7)) ?_
    refine l_val (v := Nx (i)) rfl rfl rfl (e_assign) ?_
    refine l_val (v := Ix (x3)) rfl rfl rfl (e_assign) ?_
    refine l_nil ?_
    refine f_then ?_
    refine c_seq ?_
    refine c_region ?_
    refine l_val (v := .slice (some ⟨b1, 0, none⟩) (7) (7)) rfl rfl rfl (e_move) ?_
    refine l_val (v := Nx (7)) rfl rfl rfl (e_len (a := (some ⟨b1, 0, none⟩)) (n := 7) (c := 7) rfl tf38) ?_
    refine l_val (v := .int .i64 (0)) rfl rfl rfl (e_move) ?_
    refine l_nil ?_
    refine f_then ?_
    refine c_block ?_
    refine c_mask [true, true] rfl ?_
    refine c_loop (fun (x_ : Nat × Option Addr × Nat × List Value × List KEnt) (f : Fm) (L : List Res) => match x_ with | (k, lp, lc, us, es) => (f 1 = .slice (some ⟨b1, 0, none⟩) (7) (7) ∧ f 2 = .slice lp (es.length) lc ∧ f 3 = Nx (i) ∧ f 4 = Ix (x3) ∧ f 12 = .slice (some ⟨b1, 0, none⟩) (7) (7) ∧ f 13 = Nx (7) ∧ f 14 = Nx (i) ∧ f 19 = .slice (some ⟨b1, 0, none⟩) (7) (7) ∧ f 20 = Nx (7) ∧ f 21 = Nx (k)) ∧ L = [row (.slice lp (es.length) lc) 35 2 (es.length) ((entCells us es)), gb β₁ us es] ∧ (k ≤ 7 ∧ us.length = es.length ∧ es.length = 7 * i + k ∧ small es)) (fun (x_ : Nat × Option Addr × Nat × List Value × List KEnt) => match x_ with | (k, lp, lc, us, es) => 7 - k) (0, lp0, lc0, us0, es0) ?_ ?_
    · exact ⟨⟨rfl, rfl, rfl, rfl, rfl, rfl, rfl, rfl, rfl, rfl⟩, rfl, ⟨by omega, hu0, by omega, hsm0⟩⟩
    rintro ⟨k, lp, lc, us, es⟩ f0 L0 ⟨⟨hs1, hs2, hs3, hs4, hs12, hs13, hs14, hs19, hs20, hs21⟩, hL, ⟨hk, hu1, hn1, hsm1⟩⟩
    subst L0
    refine rebase (d := 1) hs1 ?_
    refine rebase (d := 2) hs2 ?_
    refine rebase (d := 3) hs3 ?_
    refine rebase (d := 4) hs4 ?_
    refine rebase (d := 12) hs12 ?_
    refine rebase (d := 13) hs13 ?_
    refine rebase (d := 14) hs14 ?_
    refine rebase (d := 19) hs19 ?_
    refine rebase (d := 20) hs20 ?_
    refine rebase (d := 21) hs21 ?_
    clear hs1 hs2 hs3 hs4 hs12 hs13 hs14 hs19 hs20 hs21
    refine c_seq ?_
    refine c_region ?_
    refine l_val (v := .bool (decide (((k : Nat) : Int) < ((7 : Nat) : Int)))) rfl rfl rfl (e_lss (a := ((k : Nat) : Int)) (b := ((7 : Nat) : Int)) rfl rfl) ?_
    refine l_nil ?_
    refine f_then ?_
    refine c_seq ?_
    refine c_if (((k : Nat) : Int) < ((7 : Nat) : Int)) rfl (fun hc9 => ?_) (fun hc9 => ?_)
    ·
      refine c_skip ?_
      refine f_then ?_
      refine c_seq ?_
      refine c_block ?_
      refine c_seq ?_
      refine c_region ?_
      refine l_val (v := Nx (k)) rfl rfl rfl (e_move) ?_
      obtain ⟨x10, hx11⟩ : ∃ x_, (endsK)[k]? = some x_ := ⟨_, List.getElem?_eq_getElem (by omega)⟩
      obtain ⟨ha12, cs13, hc14, rfl⟩ := Ee _ _ hx11
      refine l_val (v := .pointer (some ((ba (some ⟨b1, 0, none⟩)).add (k * 1)))) rfl rfl rfl (e_indexAddr (k := k) (len := 7) (cap := 7) (a := (some ⟨b1, 0, none⟩)) rfl rfl tf39 (by omega) ha12) ?_
      refine l_val (v := Ix (x10)) rfl rfl rfl (e_load1 tf10 (v := Ix (x10)) rfl (Knows.of_base (Cs.mono _ _) hc14)) ?_
      refine l_val (v := Nx (k)) rfl rfl rfl (e_assign) ?_
      refine l_val (v := Ix (x10)) rfl rfl rfl (e_assign) ?_
      refine l_nil ?_
      refine f_then ?_
      refine c_seq ?_
      refine c_region ?_
      refine l_val (v := Ix (x3)) rfl rfl rfl (e_move) ?_
      refine l_val (v := .agg #[Ix (x3), .slice none 0 0]) rfl rfl rfl (e_build tf33 tf37 (vs := [(0, Ix (x3))]) (cells := #[Ix (x3), .slice none 0 0]) rfl rfl) ?_
      refine l_mv rfl rfl rfl (m_alloc tf33) ?_
      rintro _ _ ⟨b16, rfl, rfl⟩
      refine l_mu rfl rfl (m_store 0 tf24 (b := b16) (o := 0) (T := 35) (cs := #[.int .i64 (0), .slice none 0 0]) (cs' := #[Ix (x3), .slice none 0 0]) (v := .agg #[Ix (x3), .slice none 0 0]) rfl rfl rfl rfl rfl rfl rfl) ?_
      refine l_nil ?_
      refine f_then ?_
      refine c_seq ?_
      refine c_seq ?_
      refine c_emp (r := row (.slice none 0 0) 38 5 0 []) (row_nil _ _ _) ?_
      refine c_region ?_
      refine l_val (v := Nx (i)) rfl rfl rfl (e_move) ?_
      refine l_val (v := Nx (k)) rfl rfl rfl (e_move) ?_
      refine l_val (v := Nx (i + k)) rfl rfl rfl (e_add (a := ((i : Nat) : Int)) (b := ((k : Nat) : Int)) rfl rfl (i64n (by omega) (by omega))) ?_
      refine l_val (v := Nx ((i + k) % 4)) rfl rfl rfl (e_rem (a := ((i + k : Nat) : Int)) (b := (4 : Int)) rfl rfl (by decide) (nat_tmod _ 4)) ?_
      refine l_val (v := .int .i64 (0)) rfl rfl rfl (e_move) ?_
      refine l_nil ?_
      refine f_then ?_
      refine c_block ?_
      refine c_loop (fun (x_ : Nat × Option Addr × Nat × List KComp) (f : Fm) (L : List Res) => match x_ with | (q, cp, cc, cs) => (f 1 = .slice (some ⟨b1, 0, none⟩) (7) (7) ∧ f 2 = .slice lp (es.length) lc ∧ f 3 = Nx (i) ∧ f 4 = Ix (x3) ∧ f 5 = Nx (k) ∧ f 6 = Ix (x10) ∧ f 7 = .pointer (some ⟨b16, 0, none⟩) ∧ f 12 = .slice (some ⟨b1, 0, none⟩) (7) (7) ∧ f 13 = Nx (7) ∧ f 14 = Nx (i) ∧ f 19 = .slice (some ⟨b1, 0, none⟩) (7) (7) ∧ f 20 = Nx (7) ∧ f 21 = Nx (k) ∧ f 31 = Nx ((i + k) % 4) ∧ f 32 = Nx (q)) ∧ L = [row (.slice cp (cs.length) cc) 38 5 (cs.length) ((cs.flatMap compE)), pt b16 (.cells #[Ix (x3), .slice cp (cs.length) cc] 35), row (.slice lp (es.length) lc) 35 2 (es.length) ((entCells us es)), gb β₁ us es] ∧ (q ≤ (i + k) % 4 ∧ cs.length = q)) (fun (x_ : Nat × Option Addr × Nat × List KComp) => match x_ with | (q, cp, cc, cs) => (i + k) % 4 - q) (0, none, 0, []) ?_ ?_
      · exact ⟨⟨rfl, rfl, rfl, rfl, rfl, rfl, rfl, rfl, rfl, rfl, rfl, rfl, rfl, rfl, rfl⟩, rfl, ⟨by omega, rfl⟩⟩
      rintro ⟨q, cp, cc, cs⟩ f0 L0 ⟨⟨hs1, hs2, hs3, hs4, hs5, hs6, hs7, hs12, hs13, hs14, hs19, hs20, hs21, hs31, hs32⟩, hL, ⟨hq, hcs⟩⟩
      subst L0
      refine rebase (d := 1) hs1 ?_
      refine rebase (d := 2) hs2 ?_
      refine rebase (d := 3) hs3 ?_
      refine rebase (d := 4) hs4 ?_
      refine rebase (d := 5) hs5 ?_
      refine rebase (d := 6) hs6 ?_
      refine rebase (d := 7) hs7 ?_
      refine rebase (d := 12) hs12 ?_
      refine rebase (d := 13) hs13 ?_
      refine rebase (d := 14) hs14 ?_
      refine rebase (d := 19) hs19 ?_
      refine rebase (d := 20) hs20 ?_
      refine rebase (d := 21) hs21 ?_
      refine rebase (d := 31) hs31 ?_
      refine rebase (d := 32) hs32 ?_
      clear hs1 hs2 hs3 hs4 hs5 hs6 hs7 hs12 hs13 hs14 hs19 hs20 hs21 hs31 hs32
      have hq4 : (i + k) % 4 ≤ 3 := by omega
      refine c_seq ?_
      refine c_region ?_
      refine l_val (v := .bool (decide (((q : Nat) : Int) < (((i + k) % 4 : Nat) : Int)))) rfl rfl rfl (e_lss (a := ((q : Nat) : Int)) (b := (((i + k) % 4 : Nat) : Int)) rfl rfl) ?_
      refine l_nil ?_
      refine f_then ?_
      refine c_seq ?_
      refine c_if (((q : Nat) : Int) < (((i + k) % 4 : Nat) : Int)) rfl (fun hc17 => ?_) (fun hc17 => ?_)
      ·
        refine c_skip ?_
        refine f_then ?_
        refine c_seq ?_
        refine c_block ?_
        refine c_seq ?_
        refine c_region ?_
        refine l_val (v := Nx (q)) rfl rfl rfl (e_move) ?_
        refine l_val (v := Nx (q)) rfl rfl rfl (e_assign) ?_
        refine l_nil ?_
        refine f_then ?_
        obtain ⟨x18, hx19⟩ : ∃ x_, (endsK)[q]? = some x_ := ⟨_, List.getElem?_eq_getElem (by omega)⟩
        obtain ⟨ha20, cs21, hc22, rfl⟩ := Ee _ _ hx19
        refine c_any [⟨[], [], [0], [35], fun f => f 35 = .pointer (some ⟨b16, 1, none⟩)⟩, ⟨[0], [0], [], [36], fun f => f 36 = .slice cp (cs.length) cc⟩, ⟨[], [], [1], [37], fun f => f 37 = Nx (q)⟩, ⟨[2], [2], [], [38], fun f => f 38 = Nx (q * 85)⟩, ⟨[2, 3], [3], [], [39], fun f => f 39 = Bx ((U ((q * 85 : Nat) : Int)).toUInt8)⟩, ⟨[], [], [2], [40], fun f => f 40 = Ix (x10)⟩, ⟨[], [], [3], [41], fun f => f 41 = .slice (some ⟨b1, 0, none⟩) (7) (7)⟩, ⟨[], [], [1], [42], fun f => f 42 = Nx (q)⟩, ⟨[6, 7], [6, 7], [], [43], fun f => f 43 = .pointer (some ((ba (some ⟨b1, 0, none⟩)).add (q * 1)))⟩, ⟨[6, 7, 8], [8], [], [44], fun f => f 44 = Ix (x18)⟩, ⟨[], [], [1], [45], fun f => f 45 = Nx (q)⟩, ⟨[], [], [4], [46], fun f => f 46 = Ix (x3)⟩, ⟨[5, 6, 7, 8, 9, 10, 11], [5, 9, 10, 11], [], [47], fun f => f 47 = .agg #[Ix (x10), Ix (x18), Nx (q), Ix (x3)]⟩, ⟨[2, 3, 4, 5, 6, 7, 8, 9, 10, 11, 12], [4, 12], [], [48], fun f => f 48 = .agg #[Bx ((U ((q * 85 : Nat) : Int)).toUInt8), Ix (x10), Ix (x18), Nx (q), Ix (x3)]⟩, ⟨[2, 3, 4, 5, 6, 7, 8, 9, 10, 11, 12, 13], [13], [], [49], fun f => f 49 = .slice (some ⟨(blk (f 49)), 0, none⟩) 1 1⟩, ⟨[0, 1, 2, 3, 4, 5, 6, 7, 8, 9, 10, 11, 12, 13, 14], [1, 14], [], [50], fun f => f 50 = .slice (sla (f 50)) (cs.length + 1) (slc (f 50))⟩, ⟨[0, 1, 2, 3, 4, 5, 6, 7, 8, 9, 10, 11, 12, 13, 14, 15], [], [0], [51], fun f => f 51 = .pointer (some ⟨b16, 1, none⟩)⟩, ⟨[0, 1, 2, 3, 4, 5, 6, 7, 8, 9, 10, 11, 12, 13, 14, 15, 16], [16, 15], [], [], fun _ => True⟩] [⟨none, (some 15), [15], [], fun _ => row (.slice cp (cs.length) cc) 38 5 (cs.length) ((cs.flatMap compE))⟩, ⟨none, (some 17), [1, 17], [], fun _ => pt b16 (.cells #[Ix (x3), .slice cp (cs.length) cc] 35)⟩, ⟨none, none, [], [], fun _ => row (.slice lp (es.length) lc) 35 2 (es.length) ((entCells us es))⟩, ⟨none, none, [], [], fun _ => gb β₁ us es⟩, ⟨(some 14), none, [15], [49], fun f => pt (blk (f 49)) (.cells #[Bx ((U ((q * 85 : Nat) : Int)).toUInt8), Ix (x10), Ix (x18), Nx (q), Ix (x3)] 38)⟩, ⟨(some 15), none, [], [50], fun f => row (.slice (sla (f 50)) (cs.length + 1) (slc (f 50))) 38 5 (cs.length + 1) ((cs.flatMap compE) ++ [Bx ((U ((q * 85 : Nat) : Int)).toUInt8), Ix (x10), Ix (x18), Nx (q), Ix (x3)])⟩, ⟨(some 17), none, [], [50], fun f => pt b16 (.cells #[Ix (x3), .slice (sla (f 50)) (cs.length + 1) (slc (f 50))] 35)⟩] [(7, .pointer (some ⟨b16, 0, none⟩)), (8, Nx (q)), (6, Ix (x10)), (1, .slice (some ⟨b1, 0, none⟩) (7) (7)), (4, Ix (x3)), (2, .slice lp (es.length) lc), (3, Nx (i)), (5, Nx (k)), (12, .slice (some ⟨b1, 0, none⟩) (7) (7)), (13, Nx (7)), (14, Nx (i)), (19, .slice (some ⟨b1, 0, none⟩) (7) (7)), (20, Nx (7)), (21, Nx (k)), (31, Nx ((i + k) % 4)), (32, Nx (q))] [3, 5, 6, 4, 7, 2, 0, 8, 9, 10, 11, 12, 13, 14, 15] [] (by kernel_rfl) (by kernel_rfl) (by kernel_rfl) (by kernel_rfl) rfl ⟨rfl, rfl, rfl, rfl, rfl, rfl, rfl, rfl, rfl, rfl, rfl, rfl, rfl, rfl, rfl, rfl, trivial⟩ ⟨?_, ?_, ?_, ?_, ?_, ?_, ?_, ?_, ?_, ?_, ?_, ?_, ?_, ?_, ?_, ?_, ?_, ?_, trivial⟩ ?_
        · rintro f M - ⟨i0, -⟩
          have hs7 : f 7 = .pointer (some ⟨b16, 0, none⟩) := i0
          refine ob_start (L' := M) (by rfl) (up_cons rfl hs7) ?_
          refine l_val (v := .pointer (some ⟨b16, 1, none⟩)) rfl rfl rfl (e_fieldPt (b := b16) (o := 0) rfl tf11) ?_
          refine l_nil ?_
          exact f_owes_d (up_cons rfl hs7) rfl (List.Perm.refl _)
        · rintro f M ⟨k0, -⟩ -
          have hs35 : f 35 = .pointer (some ⟨b16, 1, none⟩) := k0
          refine ob_start (L' := pt b16 (.cells #[Ix (x3), .slice cp (cs.length) cc] 35) :: M) (by rfl) (up_cons rfl hs35) ?_
          refine l_val (v := .slice cp (cs.length) cc) rfl rfl rfl (e_load1 tf12 (v := .slice cp (cs.length) cc) rfl (k_pt 0 (cs := #[Ix (x3), .slice cp (cs.length) cc]) (vs := [.slice cp (cs.length) cc]) rfl rfl)) ?_
          refine l_nil ?_
          exact f_owes_d (up_cons rfl hs35) rfl (perm_front 0 rfl)
        · rintro f M - ⟨i0, -⟩
          have hs8 : f 8 = Nx (q) := i0
          refine ob_start (L' := M) (by rfl) (up_cons rfl hs8) ?_
          refine l_val (v := Nx (q)) rfl rfl rfl (e_move) ?_
          refine l_nil ?_
          exact f_owes_d (up_cons rfl hs8) rfl (List.Perm.refl _)
        · rintro f M ⟨k0, -⟩ -
          have hs37 : f 37 = Nx (q) := k0
          refine ob_start (L' := M) (by rfl) (up_cons rfl hs37) ?_
          refine l_val (v := Nx (q * 85)) rfl rfl rfl (e_mul (a := ((q : Nat) : Int)) (b := (85 : Int)) rfl rfl (i64n (by omega) (by omega))) ?_
          refine l_nil ?_
          exact f_owes_d (up_cons rfl hs37) rfl (List.Perm.refl _)
        · rintro f M ⟨k0, -⟩ -
          have hs38 : f 38 = Nx (q * 85) := k0
          refine ob_start (L' := M) (by rfl) (up_cons rfl hs38) ?_
          refine l_val (v := Bx ((U ((q * 85 : Nat) : Int)).toUInt8)) rfl rfl rfl (e_conv (a := ((q * 85 : Nat) : Int)) rfl ⟨_, tf1⟩ tf8 (u8_of _)) ?_
          refine l_nil ?_
          exact f_owes_d (up_cons rfl hs38) rfl (List.Perm.refl _)
        · rintro f M - ⟨i0, -⟩
          have hs6 : f 6 = Ix (x10) := i0
          refine ob_start (L' := M) (by rfl) (up_cons rfl hs6) ?_
          refine l_val (v := Ix (x10)) rfl rfl rfl (e_move) ?_
          refine l_nil ?_
          exact f_owes_d (up_cons rfl hs6) rfl (List.Perm.refl _)
        · rintro f M - ⟨i0, -⟩
          have hs1 : f 1 = .slice (some ⟨b1, 0, none⟩) (7) (7) := i0
          refine ob_start (L' := M) (by rfl) (up_cons rfl hs1) ?_
          refine l_val (v := .slice (some ⟨b1, 0, none⟩) (7) (7)) rfl rfl rfl (e_move) ?_
          refine l_nil ?_
          exact f_owes_d (up_cons rfl hs1) rfl (List.Perm.refl _)
        · rintro f M - ⟨i0, -⟩
          have hs8 : f 8 = Nx (q) := i0
          refine ob_start (L' := M) (by rfl) (up_cons rfl hs8) ?_
          refine l_val (v := Nx (q)) rfl rfl rfl (e_move) ?_
          refine l_nil ?_
          exact f_owes_d (up_cons rfl hs8) rfl (List.Perm.refl _)
        · rintro f M ⟨k0, k1, -⟩ -
          have hs41 : f 41 = .slice (some ⟨b1, 0, none⟩) (7) (7) := k0
          have hs42 : f 42 = Nx (q) := k1
          refine ob_start (L' := M) (by rfl) (up_cons (up_cons rfl hs41) hs42) ?_
          refine l_val (v := .pointer (some ((ba (some ⟨b1, 0, none⟩)).add (q * 1)))) rfl rfl rfl (e_indexAddr (k := q) (len := 7) (cap := 7) (a := (some ⟨b1, 0, none⟩)) rfl rfl tf39 (by omega) ha20) ?_
          refine l_nil ?_
          exact f_owes_d (up_cons (up_cons rfl hs41) hs42) rfl (List.Perm.refl _)
        · rintro f M ⟨k0, -⟩ -
          have hs43 : f 43 = .pointer (some ((ba (some ⟨b1, 0, none⟩)).add (q * 1))) := k0
          refine ob_start (L' := M) (by rfl) (up_cons rfl hs43) ?_
          refine l_val (v := Ix (x18)) rfl rfl rfl (e_load1 tf10 (v := Ix (x18)) rfl (Knows.of_base (Cs.mono _ _) hc22)) ?_
          refine l_nil ?_
          exact f_owes_d (up_cons rfl hs43) rfl (List.Perm.refl _)
        · rintro f M - ⟨i0, -⟩
          have hs8 : f 8 = Nx (q) := i0
          refine ob_start (L' := M) (by rfl) (up_cons rfl hs8) ?_
          refine l_val (v := Nx (q)) rfl rfl rfl (e_move) ?_
          refine l_nil ?_
          exact f_owes_d (up_cons rfl hs8) rfl (List.Perm.refl _)
        · rintro f M - ⟨i0, -⟩
          have hs4 : f 4 = Ix (x3) := i0
          refine ob_start (L' := M) (by rfl) (up_cons rfl hs4) ?_
          refine l_val (v := Ix (x3)) rfl rfl rfl (e_move) ?_
          refine l_nil ?_
          exact f_owes_d (up_cons rfl hs4) rfl (List.Perm.refl _)
        · rintro f M ⟨k0, k1, k2, k3, -⟩ -
          have hs40 : f 40 = Ix (x10) := k0
          have hs44 : f 44 = Ix (x18) := k1
          have hs45 : f 45 = Nx (q) := k2
          have hs46 : f 46 = Ix (x3) := k3
          refine ob_start (L' := M) (by rfl) (up_cons (up_cons (up_cons (up_cons rfl hs40) hs44) hs45) hs46) ?_
          refine l_val (v := .agg #[Ix (x10), Ix (x18), Nx (q), Ix (x3)]) rfl rfl rfl (e_build_a tf35 tf21 (vs := [(0, Ix (x10)), (1, Ix (x18)), (2, Nx (q)), (3, Ix (x3))]) (cells := #[Ix (x10), Ix (x18), Nx (q), Ix (x3)]) rfl rfl) ?_
          refine l_nil ?_
          exact f_owes_d (up_cons (up_cons (up_cons (up_cons rfl hs40) hs44) hs45) hs46) rfl (List.Perm.refl _)
        · rintro f M ⟨k0, k1, -⟩ -
          have hs39 : f 39 = Bx ((U ((q * 85 : Nat) : Int)).toUInt8) := k0
          have hs47 : f 47 = .agg #[Ix (x10), Ix (x18), Nx (q), Ix (x3)] := k1
          refine ob_start (L' := M) (by rfl) (up_cons (up_cons rfl hs39) hs47) ?_
          refine l_val (v := .agg #[Bx ((U ((q * 85 : Nat) : Int)).toUInt8), Ix (x10), Ix (x18), Nx (q), Ix (x3)]) rfl rfl rfl (e_build tf16 tf36 (vs := [(0, Bx ((U ((q * 85 : Nat) : Int)).toUInt8)), (1, .agg #[Ix (x10), Ix (x18), Nx (q), Ix (x3)])]) (cells := #[Bx ((U ((q * 85 : Nat) : Int)).toUInt8), Ix (x10), Ix (x18), Nx (q), Ix (x3)]) rfl rfl) ?_
          refine l_nil ?_
          exact f_owes_d (up_cons (up_cons rfl hs39) hs47) rfl (List.Perm.refl _)
        · rintro f M ⟨k0, -⟩ -
          have hs48 : f 48 = .agg #[Bx ((U ((q * 85 : Nat) : Int)).toUInt8), Ix (x10), Ix (x18), Nx (q), Ix (x3)] := k0
          refine ob_start (L' := M) (by rfl) (up_cons rfl hs48) ?_
          refine l_mv rfl rfl rfl (m_slices tf14 tf16 (vs := [(0, .agg #[Bx ((U ((q * 85 : Nat) : Int)).toUInt8), Ix (x10), Ix (x18), Nx (q), Ix (x3)])]) (cells := #[Bx ((U ((q * 85 : Nat) : Int)).toUInt8), Ix (x10), Ix (x18), Nx (q), Ix (x3)]) rfl rfl rfl rfl) ?_
          rintro _ _ ⟨b25, rfl, rfl⟩
          refine l_nil ?_
          exact f_owes_d (up_cons rfl hs48) rfl (perm_front 0 rfl)
        · rintro f M ⟨k0, k1, -⟩ -
          have hs36 : f 36 = .slice cp (cs.length) cc := k0
          have hs49 : f 49 = .slice (some ⟨(blk (f 49)), 0, none⟩) 1 1 := k1
          refine ob_start (L' := row (.slice cp (cs.length) cc) 38 5 (cs.length) ((cs.flatMap compE)) :: pt (blk (f 49)) (.cells #[Bx ((U ((q * 85 : Nat) : Int)).toUInt8), Ix (x10), Ix (x18), Nx (q), Ix (x3)] 38) :: M) (by rfl) (up_cons (up_cons rfl hs36) hs49) ?_
          refine l_mv rfl rfl rfl (m_append_w 0 tf14 tf69 (v := .slice cp (cs.length) cc) (m := cs.length) (vs := (cs.flatMap compE)) (ao := some ⟨(blk (f 49)), 0, none⟩) (k := 1) (c := 1) (news := [Bx ((U ((q * 85 : Nat) : Int)).toUInt8), Ix (x10), Ix (x18), Nx (q), Ix (x3)]) rfl rfl rfl rfl (k_pt 1 (cs := #[Bx ((U ((q * 85 : Nat) : Int)).toUInt8), Ix (x10), Ix (x18), Nx (q), Ix (x3)]) (vs := [Bx ((U ((q * 85 : Nat) : Int)).toUInt8), Ix (x10), Ix (x18), Nx (q), Ix (x3)]) rfl rfl) rfl (fun _ => rfl) (by unfold maxLen; omega) (by omega)) ?_
          rintro _ _ ⟨rp28, rc29, rfl, rfl⟩
          refine l_nil ?_
          exact f_owes_d (up_cons (up_cons rfl hs36) hs49) rfl ((perm_front 0 rfl).trans (perm_front 1 rfl))
        · rintro f M - ⟨i0, -⟩
          have hs7 : f 7 = .pointer (some ⟨b16, 0, none⟩) := i0
          refine ob_start (L' := M) (by rfl) (up_cons rfl hs7) ?_
          refine l_val (v := .pointer (some ⟨b16, 1, none⟩)) rfl rfl rfl (e_fieldPt (b := b16) (o := 0) rfl tf11) ?_
          refine l_nil ?_
          exact f_owes_d (up_cons rfl hs7) rfl (List.Perm.refl _)
        · rintro f M ⟨k0, k1, -⟩ -
          have hs51 : f 51 = .pointer (some ⟨b16, 1, none⟩) := k0
          have hs50 : f 50 = .slice (sla (f 50)) (cs.length + 1) (slc (f 50)) := k1
          refine ob_start (L' := pt b16 (.cells #[Ix (x3), .slice cp (cs.length) cc] 35) :: M) (by rfl) (up_cons (up_cons rfl hs51) hs50) ?_
          refine l_mu rfl rfl (m_store 0 tf12 (b := b16) (o := 1) (T := 35) (cs := #[Ix (x3), .slice cp (cs.length) cc]) (cs' := #[Ix (x3), .slice (sla (f 50)) (cs.length + 1) (slc (f 50))]) (v := .slice (sla (f 50)) (cs.length + 1) (slc (f 50))) rfl rfl rfl rfl rfl rfl rfl) ?_
          refine l_nil ?_
          exact f_owes_n (up_cons (up_cons rfl hs51) hs50) trivial (perm_front 0 rfl)
        rintro fa30 ⟨-, -, -, -, -, -, -, -, -, -, -, -, -, -, -, -, -, -, -⟩ ⟨j0, j1, j2, j3, j4, j5, j6, j7, j8, j9, j10, j11, j12, j13, j14, -⟩
        refine f_re (L' := [row (.slice lp (es.length) lc) 35 2 (es.length) ((entCells us es)), gb β₁ us es, pt (blk (fa30 49)) (.cells #[Bx ((U ((q * 85 : Nat) : Int)).toUInt8), Ix (x10), Ix (x18), Nx (q), Ix (x3)] 38), row (.slice (sla (fa30 50)) (cs.length + 1) (slc (fa30 50))) 38 5 (cs.length + 1) ((cs.flatMap compE) ++ [Bx ((U ((q * 85 : Nat) : Int)).toUInt8), Ix (x10), Ix (x18), Nx (q), Ix (x3)]), pt b16 (.cells #[Ix (x3), .slice (sla (fa30 50)) (cs.length + 1) (slc (fa30 50))] 35)]) (by rfl) ?_
        refine f_rebase (d := 1) (v := .slice (some ⟨b1, 0, none⟩) (7) (7)) j0 ?_
        refine f_rebase (d := 2) (v := .slice lp (es.length) lc) j1 ?_
        refine f_rebase (d := 3) (v := Nx (i)) j2 ?_
        refine f_rebase (d := 4) (v := Ix (x3)) j3 ?_
        refine f_rebase (d := 5) (v := Nx (k)) j4 ?_
        refine f_rebase (d := 6) (v := Ix (x10)) j5 ?_
        refine f_rebase (d := 7) (v := .pointer (some ⟨b16, 0, none⟩)) j6 ?_
        refine f_rebase (d := 12) (v := .slice (some ⟨b1, 0, none⟩) (7) (7)) j7 ?_
        refine f_rebase (d := 13) (v := Nx (7)) j8 ?_
        refine f_rebase (d := 14) (v := Nx (i)) j9 ?_
        refine f_rebase (d := 19) (v := .slice (some ⟨b1, 0, none⟩) (7) (7)) j10 ?_
        refine f_rebase (d := 20) (v := Nx (7)) j11 ?_
        refine f_rebase (d := 21) (v := Nx (k)) j12 ?_
        refine f_rebase (d := 31) (v := Nx ((i + k) % 4)) j13 ?_
        refine f_rebase (d := 32) (v := Nx (q)) j14 ?_
        refine f_block ?_
        refine f_then ?_
        refine c_region ?_
        refine l_val (v := Nx (q + 1)) rfl rfl rfl (e_add (a := ((q : Nat) : Int)) (b := (1 : Int)) rfl rfl (i64n (by omega) (by omega))) ?_
        refine l_val (v := Nx (q + 1)) rfl rfl rfl (e_move) ?_
        refine l_nil ?_
        refine f_perm (L' := [row (.slice (sla (fa30 50)) (cs.length + 1) (slc (fa30 50))) 38 5 (cs.length + 1) ((cs.flatMap compE) ++ [Bx ((U ((q * 85 : Nat) : Int)).toUInt8), Ix (x10), Ix (x18), Nx (q), Ix (x3)]), pt b16 (.cells #[Ix (x3), .slice (sla (fa30 50)) (cs.length + 1) (slc (fa30 50))] 35), row (.slice lp (es.length) lc) 35 2 (es.length) ((entCells us es)), gb β₁ us es, pt (blk (fa30 49)) (.cells #[Bx ((U ((q * 85 : Nat) : Int)).toUInt8), Ix (x10), Ix (x18), Nx (q), Ix (x3)] 38)]) (((((perm_front 2 rfl).trans (perm_front 2 rfl)).trans (perm_front 2 rfl)).trans (perm_front 4 rfl)).trans (perm_front 4 rfl)) ?_
        refine f_mask (L' := [row (.slice (sla (fa30 50)) (cs.length + 1) (slc (fa30 50))) 38 5 (cs.length + 1) ((cs.flatMap compE) ++ [Bx ((U ((q * 85 : Nat) : Int)).toUInt8), Ix (x10), Ix (x18), Nx (q), Ix (x3)]), pt b16 (.cells #[Ix (x3), .slice (sla (fa30 50)) (cs.length + 1) (slc (fa30 50))] 35), row (.slice lp (es.length) lc) 35 2 (es.length) ((entCells us es)), gb β₁ us es]) [true, true, true, true, false] rfl ?_
        exact f_cut ⟨(q + 1, (sla (fa30 50)), (slc (fa30 50)), (cs ++ [(⟨((U ((q * 85 : Nat) : Int)).toUInt8), (x10), (x18), (((q) : Nat) : Int), (x3)⟩ : KComp)])), ⟨⟨rfl, rfl, rfl, rfl, rfl, rfl, rfl, rfl, rfl, rfl, rfl, rfl, rfl, rfl, rfl⟩, (by simp [compE]), ⟨by omega, by simp; omega⟩⟩, (show (i + k) % 4 - (q + 1) < (i + k) % 4 - q from by omega)⟩
      ·
        refine c_exit ?_
        refine f_then_exit ?_
        refine f_then_exit ?_
        refine f_exit ?_
        refine f_then ?_
        refine c_seq ?_
        refine c_region ?_
        refine l_val (v := .slice lp (es.length) lc) rfl rfl rfl (e_move) ?_
        refine l_val (v := .agg #[Ix (x3), .slice cp (cs.length) cc]) rfl rfl rfl (e_load tf24 (cs := [Ix (x3), .slice cp (cs.length) cc]) rfl (k_pt 1 (cs := #[Ix (x3), .slice cp (cs.length) cc]) (vs := [Ix (x3), .slice cp (cs.length) cc]) rfl rfl) rfl) ?_
        refine l_mv rfl rfl rfl (m_slices tf32 tf33 (vs := [(0, .agg #[Ix (x3), .slice cp (cs.length) cc])]) (cells := #[Ix (x3), .slice cp (cs.length) cc]) rfl rfl rfl rfl) ?_
        rintro _ _ ⟨b31, rfl, rfl⟩
        refine l_mv rfl rfl rfl (m_append_w 3 tf32 tf72 (v := .slice lp (es.length) lc) (m := es.length) (vs := (entCells us es)) (ao := some ⟨b31, 0, none⟩) (k := 1) (c := 1) (news := [Ix (x3), .slice cp (cs.length) cc]) rfl rfl rfl rfl (k_pt 0 (cs := #[Ix (x3), .slice cp (cs.length) cc]) (vs := [Ix (x3), .slice cp (cs.length) cc]) rfl rfl) rfl (fun _ => rfl) (by unfold maxLen; omega) (by omega)) ?_
        rintro _ _ ⟨rp32, rc33, rfl, rfl⟩
        refine l_val (v := .slice rp32 (es.length + 1) rc33) rfl rfl rfl (e_assign) ?_
        refine l_nil ?_
        refine f_then ?_
        refine c_seq ?_
        refine c_perm (L' := [row (.slice cp (cs.length) cc) 38 5 (cs.length) ((cs.flatMap compE)), gb β₁ us es, row (.slice rp32 (es.length + 1) rc33) 35 2 (es.length + 1) ((entCells us es) ++ [Ix (x3), .slice cp (cs.length) cc]), pt b31 (.cells #[Ix (x3), .slice cp (cs.length) cc] 35), pt b16 (.cells #[Ix (x3), .slice cp (cs.length) cc] 35)]) (((((perm_front 2 rfl).trans (perm_front 1 rfl)).trans (perm_front 3 rfl)).trans (perm_front 4 rfl)).trans (perm_front 4 rfl)) ?_
        refine c_turn (fun w h => gb_own (e := (⟨x3, cs⟩ : KEnt)) rfl h) ?_
        obtain ⟨es2, hes2⟩ : ∃ z, z = es ++ [(⟨x3, cs⟩ : KEnt)] := ⟨_, rfl⟩
        obtain ⟨us2, hus2⟩ : ∃ z, z = us ++ [(.slice cp (cs.length) cc)] := ⟨_, rfl⟩
        have hu2 : us2.length = es2.length := by rw [hes2, hus2]; simp [hu1]
        have hn2 : es2.length = es.length + 1 := by rw [hes2]; simp
        have hsm2 : small es2 := by rw [hes2]; exact small_snoc hsm1 (show cs.length ≤ 3 by omega)
        refine c_turn (L' := [gb β₁ us2 es2, row (.slice rp32 (es.length + 1) rc33) 35 2 (es.length + 1) ((entCells us2 es2)), pt b31 (.cells #[Ix (x3), .slice cp (cs.length) cc] 35), pt b16 (.cells #[Ix (x3), .slice cp (cs.length) cc] 35)]) (fun w h => by rw [hes2, hus2, ent_cells_append hu1]; exact h) ?_
        refine c_rowcap 1 rfl (fun hlc1 hlc2 => ?_)
        refine c_any [⟨[], [], [0], [57], fun f => f 57 = Ix (x3)⟩, ⟨[], [], [1], [58], fun f => f 58 = .slice rp32 (es.length + 1) rc33⟩, ⟨[], [], [2], [59], fun f => f 59 = Nx (k)⟩, ⟨[1, 2], [1, 2], [], [60], fun f => f 60 = .slice rp32 (k) rc33⟩, ⟨[0, 1, 2, 3], [0, 3], [], [61], fun f => f 61 = .agg #[Ix (x3), .slice rp32 (k) rc33]⟩, ⟨[], [], [3], [62], fun f => f 62 = Ix (x10)⟩, ⟨[], [], [1], [63], fun f => f 63 = .slice rp32 (es.length + 1) rc33⟩, ⟨[], [], [1], [64], fun f => f 64 = .slice rp32 (es.length + 1) rc33⟩, ⟨[7], [7], [], [65], fun f => f 65 = Nx (es.length + 1)⟩, ⟨[7, 8], [8], [], [66], fun f => f 66 = Ix (((es.length + 1 : Nat) : Int) - (9 : Int))⟩, ⟨[7, 8, 9], [9], [], [67], fun f => f 67 = Nx ((es.length + 1) - 9)⟩, ⟨[6, 7, 8, 9, 10], [6, 10], [], [68], fun f => f 68 = .slice (adv rp32 rc33 ((es.length + 1) - 9) 2) ((es.length + 1) - ((es.length + 1) - 9)) (rc33 - ((es.length + 1) - 9))⟩, ⟨[5, 6, 7, 8, 9, 10, 11], [5, 11], [], [69], fun f => f 69 = .agg #[Ix (x10), .slice (adv rp32 rc33 ((es.length + 1) - 9) 2) ((es.length + 1) - ((es.length + 1) - 9)) (rc33 - ((es.length + 1) - 9))]⟩, ⟨[], [], [], [9], fun f => f 9 = .pointer (some ⟨(blk (f 9)), 0, none⟩)⟩, ⟨[], [], [], [10], fun f => f 10 = .pointer (some ⟨(blk (f 10)), 0, none⟩)⟩, ⟨[0, 1, 2, 3, 4, 13, 14], [13, 4], [], [], fun _ => True⟩, ⟨[0, 1, 2, 3, 4, 5, 6, 7, 8, 9, 10, 11, 12, 13, 14, 15], [14, 12], [], [], fun _ => True⟩] [⟨none, none, [], [], fun _ => gb β₁ us2 es2⟩, ⟨none, none, [], [], fun _ => row (.slice rp32 (es.length + 1) rc33) 35 2 (es.length + 1) ((entCells us2 es2))⟩, ⟨none, none, [], [], fun _ => pt b31 (.cells #[Ix (x3), .slice cp (cs.length) cc] 35)⟩, ⟨none, none, [], [], fun _ => pt b16 (.cells #[Ix (x3), .slice cp (cs.length) cc] 35)⟩, ⟨(some 13), (some 15), [15], [9], fun f => pt (blk (f 9)) (.cells #[.int .i64 (0), .slice none 0 0] 24)⟩, ⟨(some 14), (some 16), [16], [10], fun f => pt (blk (f 10)) (.cells #[.int .i64 (0), .slice none 0 0] 24)⟩, ⟨(some 15), none, [], [9], fun f => pt (blk (f 9)) (.cells #[Ix (x3), .slice rp32 (k) rc33] 24)⟩, ⟨(some 16), none, [], [10], fun f => pt (blk (f 10)) (.cells #[Ix (x10), .slice (adv rp32 rc33 ((es.length + 1) - 9) 2) ((es.length + 1) - ((es.length + 1) - 9)) (rc33 - ((es.length + 1) - 9))] 24)⟩] [(4, Ix (x3)), (2, .slice rp32 (es.length + 1) rc33), (5, Nx (k)), (6, Ix (x10)), (1, .slice (some ⟨b1, 0, none⟩) (7) (7)), (3, Nx (i)), (12, .slice (some ⟨b1, 0, none⟩) (7) (7)), (13, Nx (7)), (14, Nx (i)), (19, .slice (some ⟨b1, 0, none⟩) (7) (7)), (20, Nx (7)), (21, Nx (k))] [4, 1, 5, 0, 2, 3, 6, 7, 8, 9, 10, 11] [] (by kernel_rfl) (by kernel_rfl) (by kernel_rfl) (by kernel_rfl) rfl ⟨rfl, rfl, rfl, rfl, rfl, rfl, rfl, rfl, rfl, rfl, rfl, rfl, trivial⟩ ⟨?_, ?_, ?_, ?_, ?_, ?_, ?_, ?_, ?_, ?_, ?_, ?_, ?_, ?_, ?_, ?_, ?_, trivial⟩ ?_
        · rintro f M - ⟨i0, -⟩
          have hs4 : f 4 = Ix (x3) := i0
          refine ob_start (L' := M) (by rfl) (up_cons rfl hs4) ?_
          refine l_val (v := Ix (x3)) rfl rfl rfl (e_move) ?_
          refine l_nil ?_
          exact f_owes_d (up_cons rfl hs4) rfl (List.Perm.refl _)
        · rintro f M - ⟨i0, -⟩
          have hs2 : f 2 = .slice rp32 (es.length + 1) rc33 := i0
          refine ob_start (L' := M) (by rfl) (up_cons rfl hs2) ?_
          refine l_val (v := .slice rp32 (es.length + 1) rc33) rfl rfl rfl (e_move) ?_
          refine l_nil ?_
          exact f_owes_d (up_cons rfl hs2) rfl (List.Perm.refl _)
        · rintro f M - ⟨i0, -⟩
          have hs5 : f 5 = Nx (k) := i0
          refine ob_start (L' := M) (by rfl) (up_cons rfl hs5) ?_
          refine l_val (v := Nx (k)) rfl rfl rfl (e_move) ?_
          refine l_nil ?_
          exact f_owes_d (up_cons rfl hs5) rfl (List.Perm.refl _)
        · rintro f M ⟨k0, k1, -⟩ -
          have hs58 : f 58 = .slice rp32 (es.length + 1) rc33 := k0
          have hs59 : f 59 = Nx (k) := k1
          refine ob_start (L' := M) (by rfl) (up_cons (up_cons rfl hs58) hs59) ?_
          refine l_val (v := .slice rp32 (k) rc33) rfl rfl rfl (e_slice_hi (a := rp32) (len := es.length + 1) (cap := rc33) (h := k) tf32 rfl rfl (by omega)) ?_
          refine l_nil ?_
          exact f_owes_d (up_cons (up_cons rfl hs58) hs59) rfl (List.Perm.refl _)
        · rintro f M ⟨k0, k1, -⟩ -
          have hs57 : f 57 = Ix (x3) := k0
          have hs60 : f 60 = .slice rp32 (k) rc33 := k1
          refine ob_start (L' := M) (by rfl) (up_cons (up_cons rfl hs57) hs60) ?_
          refine l_val (v := .agg #[Ix (x3), .slice rp32 (k) rc33]) rfl rfl rfl (e_build tf49 tf58 (vs := [(0, Ix (x3)), (1, .slice rp32 (k) rc33)]) (cells := #[Ix (x3), .slice rp32 (k) rc33]) rfl rfl) ?_
          refine l_nil ?_
          exact f_owes_d (up_cons (up_cons rfl hs57) hs60) rfl (List.Perm.refl _)
        · rintro f M - ⟨i0, -⟩
          have hs6 : f 6 = Ix (x10) := i0
          refine ob_start (L' := M) (by rfl) (up_cons rfl hs6) ?_
          refine l_val (v := Ix (x10)) rfl rfl rfl (e_move) ?_
          refine l_nil ?_
          exact f_owes_d (up_cons rfl hs6) rfl (List.Perm.refl _)
        · rintro f M - ⟨i0, -⟩
          have hs2 : f 2 = .slice rp32 (es.length + 1) rc33 := i0
          refine ob_start (L' := M) (by rfl) (up_cons rfl hs2) ?_
          refine l_val (v := .slice rp32 (es.length + 1) rc33) rfl rfl rfl (e_move) ?_
          refine l_nil ?_
          exact f_owes_d (up_cons rfl hs2) rfl (List.Perm.refl _)
        · rintro f M - ⟨i0, -⟩
          have hs2 : f 2 = .slice rp32 (es.length + 1) rc33 := i0
          refine ob_start (L' := M) (by rfl) (up_cons rfl hs2) ?_
          refine l_val (v := .slice rp32 (es.length + 1) rc33) rfl rfl rfl (e_move) ?_
          refine l_nil ?_
          exact f_owes_d (up_cons rfl hs2) rfl (List.Perm.refl _)
        · rintro f M ⟨k0, -⟩ -
          have hs64 : f 64 = .slice rp32 (es.length + 1) rc33 := k0
          refine ob_start (L' := M) (by rfl) (up_cons rfl hs64) ?_
          refine l_val (v := Nx (es.length + 1)) rfl rfl rfl (e_len (a := rp32) (n := es.length + 1) (c := rc33) rfl tf31) ?_
          refine l_nil ?_
          exact f_owes_d (up_cons rfl hs64) rfl (List.Perm.refl _)
        · rintro f M ⟨k0, -⟩ -
          have hs65 : f 65 = Nx (es.length + 1) := k0
          refine ob_start (L' := M) (by rfl) (up_cons rfl hs65) ?_
          refine l_val (v := Ix (((es.length + 1 : Nat) : Int) - (9 : Int))) rfl rfl rfl (e_sub (a := ((es.length + 1 : Nat) : Int)) (b := (9 : Int)) rfl rfl (i64w (by omega))) ?_
          refine l_nil ?_
          exact f_owes_d (up_cons rfl hs65) rfl (List.Perm.refl _)
        · rintro f M ⟨k0, -⟩ -
          have hs66 : f 66 = Ix (((es.length + 1 : Nat) : Int) - (9 : Int)) := k0
          refine ob_start (L' := M) (by rfl) (up_cons rfl hs66) ?_
          refine l_val (v := Nx ((es.length + 1) - 9)) rfl rfl rfl (ev_eq (congrArg (Value.int .i64) (by omega)) (e_max (a := (((es.length + 1 : Nat) : Int) - (9 : Int))) (b := (0 : Int)) rfl rfl)) ?_
          refine l_nil ?_
          exact f_owes_d (up_cons rfl hs66) rfl (List.Perm.refl _)
        · rintro f M ⟨k0, k1, -⟩ -
          have hs63 : f 63 = .slice rp32 (es.length + 1) rc33 := k0
          have hs67 : f 67 = Nx ((es.length + 1) - 9) := k1
          refine ob_start (L' := M) (by rfl) (up_cons (up_cons rfl hs63) hs67) ?_
          refine l_val (v := .slice (adv rp32 rc33 ((es.length + 1) - 9) 2) ((es.length + 1) - ((es.length + 1) - 9)) (rc33 - ((es.length + 1) - 9))) rfl rfl rfl (e_slice_lo (a := rp32) (len := es.length + 1) (cap := rc33) (l := (es.length + 1) - 9) tf32 rfl rfl (by omega)) ?_
          refine l_nil ?_
          exact f_owes_d (up_cons (up_cons rfl hs63) hs67) rfl (List.Perm.refl _)
        · rintro f M ⟨k0, k1, -⟩ -
          have hs62 : f 62 = Ix (x10) := k0
          have hs68 : f 68 = .slice (adv rp32 rc33 ((es.length + 1) - 9) 2) ((es.length + 1) - ((es.length + 1) - 9)) (rc33 - ((es.length + 1) - 9)) := k1
          refine ob_start (L' := M) (by rfl) (up_cons (up_cons rfl hs62) hs68) ?_
          refine l_val (v := .agg #[Ix (x10), .slice (adv rp32 rc33 ((es.length + 1) - 9) 2) ((es.length + 1) - ((es.length + 1) - 9)) (rc33 - ((es.length + 1) - 9))]) rfl rfl rfl (e_build tf49 tf58 (vs := [(0, Ix (x10)), (1, .slice (adv rp32 rc33 ((es.length + 1) - 9) 2) ((es.length + 1) - ((es.length + 1) - 9)) (rc33 - ((es.length + 1) - 9)))]) (cells := #[Ix (x10), .slice (adv rp32 rc33 ((es.length + 1) - 9) 2) ((es.length + 1) - ((es.length + 1) - 9)) (rc33 - ((es.length + 1) - 9))]) rfl rfl) ?_
          refine l_nil ?_
          exact f_owes_d (up_cons (up_cons rfl hs62) hs68) rfl (List.Perm.refl _)
        · rintro f M - -
          refine ob_start (L' := M) (by rfl) rfl ?_
          refine l_mv rfl rfl rfl (m_alloc tf49) ?_
          rintro _ _ ⟨b35, rfl, rfl⟩
          refine l_nil ?_
          exact f_owes_d rfl rfl (perm_front 0 rfl)
        · rintro f M - -
          refine ob_start (L' := M) (by rfl) rfl ?_
          refine l_mv rfl rfl rfl (m_alloc tf49) ?_
          rintro _ _ ⟨b37, rfl, rfl⟩
          refine l_nil ?_
          exact f_owes_d rfl rfl (perm_front 0 rfl)
        · rintro f M ⟨k0, k1, -⟩ -
          have hs9 : f 9 = .pointer (some ⟨(blk (f 9)), 0, none⟩) := k0
          have hs61 : f 61 = .agg #[Ix (x3), .slice rp32 (k) rc33] := k1
          refine ob_start (L' := pt (blk (f 9)) (.cells #[.int .i64 (0), .slice none 0 0] 24) :: M) (by rfl) (up_cons (up_cons rfl hs9) hs61) ?_
          refine l_mu rfl rfl (m_store 0 tf46 (b := (blk (f 9))) (o := 0) (T := 24) (cs := #[.int .i64 (0), .slice none 0 0]) (cs' := #[Ix (x3), .slice rp32 (k) rc33]) (v := .agg #[Ix (x3), .slice rp32 (k) rc33]) rfl rfl rfl rfl rfl rfl rfl) ?_
          refine l_nil ?_
          exact f_owes_n (up_cons (up_cons rfl hs9) hs61) trivial (perm_front 0 rfl)
        · rintro f M ⟨k0, k1, -⟩ -
          have hs10 : f 10 = .pointer (some ⟨(blk (f 10)), 0, none⟩) := k0
          have hs69 : f 69 = .agg #[Ix (x10), .slice (adv rp32 rc33 ((es.length + 1) - 9) 2) ((es.length + 1) - ((es.length + 1) - 9)) (rc33 - ((es.length + 1) - 9))] := k1
          refine ob_start (L' := pt (blk (f 10)) (.cells #[.int .i64 (0), .slice none 0 0] 24) :: M) (by rfl) (up_cons (up_cons rfl hs10) hs69) ?_
          refine l_mu rfl rfl (m_store 0 tf46 (b := (blk (f 10))) (o := 0) (T := 24) (cs := #[.int .i64 (0), .slice none 0 0]) (cs' := #[Ix (x10), .slice (adv rp32 rc33 ((es.length + 1) - 9) 2) ((es.length + 1) - ((es.length + 1) - 9)) (rc33 - ((es.length + 1) - 9))]) (v := .agg #[Ix (x10), .slice (adv rp32 rc33 ((es.length + 1) - 9) 2) ((es.length + 1) - ((es.length + 1) - 9)) (rc33 - ((es.length + 1) - 9))]) rfl rfl rfl rfl rfl rfl rfl) ?_
          refine l_nil ?_
          exact f_owes_n (up_cons (up_cons rfl hs10) hs69) trivial (perm_front 0 rfl)
        rintro fa38 ⟨-, -, -, -, -, -, -, -, -, -, -, -, -, k13, k14, -, -, -⟩ ⟨j0, j1, j2, j3, j4, j5, j6, j7, j8, j9, j10, j11, -⟩
        refine f_re (L' := [gb β₁ us2 es2, row (.slice rp32 (es.length + 1) rc33) 35 2 (es.length + 1) ((entCells us2 es2)), pt b31 (.cells #[Ix (x3), .slice cp (cs.length) cc] 35), pt b16 (.cells #[Ix (x3), .slice cp (cs.length) cc] 35), pt (blk (fa38 9)) (.cells #[Ix (x3), .slice rp32 (k) rc33] 24), pt (blk (fa38 10)) (.cells #[Ix (x10), .slice (adv rp32 rc33 ((es.length + 1) - 9) 2) ((es.length + 1) - ((es.length + 1) - 9)) (rc33 - ((es.length + 1) - 9))] 24)]) (by rfl) ?_
        refine f_rebase (d := 1) (v := .slice (some ⟨b1, 0, none⟩) (7) (7)) j0 ?_
        refine f_rebase (d := 2) (v := .slice rp32 (es.length + 1) rc33) j1 ?_
        refine f_rebase (d := 3) (v := Nx (i)) j2 ?_
        refine f_rebase (d := 4) (v := Ix (x3)) j3 ?_
        refine f_rebase (d := 5) (v := Nx (k)) j4 ?_
        refine f_rebase (d := 6) (v := Ix (x10)) j5 ?_
        refine f_rebase (d := 9) (v := .pointer (some ⟨(blk (fa38 9)), 0, none⟩)) k13 ?_
        refine f_rebase (d := 10) (v := .pointer (some ⟨(blk (fa38 10)), 0, none⟩)) k14 ?_
        refine f_rebase (d := 12) (v := .slice (some ⟨b1, 0, none⟩) (7) (7)) j6 ?_
        refine f_rebase (d := 13) (v := Nx (7)) j7 ?_
        refine f_rebase (d := 14) (v := Nx (i)) j8 ?_
        refine f_rebase (d := 19) (v := .slice (some ⟨b1, 0, none⟩) (7) (7)) j9 ?_
        refine f_rebase (d := 20) (v := Nx (7)) j10 ?_
        refine f_rebase (d := 21) (v := Nx (k)) j11 ?_
        refine f_then ?_
        refine c_seq ?_
        have hs3 : ((⟨([((U (x3)).toUInt8), ((U (x10)).toUInt8), ((U ((i : Nat) : Int)).toUInt8)] : List UInt8).toArray⟩ : ByteArray) : ByteArray).size = 3 := rfl
        obtain ⟨s41, hz42⟩ : ∃ z, z = ((⟨([((U (x3)).toUInt8), ((U (x10)).toUInt8), ((U ((i : Nat) : Int)).toUInt8)] : List UInt8).toArray⟩ : ByteArray)).extract 0 (k % 4) := ⟨_, rfl⟩
        have zl43 : s41.size = k % 4 := by rw [hz42, ByteArray.size_extract]; omega
        refine c_any [⟨[], [], [0], [70], fun f => f 70 = .agg #[Ix (x10), .slice (adv rp32 rc33 ((es.length + 1) - 9) 2) ((es.length + 1) - ((es.length + 1) - 9)) (rc33 - ((es.length + 1) - 9))]⟩, ⟨[], [], [1], [71], fun f => f 71 = Ix (x3)⟩, ⟨[1], [1], [], [72], fun f => f 72 = Bx ((U (x3)).toUInt8)⟩, ⟨[], [], [2], [73], fun f => f 73 = Ix (x10)⟩, ⟨[3], [3], [], [74], fun f => f 74 = Bx ((U (x10)).toUInt8)⟩, ⟨[], [], [3], [75], fun f => f 75 = Nx (i)⟩, ⟨[5], [5], [], [76], fun f => f 76 = Bx ((U ((i : Nat) : Int)).toUInt8)⟩, ⟨[1, 2, 3, 4, 5, 6], [2, 4, 6], [], [77], fun f => f 77 = .slice (some ⟨(blk (f 77)), 0, none⟩) 3 3⟩, ⟨[1, 2, 3, 4, 5, 6, 7], [7], [], [78], fun f => f 78 = .string ((⟨([((U (x3)).toUInt8), ((U (x10)).toUInt8), ((U ((i : Nat) : Int)).toUInt8)] : List UInt8).toArray⟩ : ByteArray))⟩, ⟨[], [], [4], [79], fun f => f 79 = Nx (k)⟩, ⟨[9], [9], [], [80], fun f => f 80 = Nx (k % 4)⟩, ⟨[1, 2, 3, 4, 5, 6, 7, 8, 9, 10], [8, 10], [], [81], fun f => f 81 = .string (s41)⟩, ⟨[], [], [1], [82], fun f => f 82 = Ix (x3)⟩, ⟨[], [], [2], [83], fun f => f 83 = Ix (x10)⟩, ⟨[13], [13], [], [84], fun f => f 84 = Ux (U (x10))⟩, ⟨[], [], [1], [85], fun f => f 85 = Ix (x3)⟩, ⟨[15], [15], [], [86], fun f => f 86 = Ux (U (x3))⟩, ⟨[0, 1, 2, 3, 4, 5, 6, 7, 8, 9, 10, 11, 12, 13, 14, 15, 16], [0, 11, 12, 14, 16], [], [87], fun f => f 87 = .bool true⟩, ⟨[0, 1, 2, 3, 4, 5, 6, 7, 8, 9, 10, 11, 12, 13, 14, 15, 16, 17], [17], [], [88], fun f => f 88 = .bool false⟩, ⟨[0, 1, 2, 3, 4, 5, 6, 7, 8, 9, 10, 11, 12, 13, 14, 15, 16, 17, 18], [18], [], [89], fun f => f 89 = .bool false⟩, ⟨[0, 1, 2, 3, 4, 5, 6, 7, 8, 9, 10, 11, 12, 13, 14, 15, 16, 17, 18, 19], [19], [5], [90], fun f => f 90 = .agg #[Ix (x3), .slice rp32 (k) rc33]⟩, ⟨[0, 1, 2, 3, 4, 5, 6, 7, 8, 9, 10, 11, 12, 13, 14, 15, 16, 17, 18, 19], [19], [0], [91], fun f => f 91 = .agg #[Ix (x10), .slice (adv rp32 rc33 ((es.length + 1) - 9) 2) ((es.length + 1) - ((es.length + 1) - 9)) (rc33 - ((es.length + 1) - 9))]⟩, ⟨[0, 1, 2, 3, 4, 5, 6, 7, 8, 9, 10, 11, 12, 13, 14, 15, 16, 17, 18, 19, 20, 21], [20, 21, 19], [], [92], fun f => f 92 = .bool true⟩, ⟨[0, 1, 2, 3, 4, 5, 6, 7, 8, 9, 10, 11, 12, 13, 14, 15, 16, 17, 18, 19, 20, 21, 22], [22, 19], [], [93], fun f => f 93 = .bool false⟩, ⟨[0, 1, 2, 3, 4, 5, 6, 7, 8, 9, 10, 11, 12, 13, 14, 15, 16, 17, 18, 19, 20, 21, 22, 23], [19, 23], [], [94], fun f => f 94 = .bool false⟩] [⟨none, none, [17, 22], [], fun _ => gb β₁ us2 es2⟩, ⟨none, none, [17, 22], [], fun _ => row (.slice rp32 (es.length + 1) rc33) 35 2 (es.length + 1) ((entCells us2 es2))⟩, ⟨none, none, [], [], fun _ => pt b31 (.cells #[Ix (x3), .slice cp (cs.length) cc] 35)⟩, ⟨none, none, [], [], fun _ => pt b16 (.cells #[Ix (x3), .slice cp (cs.length) cc] 35)⟩, ⟨none, none, [20], [], fun _ => pt (blk (fa38 9)) (.cells #[Ix (x3), .slice rp32 (k) rc33] 24)⟩, ⟨none, none, [0, 21], [], fun _ => pt (blk (fa38 10)) (.cells #[Ix (x10), .slice (adv rp32 rc33 ((es.length + 1) - 9) 2) ((es.length + 1) - ((es.length + 1) - 9)) (rc33 - ((es.length + 1) - 9))] 24)⟩, ⟨(some 7), none, [8], [77], fun f => pt (blk (f 77)) (.cells #[Bx ((U (x3)).toUInt8), Bx ((U (x10)).toUInt8), Bx ((U ((i : Nat) : Int)).toUInt8)] 5)⟩] [(10, .pointer (some ⟨(blk (fa38 10)), 0, none⟩)), (4, Ix (x3)), (6, Ix (x10)), (3, Nx (i)), (5, Nx (k)), (9, .pointer (some ⟨(blk (fa38 9)), 0, none⟩)), (1, .slice (some ⟨b1, 0, none⟩) (7) (7)), (2, .slice rp32 (es.length + 1) rc33), (12, .slice (some ⟨b1, 0, none⟩) (7) (7)), (13, Nx (7)), (14, Nx (i)), (19, .slice (some ⟨b1, 0, none⟩) (7) (7)), (20, Nx (7)), (21, Nx (k))] [6, 7, 3, 1, 8, 9, 10, 11, 12, 13] [] (by kernel_rfl) (by kernel_rfl) (by kernel_rfl) (by kernel_rfl) rfl ⟨rfl, rfl, rfl, rfl, rfl, rfl, rfl, rfl, rfl, rfl, rfl, rfl, rfl, rfl, trivial⟩ ⟨?_, ?_, ?_, ?_, ?_, ?_, ?_, ?_, ?_, ?_, ?_, ?_, ?_, ?_, ?_, ?_, ?_, ?_, ?_, ?_, ?_, ?_, ?_, ?_, ?_, trivial⟩ ?_
        · rintro f M - ⟨i0, -⟩
          have hs10 : f 10 = .pointer (some ⟨(blk (fa38 10)), 0, none⟩) := i0
          refine ob_start (L' := pt (blk (fa38 10)) (.cells #[Ix (x10), .slice (adv rp32 rc33 ((es.length + 1) - 9) 2) ((es.length + 1) - ((es.length + 1) - 9)) (rc33 - ((es.length + 1) - 9))] 24) :: M) (by rfl) (up_cons rfl hs10) ?_
          refine l_val (v := .agg #[Ix (x10), .slice (adv rp32 rc33 ((es.length + 1) - 9) 2) ((es.length + 1) - ((es.length + 1) - 9)) (rc33 - ((es.length + 1) - 9))]) rfl rfl rfl (e_load tf46 (cs := [Ix (x10), .slice (adv rp32 rc33 ((es.length + 1) - 9) 2) ((es.length + 1) - ((es.length + 1) - 9)) (rc33 - ((es.length + 1) - 9))]) rfl (k_pt 0 (cs := #[Ix (x10), .slice (adv rp32 rc33 ((es.length + 1) - 9) 2) ((es.length + 1) - ((es.length + 1) - 9)) (rc33 - ((es.length + 1) - 9))]) (vs := [Ix (x10), .slice (adv rp32 rc33 ((es.length + 1) - 9) 2) ((es.length + 1) - ((es.length + 1) - 9)) (rc33 - ((es.length + 1) - 9))]) rfl rfl) rfl) ?_
          refine l_nil ?_
          exact f_owes_d (up_cons rfl hs10) rfl (perm_front 0 rfl)
        · rintro f M - ⟨i0, -⟩
          have hs4 : f 4 = Ix (x3) := i0
          refine ob_start (L' := M) (by rfl) (up_cons rfl hs4) ?_
          refine l_val (v := Ix (x3)) rfl rfl rfl (e_move) ?_
          refine l_nil ?_
          exact f_owes_d (up_cons rfl hs4) rfl (List.Perm.refl _)
        · rintro f M ⟨k0, -⟩ -
          have hs71 : f 71 = Ix (x3) := k0
          refine ob_start (L' := M) (by rfl) (up_cons rfl hs71) ?_
          refine l_val (v := Bx ((U (x3)).toUInt8)) rfl rfl rfl (e_conv (a := (x3)) rfl ⟨_, tf1⟩ tf8 (u8_of _)) ?_
          refine l_nil ?_
          exact f_owes_d (up_cons rfl hs71) rfl (List.Perm.refl _)
        · rintro f M - ⟨i0, -⟩
          have hs6 : f 6 = Ix (x10) := i0
          refine ob_start (L' := M) (by rfl) (up_cons rfl hs6) ?_
          refine l_val (v := Ix (x10)) rfl rfl rfl (e_move) ?_
          refine l_nil ?_
          exact f_owes_d (up_cons rfl hs6) rfl (List.Perm.refl _)
        · rintro f M ⟨k0, -⟩ -
          have hs73 : f 73 = Ix (x10) := k0
          refine ob_start (L' := M) (by rfl) (up_cons rfl hs73) ?_
          refine l_val (v := Bx ((U (x10)).toUInt8)) rfl rfl rfl (e_conv (a := (x10)) rfl ⟨_, tf1⟩ tf8 (u8_of _)) ?_
          refine l_nil ?_
          exact f_owes_d (up_cons rfl hs73) rfl (List.Perm.refl _)
        · rintro f M - ⟨i0, -⟩
          have hs3 : f 3 = Nx (i) := i0
          refine ob_start (L' := M) (by rfl) (up_cons rfl hs3) ?_
          refine l_val (v := Nx (i)) rfl rfl rfl (e_move) ?_
          refine l_nil ?_
          exact f_owes_d (up_cons rfl hs3) rfl (List.Perm.refl _)
        · rintro f M ⟨k0, -⟩ -
          have hs75 : f 75 = Nx (i) := k0
          refine ob_start (L' := M) (by rfl) (up_cons rfl hs75) ?_
          refine l_val (v := Bx ((U ((i : Nat) : Int)).toUInt8)) rfl rfl rfl (e_conv (a := ((i : Nat) : Int)) rfl ⟨_, tf1⟩ tf8 (u8_of _)) ?_
          refine l_nil ?_
          exact f_owes_d (up_cons rfl hs75) rfl (List.Perm.refl _)
        · rintro f M ⟨k0, k1, k2, -⟩ -
          have hs72 : f 72 = Bx ((U (x3)).toUInt8) := k0
          have hs74 : f 74 = Bx ((U (x10)).toUInt8) := k1
          have hs76 : f 76 = Bx ((U ((i : Nat) : Int)).toUInt8) := k2
          refine ob_start (L' := M) (by rfl) (up_cons (up_cons (up_cons rfl hs72) hs74) hs76) ?_
          refine l_mv rfl rfl rfl (m_slices tf67 tf68 (vs := [(0, Bx ((U (x3)).toUInt8)), (1, Bx ((U (x10)).toUInt8)), (2, Bx ((U ((i : Nat) : Int)).toUInt8))]) (cells := #[Bx ((U (x3)).toUInt8), Bx ((U (x10)).toUInt8), Bx ((U ((i : Nat) : Int)).toUInt8)]) rfl rfl rfl rfl) ?_
          rintro _ _ ⟨b40, rfl, rfl⟩
          refine l_nil ?_
          exact f_owes_d (up_cons (up_cons (up_cons rfl hs72) hs74) hs76) rfl (perm_front 0 rfl)
        · rintro f M ⟨k0, -⟩ -
          have hs77 : f 77 = .slice (some ⟨(blk (f 77)), 0, none⟩) 3 3 := k0
          refine ob_start (L' := pt (blk (f 77)) (.cells #[Bx ((U (x3)).toUInt8), Bx ((U (x10)).toUInt8), Bx ((U ((i : Nat) : Int)).toUInt8)] 5) :: M) (by rfl) (up_cons rfl hs77) ?_
          refine l_val (v := .string ((⟨([((U (x3)).toUInt8), ((U (x10)).toUInt8), ((U ((i : Nat) : Int)).toUInt8)] : List UInt8).toArray⟩ : ByteArray))) rfl rfl rfl (e_bytesBack (b := (blk (f 77))) (o := 0) (m := 3) (cap := 3) (bs := [((U (x3)).toUInt8), ((U (x10)).toUInt8), ((U ((i : Nat) : Int)).toUInt8)]) rfl rfl tf66 tf8 tf7 (k_pt 0 (cs := #[Bx ((U (x3)).toUInt8), Bx ((U (x10)).toUInt8), Bx ((U ((i : Nat) : Int)).toUInt8)]) (vs := [Bx ((U (x3)).toUInt8), Bx ((U (x10)).toUInt8), Bx ((U ((i : Nat) : Int)).toUInt8)]) rfl rfl)) ?_
          refine l_nil ?_
          exact f_owes_d (up_cons rfl hs77) rfl (perm_front 0 rfl)
        · rintro f M - ⟨i0, -⟩
          have hs5 : f 5 = Nx (k) := i0
          refine ob_start (L' := M) (by rfl) (up_cons rfl hs5) ?_
          refine l_val (v := Nx (k)) rfl rfl rfl (e_move) ?_
          refine l_nil ?_
          exact f_owes_d (up_cons rfl hs5) rfl (List.Perm.refl _)
        · rintro f M ⟨k0, -⟩ -
          have hs79 : f 79 = Nx (k) := k0
          refine ob_start (L' := M) (by rfl) (up_cons rfl hs79) ?_
          refine l_val (v := Nx (k % 4)) rfl rfl rfl (e_rem (a := ((k : Nat) : Int)) (b := (4 : Int)) rfl rfl (by decide) (nat_tmod _ 4)) ?_
          refine l_nil ?_
          exact f_owes_d (up_cons rfl hs79) rfl (List.Perm.refl _)
        · rintro f M ⟨k0, k1, -⟩ -
          have hs78 : f 78 = .string ((⟨([((U (x3)).toUInt8), ((U (x10)).toUInt8), ((U ((i : Nat) : Int)).toUInt8)] : List UInt8).toArray⟩ : ByteArray)) := k0
          have hs80 : f 80 = Nx (k % 4) := k1
          refine ob_start (L' := M) (by rfl) (up_cons (up_cons rfl hs78) hs80) ?_
          refine l_val (v := .string (s41)) rfl rfl rfl (ev_eq (congrArg Value.string hz42.symm) (e_slice_s (s := (⟨([((U (x3)).toUInt8), ((U (x10)).toUInt8), ((U ((i : Nat) : Int)).toUInt8)] : List UInt8).toArray⟩ : ByteArray)) (h := k % 4) tf7 rfl rfl (by omega))) ?_
          refine l_nil ?_
          exact f_owes_d (up_cons (up_cons rfl hs78) hs80) rfl (List.Perm.refl _)
        · rintro f M - ⟨i0, -⟩
          have hs4 : f 4 = Ix (x3) := i0
          refine ob_start (L' := M) (by rfl) (up_cons rfl hs4) ?_
          refine l_val (v := Ix (x3)) rfl rfl rfl (e_move) ?_
          refine l_nil ?_
          exact f_owes_d (up_cons rfl hs4) rfl (List.Perm.refl _)
        · rintro f M - ⟨i0, -⟩
          have hs6 : f 6 = Ix (x10) := i0
          refine ob_start (L' := M) (by rfl) (up_cons rfl hs6) ?_
          refine l_val (v := Ix (x10)) rfl rfl rfl (e_move) ?_
          refine l_nil ?_
          exact f_owes_d (up_cons rfl hs6) rfl (List.Perm.refl _)
        · rintro f M ⟨k0, -⟩ -
          have hs83 : f 83 = Ix (x10) := k0
          refine ob_start (L' := M) (by rfl) (up_cons rfl hs83) ?_
          refine l_val (v := Ux (U (x10))) rfl rfl rfl (e_conv (a := (x10)) rfl ⟨_, tf1⟩ tf2 (ux_of _)) ?_
          refine l_nil ?_
          exact f_owes_d (up_cons rfl hs83) rfl (List.Perm.refl _)
        · rintro f M - ⟨i0, -⟩
          have hs4 : f 4 = Ix (x3) := i0
          refine ob_start (L' := M) (by rfl) (up_cons rfl hs4) ?_
          refine l_val (v := Ix (x3)) rfl rfl rfl (e_move) ?_
          refine l_nil ?_
          exact f_owes_d (up_cons rfl hs4) rfl (List.Perm.refl _)
        · rintro f M ⟨k0, -⟩ -
          have hs85 : f 85 = Ix (x3) := k0
          refine ob_start (L' := M) (by rfl) (up_cons rfl hs85) ?_
          refine l_val (v := Ux (U (x3))) rfl rfl rfl (e_conv (a := (x3)) rfl ⟨_, tf1⟩ tf2 (ux_of _)) ?_
          refine l_nil ?_
          exact f_owes_d (up_cons rfl hs85) rfl (List.Perm.refl _)
        · rintro f M ⟨k0, k1, k2, k3, k4, -⟩ -
          have hs70 : f 70 = .agg #[Ix (x10), .slice (adv rp32 rc33 ((es.length + 1) - 9) 2) ((es.length + 1) - ((es.length + 1) - 9)) (rc33 - ((es.length + 1) - 9))] := k0
          have hs81 : f 81 = .string (s41) := k1
          have hs82 : f 82 = Ix (x3) := k2
          have hs84 : f 84 = Ux (U (x10)) := k3
          have hs86 : f 86 = Ux (U (x3)) := k4
          refine ob_start (L' := gb β₁ us2 es2 :: row (.slice rp32 (es.length + 1) rc33) 35 2 (es.length + 1) ((entCells us2 es2)) :: M) (by rfl) (up_cons (up_cons (up_cons (up_cons (up_cons rfl hs70) hs81) hs82) hs84) hs86) ?_
          refine l_call rfl rfl rfl (cl_value (fst := []) (cap := []) (vs := [.agg #[Ix (x10), .slice (adv rp32 rc33 ((es.length + 1) - 9) 2) ((es.length + 1) - ((es.length + 1) - 9)) (rc33 - ((es.length + 1) - 9))], .string (s41), Ix (x3), Ux (U (x10)), Ux (U (x3))]) (all := [.agg #[Ix (x10), .slice (adv rp32 rc33 ((es.length + 1) - 9) 2) ((es.length + 1) - ((es.length + 1) - 9)) (rc33 - ((es.length + 1) - 9))], .string (s41), Ix (x3), Ux (U (x10)), Ux (U (x3))]) tf234 rfl rfl rfl) ?_
          intro w hw
          obtain ⟨β1, sb, kn, hw1, back⟩ := St.frame_all hw
          have hl0 := kn _ (k_row_gb 1 0 rfl rfl (by omega))
          refine (tells_ok β1 w hw1 (⟨(x10), es2.drop ((es.length + 1) - 9)⟩ : KWorld) _ (sl_drop hl0 (by omega) (by omega)) (by simp; omega) (small_b (small_drop hsm2 _)) s41 (by omega) x3 (U (x10)) (U (x3))).mono ?_
          rintro e w' ⟨rfl, hw'⟩
          refine ⟨_, rfl, _, back _ _ hw', ?_⟩
          clear hw hw1 hw' back kn sb
          refine l_nil ?_
          exact f_owes_d (up_cons (up_cons (up_cons (up_cons (up_cons rfl hs70) hs81) hs82) hs84) hs86) rfl ((perm_front 1 rfl).trans (perm_front 1 rfl))
        · rintro f M ⟨k0, -⟩ -
          have hs87 : f 87 = .bool true := k0
          refine ob_start (L' := M) (by rfl) (up_cons rfl hs87) ?_
          refine l_val (v := .bool false) rfl rfl rfl (e_not (a := true) rfl) ?_
          refine l_nil ?_
          exact f_owes_d (up_cons rfl hs87) rfl (List.Perm.refl _)
        · rintro f M ⟨k0, -⟩ -
          have hs88 : f 88 = .bool false := k0
          refine ob_start (L' := M) (by rfl) (up_cons rfl hs88) ?_
          refine l_val (v := .bool false) rfl rfl rfl (e_move) ?_
          refine l_nil ?_
          exact f_owes_d (up_cons rfl hs88) rfl (List.Perm.refl _)
        · rintro f M ⟨k0, -⟩ ⟨i0, -⟩
          have hs9 : f 9 = .pointer (some ⟨(blk (fa38 9)), 0, none⟩) := i0
          have hs89 : f 89 = .bool false := k0
          refine ob_start (L' := pt (blk (fa38 9)) (.cells #[Ix (x3), .slice rp32 (k) rc33] 24) :: M) (by rfl) (up_cons (up_cons rfl hs9) hs89) ?_
          refine g_val (v := .agg #[Ix (x3), .slice rp32 (k) rc33]) rfl rfl rfl rfl rfl (e_load tf46 (cs := [Ix (x3), .slice rp32 (k) rc33]) rfl (k_pt 0 (cs := #[Ix (x3), .slice rp32 (k) rc33]) (vs := [Ix (x3), .slice rp32 (k) rc33]) rfl rfl) rfl) ?_
          refine l_nil ?_
          exact f_owes_d (up_cons (up_cons rfl hs9) hs89) rfl (perm_front 0 rfl)
        · rintro f M ⟨k0, -⟩ ⟨i0, -⟩
          have hs10 : f 10 = .pointer (some ⟨(blk (fa38 10)), 0, none⟩) := i0
          have hs89 : f 89 = .bool false := k0
          refine ob_start (L' := pt (blk (fa38 10)) (.cells #[Ix (x10), .slice (adv rp32 rc33 ((es.length + 1) - 9) 2) ((es.length + 1) - ((es.length + 1) - 9)) (rc33 - ((es.length + 1) - 9))] 24) :: M) (by rfl) (up_cons (up_cons rfl hs10) hs89) ?_
          refine g_val (v := .agg #[Ix (x10), .slice (adv rp32 rc33 ((es.length + 1) - 9) 2) ((es.length + 1) - ((es.length + 1) - 9)) (rc33 - ((es.length + 1) - 9))]) rfl rfl rfl rfl rfl (e_load tf46 (cs := [Ix (x10), .slice (adv rp32 rc33 ((es.length + 1) - 9) 2) ((es.length + 1) - ((es.length + 1) - 9)) (rc33 - ((es.length + 1) - 9))]) rfl (k_pt 0 (cs := #[Ix (x10), .slice (adv rp32 rc33 ((es.length + 1) - 9) 2) ((es.length + 1) - ((es.length + 1) - 9)) (rc33 - ((es.length + 1) - 9))]) (vs := [Ix (x10), .slice (adv rp32 rc33 ((es.length + 1) - 9) 2) ((es.length + 1) - ((es.length + 1) - 9)) (rc33 - ((es.length + 1) - 9))]) rfl rfl) rfl) ?_
          refine l_nil ?_
          exact f_owes_d (up_cons (up_cons rfl hs10) hs89) rfl (perm_front 0 rfl)
        · rintro f M ⟨k0, k1, k2, -⟩ -
          have hs90 : f 90 = .agg #[Ix (x3), .slice rp32 (k) rc33] := k0
          have hs91 : f 91 = .agg #[Ix (x10), .slice (adv rp32 rc33 ((es.length + 1) - 9) 2) ((es.length + 1) - ((es.length + 1) - 9)) (rc33 - ((es.length + 1) - 9))] := k1
          have hs89 : f 89 = .bool false := k2
          refine ob_start (L' := gb β₁ us2 es2 :: row (.slice rp32 (es.length + 1) rc33) 35 2 (es.length + 1) ((entCells us2 es2)) :: M) (by rfl) (up_cons (up_cons (up_cons rfl hs90) hs91) hs89) ?_
          refine g_call rfl rfl rfl rfl rfl (cl_value (fst := []) (cap := []) (vs := [.agg #[Ix (x3), .slice rp32 (k) rc33], .agg #[Ix (x10), .slice (adv rp32 rc33 ((es.length + 1) - 9) 2) ((es.length + 1) - ((es.length + 1) - 9)) (rc33 - ((es.length + 1) - 9))]]) (all := [.agg #[Ix (x3), .slice rp32 (k) rc33], .agg #[Ix (x10), .slice (adv rp32 rc33 ((es.length + 1) - 9) 2) ((es.length + 1) - ((es.length + 1) - 9)) (rc33 - ((es.length + 1) - 9))]]) tf235 rfl rfl rfl) ?_
          intro w hw
          obtain ⟨β1, sb, kn, hw1, back⟩ := St.frame_all hw
          have hl0 := kn _ (k_row_gb 1 0 rfl rfl (by omega))
          refine (finds_ok β1 w hw1 (⟨(x3), es2.take k⟩ : KWorld) (⟨(x10), es2.drop ((es.length + 1) - 9)⟩ : KWorld) _ _ (sl_take hl0 (by omega)) (sl_drop hl0 (by omega) (by omega)) (by simp; try omega) (small_b (small_take hsm2 _)) (by simp; try omega) (small_b (small_drop hsm2 _))).mono ?_
          rintro e w' ⟨rfl, hw'⟩
          refine ⟨_, rfl, _, back _ _ hw', ?_⟩
          clear hw hw1 hw' back kn sb
          refine l_nil ?_
          exact f_owes_d (up_cons (up_cons (up_cons rfl hs90) hs91) hs89) rfl ((perm_front 1 rfl).trans (perm_front 1 rfl))
        · rintro f M ⟨k0, k1, -⟩ -
          have hs92 : f 92 = .bool true := k0
          have hs89 : f 89 = .bool false := k1
          refine ob_start (L' := M) (by rfl) (up_cons (up_cons rfl hs92) hs89) ?_
          refine g_val (v := .bool false) rfl rfl rfl rfl rfl (e_not (a := true) rfl) ?_
          refine l_nil ?_
          exact f_owes_d (up_cons (up_cons rfl hs92) hs89) rfl (List.Perm.refl _)
        · rintro f M ⟨k0, k1, -⟩ -
          have hs89 : f 89 = .bool false := k0
          have hs93 : f 93 = .bool false := k1
          refine ob_start (L' := M) (by rfl) (up_cons (up_cons rfl hs89) hs93) ?_
          refine l_val (v := .bool false) rfl rfl rfl (e_pick_f rfl) ?_
          refine l_nil ?_
          exact f_owes_d (up_cons (up_cons rfl hs89) hs93) rfl (List.Perm.refl _)
        rintro fa44 ⟨-, -, -, -, -, -, -, -, -, -, -, -, -, -, -, -, -, -, -, -, -, -, -, -, k24, -⟩ ⟨j0, j1, j2, j3, j4, j5, j6, j7, j8, j9, -⟩
        refine f_re (L' := [gb β₁ us2 es2, row (.slice rp32 (es.length + 1) rc33) 35 2 (es.length + 1) ((entCells us2 es2)), pt b31 (.cells #[Ix (x3), .slice cp (cs.length) cc] 35), pt b16 (.cells #[Ix (x3), .slice cp (cs.length) cc] 35), pt (blk (fa38 9)) (.cells #[Ix (x3), .slice rp32 (k) rc33] 24), pt (blk (fa38 10)) (.cells #[Ix (x10), .slice (adv rp32 rc33 ((es.length + 1) - 9) 2) ((es.length + 1) - ((es.length + 1) - 9)) (rc33 - ((es.length + 1) - 9))] 24), pt (blk (fa44 77)) (.cells #[Bx ((U (x3)).toUInt8), Bx ((U (x10)).toUInt8), Bx ((U ((i : Nat) : Int)).toUInt8)] 5)]) (by rfl) ?_
        refine f_rebase (d := 1) (v := .slice (some ⟨b1, 0, none⟩) (7) (7)) j0 ?_
        refine f_rebase (d := 2) (v := .slice rp32 (es.length + 1) rc33) j1 ?_
        refine f_rebase (d := 3) (v := Nx (i)) j2 ?_
        refine f_rebase (d := 4) (v := Ix (x3)) j3 ?_
        refine f_rebase (d := 12) (v := .slice (some ⟨b1, 0, none⟩) (7) (7)) j4 ?_
        refine f_rebase (d := 13) (v := Nx (7)) j5 ?_
        refine f_rebase (d := 14) (v := Nx (i)) j6 ?_
        refine f_rebase (d := 19) (v := .slice (some ⟨b1, 0, none⟩) (7) (7)) j7 ?_
        refine f_rebase (d := 20) (v := Nx (7)) j8 ?_
        refine f_rebase (d := 21) (v := Nx (k)) j9 ?_
        refine f_rebase (d := 94) (v := .bool false) k24 ?_
        refine f_then ?_
        refine c_no rfl ?_
        refine c_skip ?_
        refine f_block ?_
        refine f_then ?_
        refine c_region ?_
        refine l_val (v := Nx (k + 1)) rfl rfl rfl (e_add (a := ((k : Nat) : Int)) (b := (1 : Int)) rfl rfl (i64n (by omega) (by omega))) ?_
        refine l_val (v := Nx (k + 1)) rfl rfl rfl (e_move) ?_
        refine l_nil ?_
        refine f_perm (L' := [row (.slice rp32 (es.length + 1) rc33) 35 2 (es.length + 1) ((entCells us2 es2)), gb β₁ us2 es2, pt b31 (.cells #[Ix (x3), .slice cp (cs.length) cc] 35), pt b16 (.cells #[Ix (x3), .slice cp (cs.length) cc] 35), pt (blk (fa38 9)) (.cells #[Ix (x3), .slice rp32 (k) rc33] 24), pt (blk (fa38 10)) (.cells #[Ix (x10), .slice (adv rp32 rc33 ((es.length + 1) - 9) 2) ((es.length + 1) - ((es.length + 1) - 9)) (rc33 - ((es.length + 1) - 9))] 24), pt (blk (fa44 77)) (.cells #[Bx ((U (x3)).toUInt8), Bx ((U (x10)).toUInt8), Bx ((U ((i : Nat) : Int)).toUInt8)] 5)]) (((((((perm_front 6 rfl).trans (perm_front 6 rfl)).trans (perm_front 6 rfl)).trans (perm_front 6 rfl)).trans (perm_front 6 rfl)).trans (perm_front 5 rfl)).trans (perm_front 6 rfl)) ?_
        refine f_mask (L' := [row (.slice rp32 (es.length + 1) rc33) 35 2 (es.length + 1) ((entCells us2 es2)), gb β₁ us2 es2]) [true, true, false, false, false, false, false] rfl ?_
        exact f_cut ⟨(k + 1, rp32, rc33, us2, es2), ⟨⟨rfl, (show Value.slice rp32 (es.length + 1) rc33 = .slice rp32 (es2.length) rc33 by rw [hes2]; simp), rfl, rfl, rfl, rfl, rfl, rfl, rfl, rfl⟩, (by rw [show es2.length = es.length + 1 by rw [hes2]; simp]), ⟨by omega, hu2, by omega, hsm2⟩⟩, (show 7 - (k + 1) < 7 - k from by omega)⟩
    ·
      refine c_exit ?_
      refine f_then_exit ?_
      refine f_then_exit ?_
      refine f_exit ?_
      refine f_block ?_
      refine f_then ?_
      refine c_region ?_
      refine l_val (v := Nx (i + 1)) rfl rfl rfl (e_add (a := ((i : Nat) : Int)) (b := (1 : Int)) rfl rfl (i64n (by omega) (by omega))) ?_
      refine l_val (v := Nx (i + 1)) rfl rfl rfl (e_move) ?_
      refine l_nil ?_
      exact f_cut ⟨(i + 1, lp, lc, us, es), ⟨⟨rfl, rfl, rfl, rfl, rfl⟩, rfl, ⟨by omega, hu1, by omega, hsm1⟩⟩, (show 7 - (i + 1) < 7 - i from by omega)⟩
  ·
    refine c_exit ?_
    refine f_then_exit ?_
    refine f_then_exit ?_
    refine f_exit ?_
    refine f_then ?_
    refine c_seq ?_
    refine c_region ?_
    refine l_val (v := .agg #[.int .i64 (0), .slice none 0 0]) rfl rfl rfl (e_build tf49 tf58 (vs := []) (cells := #[.int .i64 (0), .slice none 0 0]) rfl rfl) ?_
    refine l_val (v := .agg #[.int .i64 (0), .slice none 0 0]) rfl rfl rfl (e_build tf49 tf58 (vs := []) (cells := #[.int .i64 (0), .slice none 0 0]) rfl rfl) ?_
    refine l_call rfl rfl rfl (cl_value (fst := []) (cap := []) (vs := [.agg #[.int .i64 (0), .slice none 0 0], .agg #[.int .i64 (0), .slice none 0 0]]) (all := [.agg #[.int .i64 (0), .slice none 0 0], .agg #[.int .i64 (0), .slice none 0 0]]) tf235 rfl rfl rfl) ?_
    intro w hw
    obtain ⟨β1, sb, kn, hw1, back⟩ := St.frame_all hw
    refine (finds_ok β1 w hw1 (⟨(0 : Int), []⟩ : KWorld) (⟨(0 : Int), []⟩ : KWorld) _ _ (Sl.nil EntR _) (Sl.nil EntR _) (by simp; try omega) (small_b small_nil) (by simp; try omega) (small_b small_nil)).mono ?_
    rintro e w' ⟨rfl, hw'⟩
    refine ⟨_, rfl, _, back _ _ hw', ?_⟩
    clear hw hw1 hw' back kn sb
    refine l_val (v := .bool true) rfl rfl rfl (e_move) ?_
    refine g_call rfl rfl rfl rfl rfl (cl_value (fst := []) (cap := []) (vs := []) (all := []) tf63 rfl rfl rfl) ?_
    intro w hw
    obtain ⟨β1, sb, kn, hw1, back⟩ := St.frame_all hw
    refine (awake_ok β1 w hw1).mono ?_
    rintro e w' ⟨rfl, hw'⟩
    refine ⟨_, rfl, _, back _ _ hw', ?_⟩
    clear hw hw1 hw' back kn sb
    refine l_val (v := .bool true) rfl rfl rfl (e_pick_t rfl) ?_
    refine l_val (v := .bool true) rfl rfl rfl (e_assign) ?_
    refine l_nil ?_
    refine f_then ?_
    refine c_ret ?_
    refine ret1 Tryz.results4 (v := .bool true) rfl ?_
    intro w hw
    exact ⟨rfl, St.weaken ext₁ (st_mask [false, false] rfl hw)⟩
end Go.Proofs
