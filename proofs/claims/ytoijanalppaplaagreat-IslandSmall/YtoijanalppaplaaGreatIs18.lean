/-
 The reference's Part: walked. Printed by a program of my own.
-/
import Derived.Test.YtoijanalppaplaaGreatIs17
import Derived.Test.YtoijanalppaplaaGreatSlC
namespace Go.Isl
open Go.Sl Go.Brd Go.Stp Go.Proofs
theorem idx_lb {bs : List KB} {x : Int} (ho : ordB bs) (h : (findB bs x).isSome = true) : idxI (fun b : KB => decide (b.id = x)) bs = (lbN bs x : Nat) := by
 obtain ⟨o, ho'⟩ := Option.isSome_iff_exists.1 h
 obtain ⟨k, e, hk⟩ := idx_body ho'
 obtain ⟨b, hb, hi⟩ := lb_in ho h
 have hoi : o.id = x := by
  have := List.find?_some (show bs.find? (fun o => o.id == x) = some o from ho'); simpa using this
 rcases Nat.lt_trichotomy k (lbN bs x) with q | q | q
 ·have := ho.lt q hk hb; omega
 ·rw [e, q]
 have := ho.lt q hb hk; omega
theorem some_yes {f : Bool} {i y : Int} {ids : List Int} {m : Nat} (hy : ids[m]? = some y) (h : (f || decide (i ∈ ids.take m)) = true) : true = (f || decide (i ∈ ids.take (m + 1))) := by
 rw [List.take_add_one, hy]; simp at h ⊢; rcases h with h | h <;> simp [h]
theorem some_no {f : Bool} {i y : Int} {ids : List Int} {m : Nat} (hy : ids[m]? = some y) (h : (f || decide (i ∈ ids.take m)) = false) : decide (y = i) = (f || decide (i ∈ ids.take (m + 1))) := by
 rw [List.take_add_one, hy]; simp at h ⊢; simp [h, eq_comm]
theorem some_end {f : Bool} {i : Int} {ids : List Int} {m : Nat} {v : Bool} (hm : ids.length ≤ m) (h : (f || decide (i ∈ ids.take m)) = v) : (f || decide (i ∈ ids)) = v := by rwa [List.take_of_length_le hm] at h
theorem partB_ys {ids : List Int} {bs : List KB} {k : Nat} {b : KB} (hb : bs[k]? = some b) (h : (b.fixed || decide (b.id ∈ ids)) = true) : partB ids (bs.take k) ++ [b] = partB ids (bs.take (k + 1)) := partB_yes hb (by simpa using h)
theorem partB_ns {ids : List Int} {bs : List KB} {k : Nat} {b : KB} (hb : bs[k]? = some b) (h : (b.fixed || decide (b.id ∈ ids)) = false) : partB ids (bs.take k) = partB ids (bs.take (k + 1)) := partB_no hb (by simp at h; simp [h]) (by simp at h; exact h.2)
end Go.Isl
namespace Go.Proofs
open Go Go.Sl Go.Brd Go.Stp Go.Isl
theorem rfindY_ok (β : Base) (w : World) (hw : St β [] w) (v : Value) (bs : List KB) (hs : Sl KBR β.heap v bs) (ho : ordB bs) (x : Int) (h : (findB bs x).isSome = true) : Calls Tryz.prog 53 #[v, Ix x] w fun r w' => r = .returned (Nx (lbN bs x)) ∧ St β [] w' := by
 rw [show Nx (lbN bs x) = Ix (idxI (fun b : KB => decide (b.id = x)) bs) by rw [idx_lb ho h]]; exact find7_ok β w hw v bs hs x
theorem rfindN_ok (β : Base) (w : World) (hw : St β [] w) (v : Value) (bs : List KB) (hs : Sl KBR β.heap v bs) (x : Int) (h : (findB bs x).isSome = false) : Calls Tryz.prog 53 #[v, Ix x] w fun r w' => r = .returned (Ix (-1)) ∧ St β [] w' := by
 refine (find7_ok β w hw v bs hs x).mono fun r w' ⟨e, h1⟩ => ⟨?_, h1⟩
 rw [e]
 have hn : findB bs x = none := by simpa using h
 unfold findB at hn; rw [List.find?_eq_none] at hn
 rw [idx_none (k := bs.length) (Nat.le_refl _) fun y hy => by have := hn y (List.mem_of_mem_take hy); simpa using this]
theorem tf98 : cfB Tryz.prog 22 = true := by kernel_rfl
theorem tf99 : cfB Tryz.prog 53 = true := by kernel_rfl
set_option maxHeartbeats 4000000 in
theorem rpart_ok (β : Base) (w : World) (hw : St β [] w) (v u l : Value) (gx gy : Int) (bs : List KB) (rs : List KR) (ids : List Int) (hs_ : Sl KBR β.heap v bs) (hr_ : Sl KRR β.heap u rs) (hi_ : Sl IntF.R β.heap l ids) : Calls Tryz.prog 20 #[.agg #[v, u, Ix gx, Ix gy], l] w fun r w' => ∃ p c q d, r = .returned (.tuple #[.agg #[sB p (ptB bs rs gx gy ids) c, sB q (ptR bs rs gx gy ids) d, Ix (ptG bs rs gx gy ids gx), Ix (ptG bs rs gx gy ids gy)], Ix (errPt bs rs gx gy ids)]) ∧ St β [rowF BodyF 33 p c (ptB bs rs gx gy ids), rowF RopeF 42 q d (ptR bs rs gx gy ids)] w' := by
 obtain ⟨va, vc, rfl, vl, vm, ve⟩ := hs_.get
 obtain ⟨ua, uc, rfl, ul, um, ue⟩ := hr_.get
 obtain ⟨la, lc, rfl, ll, lm, le⟩ := hi_.get
 refine enter (n := 128) Tryz.func20 rfl Tryz.ntmps20 rfl ?_ hw
 refine csr ?_
 refine l_mv rfl rfl rfl (m_box (v := .agg #[sB va bs (vc), sB ua rs (uc), Ix (gx), Ix (gy)]) rfl) ?_
 rintro _ _ ⟨b1, rfl, rfl⟩
 refine l_mv rfl rfl rfl (m_alloc tf67) ?_
 rintro _ _ ⟨b2, rfl, rfl⟩
 refine lv (v := .int .i64 (0)) e_assign ?_
 refine lnf ?_
 refine cs2 ?_
 refine c_region ?_
 refine lv (v := .agg #[sB va bs (vc), sB ua rs (uc), Ix (gx), Ix (gy)]) (e_load tf31 rfl (k_pt 1 rfl rfl) rfl) ?_
 refine lcf (cl0 (vs := [.agg #[sB va bs (vc), sB ua rs (uc), Ix (gx), Ix (gy)]]) tf98 rfl rfl) rfl fun w β1 sb kn hw1 back => (valid7_ok β1 w hw1 _ _ gx gy bs rs (Sl.mono _ _ _ _ _ sb (⟨⟨_, _, rfl, vl, vm, ve⟩⟩ : Sl KBR _ _ bs)) (Sl.mono _ _ _ _ _ sb (⟨⟨_, _, rfl, ul, um, ue⟩⟩ : Sl KRR _ _ rs))).mono ?_
 rintro e w' ⟨rfl, hw'⟩
 refine ⟨_, rfl, _, back _ _ hw', ?_⟩
 clear hw1 hw' back kn sb
 refine lv (v := .bool (decide (¬ (okS bs rs gx gy)))) (e_not_p (p := okS bs rs gx gy) rfl) ?_
 refine lnf ?_
 refine c_if (¬ (okS bs rs gx gy)) rfl (fun hc3 => ?_) (fun hc3 => ?_)
 ·refine csr ?_
  refine lv (v := .agg #[.slice none 0 0, .slice none 0 0, .int .i64 (0), .int .i64 (0)]) (e_build tf67 tf69 (vs := []) (cells := #[.slice none 0 0, .slice none 0 0, .int .i64 (0), .int .i64 (0)]) rfl rfl) ?_
  refine lu (m_store 0 tf31 (cs' := #[.slice none 0 0, .slice none 0 0, .int .i64 (0), .int .i64 (0)]) rfl rfl rfl rfl rfl rfl rfl) ?_
  refine lv (v := .int .i64 (2)) e_assign ?_
  refine lnf ?_
  refine c_ret ?_
  refine f_then_ret ?_
  refine retG (m := [.agg #[.slice none 0 0, .slice none 0 0, .int .i64 (0), .int .i64 (0)], .int .i64 (2)]) Tryz.results20 ⟨rd_cell tf31 rfl (k_pt 0 rfl rfl) rfl, rd_tmp (v := .int .i64 (2)) rfl, trivial⟩ rfl ?_
  intro w hw
  have he := errPt_bad hc3
  obtain ⟨e1, e2, e3⟩ := pt_bad (show errPt bs rs gx gy ids ≠ 0 from by rw [he ids]; decide)
  rw [e1, e2, e3, e3, he]
  exact ⟨none, 0, none, 0, rfl, ((st_mask [false, false] rfl hw).emp (r := rowF RopeF 42 none 0 []) (row_nil _ _ _)).emp (row_nil _ _ _)⟩
 refine csk ?_
 refine cs2 ?_
 have hok : okS bs rs gx gy := (Decidable.not_not.1 hc3)
 obtain ⟨hk1, hk2, hk3, hk4, hk5, hk6⟩ := id hok
 refine c_region ?_
 refine l_val (v := .int .i64 (0)) rfl rfl rfl e_assign ?_
 refine lnf ?_
 refine c_block ?_
 refine c_loop (fun (k : Nat) (f : Fm) (L : List Res) => (f 1 = sB la ids (lc) ∧ f 2 = pp b1 0 ∧ f 4 = pp b2 0 ∧ f 6 = Nx (k)) ∧ L = [pt b2 (.cells #[.slice none 0 0, .slice none 0 0, .int .i64 (0), .int .i64 (0)] 27), pt b1 (.cells #[sB va bs (vc), sB ua rs (uc), Ix (gx), Ix (gy)] 27)] ∧ (k ≤ ids.length ∧ ∀ x ∈ ids.take k, freeAt bs x)) (fun (k : Nat) => ids.length - k) 0 ?_ ?_
 ·exact ⟨⟨rfl, rfl, rfl, rfl⟩, rfl, ⟨by omega, by simp⟩⟩
 rintro k f0 L0 ⟨⟨hs1, hs2, hs4, hs6⟩, hL, ⟨hk, hfr⟩⟩
 subst L0
 refine rebase (d := 1) hs1 ?_
 refine rebase (d := 2) hs2 ?_
 refine rebase (d := 4) hs4 ?_
 refine rebase (d := 6) hs6 ?_
 clear hs1 hs2 hs4 hs6
 refine cs2 ?_
 refine c_region ?_
 refine lv (v := Nx (k)) e_move ?_
 refine lv (v := sB la ids (lc)) e_move ?_
 refine lv (v := Nx (ids.length)) (e_len (a := la) (n := ids.length) (c := lc) rfl tf28) ?_
 refine lv (e_lss (a := ((k : Nat) : Int)) (b := ((ids.length : Nat) : Int)) rfl rfl) ?_
 refine lnf ?_
 refine c_if (((k : Nat) : Int) < ((ids.length : Nat) : Int)) rfl (fun hc4 => ?_) (fun hc4 => ?_)
 ·refine csk ?_
  refine c_seq ?_
  refine c_block ?_
  refine c_seq ?_
  obtain ⟨x, hx⟩ : ∃ x_, ids[k]? = some x_ := ⟨_, List.getElem?_eq_getElem (by omega)⟩
  obtain ⟨hxa, cs_, hxc, rfl⟩ := le _ _ hx
  rcases Bool.eq_false_or_eq_true ((findB bs x).isSome) with hfd | hfd
  ·obtain ⟨xb, hxb, hxi⟩ := lb_in hk5 hfd
   have hxl := (List.getElem?_eq_some_iff.1 hxb).1
   refine c_quiet (by kernel_rfl) (by kernel_rfl) ?_
   refine q_val (v := pp b1 0) rfl rfl rfl (e_fieldPt rfl tf33) ?_
   refine q_val (v := sB va bs (vc)) rfl rfl rfl (e_load1 tf26 rfl (k_pt 1 rfl rfl)) ?_
   refine q_val (v := sB la ids (lc)) rfl rfl rfl e_move ?_
   refine q_val (v := Nx (k)) rfl rfl rfl e_move ?_
   refine q_val (v := .pointer (some ((ba la).add (k * 1)))) rfl rfl rfl (e_indexAddr (k := k) (len := ids.length) (cap := lc) (a := la) rfl rfl tf23 (by omega) hxa) ?_
   refine q_val (v := Ix (x)) rfl rfl rfl (e_load1 tf11 rfl (kB hxc)) ?_
   refine q_call (v := Nx (lbN bs x)) rfl rfl rfl (cl0 (vs := [sB va bs (vc), Ix (x)]) tf99 rfl rfl) (fun w hw => ?_) ?_
   ·obtain ⟨β1, sb, kn, hw1, back⟩ := St.frame_all hw
    exact (rfindY_ok β1 w hw1 _ bs (Sl.mono _ _ _ _ _ sb (⟨⟨_, _, rfl, vl, vm, ve⟩⟩ : Sl KBR _ _ bs)) hk5 x hfd).mono (fun e w' ⟨he, hw'⟩ => ⟨he, st_mask [true, true] rfl (back _ _ hw')⟩)
   refine q_val (v := Nx (lbN bs x)) rfl rfl rfl e_assign ?_
   refine q_nil ?_
   refine ftc ?_
   refine lv (v := Nx (lbN bs x)) e_move ?_
   refine lv (e_lss (a := ((lbN bs x : Nat) : Int)) (b := (0 : Int)) rfl rfl) ?_
   refine lv (v := .bool (decide (((lbN bs x : Nat) : Int) < (0 : Int)))) e_move ?_
   refine l_split (s := 32) (p := ((lbN bs x : Nat) : Int) < (0 : Int)) rfl (fun h => ?_) (fun h => ?_)
   exact absurd h (by omega)
   refine g_val (v := pp b1 0) rfl rfl rfl rfl rfl (e_fieldPt rfl tf33) ?_
   refine g_val (v := sB va bs (vc)) rfl rfl rfl rfl rfl (e_load1 tf26 rfl (k_pt 1 rfl rfl)) ?_
   refine g_val (v := Nx (lbN bs x)) rfl rfl rfl rfl rfl e_move ?_
   obtain ⟨x5, hx6⟩ : ∃ x_, (bs)[lbN bs x]? = some x_ := ⟨_, List.getElem?_eq_getElem (by omega)⟩
   obtain ⟨ha7, cs8, hc9, rfl⟩ := ve _ _ hx6
   refine g_val (v := .pointer (some ((ba va).add ((lbN bs x) * 9)))) rfl rfl rfl rfl rfl (e_indexAddr (k := lbN bs x) (len := bs.length) (cap := vc) (a := va) rfl rfl tf16 (by omega) ha7) ?_
   refine g_val (v := .pointer (some (((ba va).add ((lbN bs x) * 9) : Addr).add 8))) rfl rfl rfl rfl rfl (e_fieldAddr (a := (ba va).add ((lbN bs x) * 9)) rfl tf18) ?_
   refine g_val (v := .bool (x5.fixed)) rfl rfl rfl rfl rfl (e_load1 tf19 rfl (Knows.imp (kB hc9) (fun _ h => Cs.sub (vs := [.bool (x5.fixed)]) 8 h rfl))) ?_
   refine lv (v := .bool (x5.fixed)) (e_pick_f rfl) ?_
   refine lnf ?_
   refine c_ifb (x5.fixed) rfl (fun hc11 => ?_) (fun hc11 => ?_)
   ·refine csr ?_
    refine lv (v := .agg #[.slice none 0 0, .slice none 0 0, .int .i64 (0), .int .i64 (0)]) (e_build tf67 tf69 (vs := []) (cells := #[.slice none 0 0, .slice none 0 0, .int .i64 (0), .int .i64 (0)]) rfl rfl) ?_
    refine lu (m_store 0 tf31 (cs' := #[.slice none 0 0, .slice none 0 0, .int .i64 (0), .int .i64 (0)]) rfl rfl rfl rfl rfl rfl rfl) ?_
    refine lv (v := .int .i64 (6)) e_assign ?_
    refine lnf ?_
    refine c_ret ?_
    refine f_block_ret ?_
    refine f_then_ret ?_
    refine f_then_ret ?_
    refine f_block_ret ?_
    refine f_then_ret ?_
    refine retG (m := [.agg #[.slice none 0 0, .slice none 0 0, .int .i64 (0), .int .i64 (0)], .int .i64 (6)]) Tryz.results20 ⟨rd_cell tf31 rfl (k_pt 0 rfl rfl) rfl, rd_tmp (v := .int .i64 (6)) rfl, trivial⟩ rfl ?_
    intro w hw
    have he := errPt_free hok (List.mem_of_getElem? hx) (fun q => by obtain ⟨-, b, hb, hf⟩ := q; rw [hx6] at hb; injection hb with hb; rw [← hb, hc11] at hf; exact absurd hf (by decide))
    obtain ⟨e1, e2, e3⟩ := pt_bad (ids := ids) (show errPt bs rs gx gy ids ≠ 0 from by rw [he]; decide)
    rw [e1, e2, e3, e3, he]
    exact ⟨none, 0, none, 0, rfl, ((st_mask [false, false] rfl hw).emp (r := rowF RopeF 42 none 0 []) (row_nil _ _ _)).emp (row_nil _ _ _)⟩
   refine c_skip ?_
   refine f_block ?_
   refine f_then ?_
   refine c_region ?_
   refine lv (v := Nx (k)) e_move ?_
   refine lv (v := Nx (k + 1)) (e_add (a := ((k : Nat) : Int)) (b := (1 : Int)) rfl rfl (i64n (by omega) (by omega))) ?_
   refine lv (v := Nx (k + 1)) e_assign ?_
   refine l_nil ?_
   exact f_cut ⟨k + 1, ⟨⟨rfl, rfl, rfl, rfl⟩, rfl, ⟨by omega, free_next hx ⟨hfd, x5, hx6, by simpa using hc11⟩ hfr⟩⟩, (show ids.length - (k + 1) < ids.length - k from by omega)⟩
  refine c_quiet (by kernel_rfl) (by kernel_rfl) ?_
  refine q_val (v := pp b1 0) rfl rfl rfl (e_fieldPt rfl tf33) ?_
  refine q_val (v := sB va bs (vc)) rfl rfl rfl (e_load1 tf26 rfl (k_pt 1 rfl rfl)) ?_
  refine q_val (v := sB la ids (lc)) rfl rfl rfl e_move ?_
  refine q_val (v := Nx (k)) rfl rfl rfl e_move ?_
  refine q_val (v := .pointer (some ((ba la).add (k * 1)))) rfl rfl rfl (e_indexAddr (k := k) (len := ids.length) (cap := lc) (a := la) rfl rfl tf23 (by omega) hxa) ?_
  refine q_val (v := Ix (x)) rfl rfl rfl (e_load1 tf11 rfl (kB hxc)) ?_
  refine q_call (v := .int .i64 (-1)) rfl rfl rfl (cl0 (vs := [sB va bs (vc), Ix (x)]) tf99 rfl rfl) (fun w hw => ?_) ?_
  ·obtain ⟨β1, sb, kn, hw1, back⟩ := St.frame_all hw
   exact (rfindN_ok β1 w hw1 _ bs (Sl.mono _ _ _ _ _ sb (⟨⟨_, _, rfl, vl, vm, ve⟩⟩ : Sl KBR _ _ bs)) x hfd).mono (fun e w' ⟨he, hw'⟩ => ⟨he, st_mask [true, true] rfl (back _ _ hw')⟩)
  refine q_val (v := .int .i64 (-1)) rfl rfl rfl e_assign ?_
  refine q_nil ?_
  refine ftc ?_
  refine lv (v := .int .i64 (-1)) e_move ?_
  refine lv (v := .bool true) (e_lss (a := (-1 : Int)) (b := (0 : Int)) rfl rfl) ?_
  refine lv (v := .bool true) e_move ?_
  refine l_skip rfl rfl rfl rfl rfl rfl ?_
  refine l_skip rfl rfl rfl rfl rfl rfl ?_
  refine l_skip rfl rfl rfl rfl rfl rfl ?_
  refine l_skip rfl rfl rfl rfl rfl rfl ?_
  refine l_skip rfl rfl rfl rfl rfl rfl ?_
  refine l_skip rfl rfl rfl rfl rfl rfl ?_
  refine lv (v := .bool true) (e_pick_t rfl) ?_
  refine lnf ?_
  refine c_yes rfl ?_
  refine csr ?_
  refine lv (v := .agg #[.slice none 0 0, .slice none 0 0, .int .i64 (0), .int .i64 (0)]) (e_build tf67 tf69 (vs := []) (cells := #[.slice none 0 0, .slice none 0 0, .int .i64 (0), .int .i64 (0)]) rfl rfl) ?_
  refine lu (m_store 0 tf31 (cs' := #[.slice none 0 0, .slice none 0 0, .int .i64 (0), .int .i64 (0)]) rfl rfl rfl rfl rfl rfl rfl) ?_
  refine lv (v := .int .i64 (6)) e_assign ?_
  refine lnf ?_
  refine c_ret ?_
  refine f_block_ret ?_
  refine f_then_ret ?_
  refine f_then_ret ?_
  refine f_block_ret ?_
  refine f_then_ret ?_
  refine retG (m := [.agg #[.slice none 0 0, .slice none 0 0, .int .i64 (0), .int .i64 (0)], .int .i64 (6)]) Tryz.results20 ⟨rd_cell tf31 rfl (k_pt 0 rfl rfl) rfl, rd_tmp (v := .int .i64 (6)) rfl, trivial⟩ rfl ?_
  intro w hw
  have he := errPt_free hok (List.mem_of_getElem? hx) (fun q => absurd q.1 (by rw [hfd]; decide))
  obtain ⟨e1, e2, e3⟩ := pt_bad (ids := ids) (show errPt bs rs gx gy ids ≠ 0 from by rw [he]; decide)
  rw [e1, e2, e3, e3, he]
  exact ⟨none, 0, none, 0, rfl, ((st_mask [false, false] rfl hw).emp (r := rowF RopeF 42 none 0 []) (row_nil _ _ _)).emp (row_nil _ _ _)⟩
 refine c_exit ?_
 refine f_then_exit ?_
 refine f_then_exit ?_
 refine f_exit ?_
 refine fts ?_
 rw [List.take_of_length_le (by omega)] at hfr
 refine c_region ?_
 refine lv (v := pp b1 2) (e_fieldPt rfl tf40) ?_
 refine lv (v := .agg #[Ix (gx), Ix (gy)]) (e_load tf5 rfl (k_pt 1 rfl rfl) rfl) ?_
 refine lv (v := .agg #[.slice none 0 0, .slice none 0 0, Ix (gx), Ix (gy)]) (e_build tf67 tf69 (vs := [(2, .agg #[Ix (gx), Ix (gy)])]) (cells := #[.slice none 0 0, .slice none 0 0, Ix (gx), Ix (gy)]) rfl rfl) ?_
 refine l_mv rfl rfl rfl (m_alloc tf67) ?_
 rintro _ _ ⟨b12, rfl, rfl⟩
 refine lu (m_store 0 tf31 (cs' := #[.slice none 0 0, .slice none 0 0, Ix (gx), Ix (gy)]) rfl rfl rfl rfl rfl rfl rfl) ?_
 refine lnf ?_
 refine cs2 ?_
 refine c_emp (r := rowF BodyF 33 none 0 []) (row_nil _ _ _) ?_
 refine c_region ?_
 refine l_val (v := .int .i64 (0)) rfl rfl rfl e_assign ?_
 refine lnf ?_
 refine c_block ?_
 refine c_loop (fun (x_ : Nat × Option Addr × Nat) (f : Fm) (L : List Res) => match x_ with | (k, tp, tc) => (f 1 = sB la ids (lc) ∧ f 2 = pp b1 0 ∧ f 4 = pp b2 0 ∧ f 8 = pp b12 0 ∧ f 9 = Nx (k)) ∧ L = [rowF BodyF 33 tp tc (partB ids (bs.take k)), pt b12 (.cells #[sB tp (partB ids (bs.take k)) tc, .slice none 0 0, Ix (gx), Ix (gy)] 27), pt b2 (.cells #[.slice none 0 0, .slice none 0 0, .int .i64 (0), .int .i64 (0)] 27), pt b1 (.cells #[sB va bs (vc), sB ua rs (uc), Ix (gx), Ix (gy)] 27)] ∧ (k ≤ bs.length)) (fun (x_ : Nat × Option Addr × Nat) => match x_ with | (k, tp, tc) => bs.length - k) (0, none, 0) ?_ ?_
 ·exact ⟨⟨rfl, rfl, rfl, rfl, rfl⟩, rfl, by omega⟩
 rintro ⟨k, tp, tc⟩ f0 L0 ⟨⟨hs1, hs2, hs4, hs8, hs9⟩, hL, hk⟩
 subst L0
 refine rebase (d := 1) hs1 ?_
 refine rebase (d := 2) hs2 ?_
 refine rebase (d := 4) hs4 ?_
 refine rebase (d := 8) hs8 ?_
 refine rebase (d := 9) hs9 ?_
 clear hs1 hs2 hs4 hs8 hs9
 have hpl : (partB ids (bs.take k)).length ≤ 64 := by have h1 := partB_len ids (bs.take k); rw [List.length_take] at h1; omega
 refine cs2 ?_
 refine c_region ?_
 refine lv (v := Nx (k)) e_move ?_
 refine lv (v := pp b1 0) (e_fieldPt rfl tf33) ?_
 refine lv (v := sB va bs (vc)) (e_load1 tf26 rfl (k_pt 3 rfl rfl)) ?_
 refine lv (v := Nx (bs.length)) (e_len (a := va) (n := bs.length) (c := vc) rfl tf15) ?_
 refine lv (e_lss (a := ((k : Nat) : Int)) (b := ((bs.length : Nat) : Int)) rfl rfl) ?_
 refine lnf ?_
 refine c_if (((k : Nat) : Int) < ((bs.length : Nat) : Int)) rfl (fun hc13 => ?_) (fun hc13 => ?_)
 ·refine csk ?_
  refine c_seq ?_
  refine c_block ?_
  refine csr ?_
  refine lv (v := pp b1 0) (e_fieldPt rfl tf33) ?_
  refine lv (v := sB va bs (vc)) (e_load1 tf26 rfl (k_pt 3 rfl rfl)) ?_
  refine lv (v := Nx (k)) e_move ?_
  obtain ⟨x14, hx15⟩ : ∃ x_, (bs)[k]? = some x_ := ⟨_, List.getElem?_eq_getElem (by omega)⟩
  obtain ⟨ha16, cs17, hc18, rfl⟩ := ve _ _ hx15
  refine lv (v := .pointer (some ((ba va).add (k * 9)))) (e_indexAddr (k := k) (len := bs.length) (cap := vc) (a := va) rfl rfl tf16 (by omega) ha16) ?_
  refine lv (v := .pointer (some (((ba va).add (k * 9) : Addr).add 8))) (e_fieldAddr (a := (ba va).add (k * 9)) rfl tf18) ?_
  refine lv (v := .bool (x14.fixed)) (e_load1 tf19 rfl (Knows.imp (kB hc18) (fun _ h => Cs.sub (vs := [.bool (x14.fixed)]) 8 h rfl))) ?_
  refine lv (v := .bool (x14.fixed)) e_assign ?_
  refine lnf ?_
  refine cs2 ?_
  refine c_region ?_
  refine l_val (v := .int .i64 (0)) rfl rfl rfl e_assign ?_
  refine lnf ?_
  refine c_block ?_
  refine c_loop (fun (m : Nat) (f : Fm) (L : List Res) => (f 1 = sB la ids (lc) ∧ f 2 = pp b1 0 ∧ f 4 = pp b2 0 ∧ f 8 = pp b12 0 ∧ f 9 = Nx (k) ∧ f 10 = .bool ((x14.fixed || decide (x14.id ∈ ids.take m))) ∧ f 11 = Nx (m)) ∧ L = [rowF BodyF 33 tp tc (partB ids (bs.take k)), pt b12 (.cells #[sB tp (partB ids (bs.take k)) tc, .slice none 0 0, Ix (gx), Ix (gy)] 27), pt b2 (.cells #[.slice none 0 0, .slice none 0 0, .int .i64 (0), .int .i64 (0)] 27), pt b1 (.cells #[sB va bs (vc), sB ua rs (uc), Ix (gx), Ix (gy)] 27)] ∧ (m ≤ ids.length)) (fun (m : Nat) => ids.length - m) 0 ?_ ?_
  ·exact ⟨⟨rfl, rfl, rfl, rfl, rfl, congrArg Value.bool (by simp), rfl⟩, rfl, by omega⟩
  rintro m f0 L0 ⟨⟨hs1, hs2, hs4, hs8, hs9, hs10, hs11⟩, hL, hm⟩
  subst L0
  refine rebase (d := 1) hs1 ?_
  refine rebase (d := 2) hs2 ?_
  refine rebase (d := 4) hs4 ?_
  refine rebase (d := 8) hs8 ?_
  refine rebase (d := 9) hs9 ?_
  refine rebase (d := 10) hs10 ?_
  refine rebase (d := 11) hs11 ?_
  clear hs1 hs2 hs4 hs8 hs9 hs10 hs11
  refine cs2 ?_
  refine c_region ?_
  refine lv (v := Nx (m)) e_move ?_
  refine lv (v := sB la ids (lc)) e_move ?_
  refine lv (v := Nx (ids.length)) (e_len (a := la) (n := ids.length) (c := lc) rfl tf28) ?_
  refine lv (e_lss (a := ((m : Nat) : Int)) (b := ((ids.length : Nat) : Int)) rfl rfl) ?_
  refine lnf ?_
  refine c_if (((m : Nat) : Int) < ((ids.length : Nat) : Int)) rfl (fun hc20 => ?_) (fun hc20 => ?_)
  ·refine csk ?_
   refine c_seq ?_
   refine c_block ?_
   refine c_quiet (by kernel_rfl) (by kernel_rfl) ?_
   refine q_val (v := .bool ((x14.fixed || decide (x14.id ∈ ids.take m)))) rfl rfl rfl e_move ?_
   refine q_val (v := .bool ((x14.fixed || decide (x14.id ∈ ids.take m)))) rfl rfl rfl e_move ?_
   refine q_splitb (s := 64) (b := (x14.fixed || decide (x14.id ∈ ids.take m))) rfl (fun hg21 => ?_) (fun hg21 => ?_)
   ·refine q_skip rfl rfl rfl rfl rfl rfl ?_
    refine q_skip rfl rfl rfl rfl rfl rfl ?_
    refine q_skip rfl rfl rfl rfl rfl rfl ?_
    refine q_skip rfl rfl rfl rfl rfl rfl ?_
    refine q_skip rfl rfl rfl rfl rfl rfl ?_
    refine q_skip rfl rfl rfl rfl rfl rfl ?_
    refine q_skip rfl rfl rfl rfl rfl rfl ?_
    refine q_skip rfl rfl rfl rfl rfl rfl ?_
    refine q_skip rfl rfl rfl rfl rfl rfl ?_
    refine q_skip rfl rfl rfl rfl rfl rfl ?_
    refine q_skip rfl rfl rfl rfl rfl rfl ?_
    refine q_val (v := .bool true) rfl rfl rfl (e_pick_t rfl) ?_
    refine q_val (v := .bool true) rfl rfl rfl e_assign ?_
    refine q_nil ?_
    refine f_block ?_
    refine f_then ?_
    refine c_region ?_
    refine lv (v := Nx (m)) e_move ?_
    refine lv (v := Nx (m + 1)) (e_add (a := ((m : Nat) : Int)) (b := (1 : Int)) rfl rfl (i64n (by omega) (by omega))) ?_
    refine lv (v := Nx (m + 1)) e_assign ?_
    refine l_nil ?_
    exact f_cut ⟨m + 1, ⟨⟨rfl, rfl, rfl, rfl, rfl, congrArg Value.bool (some_yes (List.getElem?_eq_getElem (by omega)) hg21), rfl⟩, rfl, by omega⟩, (show ids.length - (m + 1) < ids.length - m from by omega)⟩
   refine qg_val (v := sB la ids (lc)) rfl rfl rfl rfl rfl e_move ?_
   refine qg_val (v := Nx (m)) rfl rfl rfl rfl rfl e_move ?_
   obtain ⟨x22, hx23⟩ : ∃ x_, (ids)[m]? = some x_ := ⟨_, List.getElem?_eq_getElem (by omega)⟩
   obtain ⟨ha24, cs25, hc26, rfl⟩ := le _ _ hx23
   refine qg_val (v := .pointer (some ((ba la).add (m * 1)))) rfl rfl rfl rfl rfl (e_indexAddr (k := m) (len := ids.length) (cap := lc) (a := la) rfl rfl tf23 (by omega) ha24) ?_
   refine qg_val (v := Ix (x22)) rfl rfl rfl rfl rfl (e_load1 tf11 rfl (kB hc26)) ?_
   refine qg_val (v := pp b1 0) rfl rfl rfl rfl rfl (e_fieldPt rfl tf33) ?_
   refine qg_val (v := sB va bs (vc)) rfl rfl rfl rfl rfl (e_load1 tf26 rfl (k_pt 3 rfl rfl)) ?_
   refine qg_val (v := Nx (k)) rfl rfl rfl rfl rfl e_move ?_
   refine qg_val (v := .pointer (some ((ba va).add (k * 9)))) rfl rfl rfl rfl rfl (e_indexAddr (k := k) (len := bs.length) (cap := vc) (a := va) rfl rfl tf16 (by omega) ha16) ?_
   refine qg_val (v := .pointer (some (((ba va).add (k * 9) : Addr).add 0))) rfl rfl rfl rfl rfl (e_fieldAddr (a := (ba va).add (k * 9)) rfl tf27) ?_
   refine qg_val (v := Ix (x14.id)) rfl rfl rfl rfl rfl (e_load1 tf11 rfl (Knows.imp (kB hc18) (fun _ h => Cs.sub (vs := [Ix (x14.id)]) 0 h rfl))) ?_
   refine qg_val rfl rfl rfl rfl rfl (e_eql (a := (x22)) (b := (x14.id)) rfl rfl) ?_
   refine q_val (v := .bool (decide ((x22) = (x14.id)))) rfl rfl rfl (e_pick_f rfl) ?_
   refine q_val (v := .bool (decide ((x22) = (x14.id)))) rfl rfl rfl e_assign ?_
   refine q_nil ?_
   refine f_block ?_
   refine f_then ?_
   refine c_region ?_
   refine lv (v := Nx (m)) e_move ?_
   refine lv (v := Nx (m + 1)) (e_add (a := ((m : Nat) : Int)) (b := (1 : Int)) rfl rfl (i64n (by omega) (by omega))) ?_
   refine lv (v := Nx (m + 1)) e_assign ?_
   refine l_nil ?_
   exact f_cut ⟨m + 1, ⟨⟨rfl, rfl, rfl, rfl, rfl, congrArg Value.bool (some_no hx23 hg21), rfl⟩, rfl, by omega⟩, (show ids.length - (m + 1) < ids.length - m from by omega)⟩
  refine c_exit ?_
  refine f_then_exit ?_
  refine f_then_exit ?_
  refine f_exit ?_
  refine ftc ?_
  refine lv (v := .bool ((x14.fixed || decide (x14.id ∈ ids.take m)))) e_move ?_
  refine lnf ?_
  refine c_ifb ((x14.fixed || decide (x14.id ∈ ids.take m))) rfl (fun hc28 => ?_) (fun hc28 => ?_)
  ·refine c_any [⟨[], [], [0], [78], fun f => f 78 = pp b12 0⟩, ⟨[0], [0], [], [79], fun f => f 79 = sB tp (partB ids (bs.take k)) tc⟩, ⟨[], [], [1], [80], fun f => f 80 = pp b1 0⟩, ⟨[2], [2], [], [81], fun f => f 81 = sB va bs (vc)⟩, ⟨[], [], [2], [82], fun f => f 82 = Nx (k)⟩, ⟨[2, 3, 4], [3, 4], [], [83], fun f => f 83 = .pointer (some ((ba va).add (k * 9)))⟩, ⟨[2, 3, 4, 5], [5], [], [84], fun f => f 84 = .agg (bC x14)⟩, ⟨[2, 3, 4, 5, 6], [6], [], [85], fun f => f 85 = .slice (some ⟨(blk (f 85)), 0, none⟩) 1 1⟩, ⟨(List.range 8), [1, 7], [], [86], fun f => f 86 = sB (sla (f 86)) ((partB ids (bs.take k)) ++ [x14]) (slc (f 86))⟩, ⟨(List.range 9), [], [0], [87], fun f => f 87 = pp b12 0⟩, ⟨(List.range 10), [9, 8], [], [], fun _ => True⟩] [⟨none, (some 8), [8], [], fun _ => rowF BodyF 33 tp tc (partB ids (bs.take k))⟩, ⟨none, (some 10), [1, 10], [], fun _ => pt b12 (.cells #[sB tp (partB ids (bs.take k)) tc, .slice none 0 0, Ix (gx), Ix (gy)] 27)⟩, ⟨none, none, [], [], fun _ => pt b2 (.cells #[.slice none 0 0, .slice none 0 0, .int .i64 (0), .int .i64 (0)] 27)⟩, ⟨none, none, [3], [], fun _ => pt b1 (.cells #[sB va bs (vc), sB ua rs (uc), Ix (gx), Ix (gy)] 27)⟩, ⟨(some 7), none, [8], [85], fun f => pt (blk (f 85)) (.cells (bC x14) 33)⟩, ⟨(some 8), none, [], [86], fun f => rowF BodyF 33 (sla (f 86)) (slc (f 86)) ((partB ids (bs.take k)) ++ [x14])⟩, ⟨(some 10), none, [], [86], fun f => pt b12 (.cells #[sB (sla (f 86)) ((partB ids (bs.take k)) ++ [x14]) (slc (f 86)), .slice none 0 0, Ix (gx), Ix (gy)] 27)⟩] [(8, pp b12 0), (2, pp b1 0), (9, Nx (k)), (1, sB la ids (lc)), (4, pp b2 0)] [3, 1, 4, 0, 2] [] (by kernel_rfl) (by kernel_rfl) (by kernel_rfl) (by kernel_rfl) rfl ⟨rfl, rfl, rfl, rfl, rfl, trivial⟩ ⟨?_, ?_, ?_, ?_, ?_, ?_, ?_, ?_, ?_, ?_, ?_, trivial⟩ ?_
   ·rintro f M - ⟨i0, -⟩
    exact ob0 (up_cons (d := 8) rfl i0) rfl (e_fieldPt rfl tf33) (.refl _)
   ·rintro f M ⟨k0, -⟩ -
    exact obv (L' := pt b12 (.cells #[sB tp (partB ids (bs.take k)) tc, .slice none 0 0, Ix (gx), Ix (gy)] 27) :: M) (up_cons (d := 78) rfl k0) rfl (e_load1 tf26 rfl (k_pt 0 rfl rfl)) (perm_front 0 rfl) (by rfl)
   ·rintro f M - ⟨i0, -⟩
    exact ob0 (up_cons (d := 2) rfl i0) rfl (e_fieldPt rfl tf33) (.refl _)
   ·rintro f M ⟨k0, -⟩ -
    exact obv (L' := pt b1 (.cells #[sB va bs (vc), sB ua rs (uc), Ix (gx), Ix (gy)] 27) :: M) (up_cons (d := 80) rfl k0) rfl (e_load1 tf26 rfl (k_pt 0 rfl rfl)) (perm_front 0 rfl) (by rfl)
   ·rintro f M - ⟨i0, -⟩
    exact ob0 (up_cons (d := 9) rfl i0) rfl e_move (.refl _)
   ·rintro f M ⟨k0, k1, -⟩ -
    exact ob0 (up_cons (d := 82) (up_cons (d := 81) rfl k0) k1) rfl (e_indexAddr (k := k) (len := bs.length) (cap := vc) (a := va) rfl rfl tf16 (by omega) ha16) (.refl _)
   ·rintro f M ⟨k0, -⟩ -
    exact ob0 (up_cons (d := 83) rfl k0) rfl (e_load tf1 rfl (kB hc18) rfl) (.refl _)
   ·rintro f M ⟨k0, -⟩ -
    refine ob_start (L' := M) (by rfl) (up_cons (d := 84) rfl k0) ?_
    refine l_mv rfl rfl rfl (m_slices tf16 tf17 (cells := (bC x14)) rfl rfl rfl (by kernel_rfl)) ?_
    rintro _ _ ⟨b30, rfl, rfl⟩
    refine l_nil ?_
    exact f_owes_d (up_cons (d := 84) rfl k0) rfl (perm_front 0 rfl)
   ·rintro f M ⟨k0, k1, -⟩ -
    have hs85 : f 85 = .slice (some ⟨(blk (f 85)), 0, none⟩) 1 1 := k1
    refine ob_start (L' := rowF BodyF 33 tp tc (partB ids (bs.take k)) :: pt (blk (f 85)) (.cells (bC x14) 33) :: M) (by rfl) (up_cons (up_cons (d := 79) rfl k0) hs85) ?_
    refine l_mv rfl rfl rfl (m_appendFlN (F := BodyF) 0 tf16 tf70 (p := tp) (m := (partB ids (bs.take k)).length) (xs := (partB ids (bs.take k))) (ys := [x14]) (ao := (some ⟨(blk (f 85)), 0, none⟩)) (k := 1) (c := 1) rfl rfl rfl rfl rfl (k_ptFl (z := x14) 1 rfl rfl) (by first | omega | simp only [List.length_nil, List.length_cons, List.length_append, List.length_set]; omega) (by first | omega | simp only [List.length_nil, List.length_cons, List.length_append, List.length_set]; omega)) ?_
    rintro _ _ ⟨rp33, rc34, rfl, rfl⟩
    refine l_nil ?_
    exact f_owes_d (up_cons (up_cons (d := 79) rfl k0) hs85) rfl ((perm_front 0 rfl).trans (perm_front 1 rfl))
   ·rintro f M - ⟨i0, -⟩
    exact ob0 (up_cons (d := 8) rfl i0) rfl (e_fieldPt rfl tf33) (.refl _)
   ·rintro f M ⟨k0, k1, -⟩ -
    have hs86 : f 86 = sB (sla (f 86)) ((partB ids (bs.take k)) ++ [x14]) (slc (f 86)) := k1
    refine ob_start (L' := pt b12 (.cells #[sB tp (partB ids (bs.take k)) tc, .slice none 0 0, Ix (gx), Ix (gy)] 27) :: M) (by rfl) (up_cons (up_cons (d := 87) rfl k0) hs86) ?_
    refine lu (m_store 0 tf26 (cs' := #[sB (sla (f 86)) ((partB ids (bs.take k)) ++ [x14]) (slc (f 86)), .slice none 0 0, Ix (gx), Ix (gy)]) rfl rfl rfl rfl rfl rfl rfl) ?_
    refine l_nil ?_
    exact f_owes_n (up_cons (up_cons (d := 87) rfl k0) hs86) trivial (perm_front 0 rfl)
   rintro fa35 ⟨-, -, -, -, -, -, -, -, -, -, -, -⟩ ⟨j0, j1, j2, j3, j4, -⟩
   refine f_re (L' := [pt b2 (.cells #[.slice none 0 0, .slice none 0 0, .int .i64 (0), .int .i64 (0)] 27), pt b1 (.cells #[sB va bs (vc), sB ua rs (uc), Ix (gx), Ix (gy)] 27), pt (blk (fa35 85)) (.cells (bC x14) 33), rowF BodyF 33 (sla (fa35 86)) (slc (fa35 86)) ((partB ids (bs.take k)) ++ [x14]), pt b12 (.cells #[sB (sla (fa35 86)) ((partB ids (bs.take k)) ++ [x14]) (slc (fa35 86)), .slice none 0 0, Ix (gx), Ix (gy)] 27)]) (by rfl) ?_
   refine f_rebase (d := 1) j0 ?_
   refine f_rebase (d := 2) j1 ?_
   refine f_rebase (d := 4) j2 ?_
   refine f_rebase (d := 8) j3 ?_
   refine f_rebase (d := 9) j4 ?_
   refine f_block ?_
   refine f_then ?_
   refine c_region ?_
   refine lv (v := Nx (k)) e_move ?_
   refine lv (v := Nx (k + 1)) (e_add (a := ((k : Nat) : Int)) (b := (1 : Int)) rfl rfl (i64n (by omega) (by omega))) ?_
   refine lv (v := Nx (k + 1)) e_assign ?_
   refine l_nil ?_
   refine f_perm (L' := [rowF BodyF 33 (sla (fa35 86)) (slc (fa35 86)) ((partB ids (bs.take k)) ++ [x14]), pt b12 (.cells #[sB (sla (fa35 86)) ((partB ids (bs.take k)) ++ [x14]) (slc (fa35 86)), .slice none 0 0, Ix (gx), Ix (gy)] 27), pt b2 (.cells #[.slice none 0 0, .slice none 0 0, .int .i64 (0), .int .i64 (0)] 27), pt b1 (.cells #[sB va bs (vc), sB ua rs (uc), Ix (gx), Ix (gy)] 27), pt (blk (fa35 85)) (.cells (bC x14) 33)]) (perm_ix [3, 4, 0, 1, 2] 5 rfl (by kernel_rfl) (by kernel_rfl)) ?_
   refine f_mask (L' := [rowF BodyF 33 (sla (fa35 86)) (slc (fa35 86)) ((partB ids (bs.take k)) ++ [x14]), pt b12 (.cells #[sB (sla (fa35 86)) ((partB ids (bs.take k)) ++ [x14]) (slc (fa35 86)), .slice none 0 0, Ix (gx), Ix (gy)] 27), pt b2 (.cells #[.slice none 0 0, .slice none 0 0, .int .i64 (0), .int .i64 (0)] 27), pt b1 (.cells #[sB va bs (vc), sB ua rs (uc), Ix (gx), Ix (gy)] 27)]) [true, true, true, true, false] rfl ?_
   exact f_cut ⟨(k + 1, (sla (fa35 86)), (slc (fa35 86))), ⟨⟨rfl, rfl, rfl, rfl, rfl⟩, by rw [partB_ys hx15 (some_end (by omega) hc28)], by omega⟩, (show bs.length - (k + 1) < bs.length - k from by omega)⟩
  refine c_skip ?_
  refine f_block ?_
  refine f_then ?_
  refine c_region ?_
  refine lv (v := Nx (k)) e_move ?_
  refine lv (v := Nx (k + 1)) (e_add (a := ((k : Nat) : Int)) (b := (1 : Int)) rfl rfl (i64n (by omega) (by omega))) ?_
  refine lv (v := Nx (k + 1)) e_assign ?_
  refine l_nil ?_
  exact f_cut ⟨(k + 1, tp, tc), ⟨⟨rfl, rfl, rfl, rfl, rfl⟩, by rw [partB_ns hx15 (some_end (by omega) hc28)], by omega⟩, (show bs.length - (k + 1) < bs.length - k from by omega)⟩
 refine c_exit ?_
 refine f_then_exit ?_
 refine f_then_exit ?_
 refine f_exit ?_
 refine fts ?_
 refine c_seq ?_
 have hbt : bs.take k = bs := List.take_of_length_le (by omega)
 rw [hbt]
 have hpb := partB_len ids bs
 refine c_emp (r := rowF RopeF 42 none 0 []) (row_nil _ _ _) ?_
 refine c_region ?_
 refine l_val (v := .int .i64 (0)) rfl rfl rfl e_assign ?_
 refine lnf ?_
 refine c_block ?_
 refine c_loop (fun (x_ : Nat × Option Addr × Nat) (f : Fm) (L : List Res) => match x_ with | (k, sp, sc) => (f 2 = pp b1 0 ∧ f 4 = pp b2 0 ∧ f 8 = pp b12 0 ∧ f 12 = Nx (k)) ∧ L = [rowF RopeF 42 sp sc (partR (partB ids bs) (rs.take k)), rowF BodyF 33 tp tc (partB ids bs), pt b12 (.cells #[sB tp (partB ids bs) tc, sB sp (partR (partB ids bs) (rs.take k)) sc, Ix (gx), Ix (gy)] 27), pt b2 (.cells #[.slice none 0 0, .slice none 0 0, .int .i64 (0), .int .i64 (0)] 27), pt b1 (.cells #[sB va bs (vc), sB ua rs (uc), Ix (gx), Ix (gy)] 27)] ∧ (k ≤ rs.length)) (fun (x_ : Nat × Option Addr × Nat) => match x_ with | (k, sp, sc) => rs.length - k) (0, none, 0) ?_ ?_
 ·exact ⟨⟨rfl, rfl, rfl, rfl⟩, rfl, by omega⟩
 rintro ⟨k, sp, sc⟩ f0 L0 ⟨⟨hs2, hs4, hs8, hs12⟩, hL, hk⟩
 subst L0
 refine rebase (d := 2) hs2 ?_
 refine rebase (d := 4) hs4 ?_
 refine rebase (d := 8) hs8 ?_
 refine rebase (d := 12) hs12 ?_
 clear hs2 hs4 hs8 hs12
 have hrl : (partR (partB ids bs) (rs.take k)).length ≤ 32 := by have h1 := partR_len (partB ids bs) (rs.take k); rw [List.length_take] at h1; omega
 refine cs2 ?_
 refine c_region ?_
 refine lv (v := Nx (k)) e_move ?_
 refine lv (v := pp b1 1) (e_fieldPt rfl tf52) ?_
 refine lv (v := sB ua rs (uc)) (e_load1 tf53 rfl (k_pt 4 rfl rfl)) ?_
 refine lv (v := Nx (rs.length)) (e_len (a := ua) (n := rs.length) (c := uc) rfl tf54) ?_
 refine lv (e_lss (a := ((k : Nat) : Int)) (b := ((rs.length : Nat) : Int)) rfl rfl) ?_
 refine lnf ?_
 refine c_if (((k : Nat) : Int) < ((rs.length : Nat) : Int)) rfl (fun hc36 => ?_) (fun hc36 => ?_)
 ·refine csk ?_
  refine c_seq ?_
  refine c_block ?_
  refine c_seq ?_
  refine c_quiet (by kernel_rfl) (by kernel_rfl) ?_
  refine q_val (v := pp b12 0) rfl rfl rfl (e_fieldPt rfl tf33) ?_
  refine q_val (v := sB tp (partB ids bs) tc) rfl rfl rfl (e_load1 tf26 rfl (k_pt 2 rfl rfl)) ?_
  refine q_val (v := pp b1 1) rfl rfl rfl (e_fieldPt rfl tf52) ?_
  refine q_val (v := sB ua rs (uc)) rfl rfl rfl (e_load1 tf53 rfl (k_pt 4 rfl rfl)) ?_
  refine q_val (v := Nx (k)) rfl rfl rfl e_move ?_
  obtain ⟨x37, hx38⟩ : ∃ x_, (rs)[k]? = some x_ := ⟨_, List.getElem?_eq_getElem (by omega)⟩
  obtain ⟨ha39, cs40, hc41, rfl⟩ := ue _ _ hx38
  refine q_val (v := .pointer (some ((ba ua).add (k * 3)))) rfl rfl rfl (e_indexAddr (k := k) (len := rs.length) (cap := uc) (a := ua) rfl rfl tf55 (by omega) ha39) ?_
  refine q_val (v := .pointer (some (((ba ua).add (k * 3) : Addr).add 0))) rfl rfl rfl (e_fieldAddr (a := (ba ua).add (k * 3)) rfl tf58) ?_
  refine q_val (v := Ix (x37.a)) rfl rfl rfl (e_load1 tf11 rfl (Knows.imp (kB hc41) (fun _ h => Cs.sub (vs := [Ix (x37.a)]) 0 h rfl))) ?_
  refine q_call (v := Ix ((idxI (fun y : KB => decide (y.id = x37.a)) (partB ids bs)))) rfl rfl rfl (cl0 (vs := [sB tp (partB ids bs) tc, Ix (x37.a)]) tf99 rfl rfl) (fun w hw => ?_) ?_
  ·obtain ⟨β1, sb, kn, hw1, back⟩ := St.frame_all hw
   exact (find7_ok β1 w hw1 _ (partB ids bs) (kn _ (k_flN 1 (F := BodyF) (m := (partB ids bs).length) rfl rfl)) x37.a).mono (fun e w' ⟨he, hw'⟩ => ⟨he, st_mask [true, true, true, true, true] rfl (back _ _ hw')⟩)
  refine q_val rfl rfl rfl (e_geq (a := ((idxI (fun y : KB => decide (y.id = x37.a)) (partB ids bs)))) (b := (0 : Int)) rfl rfl) ?_
  refine q_val (v := .bool (decide ((0 : Int) ≤ ((idxI (fun y : KB => decide (y.id = x37.a)) (partB ids bs)))))) rfl rfl rfl e_move ?_
  refine q_split (s := 105) (p := (0 : Int) ≤ ((idxI (fun y : KB => decide (y.id = x37.a)) (partB ids bs)))) rfl (fun hg43 => ?_) (fun hg43 => ?_)
  ·refine qg_val (v := pp b12 0) rfl rfl rfl rfl rfl (e_fieldPt rfl tf33) ?_
   refine qg_val (v := sB tp (partB ids bs) tc) rfl rfl rfl rfl rfl (e_load1 tf26 rfl (k_pt 2 rfl rfl)) ?_
   refine qg_val (v := pp b1 1) rfl rfl rfl rfl rfl (e_fieldPt rfl tf52) ?_
   refine qg_val (v := sB ua rs (uc)) rfl rfl rfl rfl rfl (e_load1 tf53 rfl (k_pt 4 rfl rfl)) ?_
   refine qg_val (v := Nx (k)) rfl rfl rfl rfl rfl e_move ?_
   refine qg_val (v := .pointer (some ((ba ua).add (k * 3)))) rfl rfl rfl rfl rfl (e_indexAddr (k := k) (len := rs.length) (cap := uc) (a := ua) rfl rfl tf55 (by omega) ha39) ?_
   refine qg_val (v := .pointer (some (((ba ua).add (k * 3) : Addr).add 1))) rfl rfl rfl rfl rfl (e_fieldAddr (a := (ba ua).add (k * 3)) rfl tf60) ?_
   refine qg_val (v := Ix (x37.b)) rfl rfl rfl rfl rfl (e_load1 tf11 rfl (Knows.imp (kB hc41) (fun _ h => Cs.sub (vs := [Ix (x37.b)]) 1 h rfl))) ?_
   refine qg_call (v := Ix ((idxI (fun y : KB => decide (y.id = x37.b)) (partB ids bs)))) rfl rfl rfl rfl rfl (cl0 (vs := [sB tp (partB ids bs) tc, Ix (x37.b)]) tf99 rfl rfl) (fun w hw => ?_) ?_
   ·obtain ⟨β1, sb, kn, hw1, back⟩ := St.frame_all hw
    exact (find7_ok β1 w hw1 _ (partB ids bs) (kn _ (k_flN 1 (F := BodyF) (m := (partB ids bs).length) rfl rfl)) x37.b).mono (fun e w' ⟨he, hw'⟩ => ⟨he, st_mask [true, true, true, true, true] rfl (back _ _ hw')⟩)
   refine qg_val rfl rfl rfl rfl rfl (e_geq (a := ((idxI (fun y : KB => decide (y.id = x37.b)) (partB ids bs)))) (b := (0 : Int)) rfl rfl) ?_
   refine q_val (v := .bool (decide ((0 : Int) ≤ ((idxI (fun y : KB => decide (y.id = x37.b)) (partB ids bs)))))) rfl rfl rfl (e_pick_t rfl) ?_
   refine q_nil ?_
   refine f_then ?_
   refine c_if ((0 : Int) ≤ ((idxI (fun y : KB => decide (y.id = x37.b)) (partB ids bs)))) rfl (fun hc44 => ?_) (fun hc44 => ?_)
   ·refine c_any [⟨[], [], [0], [117], fun f => f 117 = pp b12 1⟩, ⟨[0], [0], [], [118], fun f => f 118 = sB sp (partR (partB ids bs) (rs.take k)) sc⟩, ⟨[], [], [1], [119], fun f => f 119 = pp b1 1⟩, ⟨[2], [2], [], [120], fun f => f 120 = sB ua rs (uc)⟩, ⟨[], [], [2], [121], fun f => f 121 = Nx (k)⟩, ⟨[2, 3, 4], [3, 4], [], [122], fun f => f 122 = .pointer (some ((ba ua).add (k * 3)))⟩, ⟨[2, 3, 4, 5], [5], [], [123], fun f => f 123 = .agg #[Ix (x37.a), Ix (x37.b), Ix (x37.len)]⟩, ⟨[2, 3, 4, 5, 6], [6], [], [124], fun f => f 124 = .slice (some ⟨(blk (f 124)), 0, none⟩) 1 1⟩, ⟨(List.range 8), [1, 7], [], [125], fun f => f 125 = sB (sla (f 125)) ((partR (partB ids bs) (rs.take k)) ++ [x37]) (slc (f 125))⟩, ⟨(List.range 9), [], [0], [126], fun f => f 126 = pp b12 1⟩, ⟨(List.range 10), [9, 8], [], [], fun _ => True⟩] [⟨none, (some 8), [8], [], fun _ => rowF RopeF 42 sp sc (partR (partB ids bs) (rs.take k))⟩, ⟨none, none, [], [], fun _ => rowF BodyF 33 tp tc (partB ids bs)⟩, ⟨none, (some 10), [1, 10], [], fun _ => pt b12 (.cells #[sB tp (partB ids bs) tc, sB sp (partR (partB ids bs) (rs.take k)) sc, Ix (gx), Ix (gy)] 27)⟩, ⟨none, none, [], [], fun _ => pt b2 (.cells #[.slice none 0 0, .slice none 0 0, .int .i64 (0), .int .i64 (0)] 27)⟩, ⟨none, none, [3], [], fun _ => pt b1 (.cells #[sB va bs (vc), sB ua rs (uc), Ix (gx), Ix (gy)] 27)⟩, ⟨(some 7), none, [8], [124], fun f => pt (blk (f 124)) (.cells #[Ix (x37.a), Ix (x37.b), Ix (x37.len)] 42)⟩, ⟨(some 8), none, [], [125], fun f => rowF RopeF 42 (sla (f 125)) (slc (f 125)) ((partR (partB ids bs) (rs.take k)) ++ [x37])⟩, ⟨(some 10), none, [], [125], fun f => pt b12 (.cells #[sB tp (partB ids bs) tc, sB (sla (f 125)) ((partR (partB ids bs) (rs.take k)) ++ [x37]) (slc (f 125)), Ix (gx), Ix (gy)] 27)⟩] [(8, pp b12 0), (2, pp b1 0), (12, Nx (k)), (4, pp b2 0)] [1, 3, 0, 2] [] (by kernel_rfl) (by kernel_rfl) (by kernel_rfl) (by kernel_rfl) rfl ⟨rfl, rfl, rfl, rfl, trivial⟩ ⟨?_, ?_, ?_, ?_, ?_, ?_, ?_, ?_, ?_, ?_, ?_, trivial⟩ ?_
    ·rintro f M - ⟨i0, -⟩
     exact ob0 (up_cons (d := 8) rfl i0) rfl (e_fieldPt rfl tf52) (.refl _)
    ·rintro f M ⟨k0, -⟩ -
     exact obv (L' := pt b12 (.cells #[sB tp (partB ids bs) tc, sB sp (partR (partB ids bs) (rs.take k)) sc, Ix (gx), Ix (gy)] 27) :: M) (up_cons (d := 117) rfl k0) rfl (e_load1 tf53 rfl (k_pt 0 rfl rfl)) (perm_front 0 rfl) (by rfl)
    ·rintro f M - ⟨i0, -⟩
     exact ob0 (up_cons (d := 2) rfl i0) rfl (e_fieldPt rfl tf52) (.refl _)
    ·rintro f M ⟨k0, -⟩ -
     exact obv (L' := pt b1 (.cells #[sB va bs (vc), sB ua rs (uc), Ix (gx), Ix (gy)] 27) :: M) (up_cons (d := 119) rfl k0) rfl (e_load1 tf53 rfl (k_pt 0 rfl rfl)) (perm_front 0 rfl) (by rfl)
    ·rintro f M - ⟨i0, -⟩
     exact ob0 (up_cons (d := 12) rfl i0) rfl e_move (.refl _)
    ·rintro f M ⟨k0, k1, -⟩ -
     exact ob0 (up_cons (d := 121) (up_cons (d := 120) rfl k0) k1) rfl (e_indexAddr (k := k) (len := rs.length) (cap := uc) (a := ua) rfl rfl tf55 (by omega) ha39) (.refl _)
    ·rintro f M ⟨k0, -⟩ -
     exact ob0 (up_cons (d := 122) rfl k0) rfl (e_load tf56 rfl (kB hc41) rfl) (.refl _)
    ·rintro f M ⟨k0, -⟩ -
     refine ob_start (L' := M) (by rfl) (up_cons (d := 123) rfl k0) ?_
     refine l_mv rfl rfl rfl (m_slices tf55 tf57 (cells := #[Ix (x37.a), Ix (x37.b), Ix (x37.len)]) rfl rfl rfl rfl) ?_
     rintro _ _ ⟨b46, rfl, rfl⟩
     refine l_nil ?_
     exact f_owes_d (up_cons (d := 123) rfl k0) rfl (perm_front 0 rfl)
    ·rintro f M ⟨k0, k1, -⟩ -
     have hs124 : f 124 = .slice (some ⟨(blk (f 124)), 0, none⟩) 1 1 := k1
     refine ob_start (L' := rowF RopeF 42 sp sc (partR (partB ids bs) (rs.take k)) :: pt (blk (f 124)) (.cells #[Ix (x37.a), Ix (x37.b), Ix (x37.len)] 42) :: M) (by rfl) (up_cons (up_cons (d := 118) rfl k0) hs124) ?_
     refine l_mv rfl rfl rfl (m_appendFlN (F := RopeF) 0 tf55 tf72 (p := sp) (m := (partR (partB ids bs) (rs.take k)).length) (xs := (partR (partB ids bs) (rs.take k))) (ys := [x37]) (ao := (some ⟨(blk (f 124)), 0, none⟩)) (k := 1) (c := 1) rfl rfl rfl rfl rfl (k_ptFl (z := x37) 1 rfl rfl) (by first | omega | simp only [List.length_nil, List.length_cons, List.length_append, List.length_set]; omega) (by first | omega | simp only [List.length_nil, List.length_cons, List.length_append, List.length_set]; omega)) ?_
     rintro _ _ ⟨rp49, rc50, rfl, rfl⟩
     refine l_nil ?_
     exact f_owes_d (up_cons (up_cons (d := 118) rfl k0) hs124) rfl ((perm_front 0 rfl).trans (perm_front 1 rfl))
    ·rintro f M - ⟨i0, -⟩
     exact ob0 (up_cons (d := 8) rfl i0) rfl (e_fieldPt rfl tf52) (.refl _)
    ·rintro f M ⟨k0, k1, -⟩ -
     have hs125 : f 125 = sB (sla (f 125)) ((partR (partB ids bs) (rs.take k)) ++ [x37]) (slc (f 125)) := k1
     refine ob_start (L' := pt b12 (.cells #[sB tp (partB ids bs) tc, sB sp (partR (partB ids bs) (rs.take k)) sc, Ix (gx), Ix (gy)] 27) :: M) (by rfl) (up_cons (up_cons (d := 126) rfl k0) hs125) ?_
     refine lu (m_store 0 tf53 (cs' := #[sB tp (partB ids bs) tc, sB (sla (f 125)) ((partR (partB ids bs) (rs.take k)) ++ [x37]) (slc (f 125)), Ix (gx), Ix (gy)]) rfl rfl rfl rfl rfl rfl rfl) ?_
     refine l_nil ?_
     exact f_owes_n (up_cons (up_cons (d := 126) rfl k0) hs125) trivial (perm_front 0 rfl)
    rintro fa51 ⟨-, -, -, -, -, -, -, -, -, -, -, -⟩ ⟨j0, j1, j2, j3, -⟩
    refine f_re (L' := [rowF BodyF 33 tp tc (partB ids bs), pt b2 (.cells #[.slice none 0 0, .slice none 0 0, .int .i64 (0), .int .i64 (0)] 27), pt b1 (.cells #[sB va bs (vc), sB ua rs (uc), Ix (gx), Ix (gy)] 27), pt (blk (fa51 124)) (.cells #[Ix (x37.a), Ix (x37.b), Ix (x37.len)] 42), rowF RopeF 42 (sla (fa51 125)) (slc (fa51 125)) ((partR (partB ids bs) (rs.take k)) ++ [x37]), pt b12 (.cells #[sB tp (partB ids bs) tc, sB (sla (fa51 125)) ((partR (partB ids bs) (rs.take k)) ++ [x37]) (slc (fa51 125)), Ix (gx), Ix (gy)] 27)]) (by rfl) ?_
    refine f_rebase (d := 2) j0 ?_
    refine f_rebase (d := 4) j1 ?_
    refine f_rebase (d := 8) j2 ?_
    refine f_rebase (d := 12) j3 ?_
    refine f_block ?_
    refine f_then ?_
    refine c_region ?_
    refine lv (v := Nx (k)) e_move ?_
    refine lv (v := Nx (k + 1)) (e_add (a := ((k : Nat) : Int)) (b := (1 : Int)) rfl rfl (i64n (by omega) (by omega))) ?_
    refine lv (v := Nx (k + 1)) e_assign ?_
    refine l_nil ?_
    refine f_perm (L' := [rowF RopeF 42 (sla (fa51 125)) (slc (fa51 125)) ((partR (partB ids bs) (rs.take k)) ++ [x37]), rowF BodyF 33 tp tc (partB ids bs), pt b12 (.cells #[sB tp (partB ids bs) tc, sB (sla (fa51 125)) ((partR (partB ids bs) (rs.take k)) ++ [x37]) (slc (fa51 125)), Ix (gx), Ix (gy)] 27), pt b2 (.cells #[.slice none 0 0, .slice none 0 0, .int .i64 (0), .int .i64 (0)] 27), pt b1 (.cells #[sB va bs (vc), sB ua rs (uc), Ix (gx), Ix (gy)] 27), pt (blk (fa51 124)) (.cells #[Ix (x37.a), Ix (x37.b), Ix (x37.len)] 42)]) (perm_ix [4, 0, 5, 1, 2, 3] 6 rfl (by kernel_rfl) (by kernel_rfl)) ?_
    refine f_mask (L' := [rowF RopeF 42 (sla (fa51 125)) (slc (fa51 125)) ((partR (partB ids bs) (rs.take k)) ++ [x37]), rowF BodyF 33 tp tc (partB ids bs), pt b12 (.cells #[sB tp (partB ids bs) tc, sB (sla (fa51 125)) ((partR (partB ids bs) (rs.take k)) ++ [x37]) (slc (fa51 125)), Ix (gx), Ix (gy)] 27), pt b2 (.cells #[.slice none 0 0, .slice none 0 0, .int .i64 (0), .int .i64 (0)] 27), pt b1 (.cells #[sB va bs (vc), sB ua rs (uc), Ix (gx), Ix (gy)] 27)]) [true, true, true, true, true, false] rfl ?_
    exact f_cut ⟨(k + 1, (sla (fa51 125)), (slc (fa51 125))), ⟨⟨rfl, rfl, rfl, rfl⟩, by rw [partR_yes hx38 (idx_pos (by omega)) (idx_pos (by omega))], by omega⟩, (show rs.length - (k + 1) < rs.length - k from by omega)⟩
   refine c_skip ?_
   refine f_block ?_
   refine f_then ?_
   refine c_region ?_
   refine lv (v := Nx (k)) e_move ?_
   refine lv (v := Nx (k + 1)) (e_add (a := ((k : Nat) : Int)) (b := (1 : Int)) rfl rfl (i64n (by omega) (by omega))) ?_
   refine lv (v := Nx (k + 1)) e_assign ?_
   refine l_nil ?_
   exact f_cut ⟨(k + 1, sp, sc), ⟨⟨rfl, rfl, rfl, rfl⟩, by rw [partR_no hx38 (fun q => absurd q.2 (by rw [idx_neg.1 (by omega)]; decide))], by omega⟩, (show rs.length - (k + 1) < rs.length - k from by omega)⟩
  refine q_skip rfl rfl rfl rfl rfl rfl ?_
  refine q_skip rfl rfl rfl rfl rfl rfl ?_
  refine q_skip rfl rfl rfl rfl rfl rfl ?_
  refine q_skip rfl rfl rfl rfl rfl rfl ?_
  refine q_skip rfl rfl rfl rfl rfl rfl ?_
  refine q_skip rfl rfl rfl rfl rfl rfl ?_
  refine q_skip rfl rfl rfl rfl rfl rfl ?_
  refine q_skip rfl rfl rfl rfl rfl rfl ?_
  refine q_skip rfl rfl rfl rfl rfl rfl ?_
  refine q_skip rfl rfl rfl rfl rfl rfl ?_
  refine q_val (v := .bool false) rfl rfl rfl (e_pick_f rfl) ?_
  refine q_nil ?_
  refine f_then ?_
  refine c_no rfl ?_
  refine c_skip ?_
  refine f_block ?_
  refine f_then ?_
  refine c_region ?_
  refine lv (v := Nx (k)) e_move ?_
  refine lv (v := Nx (k + 1)) (e_add (a := ((k : Nat) : Int)) (b := (1 : Int)) rfl rfl (i64n (by omega) (by omega))) ?_
  refine lv (v := Nx (k + 1)) e_assign ?_
  refine l_nil ?_
  exact f_cut ⟨(k + 1, sp, sc), ⟨⟨rfl, rfl, rfl, rfl⟩, by rw [partR_no hx38 (fun q => absurd q.1 (by rw [idx_neg.1 (by omega)]; decide))], by omega⟩, (show rs.length - (k + 1) < rs.length - k from by omega)⟩
 refine c_exit ?_
 refine f_then_exit ?_
 refine f_then_exit ?_
 refine f_exit ?_
 refine ftc ?_
 refine lv (v := .agg #[sB tp (partB ids bs) tc, sB sp (partR (partB ids bs) (rs.take k)) sc, Ix (gx), Ix (gy)]) (e_load tf31 rfl (k_pt 2 rfl rfl) rfl) ?_
 refine lu (m_store 3 tf31 (cs' := #[sB tp (partB ids bs) tc, sB sp (partR (partB ids bs) (rs.take k)) sc, Ix (gx), Ix (gy)]) rfl rfl rfl rfl rfl rfl rfl) ?_
 refine lv (v := .int .i64 (0)) e_assign ?_
 refine lnf ?_
 refine c_ret ?_
 refine retG (m := [.agg #[sB tp (partB ids bs) tc, sB sp (partR (partB ids bs) (rs.take k)) sc, Ix (gx), Ix (gy)], .int .i64 (0)]) Tryz.results20 ⟨rd_cell tf31 rfl (k_pt 3 rfl rfl) rfl, rd_tmp (v := .int .i64 (0)) rfl, trivial⟩ rfl ?_
 intro w hw
 have hrt : rs.take k = rs := List.take_of_length_le (by omega)
 rw [hrt] at hw
 have he : errPt bs rs gx gy ids = 0 := errPt_ok hok hfr
 obtain ⟨e1, e2, e3⟩ := pt_good he
 rw [e1, e2, e3, e3, he]
 replace hw := hw.perm (L' := [rowF BodyF 33 tp tc (partB ids bs), rowF RopeF 42 sp sc (partR (partB ids bs) rs), pt b12 (.cells #[sB tp (partB ids bs) tc, sB sp (partR (partB ids bs) rs) sc, Ix (gx), Ix (gy)] 27), pt b2 (.cells #[sB tp (partB ids bs) tc, sB sp (partR (partB ids bs) rs) sc, Ix (gx), Ix (gy)] 27), pt b1 (.cells #[sB va bs (vc), sB ua rs (uc), Ix (gx), Ix (gy)] 27)]) (by exact (perm_ix [1, 0, 2, 3, 4] 5 rfl (by kernel_rfl) (by kernel_rfl)))
 exact ⟨tp, tc, sp, sc, by rw [hrt] <;> rfl, st_mask [true, true, false, false, false] rfl hw⟩
end Go.Proofs
