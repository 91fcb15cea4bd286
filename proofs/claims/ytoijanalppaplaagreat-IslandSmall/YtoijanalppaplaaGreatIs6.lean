/-
 Part: walked. Printed by a program of my own.
-/
import Derived.Test.YtoijanalppaplaaGreatIs5
import Derived.Test.YtoijanalppaplaaGreatSlC
namespace Go.Isl
open Go.Sl Go.Brd Go.Stp Go.Proofs
/-- a free body of that name -/
def freeAt (bs : List KB) (x : Int) : Prop := (findB bs x).isSome = true ∧ ∃ b, bs[lbN bs x]? = some b ∧ b.fixed = false
/-- the bodies of a part -/
def partB (ids : List Int) (bs : List KB) : List KB := bs.filter fun b => b.fixed || decide (b.id ∈ ids)
def partR (pb : List KB) (rs : List KR) : List KR := rs.filter fun r => (findB pb r.a).isSome && (findB pb r.b).isSome
theorem partB_len (ids : List Int) (bs : List KB) : (partB ids bs).length ≤ bs.length := List.length_filter_le _ _
theorem partR_len (pb : List KB) (rs : List KR) : (partR pb rs).length ≤ rs.length := List.length_filter_le _ _
theorem free_next {bs : List KB} {ids : List Int} {k : Nat} {x : Int} (hx : ids[k]? = some x) (h : freeAt bs x) (hf : ∀ z ∈ ids.take k, freeAt bs z) : ∀ z ∈ ids.take (k + 1), freeAt bs z := by
 intro z hz
 rw [List.take_add_one, hx] at hz
 rcases List.mem_append.1 hz with hz | hz
 ·exact hf z hz
 rw [List.mem_singleton.1 hz]; exact h
theorem partB_yes {ids : List Int} {bs : List KB} {k : Nat} {b : KB} (hb : bs[k]? = some b) (h : b.fixed = true ∨ b.id ∈ ids) : partB ids (bs.take k) ++ [b] = partB ids (bs.take (k + 1)) := by
 unfold partB
 rw [List.take_add_one, hb, List.filter_append]
 simp only [sB, rB, Option.toList_some, List.filter_cons, List.filter_nil]
 rw [if_pos (by simpa using h)]
theorem partB_no {ids : List Int} {bs : List KB} {k : Nat} {b : KB} (hb : bs[k]? = some b) (h1 : ¬ (b.fixed = true)) (h2 : ¬ (b.id ∈ ids)) : partB ids (bs.take k) = partB ids (bs.take (k + 1)) := by
 unfold partB
 rw [List.take_add_one, hb, List.filter_append]
 simp only [sB, rB, Option.toList_some, List.filter_cons, List.filter_nil]
 rw [if_neg (by simp [h1, h2]), List.append_nil]
theorem partR_yes {pb : List KB} {rs : List KR} {k : Nat} {r : KR} (hr : rs[k]? = some r) (h1 : (findB pb r.a).isSome = true) (h2 : (findB pb r.b).isSome = true) : partR pb (rs.take k) ++ [r] = partR pb (rs.take (k + 1)) := by
 unfold partR
 rw [List.take_add_one, hr, List.filter_append]
 simp only [sB, rB, Option.toList_some, List.filter_cons, List.filter_nil]
 rw [if_pos (by simp [h1, h2])]
theorem partR_no {pb : List KB} {rs : List KR} {k : Nat} {r : KR} (hr : rs[k]? = some r) (h : ¬ ((findB pb r.a).isSome = true ∧ (findB pb r.b).isSome = true)) : partR pb (rs.take k) = partR pb (rs.take (k + 1)) := by
 unfold partR
 rw [List.take_add_one, hr, List.filter_append]
 simp only [sB, rB, Option.toList_some, List.filter_cons, List.filter_nil]
 rw [if_neg (by simpa using h), List.append_nil]
theorem partB_ord {ids : List Int} {bs : List KB} (h : ordB bs) : ordB (partB ids bs) := pair_ordB ((ordB_pair h).filter _)
/-- what Part answers -/
noncomputable instance (bs : List KB) (x : Int) : Decidable (freeAt bs x) := Classical.propDecidable _
noncomputable def errPt (bs : List KB) (rs : List KR) (gx gy : Int) (ids : List Int) : Int := if okS bs rs gx gy then (if ∀ x ∈ ids, freeAt bs x then 0 else 6) else 2
theorem errPt_bad {bs : List KB} {rs : List KR} {gx gy : Int} (h : ¬ okS bs rs gx gy) (ids : List Int) : errPt bs rs gx gy ids = 2 := if_neg h
theorem errPt_free {bs : List KB} {rs : List KR} {gx gy : Int} {ids : List Int} {x : Int} (h : okS bs rs gx gy) (hx : x ∈ ids) (hf : ¬ freeAt bs x) : errPt bs rs gx gy ids = 6 := by
 rw [errPt, if_pos h, if_neg (fun q => hf (q x hx))]
theorem errPt_ok {bs : List KB} {rs : List KR} {gx gy : Int} {ids : List Int} (h : okS bs rs gx gy) (hf : ∀ x ∈ ids, freeAt bs x) : errPt bs rs gx gy ids = 0 := by
 rw [errPt, if_pos h, if_pos hf]
noncomputable def ptB (bs : List KB) (rs : List KR) (gx gy : Int) (ids : List Int) : List KB := if errPt bs rs gx gy ids = 0 then partB ids bs else []
noncomputable def ptR (bs : List KB) (rs : List KR) (gx gy : Int) (ids : List Int) : List KR := if errPt bs rs gx gy ids = 0 then partR (partB ids bs) rs else []
noncomputable def ptG (bs : List KB) (rs : List KR) (gx gy : Int) (ids : List Int) (g : Int) : Int := if errPt bs rs gx gy ids = 0 then g else 0
theorem pt_bad {bs : List KB} {rs : List KR} {gx gy : Int} {ids : List Int} (h : errPt bs rs gx gy ids ≠ 0) : ptB bs rs gx gy ids = [] ∧ ptR bs rs gx gy ids = [] ∧ ∀ g, ptG bs rs gx gy ids g = 0 := ⟨if_neg h, if_neg h, fun _ => if_neg h⟩
theorem pt_good {bs : List KB} {rs : List KR} {gx gy : Int} {ids : List Int} (h : errPt bs rs gx gy ids = 0) : ptB bs rs gx gy ids = partB ids bs ∧ ptR bs rs gx gy ids = partR (partB ids bs) rs ∧ ∀ g, ptG bs rs gx gy ids g = g := ⟨if_pos h, if_pos h, fun _ => if_pos h⟩
end Go.Isl
namespace Go.Proofs
open Go Go.Sl Go.Brd Go.Stp Go.Isl
theorem tf70 : elB Tryz.prog 33 9 64 = true := by kernel_rfl
theorem tf71 : cfB Tryz.prog 52 = true := by kernel_rfl
theorem tf72 : elB Tryz.prog 42 3 24 = true := by kernel_rfl
set_option maxHeartbeats 4000000 in
theorem part_ok (β : Base) (w : World) (hw : St β [] w) (v u l : Value) (gx gy : Int) (bs : List KB) (rs : List KR) (ids : List Int) (hs_ : Sl KBR β.heap v bs) (hr_ : Sl KRR β.heap u rs) (hi_ : Sl IntF.R β.heap l ids) (hgx : -9223372036854775808 ≤ gx ∧ gx ≤ 9223372036854775807) (hgy : -9223372036854775808 ≤ gy ∧ gy ≤ 9223372036854775807) : Calls Tryz.prog 19 #[.agg #[v, u, Ix gx, Ix gy], l] w fun r w' => ∃ p c q d, r = .returned (.tuple #[.agg #[sB p (ptB bs rs gx gy ids) c, sB q (ptR bs rs gx gy ids) d, Ix (ptG bs rs gx gy ids gx), Ix (ptG bs rs gx gy ids gy)], Ix (errPt bs rs gx gy ids)]) ∧ St β [rowF BodyF 33 p c (ptB bs rs gx gy ids), rowF RopeF 42 q d (ptR bs rs gx gy ids)] w' := by
 obtain ⟨va, vc, rfl, vl, vm, ve⟩ := hs_.get
 obtain ⟨ua, uc, rfl, ul, um, ue⟩ := hr_.get
 obtain ⟨la, lc, rfl, ll, lm, le⟩ := hi_.get
 refine enter (n := 108) Tryz.func19 rfl Tryz.ntmps19 rfl ?_ hw
 refine csr ?_
 refine l_mv rfl rfl rfl (m_box (v := .agg #[sB va bs (vc), sB ua rs (uc), Ix (gx), Ix (gy)]) rfl) ?_
 rintro _ _ ⟨b1, rfl, rfl⟩
 refine l_mv rfl rfl rfl (m_alloc tf67) ?_
 rintro _ _ ⟨b2, rfl, rfl⟩
 refine lv (v := .int .i64 (0)) e_assign ?_
 refine lnf ?_
 refine cs2 ?_
 refine c_region ?_
 refine lv (v := .agg #[sB va bs (vc), sB ua rs (uc), Ix (gx), Ix (gy)]) (e_load tf31 rfl (k_pt 1 rfl rfl) rfl) ?_
 refine lcf (cl0 (vs := [.agg #[sB va bs (vc), sB ua rs (uc), Ix (gx), Ix (gy)]]) tf32 rfl rfl) rfl fun w β1 sb kn hw1 back => (ivalid_ok β1 w hw1 _ _ gx gy bs rs (Sl.mono _ _ _ _ _ sb (⟨⟨_, _, rfl, vl, vm, ve⟩⟩ : Sl KBR _ _ bs)) (Sl.mono _ _ _ _ _ sb (⟨⟨_, _, rfl, ul, um, ue⟩⟩ : Sl KRR _ _ rs)) (by omega) (by omega)).mono ?_
 rintro e w' ⟨rfl, hw'⟩
 refine ⟨_, rfl, _, back _ _ hw', ?_⟩
 clear hw1 hw' back kn sb
 refine lv (v := .bool (decide (¬ (okS bs rs gx gy)))) (e_not_p (p := okS bs rs gx gy) rfl) ?_
 refine lnf ?_
 refine c_if (¬ (okS bs rs gx gy)) rfl (fun hc3 => ?_) (fun hc3 => ?_)
 ·refine csr ?_
  refine lv (v := .agg #[.slice none 0 0, .slice none 0 0, .int .i64 (0), .int .i64 (0)]) (e_build tf67 tf69 (vs := []) (cells := #[.slice none 0 0, .slice none 0 0, .int .i64 (0), .int .i64 (0)]) rfl rfl) ?_
  refine lu (m_store 0 tf31 (cs' := #[.slice none 0 0, .slice none 0 0, .int .i64 (0), .int .i64 (0)]) rfl rfl rfl rfl rfl rfl rfl) ?_
  refine lv (v := .int .i64 (2)) e_assign ?_
  refine lnf ?_
  refine c_ret ?_
  refine f_then_ret ?_
  refine retG (m := [.agg #[.slice none 0 0, .slice none 0 0, .int .i64 (0), .int .i64 (0)], .int .i64 (2)]) Tryz.results19 ⟨rd_cell tf31 rfl (k_pt 0 rfl rfl) rfl, rd_tmp (v := .int .i64 (2)) rfl, trivial⟩ rfl ?_
  intro w hw
  have he := errPt_bad hc3
  obtain ⟨e1, e2, e3⟩ := pt_bad (show errPt bs rs gx gy ids ≠ 0 from by rw [he ids]; decide)
  rw [e1, e2, e3, e3, he]
  exact ⟨none, 0, none, 0, rfl, ((st_mask [false, false] rfl hw).emp (r := rowF RopeF 42 none 0 []) (row_nil _ _ _)).emp (row_nil _ _ _)⟩
 refine csk ?_
 refine cs2 ?_
 refine c_region ?_
 refine lv (v := sB la ids (lc)) e_move ?_
 refine lv (v := Nx (ids.length)) (e_len (a := la) (n := ids.length) (c := lc) rfl tf28) ?_
 refine lv (v := .int .i64 (0)) e_move ?_
 refine lnf ?_
 refine c_block ?_
 refine c_loop (fun (k : Nat) (f : Fm) (L : List Res) => (f 1 = sB la ids (lc) ∧ f 2 = pp b1 0 ∧ f 4 = pp b2 0 ∧ f 23 = sB la ids (lc) ∧ f 24 = Nx (ids.length) ∧ f 25 = Nx (k)) ∧ L = [pt b2 (.cells #[.slice none 0 0, .slice none 0 0, .int .i64 (0), .int .i64 (0)] 27), pt b1 (.cells #[sB va bs (vc), sB ua rs (uc), Ix (gx), Ix (gy)] 27)] ∧ (k ≤ ids.length ∧ ∀ x ∈ ids.take k, freeAt bs x)) (fun (k : Nat) => ids.length - k) 0 ?_ ?_
 ·exact ⟨⟨rfl, rfl, rfl, rfl, rfl, rfl⟩, rfl, ⟨by omega, by simp⟩⟩
 rintro k f0 L0 ⟨⟨hs1, hs2, hs4, hs23, hs24, hs25⟩, hL, ⟨hk, hfr⟩⟩
 subst L0
 refine rebase (d := 1) hs1 ?_
 refine rebase (d := 2) hs2 ?_
 refine rebase (d := 4) hs4 ?_
 refine rebase (d := 23) hs23 ?_
 refine rebase (d := 24) hs24 ?_
 refine rebase (d := 25) hs25 ?_
 clear hs1 hs2 hs4 hs23 hs24 hs25
 refine c_seq ?_
 have hok : okS bs rs gx gy := (Decidable.not_not.1 hc3)
 obtain ⟨hk1, hk2, hk3, hk4, hk5, hk6⟩ := id hok
 refine c_region ?_
 refine lv (e_lss (a := ((k : Nat) : Int)) (b := ((ids.length : Nat) : Int)) rfl rfl) ?_
 refine lnf ?_
 refine c_seq ?_
 refine c_if (((k : Nat) : Int) < ((ids.length : Nat) : Int)) rfl (fun hc4 => ?_) (fun hc4 => ?_)
 ·refine csk ?_
  refine c_seq ?_
  refine c_block ?_
  refine csr ?_
  obtain ⟨x5, hx6⟩ : ∃ x_, (ids)[k]? = some x_ := ⟨_, List.getElem?_eq_getElem (by omega)⟩
  obtain ⟨ha7, cs8, hc9, rfl⟩ := le _ _ hx6
  refine lv (v := .pointer (some ((ba la).add (k * 1)))) (e_indexAddr (k := k) (len := ids.length) (cap := lc) (a := la) rfl rfl tf23 (by omega) ha7) ?_
  refine lv (v := Ix (x5)) (e_load1 tf11 rfl (kB hc9)) ?_
  refine lv (v := Ix (x5)) e_assign ?_
  refine lnc ?_
  refine lv (v := pp b1 0) (e_fieldPt rfl tf33) ?_
  refine lv (v := sB va bs (vc)) (e_load1 tf26 rfl (k_pt 1 rfl rfl)) ?_
  refine lv (v := Ix (x5)) e_move ?_
  refine lcf (cl0 (vs := [sB va bs (vc), Ix (x5), .func (.func 45) #[] #[]]) tf59 rfl rfl) rfl fun w β1 sb kn hw1 back => (find_ok β1 w hw1 _ bs (Sl.mono _ _ _ _ _ sb (⟨⟨_, _, rfl, vl, vm, ve⟩⟩ : Sl KBR _ _ bs)) x5 hk5 (by omega)).mono ?_
  rintro e w' ⟨rfl, hw'⟩
  refine ⟨_, rfl, _, back _ _ hw', ?_⟩
  clear hw1 hw' back kn sb
  refine lv (v := .tuple #[Nx (lbN bs x5), .bool ((findB bs x5).isSome)]) e_move ?_
  refine lv (v := Nx (lbN bs x5)) (e_extract (vs := #[Nx (lbN bs x5), .bool ((findB bs x5).isSome)]) rfl rfl) ?_
  refine lv (v := .bool ((findB bs x5).isSome)) (e_extract (vs := #[Nx (lbN bs x5), .bool ((findB bs x5).isSome)]) rfl rfl) ?_
  refine lv (v := Nx (lbN bs x5)) e_assign ?_
  refine lv (v := .bool ((findB bs x5).isSome)) e_assign ?_
  refine lnf ?_
  refine c_seq ?_
  have hlb : (!(findB bs x5).isSome) = false → lbN bs x5 < bs.length := fun q => by obtain ⟨b, hb, _⟩ := lb_in hk5 (by simpa using q); exact (List.getElem?_eq_some_iff.1 hb).1
  refine c_region ?_
  refine lv (v := .bool ((findB bs x5).isSome)) e_move ?_
  refine lv (v := .bool (!((findB bs x5).isSome))) (e_not rfl) ?_
  refine lv (v := .bool (!((findB bs x5).isSome))) e_move ?_
  refine l_splitb (s := 38) (b := !((findB bs x5).isSome)) rfl (fun hg11 => ?_) (fun hg11 => ?_)
  ·refine l_skip rfl rfl rfl rfl rfl rfl ?_
   refine l_skip rfl rfl rfl rfl rfl rfl ?_
   refine l_skip rfl rfl rfl rfl rfl rfl ?_
   refine l_skip rfl rfl rfl rfl rfl rfl ?_
   refine l_skip rfl rfl rfl rfl rfl rfl ?_
   refine l_skip rfl rfl rfl rfl rfl rfl ?_
   refine lv (v := .bool true) (e_pick_t rfl) ?_
   refine lnf ?_
   refine c_yes rfl ?_
   refine csr ?_
   refine lv (v := .agg #[.slice none 0 0, .slice none 0 0, .int .i64 (0), .int .i64 (0)]) (e_build tf67 tf69 (vs := []) (cells := #[.slice none 0 0, .slice none 0 0, .int .i64 (0), .int .i64 (0)]) rfl rfl) ?_
   refine lu (m_store 0 tf31 (cs' := #[.slice none 0 0, .slice none 0 0, .int .i64 (0), .int .i64 (0)]) rfl rfl rfl rfl rfl rfl rfl) ?_
   refine lv (v := .int .i64 (6)) e_assign ?_
   refine lnf ?_
   refine c_ret ?_
   refine f_block_ret ?_
   refine f_then_ret ?_
   refine f_then_ret ?_
   refine f_block_ret ?_
   refine f_then_ret ?_
   refine retG (m := [.agg #[.slice none 0 0, .slice none 0 0, .int .i64 (0), .int .i64 (0)], .int .i64 (6)]) Tryz.results19 ⟨rd_cell tf31 rfl (k_pt 0 rfl rfl) rfl, rd_tmp (v := .int .i64 (6)) rfl, trivial⟩ rfl ?_
   intro w hw
   have he := errPt_free hok (List.mem_of_getElem? hx6) (fun q => absurd q.1 (by have := hg11; simpa using this))
   obtain ⟨e1, e2, e3⟩ := pt_bad (ids := ids) (show errPt bs rs gx gy ids ≠ 0 from by rw [he]; decide)
   rw [e1, e2, e3, e3, he]
   exact ⟨none, 0, none, 0, rfl, ((st_mask [false, false] rfl hw).emp (r := rowF RopeF 42 none 0 []) (row_nil _ _ _)).emp (row_nil _ _ _)⟩
  refine g_val (v := pp b1 0) rfl rfl rfl rfl rfl (e_fieldPt rfl tf33) ?_
  refine g_val (v := sB va bs (vc)) rfl rfl rfl rfl rfl (e_load1 tf26 rfl (k_pt 1 rfl rfl)) ?_
  refine g_val (v := Nx (lbN bs x5)) rfl rfl rfl rfl rfl e_move ?_
  obtain ⟨x12, hx13⟩ : ∃ x_, (bs)[lbN bs x5]? = some x_ := ⟨_, List.getElem?_eq_getElem (by first | omega | exact hlb ‹_›)⟩
  have hxl := (List.getElem?_eq_some_iff.1 hx13).1
  obtain ⟨ha14, cs15, hc16, rfl⟩ := ve _ _ hx13
  refine g_val (v := .pointer (some ((ba va).add ((lbN bs x5) * 9)))) rfl rfl rfl rfl rfl (e_indexAddr (k := lbN bs x5) (len := bs.length) (cap := vc) (a := va) rfl rfl tf16 (by omega) ha14) ?_
  refine g_val (v := .pointer (some (((ba va).add ((lbN bs x5) * 9) : Addr).add 8))) rfl rfl rfl rfl rfl (e_fieldAddr (a := (ba va).add ((lbN bs x5) * 9)) rfl tf18) ?_
  refine g_val (v := .bool (x12.fixed)) rfl rfl rfl rfl rfl (e_load1 tf19 rfl (Knows.imp (kB hc16) (fun _ h => Cs.sub (vs := [.bool (x12.fixed)]) 8 h rfl))) ?_
  refine lv (v := .bool (x12.fixed)) (e_pick_f rfl) ?_
  refine lnf ?_
  refine c_ifb (x12.fixed) rfl (fun hc18 => ?_) (fun hc18 => ?_)
  ·refine csr ?_
   refine lv (v := .agg #[.slice none 0 0, .slice none 0 0, .int .i64 (0), .int .i64 (0)]) (e_build tf67 tf69 (vs := []) (cells := #[.slice none 0 0, .slice none 0 0, .int .i64 (0), .int .i64 (0)]) rfl rfl) ?_
   refine lu (m_store 0 tf31 (cs' := #[.slice none 0 0, .slice none 0 0, .int .i64 (0), .int .i64 (0)]) rfl rfl rfl rfl rfl rfl rfl) ?_
   refine lv (v := .int .i64 (6)) e_assign ?_
   refine lnf ?_
   refine c_ret ?_
   refine f_block_ret ?_
   refine f_then_ret ?_
   refine f_then_ret ?_
   refine f_block_ret ?_
   refine f_then_ret ?_
   refine retG (m := [.agg #[.slice none 0 0, .slice none 0 0, .int .i64 (0), .int .i64 (0)], .int .i64 (6)]) Tryz.results19 ⟨rd_cell tf31 rfl (k_pt 0 rfl rfl) rfl, rd_tmp (v := .int .i64 (6)) rfl, trivial⟩ rfl ?_
   intro w hw
   have he := errPt_free hok (List.mem_of_getElem? hx6) (fun q => by obtain ⟨-, b, hb, hf⟩ := q; rw [hx13] at hb; injection hb with hb; rw [← hb, hc18] at hf; exact absurd hf (by decide))
   obtain ⟨e1, e2, e3⟩ := pt_bad (ids := ids) (show errPt bs rs gx gy ids ≠ 0 from by rw [he]; decide)
   rw [e1, e2, e3, e3, he]
   exact ⟨none, 0, none, 0, rfl, ((st_mask [false, false] rfl hw).emp (r := rowF RopeF 42 none 0 []) (row_nil _ _ _)).emp (row_nil _ _ _)⟩
  refine c_skip ?_
  refine f_block ?_
  refine f_then ?_
  refine c_region ?_
  refine lv (v := Nx (k + 1)) (e_add (a := ((k : Nat) : Int)) (b := (1 : Int)) rfl rfl (i64n (by omega) (by omega))) ?_
  refine lv (v := Nx (k + 1)) e_move ?_
  refine l_nil ?_
  exact f_cut ⟨k + 1, ⟨⟨rfl, rfl, rfl, rfl, rfl, rfl⟩, rfl, ⟨by omega, free_next hx6 ⟨by simpa using hg11, x12, hx13, by simpa using hc18⟩ hfr⟩⟩, (show ids.length - (k + 1) < ids.length - k from by omega)⟩
 refine c_exit ?_
 refine f_then_exit ?_
 refine f_then_exit ?_
 refine f_exit ?_
 refine fts ?_
 rw [List.take_of_length_le (by omega)] at hfr
 refine c_region ?_
 refine lv (v := pp b1 2) (e_fieldPt rfl tf40) ?_
 refine lv (v := .agg #[Ix (gx), Ix (gy)]) (e_load tf5 rfl (k_pt 1 rfl rfl) rfl) ?_
 refine lv (v := .agg #[.slice none 0 0, .slice none 0 0, Ix (gx), Ix (gy)]) (e_build tf67 tf69 (vs := [(2, .agg #[Ix (gx), Ix (gy)])]) (cells := #[.slice none 0 0, .slice none 0 0, Ix (gx), Ix (gy)]) rfl rfl) ?_
 refine l_mv rfl rfl rfl (m_alloc tf67) ?_
 rintro _ _ ⟨b19, rfl, rfl⟩
 refine lu (m_store 0 tf31 (cs' := #[.slice none 0 0, .slice none 0 0, Ix (gx), Ix (gy)]) rfl rfl rfl rfl rfl rfl rfl) ?_
 refine lnf ?_
 refine cs2 ?_
 refine c_emp (r := rowF BodyF 33 none 0 []) (row_nil _ _ _) ?_
 refine c_region ?_
 refine lv (v := pp b1 0) (e_fieldPt rfl tf33) ?_
 refine lv (v := sB va bs (vc)) (e_load1 tf26 rfl (k_pt 3 rfl rfl)) ?_
 refine lv (v := Nx (bs.length)) (e_len (a := va) (n := bs.length) (c := vc) rfl tf15) ?_
 refine lv (v := .int .i64 (0)) e_move ?_
 refine lnf ?_
 refine c_block ?_
 refine c_loop (fun (x_ : Nat × Option Addr × Nat) (f : Fm) (L : List Res) => match x_ with | (k, tp, tc) => (f 1 = sB la ids (lc) ∧ f 2 = pp b1 0 ∧ f 4 = pp b2 0 ∧ f 10 = pp b19 0 ∧ f 52 = sB va bs (vc) ∧ f 53 = Nx (bs.length) ∧ f 54 = Nx (k)) ∧ L = [rowF BodyF 33 tp tc (partB ids (bs.take k)), pt b19 (.cells #[sB tp (partB ids (bs.take k)) tc, .slice none 0 0, Ix (gx), Ix (gy)] 27), pt b2 (.cells #[.slice none 0 0, .slice none 0 0, .int .i64 (0), .int .i64 (0)] 27), pt b1 (.cells #[sB va bs (vc), sB ua rs (uc), Ix (gx), Ix (gy)] 27)] ∧ (k ≤ bs.length)) (fun (x_ : Nat × Option Addr × Nat) => match x_ with | (k, tp, tc) => bs.length - k) (0, none, 0) ?_ ?_
 ·exact ⟨⟨rfl, rfl, rfl, rfl, rfl, rfl, rfl⟩, rfl, by omega⟩
 rintro ⟨k, tp, tc⟩ f0 L0 ⟨⟨hs1, hs2, hs4, hs10, hs52, hs53, hs54⟩, hL, hk⟩
 subst L0
 refine rebase (d := 1) hs1 ?_
 refine rebase (d := 2) hs2 ?_
 refine rebase (d := 4) hs4 ?_
 refine rebase (d := 10) hs10 ?_
 refine rebase (d := 52) hs52 ?_
 refine rebase (d := 53) hs53 ?_
 refine rebase (d := 54) hs54 ?_
 clear hs1 hs2 hs4 hs10 hs52 hs53 hs54
 have hpl : (partB ids (bs.take k)).length ≤ 64 := by have h1 := partB_len ids (bs.take k); rw [List.length_take] at h1; omega
 refine csr ?_
 refine lv (e_lss (a := ((k : Nat) : Int)) (b := ((bs.length : Nat) : Int)) rfl rfl) ?_
 refine lnf ?_
 refine c_seq ?_
 refine c_if (((k : Nat) : Int) < ((bs.length : Nat) : Int)) rfl (fun hc20 => ?_) (fun hc20 => ?_)
 ·refine csk ?_
  refine c_seq ?_
  refine c_block ?_
  refine csr ?_
  obtain ⟨x21, hx22⟩ : ∃ x_, (bs)[k]? = some x_ := ⟨_, List.getElem?_eq_getElem (by omega)⟩
  obtain ⟨ha23, cs24, hc25, rfl⟩ := ve _ _ hx22
  refine lv (v := .pointer (some ((ba va).add (k * 9)))) (e_indexAddr (k := k) (len := bs.length) (cap := vc) (a := va) rfl rfl tf16 (by omega) ha23) ?_
  refine lv (v := .agg (bC x21)) (e_load tf1 rfl (kB hc25) rfl) ?_
  refine l_mv rfl rfl rfl (m_alloc tf17) ?_
  rintro _ _ ⟨b27, rfl, rfl⟩
  refine lu (m_store 0 tf1 (cs' := (bC x21)) rfl rfl rfl rfl rfl rfl rfl) ?_
  refine lnc ?_
  refine lv (v := pp b27 8) (e_fieldPt rfl tf18) ?_
  refine lv (v := .bool (x21.fixed)) (e_load1 tf19 rfl (k_pt 0 rfl rfl)) ?_
  refine lv (v := .bool (x21.fixed)) e_move ?_
  refine l_splitb (s := 60) (b := x21.fixed) rfl (fun hg28 => ?_) (fun hg28 => ?_)
  ·refine l_skip rfl rfl rfl rfl rfl rfl ?_
   refine l_skip rfl rfl rfl rfl rfl rfl ?_
   refine l_skip rfl rfl rfl rfl rfl rfl ?_
   refine l_skip rfl rfl rfl rfl rfl rfl ?_
   refine lv (v := .bool true) (e_pick_t rfl) ?_
   refine lnf ?_
   refine c_yes rfl ?_
   refine c_region ?_
   refine lv (v := pp b19 0) (e_fieldPt rfl tf33) ?_
   refine lv (v := sB tp (partB ids (bs.take k)) tc) (e_load1 tf26 rfl (k_pt 2 rfl rfl)) ?_
   refine lv (v := .agg (bC x21)) (e_load tf1 rfl (k_pt 0 rfl rfl) rfl) ?_
   refine l_mv rfl rfl rfl (m_slices tf16 tf17 (cells := (bC x21)) rfl rfl rfl (by kernel_rfl)) ?_
   rintro _ _ ⟨b29, rfl, rfl⟩
   refine l_mv rfl rfl rfl (m_appendFlN (F := BodyF) 2 tf16 tf70 (p := tp) (m := (partB ids (bs.take k)).length) (xs := (partB ids (bs.take k))) (ys := [x21]) (ao := (some ⟨b29, 0, none⟩)) (k := 1) (c := 1) rfl rfl rfl rfl rfl (k_ptFl (z := x21) 0 rfl rfl) (by first | omega | simp only [List.length_nil, List.length_cons, List.length_append, List.length_set]; omega) (by first | omega | simp only [List.length_nil, List.length_cons, List.length_append, List.length_set]; omega)) ?_
   rintro _ _ ⟨rp30, rc31, rfl, rfl⟩
   refine lv (v := pp b19 0) (e_fieldPt rfl tf33) ?_
   refine lu (m_store 3 tf26 (cs' := #[sB rp30 ((partB ids (bs.take k)) ++ [x21]) rc31, .slice none 0 0, Ix (gx), Ix (gy)]) rfl rfl rfl rfl rfl rfl rfl) ?_
   refine l_nil ?_
   refine f_block ?_
   refine f_then ?_
   refine c_region ?_
   refine lv (v := Nx (k + 1)) (e_add (a := ((k : Nat) : Int)) (b := (1 : Int)) rfl rfl (i64n (by omega) (by omega))) ?_
   refine lv (v := Nx (k + 1)) e_move ?_
   refine l_nil ?_
   refine f_mask (L' := [rowF BodyF 33 rp30 rc31 ((partB ids (bs.take k)) ++ [x21]), pt b19 (.cells #[sB rp30 ((partB ids (bs.take k)) ++ [x21]) rc31, .slice none 0 0, Ix (gx), Ix (gy)] 27), pt b2 (.cells #[.slice none 0 0, .slice none 0 0, .int .i64 (0), .int .i64 (0)] 27), pt b1 (.cells #[sB va bs (vc), sB ua rs (uc), Ix (gx), Ix (gy)] 27)]) [false, false, true, true, true, true] rfl ?_
   exact f_cut ⟨(k + 1, rp30, rc31), ⟨⟨rfl, rfl, rfl, rfl, rfl, rfl, rfl⟩, by rw [partB_yes hx22 (.inl hg28)], by omega⟩, (show bs.length - (k + 1) < bs.length - k from by omega)⟩
  refine g_val (v := sB la ids (lc)) rfl rfl rfl rfl rfl e_move ?_
  refine g_val (v := pp b27 0) rfl rfl rfl rfl rfl (e_fieldPt rfl tf27) ?_
  refine g_val (v := Ix (x21.id)) rfl rfl rfl rfl rfl (e_load1 tf11 rfl (k_pt 0 rfl rfl)) ?_
  refine g_call rfl rfl rfl rfl rfl (cl0 (vs := [sB la ids (lc), Ix (x21.id)]) tf71 rfl rfl) ?_
  intro w hw
  obtain ⟨β1, sb, kn, hw1, back⟩ := St.frame_all hw
  refine (containsI_ok β1 w hw1 _ ids (Sl.mono _ _ _ _ _ sb (⟨⟨_, _, rfl, ll, lm, le⟩⟩ : Sl IntF.R _ _ ids)) x21.id).mono ?_
  rintro e w' ⟨rfl, hw'⟩
  refine ⟨_, rfl, _, back _ _ hw', ?_⟩
  clear hw hw1 hw' back kn sb
  refine lv (v := .bool (decide (x21.id ∈ ids))) (e_pick_f rfl) ?_
  refine lnf ?_
  refine c_if (x21.id ∈ ids) rfl (fun hc32 => ?_) (fun hc32 => ?_)
  ·refine c_region ?_
   refine lv (v := pp b19 0) (e_fieldPt rfl tf33) ?_
   refine lv (v := sB tp (partB ids (bs.take k)) tc) (e_load1 tf26 rfl (k_pt 2 rfl rfl)) ?_
   refine lv (v := .agg (bC x21)) (e_load tf1 rfl (k_pt 0 rfl rfl) rfl) ?_
   refine l_mv rfl rfl rfl (m_slices tf16 tf17 (cells := (bC x21)) rfl rfl rfl (by kernel_rfl)) ?_
   rintro _ _ ⟨b33, rfl, rfl⟩
   refine l_mv rfl rfl rfl (m_appendFlN (F := BodyF) 2 tf16 tf70 (p := tp) (m := (partB ids (bs.take k)).length) (xs := (partB ids (bs.take k))) (ys := [x21]) (ao := (some ⟨b33, 0, none⟩)) (k := 1) (c := 1) rfl rfl rfl rfl rfl (k_ptFl (z := x21) 0 rfl rfl) (by first | omega | simp only [List.length_nil, List.length_cons, List.length_append, List.length_set]; omega) (by first | omega | simp only [List.length_nil, List.length_cons, List.length_append, List.length_set]; omega)) ?_
   rintro _ _ ⟨rp34, rc35, rfl, rfl⟩
   refine lv (v := pp b19 0) (e_fieldPt rfl tf33) ?_
   refine lu (m_store 3 tf26 (cs' := #[sB rp34 ((partB ids (bs.take k)) ++ [x21]) rc35, .slice none 0 0, Ix (gx), Ix (gy)]) rfl rfl rfl rfl rfl rfl rfl) ?_
   refine l_nil ?_
   refine f_block ?_
   refine f_then ?_
   refine c_region ?_
   refine lv (v := Nx (k + 1)) (e_add (a := ((k : Nat) : Int)) (b := (1 : Int)) rfl rfl (i64n (by omega) (by omega))) ?_
   refine lv (v := Nx (k + 1)) e_move ?_
   refine l_nil ?_
   refine f_mask (L' := [rowF BodyF 33 rp34 rc35 ((partB ids (bs.take k)) ++ [x21]), pt b19 (.cells #[sB rp34 ((partB ids (bs.take k)) ++ [x21]) rc35, .slice none 0 0, Ix (gx), Ix (gy)] 27), pt b2 (.cells #[.slice none 0 0, .slice none 0 0, .int .i64 (0), .int .i64 (0)] 27), pt b1 (.cells #[sB va bs (vc), sB ua rs (uc), Ix (gx), Ix (gy)] 27)]) [false, false, true, true, true, true] rfl ?_
   exact f_cut ⟨(k + 1, rp34, rc35), ⟨⟨rfl, rfl, rfl, rfl, rfl, rfl, rfl⟩, by rw [partB_yes hx22 (.inr hc32)], by omega⟩, (show bs.length - (k + 1) < bs.length - k from by omega)⟩
  refine c_skip ?_
  refine f_block ?_
  refine f_then ?_
  refine c_region ?_
  refine lv (v := Nx (k + 1)) (e_add (a := ((k : Nat) : Int)) (b := (1 : Int)) rfl rfl (i64n (by omega) (by omega))) ?_
  refine lv (v := Nx (k + 1)) e_move ?_
  refine l_nil ?_
  refine f_mask (L' := [rowF BodyF 33 tp tc (partB ids (bs.take k)), pt b19 (.cells #[sB tp (partB ids (bs.take k)) tc, .slice none 0 0, Ix (gx), Ix (gy)] 27), pt b2 (.cells #[.slice none 0 0, .slice none 0 0, .int .i64 (0), .int .i64 (0)] 27), pt b1 (.cells #[sB va bs (vc), sB ua rs (uc), Ix (gx), Ix (gy)] 27)]) [false, true, true, true, true] rfl ?_
  exact f_cut ⟨(k + 1, tp, tc), ⟨⟨rfl, rfl, rfl, rfl, rfl, rfl, rfl⟩, by rw [partB_no hx22 (by first | exact hg28 | (rw [hg28]; decide)) hc32], by omega⟩, (show bs.length - (k + 1) < bs.length - k from by omega)⟩
 refine c_exit ?_
 refine f_then_exit ?_
 refine f_then_exit ?_
 refine f_exit ?_
 refine fts ?_
 refine c_seq ?_
 have hbt : bs.take k = bs := List.take_of_length_le (by omega)
 rw [hbt]
 have hpb := partB_len ids bs
 refine c_emp (r := rowF RopeF 42 none 0 []) (row_nil _ _ _) ?_
 refine c_region ?_
 refine lv (v := pp b1 1) (e_fieldPt rfl tf52) ?_
 refine lv (v := sB ua rs (uc)) (e_load1 tf53 rfl (k_pt 4 rfl rfl)) ?_
 refine lv (v := Nx (rs.length)) (e_len (a := ua) (n := rs.length) (c := uc) rfl tf54) ?_
 refine lv (v := .int .i64 (0)) e_move ?_
 refine lnf ?_
 refine c_block ?_
 refine c_loop (fun (x_ : Nat × Option Addr × Nat) (f : Fm) (L : List Res) => match x_ with | (k, sp, sc) => (f 4 = pp b2 0 ∧ f 10 = pp b19 0 ∧ f 74 = sB ua rs (uc) ∧ f 75 = Nx (rs.length) ∧ f 76 = Nx (k)) ∧ L = [rowF RopeF 42 sp sc (partR (partB ids bs) (rs.take k)), rowF BodyF 33 tp tc (partB ids bs), pt b19 (.cells #[sB tp (partB ids bs) tc, sB sp (partR (partB ids bs) (rs.take k)) sc, Ix (gx), Ix (gy)] 27), pt b2 (.cells #[.slice none 0 0, .slice none 0 0, .int .i64 (0), .int .i64 (0)] 27), pt b1 (.cells #[sB va bs (vc), sB ua rs (uc), Ix (gx), Ix (gy)] 27)] ∧ (k ≤ rs.length)) (fun (x_ : Nat × Option Addr × Nat) => match x_ with | (k, sp, sc) => rs.length - k) (0, none, 0) ?_ ?_
 ·exact ⟨⟨rfl, rfl, rfl, rfl, rfl⟩, rfl, by omega⟩
 rintro ⟨k, sp, sc⟩ f0 L0 ⟨⟨hs4, hs10, hs74, hs75, hs76⟩, hL, hk⟩
 subst L0
 refine rebase (d := 4) hs4 ?_
 refine rebase (d := 10) hs10 ?_
 refine rebase (d := 74) hs74 ?_
 refine rebase (d := 75) hs75 ?_
 refine rebase (d := 76) hs76 ?_
 clear hs4 hs10 hs74 hs75 hs76
 have hrl : (partR (partB ids bs) (rs.take k)).length ≤ 32 := by have h1 := partR_len (partB ids bs) (rs.take k); rw [List.length_take] at h1; omega
 refine csr ?_
 refine lv (e_lss (a := ((k : Nat) : Int)) (b := ((rs.length : Nat) : Int)) rfl rfl) ?_
 refine lnf ?_
 refine c_seq ?_
 refine c_if (((k : Nat) : Int) < ((rs.length : Nat) : Int)) rfl (fun hc36 => ?_) (fun hc36 => ?_)
 ·refine csk ?_
  refine c_seq ?_
  refine c_block ?_
  refine csr ?_
  obtain ⟨x37, hx38⟩ : ∃ x_, (rs)[k]? = some x_ := ⟨_, List.getElem?_eq_getElem (by omega)⟩
  obtain ⟨ha39, cs40, hc41, rfl⟩ := ue _ _ hx38
  refine lv (v := .pointer (some ((ba ua).add (k * 3)))) (e_indexAddr (k := k) (len := rs.length) (cap := uc) (a := ua) rfl rfl tf55 (by omega) ha39) ?_
  refine lv (v := .agg #[Ix (x37.a), Ix (x37.b), Ix (x37.len)]) (e_load tf56 rfl (kB hc41) rfl) ?_
  refine l_mv rfl rfl rfl (m_alloc tf57) ?_
  rintro _ _ ⟨b43, rfl, rfl⟩
  refine lu (m_store 0 tf56 (cs' := #[Ix (x37.a), Ix (x37.b), Ix (x37.len)]) rfl rfl rfl rfl rfl rfl rfl) ?_
  refine lnc ?_
  refine lv (v := pp b19 0) (e_fieldPt rfl tf33) ?_
  refine lv (v := sB tp (partB ids bs) tc) (e_load1 tf26 rfl (k_pt 3 rfl rfl)) ?_
  refine lv (v := pp b43 0) (e_fieldPt rfl tf58) ?_
  refine lv (v := Ix (x37.a)) (e_load1 tf11 rfl (k_pt 0 rfl rfl)) ?_
  refine lcf (cl0 (vs := [sB tp (partB ids bs) tc, Ix (x37.a), .func (.func 45) #[] #[]]) tf59 rfl rfl) rfl fun w β1 sb kn hw1 back => (find_ok β1 w hw1 _ (partB ids bs) (kn _ (k_flN 2 (F := BodyF) (m := (partB ids bs).length) rfl rfl)) x37.a (partB_ord hk5) (by omega)).mono ?_
  rintro e w' ⟨rfl, hw'⟩
  refine ⟨_, rfl, _, back _ _ hw', ?_⟩
  clear hw1 hw' back kn sb
  refine lv (v := .tuple #[Nx (lbN (partB ids bs) x37.a), .bool ((findB (partB ids bs) x37.a).isSome)]) e_move ?_
  refine lv (v := Nx (lbN (partB ids bs) x37.a)) (e_extract (vs := #[Nx (lbN (partB ids bs) x37.a), .bool ((findB (partB ids bs) x37.a).isSome)]) rfl rfl) ?_
  refine lv (v := .bool ((findB (partB ids bs) x37.a).isSome)) (e_extract (vs := #[Nx (lbN (partB ids bs) x37.a), .bool ((findB (partB ids bs) x37.a).isSome)]) rfl rfl) ?_
  refine lv (v := Nx (lbN (partB ids bs) x37.a)) e_assign ?_
  refine lv (v := .bool ((findB (partB ids bs) x37.a).isSome)) e_assign ?_
  refine lnc ?_
  refine lv (v := pp b19 0) (e_fieldPt rfl tf33) ?_
  refine lv (v := sB tp (partB ids bs) tc) (e_load1 tf26 rfl (k_pt 3 rfl rfl)) ?_
  refine lv (v := pp b43 1) (e_fieldPt rfl tf60) ?_
  refine lv (v := Ix (x37.b)) (e_load1 tf11 rfl (k_pt 0 rfl rfl)) ?_
  refine lcf (cl0 (vs := [sB tp (partB ids bs) tc, Ix (x37.b), .func (.func 45) #[] #[]]) tf59 rfl rfl) rfl fun w β1 sb kn hw1 back => (find_ok β1 w hw1 _ (partB ids bs) (kn _ (k_flN 2 (F := BodyF) (m := (partB ids bs).length) rfl rfl)) x37.b (partB_ord hk5) (by omega)).mono ?_
  rintro e w' ⟨rfl, hw'⟩
  refine ⟨_, rfl, _, back _ _ hw', ?_⟩
  clear hw1 hw' back kn sb
  refine lv (v := .tuple #[Nx (lbN (partB ids bs) x37.b), .bool ((findB (partB ids bs) x37.b).isSome)]) e_move ?_
  refine lv (v := Nx (lbN (partB ids bs) x37.b)) (e_extract (vs := #[Nx (lbN (partB ids bs) x37.b), .bool ((findB (partB ids bs) x37.b).isSome)]) rfl rfl) ?_
  refine lv (v := .bool ((findB (partB ids bs) x37.b).isSome)) (e_extract (vs := #[Nx (lbN (partB ids bs) x37.b), .bool ((findB (partB ids bs) x37.b).isSome)]) rfl rfl) ?_
  refine lv (v := Nx (lbN (partB ids bs) x37.b)) e_assign ?_
  refine lv (v := .bool ((findB (partB ids bs) x37.b).isSome)) e_assign ?_
  refine lnc ?_
  refine lv (v := .bool ((findB (partB ids bs) x37.a).isSome)) e_move ?_
  refine lv (v := .bool ((findB (partB ids bs) x37.a).isSome)) e_move ?_
  refine l_splitb (s := 97) (b := (findB (partB ids bs) x37.a).isSome) rfl (fun hg44 => ?_) (fun hg44 => ?_)
  ·refine g_val (v := .bool ((findB (partB ids bs) x37.b).isSome)) rfl rfl rfl rfl rfl e_move ?_
   refine lv (v := .bool ((findB (partB ids bs) x37.b).isSome)) (e_pick_t rfl) ?_
   refine lnf ?_
   refine c_ifb ((findB (partB ids bs) x37.b).isSome) rfl (fun hc45 => ?_) (fun hc45 => ?_)
   ·refine c_region ?_
    refine lv (v := pp b19 1) (e_fieldPt rfl tf52) ?_
    refine lv (v := sB sp (partR (partB ids bs) (rs.take k)) sc) (e_load1 tf53 rfl (k_pt 3 rfl rfl)) ?_
    refine lv (v := .agg #[Ix (x37.a), Ix (x37.b), Ix (x37.len)]) (e_load tf56 rfl (k_pt 0 rfl rfl) rfl) ?_
    refine l_mv rfl rfl rfl (m_slices tf55 tf57 (cells := #[Ix (x37.a), Ix (x37.b), Ix (x37.len)]) rfl rfl rfl rfl) ?_
    rintro _ _ ⟨b46, rfl, rfl⟩
    refine l_mv rfl rfl rfl (m_appendFlN (F := RopeF) 2 tf55 tf72 (p := sp) (m := (partR (partB ids bs) (rs.take k)).length) (xs := (partR (partB ids bs) (rs.take k))) (ys := [x37]) (ao := (some ⟨b46, 0, none⟩)) (k := 1) (c := 1) rfl rfl rfl rfl rfl (k_ptFl (z := x37) 0 rfl rfl) (by first | omega | simp only [List.length_nil, List.length_cons, List.length_append, List.length_set]; omega) (by first | omega | simp only [List.length_nil, List.length_cons, List.length_append, List.length_set]; omega)) ?_
    rintro _ _ ⟨rp47, rc48, rfl, rfl⟩
    refine lv (v := pp b19 1) (e_fieldPt rfl tf52) ?_
    refine lu (m_store 4 tf53 (cs' := #[sB tp (partB ids bs) tc, sB rp47 ((partR (partB ids bs) (rs.take k)) ++ [x37]) rc48, Ix (gx), Ix (gy)]) rfl rfl rfl rfl rfl rfl rfl) ?_
    refine l_nil ?_
    refine f_block ?_
    refine f_then ?_
    refine c_region ?_
    refine lv (v := Nx (k + 1)) (e_add (a := ((k : Nat) : Int)) (b := (1 : Int)) rfl rfl (i64n (by omega) (by omega))) ?_
    refine lv (v := Nx (k + 1)) e_move ?_
    refine l_nil ?_
    refine f_mask (L' := [rowF RopeF 42 rp47 rc48 ((partR (partB ids bs) (rs.take k)) ++ [x37]), rowF BodyF 33 tp tc (partB ids bs), pt b19 (.cells #[sB tp (partB ids bs) tc, sB rp47 ((partR (partB ids bs) (rs.take k)) ++ [x37]) rc48, Ix (gx), Ix (gy)] 27), pt b2 (.cells #[.slice none 0 0, .slice none 0 0, .int .i64 (0), .int .i64 (0)] 27), pt b1 (.cells #[sB va bs (vc), sB ua rs (uc), Ix (gx), Ix (gy)] 27)]) [false, false, true, true, true, true, true] rfl ?_
    exact f_cut ⟨(k + 1, rp47, rc48), ⟨⟨rfl, rfl, rfl, rfl, rfl⟩, by rw [partR_yes hx38 hg44 hc45], by omega⟩, (show rs.length - (k + 1) < rs.length - k from by omega)⟩
   refine c_skip ?_
   refine f_block ?_
   refine f_then ?_
   refine c_region ?_
   refine lv (v := Nx (k + 1)) (e_add (a := ((k : Nat) : Int)) (b := (1 : Int)) rfl rfl (i64n (by omega) (by omega))) ?_
   refine lv (v := Nx (k + 1)) e_move ?_
   refine l_nil ?_
   refine f_mask (L' := [rowF RopeF 42 sp sc (partR (partB ids bs) (rs.take k)), rowF BodyF 33 tp tc (partB ids bs), pt b19 (.cells #[sB tp (partB ids bs) tc, sB sp (partR (partB ids bs) (rs.take k)) sc, Ix (gx), Ix (gy)] 27), pt b2 (.cells #[.slice none 0 0, .slice none 0 0, .int .i64 (0), .int .i64 (0)] 27), pt b1 (.cells #[sB va bs (vc), sB ua rs (uc), Ix (gx), Ix (gy)] 27)]) [false, true, true, true, true, true] rfl ?_
   exact f_cut ⟨(k + 1, sp, sc), ⟨⟨rfl, rfl, rfl, rfl, rfl⟩, by rw [partR_no hx38 (fun q => absurd q.2 (by first | exact hc45 | (rw [hc45]; decide)))], by omega⟩, (show rs.length - (k + 1) < rs.length - k from by omega)⟩
  refine l_skip rfl rfl rfl rfl rfl rfl ?_
  refine lv (v := .bool false) (e_pick_f rfl) ?_
  refine lnf ?_
  refine c_no rfl ?_
  refine c_skip ?_
  refine f_block ?_
  refine f_then ?_
  refine c_region ?_
  refine lv (v := Nx (k + 1)) (e_add (a := ((k : Nat) : Int)) (b := (1 : Int)) rfl rfl (i64n (by omega) (by omega))) ?_
  refine lv (v := Nx (k + 1)) e_move ?_
  refine l_nil ?_
  refine f_mask (L' := [rowF RopeF 42 sp sc (partR (partB ids bs) (rs.take k)), rowF BodyF 33 tp tc (partB ids bs), pt b19 (.cells #[sB tp (partB ids bs) tc, sB sp (partR (partB ids bs) (rs.take k)) sc, Ix (gx), Ix (gy)] 27), pt b2 (.cells #[.slice none 0 0, .slice none 0 0, .int .i64 (0), .int .i64 (0)] 27), pt b1 (.cells #[sB va bs (vc), sB ua rs (uc), Ix (gx), Ix (gy)] 27)]) [false, true, true, true, true, true] rfl ?_
  exact f_cut ⟨(k + 1, sp, sc), ⟨⟨rfl, rfl, rfl, rfl, rfl⟩, by rw [partR_no hx38 (fun q => absurd q.1 (by first | exact hg44 | (rw [hg44]; decide)))], by omega⟩, (show rs.length - (k + 1) < rs.length - k from by omega)⟩
 refine c_exit ?_
 refine f_then_exit ?_
 refine f_then_exit ?_
 refine f_exit ?_
 refine ftc ?_
 refine lv (v := .agg #[sB tp (partB ids bs) tc, sB sp (partR (partB ids bs) (rs.take k)) sc, Ix (gx), Ix (gy)]) (e_load tf31 rfl (k_pt 2 rfl rfl) rfl) ?_
 refine lu (m_store 3 tf31 (cs' := #[sB tp (partB ids bs) tc, sB sp (partR (partB ids bs) (rs.take k)) sc, Ix (gx), Ix (gy)]) rfl rfl rfl rfl rfl rfl rfl) ?_
 refine lv (v := .int .i64 (0)) e_assign ?_
 refine lnf ?_
 refine c_ret ?_
 refine retG (m := [.agg #[sB tp (partB ids bs) tc, sB sp (partR (partB ids bs) (rs.take k)) sc, Ix (gx), Ix (gy)], .int .i64 (0)]) Tryz.results19 ⟨rd_cell tf31 rfl (k_pt 3 rfl rfl) rfl, rd_tmp (v := .int .i64 (0)) rfl, trivial⟩ rfl ?_
 intro w hw
 have hrt : rs.take k = rs := List.take_of_length_le (by omega)
 rw [hrt] at hw
 have he : errPt bs rs gx gy ids = 0 := errPt_ok hok hfr
 obtain ⟨e1, e2, e3⟩ := pt_good he
 rw [e1, e2, e3, e3, he]
 replace hw := hw.perm (L' := [rowF BodyF 33 tp tc (partB ids bs), rowF RopeF 42 sp sc (partR (partB ids bs) rs), pt b19 (.cells #[sB tp (partB ids bs) tc, sB sp (partR (partB ids bs) rs) sc, Ix (gx), Ix (gy)] 27), pt b2 (.cells #[sB tp (partB ids bs) tc, sB sp (partR (partB ids bs) rs) sc, Ix (gx), Ix (gy)] 27), pt b1 (.cells #[sB va bs (vc), sB ua rs (uc), Ix (gx), Ix (gy)] 27)]) (by exact (perm_ix [1, 0, 2, 3, 4] 5 rfl (by kernel_rfl) (by kernel_rfl)))
 exact ⟨tp, tc, sp, sc, by rw [hrt] <;> rfl, st_mask [true, true, false, false, false] rfl hw⟩
end Go.Proofs
