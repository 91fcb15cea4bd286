/-
 How far a mover can go: run. Printed by a program of my own.
-/
import Derived.Test.YtdkibofhppgbjaaGreatDoorSt5
namespace Go.Proofs
open Go Go.Sl Go.Stp
theorem firstR_pos (y : Bool) (b : KB) (s : Int) (most m0 : Nat) (es : List (KB × Int)) : 1 ≤ firstR y b s most m0 es := by
 have key : ∀ (es : List (KB × Int)) (k : Nat), 1 ≤ k → 1 ≤ es.foldl (fun k p => min k (ropeN y b s most p)) k := by
  intro es
  induction es with
  | nil => exact fun k h => h
  | cons e es ih => exact fun k h => ih _ (by have := (ropeN_least y b s most e).1; show 1 ≤ min k (ropeN y b s most e); omega)
 exact key es _ (by omega)
theorem firstR_le (y : Bool) (b : KB) (s : Int) (most m0 : Nat) (es : List (KB × Int)) : firstR y b s most m0 es ≤ m0 + 1 := by
 have key : ∀ (es : List (KB × Int)) (k : Nat), es.foldl (fun k p => min k (ropeN y b s most p)) k ≤ k := by
  intro es
  induction es with
  | nil => exact fun k => Nat.le_refl _
  | cons e es ih => exact fun k => Nat.le_trans (ih _) (Nat.min_le_left _ _)
 exact key es _
theorem firstO_le {y : Bool} {b : KB} {s : Int} {most k0 : Nat} (h : k0 ≤ most + 1) {os : List KB} : (firstO y b s most k0 os).1 ≤ most + 1 := by
 have key : ∀ (os : List KB) (q : Nat × Int), q.1 ≤ most + 1 → (os.foldl (stepO y b s most) q).1 ≤ most + 1 := by
  intro os
  induction os with
  | nil => exact fun q h => h
  | cons o os ih =>
   exact fun q h => ih _ (by
    unfold stepO
    split
    ·exact (blockN_least y b s most o).2.1
    ·exact h)
 exact key os _ h
theorem firstO_pos {y : Bool} {b : KB} {s : Int} {most k0 : Nat} (h : 1 ≤ k0) {os : List KB} : 1 ≤ (firstO y b s most k0 os).1 := by
 have key : ∀ (os : List KB) (q : Nat × Int), 1 ≤ q.1 → 1 ≤ (os.foldl (stepO y b s most) q).1 := by
  intro os
  induction os with
  | nil => exact fun q h => h
  | cons o os ih =>
   exact fun q h => ih _ (by
    unfold stepO
    split
    ·exact (blockN_least y b s most o).1
    ·exact h)
 exact key os _ h
theorem run_eq {bs : List KB} {rs : List KR} {b : KB} {y : Bool} {s : Int} {most m0 : Nat} (h : min (most : Int) (1048576 - s * co y b) = (m0 : Int)) :
  runP bs rs b y s most = ((firstO y b s most (firstR y b s most m0 (ends bs rs b)) (others bs b)).1 - 1, (firstO y b s most (firstR y b s most m0 (ends bs rs b)) (others bs b)).2) := by
 unfold runP; rw [h]; rfl
theorem tf80 : cfB Tryz.prog 89 = true := by kernel_rfl
theorem tf81 : cfB Tryz.prog 93 = true := by kernel_rfl
theorem tf82 : cfB Tryz.prog 94 = true := by kernel_rfl
theorem ends_ok (β : Base) (w : World) (hw : St β [] w) (v rv : Value) (gx gy : Int) (b : KB) (y : Bool) (s : Int) : Calls Tryz.prog 89 #[.agg (mC v rv gx gy b y s)] w fun r w' => ∃ c, r = .returned (.func (.func 144) #[] #[.pointer (some ⟨c, 0, none⟩)]) ∧ St β [pt c (.cells (mC v rv gx gy b y s) 87)] w' := by
 refine enter (n := 4) Tryz.func89 rfl Tryz.ntmps89 rfl ?_ hw
 refine c_seq ?_
 refine c_region ?_
 refine l_mv rfl rfl rfl (m_box (v := .agg (mC v rv gx gy b y s)) rfl) ?_
 rintro _ _ ⟨b1, rfl, rfl⟩
 refine l_val (v := .nilFunc) rfl rfl rfl (e_assign) ?_
 refine l_nil ?_
 refine f_then ?_
 refine c_seq ?_
 refine c_region ?_
 refine l_val (v := .func (.func 144) #[] #[.pointer (some ⟨b1, 0, none⟩)]) rfl rfl rfl (e_func (u := []) (v := [.pointer (some ⟨b1, 0, none⟩)]) rfl rfl) ?_
 refine l_val (v := .func (.func 144) #[] #[.pointer (some ⟨b1, 0, none⟩)]) rfl rfl rfl (e_assign) ?_
 refine l_nil ?_
 refine f_then ?_
 refine c_ret ?_
 refine ret1 Tryz.results89 (v := .func (.func 144) #[] #[.pointer (some ⟨b1, 0, none⟩)]) rfl ?_
 intro w hw
 exact ⟨_, rfl, hw⟩
theorem bodies_ok (β : Base) (w : World) (hw : St β [] w) (v rv : Value) (gx gy : Int) (b : KB) (y : Bool) (s : Int) : Calls Tryz.prog 93 #[.agg (mC v rv gx gy b y s)] w fun r w' => ∃ c, r = .returned (.func (.func 149) #[] #[.pointer (some ⟨c, 0, none⟩)]) ∧ St β [pt c (.cells (mC v rv gx gy b y s) 87)] w' := by
 refine enter (n := 4) Tryz.func93 rfl Tryz.ntmps93 rfl ?_ hw
 refine c_seq ?_
 refine c_region ?_
 refine l_mv rfl rfl rfl (m_box (v := .agg (mC v rv gx gy b y s)) rfl) ?_
 rintro _ _ ⟨b1, rfl, rfl⟩
 refine l_val (v := .nilFunc) rfl rfl rfl (e_assign) ?_
 refine l_nil ?_
 refine f_then ?_
 refine c_seq ?_
 refine c_region ?_
 refine l_val (v := .func (.func 149) #[] #[.pointer (some ⟨b1, 0, none⟩)]) rfl rfl rfl (e_func (u := []) (v := [.pointer (some ⟨b1, 0, none⟩)]) rfl rfl) ?_
 refine l_val (v := .func (.func 149) #[] #[.pointer (some ⟨b1, 0, none⟩)]) rfl rfl rfl (e_assign) ?_
 refine l_nil ?_
 refine f_then ?_
 refine c_ret ?_
 refine ret1 Tryz.results93 (v := .func (.func 149) #[] #[.pointer (some ⟨b1, 0, none⟩)]) rfl ?_
 intro w hw
 exact ⟨_, rfl, hw⟩
theorem run1_fn (β : Base) (c e d : Nat) (v rv : Value) (gx gy : Int) (b : KB) (y : Bool) (s : Int) (hs : s = 1 ∨ s = -1) (hb : okB b) (o : KB) (ho : okB o) (lim : Int) (n : Nat) (hn : n ≤ 1048576) (hc : Cs β.heap ⟨c, 0, none⟩ (mC v rv gx gy b y s).toList) (he : Cs β.heap ⟨e, 0, none⟩ (bodyE o)) (hd : Cs β.heap ⟨d, 0, none⟩ [Ix lim]) : FnV Tryz.prog β (.func (.func 91) #[] #[.pointer (some ⟨c, 0, none⟩), .pointer (some ⟨e, 0, none⟩), .pointer (some ⟨d, 0, none⟩)]) (fun z : Nat => [Nx z]) (fun z => 1 ≤ z ∧ z ≤ n) (fun z => .bool (decide (lim < Stp.dist (sh y b (s * z)) o))) := by
 refine ⟨91, [], [.pointer (some ⟨c, 0, none⟩), .pointer (some ⟨e, 0, none⟩), .pointer (some ⟨d, 0, none⟩)], rfl, by kernel_rfl, fun β₁ sb0 z_ hz_ w hw => ?_⟩
 have hc1 := Cs.mono _ _ _ _ sb0 hc
 have he1 := Cs.mono _ _ _ _ sb0 he
 have hd1 := Cs.mono _ _ _ _ sb0 hd
 obtain ⟨i, hi⟩ : ∃ i, i = z_ := ⟨_, rfl⟩
 subst hi
 refine enter (n := 13) Tryz.func91 rfl Tryz.ntmps91 rfl ?_ hw
 refine c_seq ?_
 refine c_region ?_
 refine l_val (v := .bool false) rfl rfl rfl (e_assign) ?_
 refine l_nil ?_
 refine f_then ?_
 refine c_seq ?_
 refine c_quiet (by kernel_rfl) (by kernel_rfl) ?_
 refine q_val (v := .agg (mC v rv gx gy b y s)) rfl rfl rfl (e_load tf72 (cs := (mC v rv gx gy b y s).toList) rfl (Knows.of_base (Cs.mono _ _) hc1) rfl) ?_
 refine q_val (v := Nx (i)) rfl rfl rfl (e_move) ?_
 refine q_call (v := .agg #[Ix ((sh y b (s * ((i : Nat) : Int))).id), Ix ((sh y b (s * ((i : Nat) : Int))).x), Ix ((sh y b (s * ((i : Nat) : Int))).y), Ix ((sh y b (s * ((i : Nat) : Int))).vx), Ix ((sh y b (s * ((i : Nat) : Int))).vy), Ix ((sh y b (s * ((i : Nat) : Int))).w), Ix ((sh y b (s * ((i : Nat) : Int))).h), .bool ((sh y b (s * ((i : Nat) : Int))).round), .bool ((sh y b (s * ((i : Nat) : Int))).fixed)]) rfl rfl rfl (cl_value (fst := []) (cap := []) (vs := [.agg (mC v rv gx gy b y s), Nx (i)]) (all := [.agg (mC v rv gx gy b y s), Nx (i)]) tf73 rfl rfl rfl) (fun w hw => ?_) ?_
 ·obtain ⟨β1, sb, kn, hw1, back⟩ := St.frame_all hw
  exact (at_ok β1 w hw1 _ _ _ _ b y s hs hb ((i : Nat) : Int) (by omega)).mono (fun e w' ⟨he, hw'⟩ => ⟨he, st_mask [] rfl (back _ _ hw')⟩)
 refine q_val (v := .agg (bC o)) rfl rfl rfl (e_load tf22 (cs := (bodyE o)) rfl (Knows.of_base (Cs.mono _ _) he1) rfl) ?_
 refine q_call (v := Ix (Stp.dist (sh y b (s * ((i : Nat) : Int))) o)) rfl rfl rfl (cl_value (fst := []) (cap := []) (vs := [.agg #[Ix ((sh y b (s * ((i : Nat) : Int))).id), Ix ((sh y b (s * ((i : Nat) : Int))).x), Ix ((sh y b (s * ((i : Nat) : Int))).y), Ix ((sh y b (s * ((i : Nat) : Int))).vx), Ix ((sh y b (s * ((i : Nat) : Int))).vy), Ix ((sh y b (s * ((i : Nat) : Int))).w), Ix ((sh y b (s * ((i : Nat) : Int))).h), .bool ((sh y b (s * ((i : Nat) : Int))).round), .bool ((sh y b (s * ((i : Nat) : Int))).fixed)], .agg (bC o)]) (all := [.agg #[Ix ((sh y b (s * ((i : Nat) : Int))).id), Ix ((sh y b (s * ((i : Nat) : Int))).x), Ix ((sh y b (s * ((i : Nat) : Int))).y), Ix ((sh y b (s * ((i : Nat) : Int))).vx), Ix ((sh y b (s * ((i : Nat) : Int))).vy), Ix ((sh y b (s * ((i : Nat) : Int))).w), Ix ((sh y b (s * ((i : Nat) : Int))).h), .bool ((sh y b (s * ((i : Nat) : Int))).round), .bool ((sh y b (s * ((i : Nat) : Int))).fixed)], .agg (bC o)]) tf79 rfl rfl rfl) (fun w hw => ?_) ?_
 ·obtain ⟨β1, sb, kn, hw1, back⟩ := St.frame_all hw
  exact (dist_ok β1 w hw1 (sh y b (s * ((i : Nat) : Int))) o (mid_sh hb (sgn_mul hs (by omega))) ho.mid).mono (fun e w' ⟨he, hw'⟩ => ⟨he, st_mask [] rfl (back _ _ hw')⟩)
 refine q_val (v := Ix (lim)) rfl rfl rfl (e_load1 tf2 (v := Ix (lim)) rfl (Knows.of_base (Cs.mono _ _) hd1)) ?_
 refine q_val (v := .bool (decide ((lim) < (Stp.dist (sh y b (s * ((i : Nat) : Int))) o)))) rfl rfl rfl (e_gtr (a := (Stp.dist (sh y b (s * ((i : Nat) : Int))) o)) (b := (lim)) rfl rfl) ?_
 refine q_val (v := .bool (decide ((lim) < (Stp.dist (sh y b (s * ((i : Nat) : Int))) o)))) rfl rfl rfl (e_assign) ?_
 refine q_nil ?_
 refine f_then ?_
 refine c_ret ?_
 refine ret1 Tryz.results91 (v := .bool (decide ((lim) < (Stp.dist (sh y b (s * ((i : Nat) : Int))) o)))) rfl ?_
 intro w hw
 exact ⟨rfl, st_mask [] rfl hw⟩
set_option maxHeartbeats 4000000 in
theorem run_ok (β : Base) (w : World) (hw : St β [] w) (hG : GR β) (v rv : Value) (gx gy : Int) (b : KB) (y : Bool) (s : Int) (bs : List KB) (rs : List KR) (hs_ : Sl KBR β.heap v bs) (hr_ : Sl KRR β.heap rv rs) (hbs : ∀ o ∈ bs, okB o) (hrs : ∀ r ∈ rs, okR bs r) (hs : s = 1 ∨ s = -1) (hb : okB b) (hn : bs.length ≤ 1048576) (most : Nat) (hmo : most ≤ 1048576) : Calls Tryz.prog 41 #[.agg (mC v rv gx gy b y s), Nx most] w fun r w' => r = .returned (.tuple #[Nx (runP bs rs b y s most).1, Ix (runP bs rs b y s most).2]) ∧ St β [] w' := by
 have hco := hb.co y
 have hsn := sgn_mul (B := 1048576) (n := co y b) hs (by omega)
 refine enterM (n := 68) Tryz.func41 rfl Tryz.ntmps41 rfl ?_ hw
 refine c_seq ?_
 refine c_region ?_
 refine l_mv rfl rfl rfl (m_box (v := .agg (mC v rv gx gy b y s)) rfl) ?_
 rintro _ _ ⟨b1, rfl, rfl⟩
 refine l_mv rfl rfl rfl (m_box (v := Nx (most)) rfl) ?_
 rintro _ _ ⟨b2, rfl, rfl⟩
 refine l_val (v := .int .i64 (0)) rfl rfl rfl (e_assign) ?_
 refine l_val (v := .int .i64 (0)) rfl rfl rfl (e_assign) ?_
 refine l_nil ?_
 refine f_then ?_
 refine c_seq ?_
 refine c_quiet (by kernel_rfl) (by kernel_rfl) ?_
 refine q_val (v := .pointer (some ⟨b1, 14, none⟩)) rfl rfl rfl (e_fieldPt (b := b1) (o := 0) rfl tf67) ?_
 refine q_val (v := Ix (s)) rfl rfl rfl (e_load1 tf2 (v := Ix (s)) rfl (k_pt 1 (cs := (mC v rv gx gy b y s)) (vs := [Ix (s)]) rfl rfl)) ?_
 refine q_val (v := .pointer (some ⟨b1, 4, none⟩)) rfl rfl rfl (e_fieldPt (b := b1) (o := 0) rfl tf65) ?_
 refine q_val (v := .pointer (some ⟨b1, 5, none⟩)) rfl rfl rfl (e_fieldPt (b := b1) (o := 4) rfl tf6) ?_
 refine q_call (v := .agg #[.pointer (some ⟨b1, 5, none⟩), .pointer (some ⟨b1, 6, none⟩)]) rfl rfl rfl (cl_value (fst := []) (cap := []) (vs := [.pointer (some ⟨b1, 5, none⟩)]) (all := [.pointer (some ⟨b1, 5, none⟩)]) tf63 rfl rfl rfl) (fun w hw => ?_) ?_
 ·obtain ⟨β1, sb, kn, hw1, back⟩ := St.frame_all hw
  exact (axes_ok β1 w hw1 b1 5).mono (fun e w' ⟨he, hw'⟩ => ⟨he, st_mask [true, true] rfl (back _ _ hw')⟩)
 refine q_val (v := .pointer (some ⟨b1, 13, none⟩)) rfl rfl rfl (e_fieldPt (b := b1) (o := 0) rfl tf66) ?_
 refine q_val (v := Nx (y.toNat)) rfl rfl rfl (e_load1 tf2 (v := Nx (y.toNat)) rfl (k_pt 1 (cs := (mC v rv gx gy b y s)) (vs := [Nx (y.toNat)]) rfl rfl)) ?_
 refine q_val (v := .pointer (some ⟨b1, 5 + y.toNat, none⟩)) rfl rfl rfl (ev_eq (by cases y <;> rfl) (e_index_2 (u := .pointer (some ⟨b1, 5, none⟩)) (v := .pointer (some ⟨b1, 6, none⟩)) (y := y) rfl rfl tf61 tf64)) ?_
 refine q_val (v := .pointer (some ⟨b1, 5 + y.toNat, none⟩)) rfl rfl rfl (e_nil (a := ⟨b1, 5 + y.toNat, none⟩) rfl) ?_
 refine q_val (v := Ix (co y b)) rfl rfl rfl (e_load1 tf2 (v := Ix (co y b)) rfl (k_pt 1 (cs := (mC v rv gx gy b y s)) (vs := [Ix (co y b)]) rfl (by cases y <;> rfl))) ?_
 refine q_val (v := Ix ((s) * (co y b))) rfl rfl rfl (e_mul (a := (s)) (b := (co y b)) rfl rfl (i64w (by omega))) ?_
 refine q_val (v := Ix ((1048576 : Int) - ((s) * (co y b)))) rfl rfl rfl (e_sub (a := (1048576 : Int)) (b := ((s) * (co y b))) rfl rfl (i64w (by omega))) ?_
 refine q_val (v := Ix ((1048576 : Int) - ((s) * (co y b)))) rfl rfl rfl (e_assign) ?_
 refine q_nil ?_
 refine f_then ?_
 refine c_seq ?_
 obtain ⟨m0, hm0⟩ : ∃ m0 : Nat, min ((most : Nat) : Int) (1048576 - s * co y b) = ((m0 : Nat) : Int) := ⟨(min ((most : Nat) : Int) (1048576 - s * co y b)).toNat, by omega⟩
 refine c_region ?_
 refine l_val (v := Nx (most)) rfl rfl rfl (e_load1 tf2 (v := Nx (most)) rfl (k_pt 0 (cs := #[Nx (most)]) (vs := [Nx (most)]) rfl rfl)) ?_
 refine l_val (v := Ix ((1048576 : Int) - ((s) * (co y b)))) rfl rfl rfl (e_move) ?_
 refine l_val (v := Nx (m0)) rfl rfl rfl (ev_eq (congrArg (Value.int .i64) hm0) (e_min (a := ((most : Nat) : Int)) (b := ((1048576 : Int) - ((s) * (co y b)))) rfl rfl)) ?_
 refine l_val (v := Nx (m0 + 1)) rfl rfl rfl (e_add (a := ((m0 : Nat) : Int)) (b := (1 : Int)) rfl rfl (i64n (by omega) (by omega))) ?_
 refine l_mv rfl rfl rfl (m_alloc tf4) ?_
 rintro _ _ ⟨b3, rfl, rfl⟩
 refine l_mv rfl rfl rfl (m_alloc tf4) ?_
 rintro _ _ ⟨b4, rfl, rfl⟩
 refine l_mu rfl rfl (m_store 1 tf2 (b := b3) (o := 0) (T := 3) (cs := #[.int .i64 (0)]) (cs' := #[Nx (m0 + 1)]) (v := Nx (m0 + 1)) rfl rfl rfl rfl rfl rfl rfl) ?_
 refine l_mu rfl rfl (m_store 0 tf2 (b := b4) (o := 0) (T := 3) (cs := #[.int .i64 (0)]) (cs' := #[.int .i64 (-1)]) (v := .int .i64 (-1)) rfl rfl rfl rfl rfl rfl rfl) ?_
 refine l_nil ?_
 refine f_then ?_
 refine c_seq ?_
 refine c_seq ?_
 refine c_region ?_
 refine l_val (v := .agg (mC v rv gx gy b y s)) rfl rfl rfl (e_load tf72 (cs := (mC v rv gx gy b y s).toList) rfl (k_pt 3 (cs := (mC v rv gx gy b y s)) (vs := (mC v rv gx gy b y s).toList) rfl rfl) rfl) ?_
 refine l_call rfl rfl rfl (cl_value (fst := []) (cap := []) (vs := [.agg (mC v rv gx gy b y s)]) (all := [.agg (mC v rv gx gy b y s)]) tf80 rfl rfl rfl) ?_
 intro w hw
 obtain ⟨β1, sb, kn, hw1, back⟩ := St.frame_all hw
 refine (ends_ok β1 w hw1 _ _ _ _ b y s).mono ?_
 rintro e w' ⟨c5, rfl, hw'⟩
 refine ⟨_, rfl, _, back _ _ hw', ?_⟩
 clear hw hw1 hw' back kn sb
 refine l_nil ?_
 refine f_then ?_
 refine c_block ?_
 refine c_perm (L' := [pt b4 (.cells #[.int .i64 (-1)] 3), pt b3 (.cells #[Nx (m0 + 1)] 3), pt b2 (.cells #[Nx (most)] 3), pt b1 (.cells (mC v rv gx gy b y s) 87), pt c5 (.cells (mC v rv gx gy b y s) 87)]) (by exact (perm_ix [1, 2, 3, 4, 0] 5 rfl (by kernel_rfl) (by kernel_rfl))) ?_
 refine c_freeze2 (M := [pt b4 (.cells #[.int .i64 (-1)] 3), pt b3 (.cells #[Nx (m0 + 1)] 3), pt b2 (.cells #[Nx (most)] 3), pt b1 (.cells (mC v rv gx gy b y s) 87)]) (K := [pt c5 (.cells (mC v rv gx gy b y s) 87)]) rfl (fun βf1 ext1 kn1 bk1 => ?_)
 have hcE := kn1 _ (k_pt 0 (o := 0) (cs := (mC v rv gx gy b y s)) (vs := (mC v rv gx gy b y s).toList) rfl rfl)
 have hG := GR.mono ext1.sub hG
 have hs_ := Sl.mono _ _ _ _ _ ext1.sub hs_
 have hr_ := Sl.mono _ _ _ _ _ ext1.sub hr_
 refine c_range (α := KB × Int) (enc := fun z : KB × Int => [.agg (bC z.1), Ix z.2]) (S := (· = ends bs rs b)) (ps := [31, 32]) (I := fun (pre : List (KB × Int)) (L : List Res) => L = [pt b4 (.cells #[.int .i64 (-1)] 3), pt b3 (.cells #[Nx (firstR y b s most m0 pre)] 3), pt b2 (.cells #[Nx (most)] 3), pt b1 (.cells (mC v rv gx gy b y s) 87)] ∧ True) (X := fun _ _ _ => False) rfl (ends1_seq βf1 hG c5 _ _ _ _ b y s bs rs hs_ hr_ hbs hrs hb hn hcE) (fun _ => rfl) rfl ⟨rfl, trivial⟩ ?_ ?_ ?_
 ·rintro l β1 pre x M ext hpre ⟨rfl, -⟩
  have hx := ends_mem hb hbs hrs (mem_pre hpre)
  refine c_seq ?_
  refine c_region ?_
  refine l_mv rfl rfl rfl (m_alloc tf58) ?_
  rintro _ _ ⟨b6, rfl, rfl⟩
  refine l_mu rfl rfl (m_store 0 tf22 (b := b6) (o := 0) (T := 52) (cs := #[.int .i64 (0), .int .i64 (0), .int .i64 (0), .int .i64 (0), .int .i64 (0), .int .i64 (0), .int .i64 (0), .bool false, .bool false]) (cs' := (bC x.1)) (v := .agg (bC x.1)) rfl rfl rfl rfl rfl rfl rfl) ?_
  refine l_nil ?_
  refine f_then ?_
  refine c_region ?_
  refine l_mv rfl rfl rfl (m_alloc tf4) ?_
  rintro _ _ ⟨b7, rfl, rfl⟩
  refine l_mu rfl rfl (m_store 0 tf2 (b := b7) (o := 0) (T := 3) (cs := #[.int .i64 (0)]) (cs' := #[Ix (x.2)]) (v := Ix (x.2)) rfl rfl rfl rfl rfl rfl rfl) ?_
  refine l_nil ?_
  refine f_cut (fun β2 ext2 => ?_)
  refine c_block ?_
  refine c_any [⟨[], [], [0], [33], fun f => f 33 = Nx (firstR y b s most m0 pre)⟩, ⟨[], [], [1], [34], fun f => f 34 = Nx (most)⟩, ⟨[], [], [2, 3, 4], [35], fun f => f 35 = .func (.func 91) #[] #[.pointer (some ⟨b1, 0, none⟩), .pointer (some ⟨b6, 0, none⟩), .pointer (some ⟨b7, 0, none⟩)]⟩, ⟨[1, 2], [1, 2], [], [36], fun f => f 36 = Nx (ropeN y b s most x)⟩, ⟨[0, 1, 2, 3], [0, 3], [], [37], fun f => f 37 = Nx (min (firstR y b s most m0 pre) (ropeN y b s most x))⟩, ⟨[0, 1, 2, 3, 4], [4], [0], [], fun _ => True⟩] [⟨none, none, [3], [], fun _ => pt b7 (.cells #[Ix (x.2)] 3)⟩, ⟨none, none, [3], [], fun _ => pt b6 (.cells (bC x.1) 52)⟩, ⟨none, none, [], [], fun _ => pt b4 (.cells #[.int .i64 (-1)] 3)⟩, ⟨none, (some 5), [0, 5], [], fun _ => pt b3 (.cells #[Nx (firstR y b s most m0 pre)] 3)⟩, ⟨none, none, [1], [], fun _ => pt b2 (.cells #[Nx (most)] 3)⟩, ⟨none, none, [3], [], fun _ => pt b1 (.cells (mC v rv gx gy b y s) 87)⟩, ⟨(some 5), none, [], [], fun _ => pt b3 (.cells #[Nx (min (firstR y b s most m0 pre) (ropeN y b s most x))] 3)⟩] [(7, .pointer (some ⟨b3, 0, none⟩)), (3, .pointer (some ⟨b2, 0, none⟩)), (2, .pointer (some ⟨b1, 0, none⟩)), (9, .pointer (some ⟨b6, 0, none⟩)), (10, .pointer (some ⟨b7, 0, none⟩))] [] [] (by kernel_rfl) (by kernel_rfl) (by kernel_rfl) (by kernel_rfl) rfl ⟨rfl, rfl, rfl, rfl, rfl, trivial⟩ ⟨?_, ?_, ?_, ?_, ?_, ?_, trivial⟩ ?_
  ·rintro f M - ⟨i0, -⟩
   have hs7 : f 7 = .pointer (some ⟨b3, 0, none⟩) := i0
   refine ob_start (L' := pt b3 (.cells #[Nx (firstR y b s most m0 pre)] 3) :: M) (by rfl) (up_cons rfl hs7) ?_
   refine l_val (v := Nx (firstR y b s most m0 pre)) rfl rfl rfl (e_load1 tf2 (v := Nx (firstR y b s most m0 pre)) rfl (k_pt 0 (cs := #[Nx (firstR y b s most m0 pre)]) (vs := [Nx (firstR y b s most m0 pre)]) rfl rfl)) ?_
   refine l_nil ?_
   exact f_owes_d (up_cons rfl hs7) rfl (perm_front 0 rfl)
  ·rintro f M - ⟨i0, -⟩
   have hs3 : f 3 = .pointer (some ⟨b2, 0, none⟩) := i0
   refine ob_start (L' := pt b2 (.cells #[Nx (most)] 3) :: M) (by rfl) (up_cons rfl hs3) ?_
   refine l_val (v := Nx (most)) rfl rfl rfl (e_load1 tf2 (v := Nx (most)) rfl (k_pt 0 (cs := #[Nx (most)]) (vs := [Nx (most)]) rfl rfl)) ?_
   refine l_nil ?_
   exact f_owes_d (up_cons rfl hs3) rfl (perm_front 0 rfl)
  ·rintro f M - ⟨i0, i1, i2, -⟩
   have hs2 : f 2 = .pointer (some ⟨b1, 0, none⟩) := i0
   have hs9 : f 9 = .pointer (some ⟨b6, 0, none⟩) := i1
   have hs10 : f 10 = .pointer (some ⟨b7, 0, none⟩) := i2
   refine ob_start (L' := M) (by rfl) (up_cons (up_cons (up_cons rfl hs2) hs9) hs10) ?_
   refine l_val (v := .func (.func 91) #[] #[.pointer (some ⟨b1, 0, none⟩), .pointer (some ⟨b6, 0, none⟩), .pointer (some ⟨b7, 0, none⟩)]) rfl rfl rfl (e_func (u := []) (v := [.pointer (some ⟨b1, 0, none⟩), .pointer (some ⟨b6, 0, none⟩), .pointer (some ⟨b7, 0, none⟩)]) rfl rfl) ?_
   refine l_nil ?_
   exact f_owes_d (up_cons (up_cons (up_cons rfl hs2) hs9) hs10) rfl (List.Perm.refl _)
  ·rintro f M ⟨k0, k1, -⟩ -
   have hs34 : f 34 = Nx (most) := k0
   have hs35 : f 35 = .func (.func 91) #[] #[.pointer (some ⟨b1, 0, none⟩), .pointer (some ⟨b6, 0, none⟩), .pointer (some ⟨b7, 0, none⟩)] := k1
   refine ob_start (L' := pt b7 (.cells #[Ix (x.2)] 3) :: pt b6 (.cells (bC x.1) 52) :: pt b1 (.cells (mC v rv gx gy b y s) 87) :: M) (by rfl) (up_cons (up_cons rfl hs34) hs35) ?_
   refine l_call rfl rfl rfl (cl_value (fst := []) (cap := []) (vs := [Nx (most), .func (.func 91) #[] #[.pointer (some ⟨b1, 0, none⟩), .pointer (some ⟨b6, 0, none⟩), .pointer (some ⟨b7, 0, none⟩)]]) (all := [Nx (most), .func (.func 91) #[] #[.pointer (some ⟨b1, 0, none⟩), .pointer (some ⟨b6, 0, none⟩), .pointer (some ⟨b7, 0, none⟩)]]) tf75 rfl rfl rfl) ?_
   intro w hw
   obtain ⟨β1, sb, kn, hw1, back⟩ := St.frame_all hw
   refine (least_ok β1 w hw1 _ most hmo (fun z => decide (x.2 < Stp.dist (sh y b (s * z)) x.1)) (fun i j h1 h2 h3 h4 => decide_eq_true (dist_on hs h1 h2 hx.2.1 (of_decide_eq_true h4))) (run1_fn β1 b1 b6 b7 _ _ _ _ b y s hs hb x.1 hx.1 x.2 most hmo (kn _ (k_pt 2 (o := 0) (cs := (mC v rv gx gy b y s)) (vs := (mC v rv gx gy b y s).toList) rfl rfl)) (kn _ (k_pt 1 (o := 0) (cs := (bC x.1)) (vs := (bodyE x.1)) rfl rfl)) (kn _ (k_pt 0 (o := 0) (cs := #[Ix (x.2)]) (vs := [Ix (x.2)]) rfl rfl)))).mono ?_
   rintro e w' ⟨rfl, hw'⟩
   refine ⟨_, rfl, _, back _ _ hw', ?_⟩
   clear hw hw1 hw' back kn sb
   refine l_nil ?_
   exact f_owes_d (up_cons (up_cons rfl hs34) hs35) rfl (((perm_front 2 rfl).trans (perm_front 2 rfl)).trans (perm_front 2 rfl))
  ·rintro f M ⟨k0, k1, -⟩ -
   have hs33 : f 33 = Nx (firstR y b s most m0 pre) := k0
   have hs36 : f 36 = Nx (ropeN y b s most x) := k1
   refine ob_start (L' := M) (by rfl) (up_cons (up_cons rfl hs33) hs36) ?_
   refine l_val (v := Nx (min (firstR y b s most m0 pre) (ropeN y b s most x))) rfl rfl rfl (ev_eq (congrArg (Value.int .i64) (by omega)) (e_min (a := ((firstR y b s most m0 pre : Nat) : Int)) (b := ((ropeN y b s most x : Nat) : Int)) rfl rfl)) ?_
   refine l_nil ?_
   exact f_owes_d (up_cons (up_cons rfl hs33) hs36) rfl (List.Perm.refl _)
  ·rintro f M ⟨k0, -⟩ ⟨i0, -⟩
   have hs7 : f 7 = .pointer (some ⟨b3, 0, none⟩) := i0
   have hs37 : f 37 = Nx (min (firstR y b s most m0 pre) (ropeN y b s most x)) := k0
   refine ob_start (L' := pt b3 (.cells #[Nx (firstR y b s most m0 pre)] 3) :: M) (by rfl) (up_cons (up_cons rfl hs7) hs37) ?_
   refine l_mu rfl rfl (m_store 0 tf2 (b := b3) (o := 0) (T := 3) (cs := #[Nx (firstR y b s most m0 pre)]) (cs' := #[Nx (min (firstR y b s most m0 pre) (ropeN y b s most x))]) (v := Nx (min (firstR y b s most m0 pre) (ropeN y b s most x))) rfl rfl rfl rfl rfl rfl rfl) ?_
   refine l_nil ?_
   exact f_owes_n (up_cons (up_cons rfl hs7) hs37) trivial (perm_front 0 rfl)
  rintro fa8 ⟨-, -, -, -, -, -, -⟩ -
  refine f_re (L' := [pt b7 (.cells #[Ix (x.2)] 3), pt b6 (.cells (bC x.1) 52), pt b4 (.cells #[.int .i64 (-1)] 3), pt b2 (.cells #[Nx (most)] 3), pt b1 (.cells (mC v rv gx gy b y s) 87), pt b3 (.cells #[Nx (min (firstR y b s most m0 pre) (ropeN y b s most x))] 3)]) (by rfl) ?_
  refine f_block ?_
  refine f_perm (L' := [pt b4 (.cells #[.int .i64 (-1)] 3), pt b3 (.cells #[Nx (min (firstR y b s most m0 pre) (ropeN y b s most x))] 3), pt b2 (.cells #[Nx (most)] 3), pt b1 (.cells (mC v rv gx gy b y s) 87), pt b7 (.cells #[Ix (x.2)] 3), pt b6 (.cells (bC x.1) 52)]) (perm_ix [2, 5, 3, 4, 0, 1] 6 rfl (by kernel_rfl) (by kernel_rfl)) ?_
  refine f_mask (L' := [pt b4 (.cells #[.int .i64 (-1)] 3), pt b3 (.cells #[Nx (min (firstR y b s most m0 pre) (ropeN y b s most x))] 3), pt b2 (.cells #[Nx (most)] 3), pt b1 (.cells (mC v rv gx gy b y s) 87)]) [true, true, true, true, false, false] rfl ?_
  exact fun a w ha hw => ⟨_, ⟨(by rw [firstR_snoc]; try rfl), trivial⟩, hw⟩
 ·rintro D1 ys1 M hS1 ⟨rfl, -⟩
  refine f_block ?_
  refine f_then ?_
  refine c_seq ?_
  refine c_seq ?_
  refine c_region ?_
  refine l_val (v := .agg (mC v rv gx gy b y s)) rfl rfl rfl (e_load tf72 (cs := (mC v rv gx gy b y s).toList) rfl (k_pt 3 (cs := (mC v rv gx gy b y s)) (vs := (mC v rv gx gy b y s).toList) rfl rfl) rfl) ?_
  refine l_call rfl rfl rfl (cl_value (fst := []) (cap := []) (vs := [.agg (mC v rv gx gy b y s)]) (all := [.agg (mC v rv gx gy b y s)]) tf81 rfl rfl rfl) ?_
  intro w hw
  obtain ⟨β1, sb, kn, hw1, back⟩ := St.frame_all hw
  refine (bodies_ok β1 w hw1 _ _ _ _ b y s).mono ?_
  rintro e w' ⟨c9, rfl, hw'⟩
  refine ⟨_, rfl, _, back _ _ hw', ?_⟩
  clear hw hw1 hw' back kn sb
  refine l_nil ?_
  refine f_then ?_
  refine c_block ?_
  refine c_perm (L' := [pt b4 (.cells #[.int .i64 (-1)] 3), pt b3 (.cells #[Nx (firstR y b s most m0 ys1)] 3), pt b2 (.cells #[Nx (most)] 3), pt b1 (.cells (mC v rv gx gy b y s) 87), pt D1 (.deferred (some [])), pt c9 (.cells (mC v rv gx gy b y s) 87)]) (by exact (perm_ix [1, 2, 3, 4, 5, 0] 6 rfl (by kernel_rfl) (by kernel_rfl))) ?_
  refine c_freeze2 (M := [pt b4 (.cells #[.int .i64 (-1)] 3), pt b3 (.cells #[Nx (firstR y b s most m0 ys1)] 3), pt b2 (.cells #[Nx (most)] 3), pt b1 (.cells (mC v rv gx gy b y s) 87), pt D1 (.deferred (some []))]) (K := [pt c9 (.cells (mC v rv gx gy b y s) 87)]) rfl (fun βf2 ext1 kn1 bk2 => ?_)
  have hcE := kn1 _ (k_pt 0 (o := 0) (cs := (mC v rv gx gy b y s)) (vs := (mC v rv gx gy b y s).toList) rfl rfl)
  have hG := GR.mono ext1.sub hG
  have hs_ := Sl.mono _ _ _ _ _ ext1.sub hs_
  have hr_ := Sl.mono _ _ _ _ _ ext1.sub hr_
  refine c_range (α := KB) (enc := fun z : KB => [.agg (bC z)]) (S := (· = others bs b)) (ps := [40]) (I := fun (pre : List (KB)) (L : List Res) => L = [pt b4 (.cells #[Ix ((firstO y b s most (firstR y b s most m0 (ends bs rs b)) pre).2)] 3), pt b3 (.cells #[Nx ((firstO y b s most (firstR y b s most m0 (ends bs rs b)) pre).1)] 3), pt b2 (.cells #[Nx (most)] 3), pt b1 (.cells (mC v rv gx gy b y s) 87), pt D1 (.deferred (some []))] ∧ True) (X := fun _ _ _ => False) rfl (bodies1_seq βf2 hG c9 _ _ _ _ b y s bs rs hs_ hr_ hbs hrs hb hn hcE) (fun _ => rfl) rfl ⟨by rw [hS1]; rfl, trivial⟩ ?_ ?_ ?_
  ·rintro l β1 pre x M ext hpre ⟨rfl, -⟩
   have hx := others_mem hbs (mem_pre hpre)
   refine c_region ?_
   refine l_mv rfl rfl rfl (m_alloc tf58) ?_
   rintro _ _ ⟨b10, rfl, rfl⟩
   refine l_mu rfl rfl (m_store 0 tf22 (b := b10) (o := 0) (T := 52) (cs := #[.int .i64 (0), .int .i64 (0), .int .i64 (0), .int .i64 (0), .int .i64 (0), .int .i64 (0), .int .i64 (0), .bool false, .bool false]) (cs' := (bC x)) (v := .agg (bC x)) rfl rfl rfl rfl rfl rfl rfl) ?_
   refine l_nil ?_
   refine f_cut (fun β2 ext2 => ?_)
   have hG := GR.mono ext2.sub hG
   have hs_ := Sl.mono _ _ _ _ _ ext2.sub hs_
   have hr_ := Sl.mono _ _ _ _ _ ext2.sub hr_
   refine c_block ?_
   refine c_seq ?_
   refine c_region ?_
   refine l_val (v := .agg (mC v rv gx gy b y s)) rfl rfl rfl (e_load tf72 (cs := (mC v rv gx gy b y s).toList) rfl (k_pt 4 (cs := (mC v rv gx gy b y s)) (vs := (mC v rv gx gy b y s).toList) rfl rfl) rfl) ?_
   refine l_val (v := .agg (bC x)) rfl rfl rfl (e_load tf22 (cs := (bodyE x)) rfl (k_pt 0 (cs := (bC x)) (vs := (bodyE x)) rfl rfl) rfl) ?_
   refine l_val (v := Nx (most)) rfl rfl rfl (e_load1 tf2 (v := Nx (most)) rfl (k_pt 3 (cs := #[Nx (most)]) (vs := [Nx (most)]) rfl rfl)) ?_
   refine l_call rfl rfl rfl (cl_value (fst := []) (cap := []) (vs := [.agg (mC v rv gx gy b y s), .agg (bC x), Nx (most)]) (all := [.agg (mC v rv gx gy b y s), .agg (bC x), Nx (most)]) tf82 rfl rfl rfl) ?_
   intro w hw
   obtain ⟨β1, sb, kn, hw1, back⟩ := St.frame_all hw
   have hG1 := GR.mono sb hG
   refine (blocked_ok β1 w hw1 hG1 _ _ _ _ b y s hs hb x hx.1 hx.2 most hmo).mono ?_
   rintro e w' ⟨rfl, hw'⟩
   refine ⟨_, rfl, _, back _ _ hw', ?_⟩
   clear hw hw1 hw' back kn sb
   refine l_val (v := Nx (blockN y b s most x)) rfl rfl rfl (e_assign) ?_
   refine l_nil ?_
   refine f_then ?_
   refine c_seq ?_
   refine c_region ?_
   refine l_val (v := Nx (blockN y b s most x)) rfl rfl rfl (e_move) ?_
   refine l_val (v := Nx ((firstO y b s most (firstR y b s most m0 (ends bs rs b)) pre).1)) rfl rfl rfl (e_load1 tf2 (v := Nx ((firstO y b s most (firstR y b s most m0 (ends bs rs b)) pre).1)) rfl (k_pt 2 (cs := #[Nx ((firstO y b s most (firstR y b s most m0 (ends bs rs b)) pre).1)]) (vs := [Nx ((firstO y b s most (firstR y b s most m0 (ends bs rs b)) pre).1)]) rfl rfl)) ?_
   refine l_val (v := .bool (decide (((blockN y b s most x : Nat) : Int) < (((firstO y b s most (firstR y b s most m0 (ends bs rs b)) pre).1 : Nat) : Int)))) rfl rfl rfl (e_lss (a := ((blockN y b s most x : Nat) : Int)) (b := (((firstO y b s most (firstR y b s most m0 (ends bs rs b)) pre).1 : Nat) : Int)) rfl rfl) ?_
   refine l_val (v := .bool (decide (((blockN y b s most x : Nat) : Int) < (((firstO y b s most (firstR y b s most m0 (ends bs rs b)) pre).1 : Nat) : Int)))) rfl rfl rfl (e_move) ?_
   refine l_split (s := 48) (p := ((blockN y b s most x : Nat) : Int) < (((firstO y b s most (firstR y b s most m0 (ends bs rs b)) pre).1 : Nat) : Int)) rfl (fun hg11 => ?_) (fun hg11 => ?_)
   ·
    refine l_skip rfl rfl rfl rfl rfl rfl ?_
    refine l_skip rfl rfl rfl rfl rfl rfl ?_
    refine l_skip rfl rfl rfl rfl rfl rfl ?_
    refine l_skip rfl rfl rfl rfl rfl rfl ?_
    refine l_skip_u rfl rfl rfl rfl rfl ?_
    refine l_skip_u rfl rfl rfl rfl rfl ?_
    refine l_skip_u rfl rfl rfl rfl rfl ?_
    refine l_skip rfl rfl rfl rfl rfl rfl ?_
    refine l_skip rfl rfl rfl rfl rfl rfl ?_
    refine l_skip_u rfl rfl rfl rfl rfl ?_
    refine l_skip_u rfl rfl rfl rfl rfl ?_
    refine l_skip rfl rfl rfl rfl rfl rfl ?_
    refine l_val (v := .bool true) rfl rfl rfl (e_pick_t rfl) ?_
    refine l_nil ?_
    refine f_then ?_
    refine c_yes rfl ?_
    refine c_any [⟨[], [], [0], [62], fun f => f 62 = Nx (blockN y b s most x)⟩, ⟨[], [], [1], [63], fun f => f 63 = .pointer (some ⟨b10, 0, none⟩)⟩, ⟨[1], [1], [], [64], fun f => f 64 = Ix (x.id)⟩, ⟨[0], [0], [2], [], fun _ => True⟩, ⟨[0, 1, 2, 3], [2], [3], [], fun _ => True⟩] [⟨none, none, [2], [], fun _ => pt b10 (.cells (bC x) 52)⟩, ⟨none, (some 4), [4], [], fun _ => pt b4 (.cells #[Ix ((firstO y b s most (firstR y b s most m0 (ends bs rs b)) pre).2)] 3)⟩, ⟨none, (some 3), [3], [], fun _ => pt b3 (.cells #[Nx ((firstO y b s most (firstR y b s most m0 (ends bs rs b)) pre).1)] 3)⟩, ⟨none, none, [], [], fun _ => pt b2 (.cells #[Nx (most)] 3)⟩, ⟨none, none, [], [], fun _ => pt b1 (.cells (mC v rv gx gy b y s) 87)⟩, ⟨none, none, [], [], fun _ => pt D1 (.deferred (some []))⟩, ⟨(some 3), none, [], [], fun _ => pt b3 (.cells #[Nx (blockN y b s most x)] 3)⟩, ⟨(some 4), none, [], [], fun _ => pt b4 (.cells #[Ix (x.id)] 3)⟩] [(12, Nx (blockN y b s most x)), (11, .pointer (some ⟨b10, 0, none⟩)), (7, .pointer (some ⟨b3, 0, none⟩)), (8, .pointer (some ⟨b4, 0, none⟩))] [] [] (by kernel_rfl) (by kernel_rfl) (by kernel_rfl) (by kernel_rfl) rfl ⟨rfl, rfl, rfl, rfl, trivial⟩ ⟨?_, ?_, ?_, ?_, ?_, trivial⟩ ?_
    ·rintro f M - ⟨i0, -⟩
     have hs12 : f 12 = Nx (blockN y b s most x) := i0
     refine ob_start (L' := M) (by rfl) (up_cons rfl hs12) ?_
     refine l_val (v := Nx (blockN y b s most x)) rfl rfl rfl (e_move) ?_
     refine l_nil ?_
     exact f_owes_d (up_cons rfl hs12) rfl (List.Perm.refl _)
    ·rintro f M - ⟨i0, -⟩
     have hs11 : f 11 = .pointer (some ⟨b10, 0, none⟩) := i0
     refine ob_start (L' := M) (by rfl) (up_cons rfl hs11) ?_
     refine l_val (v := .pointer (some ⟨b10, 0, none⟩)) rfl rfl rfl (e_fieldPt (b := b10) (o := 0) rfl tf3) ?_
     refine l_nil ?_
     exact f_owes_d (up_cons rfl hs11) rfl (List.Perm.refl _)
    ·rintro f M ⟨k0, -⟩ -
     have hs63 : f 63 = .pointer (some ⟨b10, 0, none⟩) := k0
     refine ob_start (L' := pt b10 (.cells (bC x) 52) :: M) (by rfl) (up_cons rfl hs63) ?_
     refine l_val (v := Ix (x.id)) rfl rfl rfl (e_load1 tf2 (v := Ix (x.id)) rfl (k_pt 0 (cs := (bC x)) (vs := [Ix (x.id)]) rfl rfl)) ?_
     refine l_nil ?_
     exact f_owes_d (up_cons rfl hs63) rfl (perm_front 0 rfl)
    ·rintro f M ⟨k0, -⟩ ⟨i0, -⟩
     have hs7 : f 7 = .pointer (some ⟨b3, 0, none⟩) := i0
     have hs62 : f 62 = Nx (blockN y b s most x) := k0
     refine ob_start (L' := pt b3 (.cells #[Nx ((firstO y b s most (firstR y b s most m0 (ends bs rs b)) pre).1)] 3) :: M) (by rfl) (up_cons (up_cons rfl hs7) hs62) ?_
     refine l_mu rfl rfl (m_store 0 tf2 (b := b3) (o := 0) (T := 3) (cs := #[Nx ((firstO y b s most (firstR y b s most m0 (ends bs rs b)) pre).1)]) (cs' := #[Nx (blockN y b s most x)]) (v := Nx (blockN y b s most x)) rfl rfl rfl rfl rfl rfl rfl) ?_
     refine l_nil ?_
     exact f_owes_n (up_cons (up_cons rfl hs7) hs62) trivial (perm_front 0 rfl)
    ·rintro f M ⟨k0, -⟩ ⟨i0, -⟩
     have hs8 : f 8 = .pointer (some ⟨b4, 0, none⟩) := i0
     have hs64 : f 64 = Ix (x.id) := k0
     refine ob_start (L' := pt b4 (.cells #[Ix ((firstO y b s most (firstR y b s most m0 (ends bs rs b)) pre).2)] 3) :: M) (by rfl) (up_cons (up_cons rfl hs8) hs64) ?_
     refine l_mu rfl rfl (m_store 0 tf2 (b := b4) (o := 0) (T := 3) (cs := #[Ix ((firstO y b s most (firstR y b s most m0 (ends bs rs b)) pre).2)]) (cs' := #[Ix (x.id)]) (v := Ix (x.id)) rfl rfl rfl rfl rfl rfl rfl) ?_
     refine l_nil ?_
     exact f_owes_n (up_cons (up_cons rfl hs8) hs64) trivial (perm_front 0 rfl)
    rintro fa12 ⟨-, -, -, -, -, -⟩ -
    refine f_re (L' := [pt b10 (.cells (bC x) 52), pt b2 (.cells #[Nx (most)] 3), pt b1 (.cells (mC v rv gx gy b y s) 87), pt D1 (.deferred (some [])), pt b3 (.cells #[Nx (blockN y b s most x)] 3), pt b4 (.cells #[Ix (x.id)] 3)]) (by rfl) ?_
    refine f_block ?_
    refine f_perm (L' := [pt b4 (.cells #[Ix (x.id)] 3), pt b3 (.cells #[Nx (blockN y b s most x)] 3), pt b2 (.cells #[Nx (most)] 3), pt b1 (.cells (mC v rv gx gy b y s) 87), pt D1 (.deferred (some [])), pt b10 (.cells (bC x) 52)]) (perm_ix [5, 4, 1, 2, 3, 0] 6 rfl (by kernel_rfl) (by kernel_rfl)) ?_
    refine f_mask (L' := [pt b4 (.cells #[Ix (x.id)] 3), pt b3 (.cells #[Nx (blockN y b s most x)] 3), pt b2 (.cells #[Nx (most)] 3), pt b1 (.cells (mC v rv gx gy b y s) 87), pt D1 (.deferred (some []))]) [true, true, true, true, true, false] rfl ?_
    exact fun a w ha hw => ⟨_, ⟨(by rw [firstO_yes (by omega)]; try rfl), trivial⟩, hw⟩
   ·
    refine g_val (v := Nx (blockN y b s most x)) rfl rfl rfl rfl rfl (e_move) ?_
    refine g_val (v := Nx ((firstO y b s most (firstR y b s most m0 (ends bs rs b)) pre).1)) rfl rfl rfl rfl rfl (e_load1 tf2 (v := Nx ((firstO y b s most (firstR y b s most m0 (ends bs rs b)) pre).1)) rfl (k_pt 2 (cs := #[Nx ((firstO y b s most (firstR y b s most m0 (ends bs rs b)) pre).1)]) (vs := [Nx ((firstO y b s most (firstR y b s most m0 (ends bs rs b)) pre).1)]) rfl rfl)) ?_
    refine g_val (v := .bool (decide (((blockN y b s most x : Nat) : Int) = (((firstO y b s most (firstR y b s most m0 (ends bs rs b)) pre).1 : Nat) : Int)))) rfl rfl rfl rfl rfl (e_eql (a := ((blockN y b s most x : Nat) : Int)) (b := (((firstO y b s most (firstR y b s most m0 (ends bs rs b)) pre).1 : Nat) : Int)) rfl rfl) ?_
    refine g_val (v := .bool (decide (((blockN y b s most x : Nat) : Int) = (((firstO y b s most (firstR y b s most m0 (ends bs rs b)) pre).1 : Nat) : Int)))) rfl rfl rfl rfl rfl (e_move) ?_
    refine l_split (s := 52) (p := ((blockN y b s most x : Nat) : Int) = (((firstO y b s most (firstR y b s most m0 (ends bs rs b)) pre).1 : Nat) : Int)) rfl (fun hg13 => ?_) (fun hg13 => ?_)
    ·
     refine g_val (v := Nx (blockN y b s most x)) rfl rfl rfl rfl rfl (e_move) ?_
     refine g_val (v := Nx (most)) rfl rfl rfl rfl rfl (e_load1 tf2 (v := Nx (most)) rfl (k_pt 3 (cs := #[Nx (most)]) (vs := [Nx (most)]) rfl rfl)) ?_
     refine g_val (v := .bool (decide (((blockN y b s most x : Nat) : Int) ≤ ((most : Nat) : Int)))) rfl rfl rfl rfl rfl (e_leq (a := ((blockN y b s most x : Nat) : Int)) (b := ((most : Nat) : Int)) rfl rfl) ?_
     refine g_val (v := .bool (decide (((blockN y b s most x : Nat) : Int) ≤ ((most : Nat) : Int)))) rfl rfl rfl rfl rfl (e_pick_t rfl) ?_
     refine g_val (v := .bool (decide (((blockN y b s most x : Nat) : Int) ≤ ((most : Nat) : Int)))) rfl rfl rfl rfl rfl (e_move) ?_
     refine l_split (s := 57) (p := ((blockN y b s most x : Nat) : Int) ≤ ((most : Nat) : Int)) rfl (fun hg14 => ?_) (fun hg14 => ?_)
     ·
      refine g_val (v := Ix ((firstO y b s most (firstR y b s most m0 (ends bs rs b)) pre).2)) rfl rfl rfl rfl rfl (e_load1 tf2 (v := Ix ((firstO y b s most (firstR y b s most m0 (ends bs rs b)) pre).2)) rfl (k_pt 1 (cs := #[Ix ((firstO y b s most (firstR y b s most m0 (ends bs rs b)) pre).2)]) (vs := [Ix ((firstO y b s most (firstR y b s most m0 (ends bs rs b)) pre).2)]) rfl rfl)) ?_
      refine g_val (v := .bool (decide (((firstO y b s most (firstR y b s most m0 (ends bs rs b)) pre).2) < (0 : Int)))) rfl rfl rfl rfl rfl (e_lss (a := ((firstO y b s most (firstR y b s most m0 (ends bs rs b)) pre).2)) (b := (0 : Int)) rfl rfl) ?_
      refine g_val (v := .bool (decide (((firstO y b s most (firstR y b s most m0 (ends bs rs b)) pre).2) < (0 : Int)))) rfl rfl rfl rfl rfl (e_pick_t rfl) ?_
      refine l_val (v := .bool (decide (((firstO y b s most (firstR y b s most m0 (ends bs rs b)) pre).2) < (0 : Int)))) rfl rfl rfl (e_pick_f rfl) ?_
      refine l_nil ?_
      refine f_then ?_
      refine c_if (((firstO y b s most (firstR y b s most m0 (ends bs rs b)) pre).2) < (0 : Int)) rfl (fun hc15 => ?_) (fun hc15 => ?_)
      ·
       refine c_any [⟨[], [], [0], [62], fun f => f 62 = Nx (blockN y b s most x)⟩, ⟨[], [], [1], [63], fun f => f 63 = .pointer (some ⟨b10, 0, none⟩)⟩, ⟨[1], [1], [], [64], fun f => f 64 = Ix (x.id)⟩, ⟨[0], [0], [2], [], fun _ => True⟩, ⟨[0, 1, 2, 3], [2], [3], [], fun _ => True⟩] [⟨none, none, [2], [], fun _ => pt b10 (.cells (bC x) 52)⟩, ⟨none, (some 4), [4], [], fun _ => pt b4 (.cells #[Ix ((firstO y b s most (firstR y b s most m0 (ends bs rs b)) pre).2)] 3)⟩, ⟨none, (some 3), [3], [], fun _ => pt b3 (.cells #[Nx ((firstO y b s most (firstR y b s most m0 (ends bs rs b)) pre).1)] 3)⟩, ⟨none, none, [], [], fun _ => pt b2 (.cells #[Nx (most)] 3)⟩, ⟨none, none, [], [], fun _ => pt b1 (.cells (mC v rv gx gy b y s) 87)⟩, ⟨none, none, [], [], fun _ => pt D1 (.deferred (some []))⟩, ⟨(some 3), none, [], [], fun _ => pt b3 (.cells #[Nx (blockN y b s most x)] 3)⟩, ⟨(some 4), none, [], [], fun _ => pt b4 (.cells #[Ix (x.id)] 3)⟩] [(12, Nx (blockN y b s most x)), (11, .pointer (some ⟨b10, 0, none⟩)), (7, .pointer (some ⟨b3, 0, none⟩)), (8, .pointer (some ⟨b4, 0, none⟩))] [] [] (by kernel_rfl) (by kernel_rfl) (by kernel_rfl) (by kernel_rfl) rfl ⟨rfl, rfl, rfl, rfl, trivial⟩ ⟨?_, ?_, ?_, ?_, ?_, trivial⟩ ?_
       ·rintro f M - ⟨i0, -⟩
        have hs12 : f 12 = Nx (blockN y b s most x) := i0
        refine ob_start (L' := M) (by rfl) (up_cons rfl hs12) ?_
        refine l_val (v := Nx (blockN y b s most x)) rfl rfl rfl (e_move) ?_
        refine l_nil ?_
        exact f_owes_d (up_cons rfl hs12) rfl (List.Perm.refl _)
       ·rintro f M - ⟨i0, -⟩
        have hs11 : f 11 = .pointer (some ⟨b10, 0, none⟩) := i0
        refine ob_start (L' := M) (by rfl) (up_cons rfl hs11) ?_
        refine l_val (v := .pointer (some ⟨b10, 0, none⟩)) rfl rfl rfl (e_fieldPt (b := b10) (o := 0) rfl tf3) ?_
        refine l_nil ?_
        exact f_owes_d (up_cons rfl hs11) rfl (List.Perm.refl _)
       ·rintro f M ⟨k0, -⟩ -
        have hs63 : f 63 = .pointer (some ⟨b10, 0, none⟩) := k0
        refine ob_start (L' := pt b10 (.cells (bC x) 52) :: M) (by rfl) (up_cons rfl hs63) ?_
        refine l_val (v := Ix (x.id)) rfl rfl rfl (e_load1 tf2 (v := Ix (x.id)) rfl (k_pt 0 (cs := (bC x)) (vs := [Ix (x.id)]) rfl rfl)) ?_
        refine l_nil ?_
        exact f_owes_d (up_cons rfl hs63) rfl (perm_front 0 rfl)
       ·rintro f M ⟨k0, -⟩ ⟨i0, -⟩
        have hs7 : f 7 = .pointer (some ⟨b3, 0, none⟩) := i0
        have hs62 : f 62 = Nx (blockN y b s most x) := k0
        refine ob_start (L' := pt b3 (.cells #[Nx ((firstO y b s most (firstR y b s most m0 (ends bs rs b)) pre).1)] 3) :: M) (by rfl) (up_cons (up_cons rfl hs7) hs62) ?_
        refine l_mu rfl rfl (m_store 0 tf2 (b := b3) (o := 0) (T := 3) (cs := #[Nx ((firstO y b s most (firstR y b s most m0 (ends bs rs b)) pre).1)]) (cs' := #[Nx (blockN y b s most x)]) (v := Nx (blockN y b s most x)) rfl rfl rfl rfl rfl rfl rfl) ?_
        refine l_nil ?_
        exact f_owes_n (up_cons (up_cons rfl hs7) hs62) trivial (perm_front 0 rfl)
       ·rintro f M ⟨k0, -⟩ ⟨i0, -⟩
        have hs8 : f 8 = .pointer (some ⟨b4, 0, none⟩) := i0
        have hs64 : f 64 = Ix (x.id) := k0
        refine ob_start (L' := pt b4 (.cells #[Ix ((firstO y b s most (firstR y b s most m0 (ends bs rs b)) pre).2)] 3) :: M) (by rfl) (up_cons (up_cons rfl hs8) hs64) ?_
        refine l_mu rfl rfl (m_store 0 tf2 (b := b4) (o := 0) (T := 3) (cs := #[Ix ((firstO y b s most (firstR y b s most m0 (ends bs rs b)) pre).2)]) (cs' := #[Ix (x.id)]) (v := Ix (x.id)) rfl rfl rfl rfl rfl rfl rfl) ?_
        refine l_nil ?_
        exact f_owes_n (up_cons (up_cons rfl hs8) hs64) trivial (perm_front 0 rfl)
       rintro fa16 ⟨-, -, -, -, -, -⟩ -
       refine f_re (L' := [pt b10 (.cells (bC x) 52), pt b2 (.cells #[Nx (most)] 3), pt b1 (.cells (mC v rv gx gy b y s) 87), pt D1 (.deferred (some [])), pt b3 (.cells #[Nx (blockN y b s most x)] 3), pt b4 (.cells #[Ix (x.id)] 3)]) (by rfl) ?_
       refine f_block ?_
       refine f_perm (L' := [pt b4 (.cells #[Ix (x.id)] 3), pt b3 (.cells #[Nx (blockN y b s most x)] 3), pt b2 (.cells #[Nx (most)] 3), pt b1 (.cells (mC v rv gx gy b y s) 87), pt D1 (.deferred (some [])), pt b10 (.cells (bC x) 52)]) (perm_ix [5, 4, 1, 2, 3, 0] 6 rfl (by kernel_rfl) (by kernel_rfl)) ?_
       refine f_mask (L' := [pt b4 (.cells #[Ix (x.id)] 3), pt b3 (.cells #[Nx (blockN y b s most x)] 3), pt b2 (.cells #[Nx (most)] 3), pt b1 (.cells (mC v rv gx gy b y s) 87), pt D1 (.deferred (some []))]) [true, true, true, true, true, false] rfl ?_
       exact fun a w ha hw => ⟨_, ⟨(by rw [firstO_yes (by omega)]; try rfl), trivial⟩, hw⟩
      ·
       refine c_skip ?_
       refine f_block ?_
       refine f_mask (L' := [pt b4 (.cells #[Ix ((firstO y b s most (firstR y b s most m0 (ends bs rs b)) pre).2)] 3), pt b3 (.cells #[Nx ((firstO y b s most (firstR y b s most m0 (ends bs rs b)) pre).1)] 3), pt b2 (.cells #[Nx (most)] 3), pt b1 (.cells (mC v rv gx gy b y s) 87), pt D1 (.deferred (some []))]) [false, true, true, true, true, true] rfl ?_
       exact fun a w ha hw => ⟨_, ⟨(by rw [firstO_no (by omega)]; try rfl), trivial⟩, hw⟩
     ·
      refine l_skip rfl rfl rfl rfl rfl rfl ?_
      refine l_skip rfl rfl rfl rfl rfl rfl ?_
      refine g_val (v := .bool false) rfl rfl rfl rfl rfl (e_pick_f rfl) ?_
      refine l_val (v := .bool false) rfl rfl rfl (e_pick_f rfl) ?_
      refine l_nil ?_
      refine f_then ?_
      refine c_no rfl ?_
      refine c_skip ?_
      refine f_block ?_
      refine f_mask (L' := [pt b4 (.cells #[Ix ((firstO y b s most (firstR y b s most m0 (ends bs rs b)) pre).2)] 3), pt b3 (.cells #[Nx ((firstO y b s most (firstR y b s most m0 (ends bs rs b)) pre).1)] 3), pt b2 (.cells #[Nx (most)] 3), pt b1 (.cells (mC v rv gx gy b y s) 87), pt D1 (.deferred (some []))]) [false, true, true, true, true, true] rfl ?_
      exact fun a w ha hw => ⟨_, ⟨(by rw [firstO_no (by omega)]; try rfl), trivial⟩, hw⟩
    ·
     refine l_skip rfl rfl rfl rfl rfl rfl ?_
     refine l_skip rfl rfl rfl rfl rfl rfl ?_
     refine l_skip rfl rfl rfl rfl rfl rfl ?_
     refine g_val (v := .bool false) rfl rfl rfl rfl rfl (e_pick_f rfl) ?_
     refine g_val (v := .bool false) rfl rfl rfl rfl rfl (e_move) ?_
     refine l_skip rfl rfl rfl rfl rfl rfl ?_
     refine l_skip rfl rfl rfl rfl rfl rfl ?_
     refine g_val (v := .bool false) rfl rfl rfl rfl rfl (e_pick_f rfl) ?_
     refine l_val (v := .bool false) rfl rfl rfl (e_pick_f rfl) ?_
     refine l_nil ?_
     refine f_then ?_
     refine c_no rfl ?_
     refine c_skip ?_
     refine f_block ?_
     refine f_mask (L' := [pt b4 (.cells #[Ix ((firstO y b s most (firstR y b s most m0 (ends bs rs b)) pre).2)] 3), pt b3 (.cells #[Nx ((firstO y b s most (firstR y b s most m0 (ends bs rs b)) pre).1)] 3), pt b2 (.cells #[Nx (most)] 3), pt b1 (.cells (mC v rv gx gy b y s) 87), pt D1 (.deferred (some []))]) [false, true, true, true, true, true] rfl ?_
     exact fun a w ha hw => ⟨_, ⟨(by rw [firstO_no (by omega)]; try rfl), trivial⟩, hw⟩
  ·rintro D2 ys2 M hS2 ⟨rfl, -⟩
   refine f_block ?_
   refine f_then ?_
   refine c_seq ?_
   have hf1 : 1 ≤ (firstO y b s most (firstR y b s most m0 (ends bs rs b)) ys2).1 := by rw [hS2]; exact firstO_pos (firstR_pos _ _ _ _ _ _)
   have hf2 : (firstO y b s most (firstR y b s most m0 (ends bs rs b)) ys2).1 ≤ most + 1 := by rw [hS2]; exact firstO_le (Nat.le_trans (firstR_le _ _ _ _ _ _) (by omega))
   refine c_quiet (by kernel_rfl) (by kernel_rfl) ?_
   refine q_val (v := Nx ((firstO y b s most (firstR y b s most m0 (ends bs rs b)) ys2).1)) rfl rfl rfl (e_load1 tf2 (v := Nx ((firstO y b s most (firstR y b s most m0 (ends bs rs b)) ys2).1)) rfl (k_pt 1 (cs := #[Nx ((firstO y b s most (firstR y b s most m0 (ends bs rs b)) ys2).1)]) (vs := [Nx ((firstO y b s most (firstR y b s most m0 (ends bs rs b)) ys2).1)]) rfl rfl)) ?_
   refine q_val (v := Nx (((firstO y b s most (firstR y b s most m0 (ends bs rs b)) ys2).1) - 1)) rfl rfl rfl (ev_eq (congrArg (Value.int .i64) (by omega)) (e_sub (a := (((firstO y b s most (firstR y b s most m0 (ends bs rs b)) ys2).1 : Nat) : Int)) (b := (1 : Int)) rfl rfl (i64w (by omega)))) ?_
   refine q_val (v := Ix ((firstO y b s most (firstR y b s most m0 (ends bs rs b)) ys2).2)) rfl rfl rfl (e_load1 tf2 (v := Ix ((firstO y b s most (firstR y b s most m0 (ends bs rs b)) ys2).2)) rfl (k_pt 0 (cs := #[Ix ((firstO y b s most (firstR y b s most m0 (ends bs rs b)) ys2).2)]) (vs := [Ix ((firstO y b s most (firstR y b s most m0 (ends bs rs b)) ys2).2)]) rfl rfl)) ?_
   refine q_val (v := Nx (((firstO y b s most (firstR y b s most m0 (ends bs rs b)) ys2).1) - 1)) rfl rfl rfl (e_assign) ?_
   refine q_val (v := Ix ((firstO y b s most (firstR y b s most m0 (ends bs rs b)) ys2).2)) rfl rfl rfl (e_assign) ?_
   refine q_nil ?_
   refine f_then ?_
   refine c_ret ?_
   refine retM2 5 4 rfl rfl Tryz.results41 (v := Nx (((firstO y b s most (firstR y b s most m0 (ends bs rs b)) ys2).1) - 1)) (v' := Ix ((firstO y b s most (firstR y b s most m0 (ends bs rs b)) ys2).2)) rfl rfl ?_
   intro w hw
   exact ⟨by rw [run_eq hm0, ← hS2], st_mask [false] rfl (bk1 _ _ (st_mask [false, false, false, false, false, false, false] rfl (bk2 _ _ hw)))⟩
  ·intro D c pre M h; exact h.elim
 ·intro D c pre M h; exact h.elim
end Go.Proofs
