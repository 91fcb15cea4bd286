/-
  Own work; plain Lean (Dg8).
-/
import Derived.Test.YtbfidhbcojbklaaGreatDg7
namespace Go.Proofs
open Go Go.Sl
def hurtK (id life : Int) : KEnt := ⟨id, [⟨1, 5, 7, 0, 0⟩, ⟨8, life, 0, 0, 0⟩]⟩
theorem hurt_sl (id life : Int) {b : Nat} {a : PHeap} (h : pt b (.cells #[.int .u8 1, .int .i64 5, .int .i64 7, .int .i64 0, .int .i64 0, .int .u8 8, Ix life, .int .i64 0, .int .i64 0, .int .i64 0] 38) a) :
    Sl CompR a (.slice (some ⟨b, 0, none⟩) 2 2) (hurtK id life).comps := by
  refine ⟨some ⟨b, 0, none⟩, 2, rfl, Nat.le_refl _, by omega, fun j x hj => ⟨rfl, compE x, ?_, rfl⟩⟩
  match j with
  | 0 => injection hj with hj; subst hj; exact Cs.of_pt (o := 0) h rfl
  | 1 => injection hj with hj; subst hj; exact Cs.of_pt (o := 5) h rfl
  | j + 2 => cases hj
theorem ents3 {b : Nat} {e1 e2 e3 : KEnt} {v1 v2 v3 : Value} {a : PHeap} (h : Cs a ⟨b, 0, none⟩ [Ix e1.id, v1, Ix e2.id, v2, Ix e3.id, v3]) (h1 : Sl CompR a v1 e1.comps) (h2 : Sl CompR a v2 e2.comps) (h3 : Sl CompR a v3 e3.comps) :
    Sl EntR a (.slice (some ⟨b, 0, none⟩) 3 3) [e1, e2, e3] := by
  refine ⟨some ⟨b, 0, none⟩, 3, rfl, Nat.le_refl _, by omega, fun j x hj => ?_⟩
  match j with
  | 0 => injection hj with hj; subst hj; exact ⟨rfl, [Ix e1.id, v1], Cs.sub 0 h rfl, v1, rfl, h1⟩
  | 1 => injection hj with hj; subst hj; exact ⟨rfl, [Ix e2.id, v2], Cs.sub 2 h rfl, v2, rfl, h2⟩
  | 2 => injection hj with hj; subst hj; exact ⟨rfl, [Ix e3.id, v3], Cs.sub 4 h rfl, v3, rfl, h3⟩
  | j + 3 => cases hj
theorem cells_sl {a : PHeap} {g : Nat} {xs : List Int} {n c : Nat} (hn : xs.length = n) (hc : n ≤ c) (hm : c ≤ 9223372036854775807) (hcs : Cs a ⟨g, 0, none⟩ (xs.map fun z => Ix z)) : Sl IntR a (.slice (some ⟨g, 0, none⟩) n c) xs := by
  subst hn
  refine ⟨some ⟨g, 0, none⟩, c, rfl, hc, hm, fun j x hj => ⟨rfl, [Ix x], ?_, rfl⟩⟩
  have hlt := (List.getElem?_eq_some_iff.1 hj).1
  have := Cs.sub (vs := [Ix x]) j hcs (by
    have hx := (List.getElem?_eq_some_iff.1 hj).2
    rw [List.drop_eq_getElem_cons (by simpa using hlt)]
    simp [hx])
  show Cs a ((⟨g, 0, none⟩ : Addr).add (j * 1)) [Ix x]
  rw [Nat.mul_one]; exact this
theorem row_slI {v : Value} {T : Nat} {xs : List Int} {a : PHeap} (h : row v T 1 xs.length (xs.map fun z => Ix z) a) : Sl IntR a v xs := by
  obtain ⟨_, ⟨rfl, h0⟩ | ⟨g, cap, cur, rfl, hg, h1, h2, h3, h4⟩⟩ := h
  · have : xs = [] := List.eq_nil_of_length_eq_zero h0
    subst this
    exact Sl.nil _ _
  · exact cells_sl rfl h1 (by unfold maxLen at h2; omega) (Cs.of_pt (o := 0) hg (by simpa using h4))
theorem pt_slI {b n T : Nat} {xs : List Int} {cs : Array Value} {a : PHeap} (h : pt b (.cells cs T) a) (hx : cs.toList = xs.map fun z => Ix z) (hn : (Nat.beq xs.length n && Nat.ble n 9223372036854775807) = true) : Sl IntR a (.slice (some ⟨b, 0, none⟩) n n) xs := by
  simp only [Bool.and_eq_true, Nat.ble_eq] at hn
  exact cells_sl (Nat.eq_of_beq_eq_true hn.1) (Nat.le_refl _) hn.2 (Cs.of_pt (o := 0) h (by rw [hx]; simp [List.take_of_length_le]))
theorem cl0 : ¬ (((tickU (-1 : Int)).toNat : Int) ≠ ((0 : UInt64).toNat : Int)) := by decide
theorem cl1 : ¬ (((seqU (wordsB (⟨#[]⟩))).toNat : Int) ≠ ((0 : UInt64).toNat : Int)) := by decide
theorem cl2 : ¬ (((tickU (-7046029254386353132 : Int)).toNat : Int) ≠ ((16294208416658607535 : UInt64).toNat : Int)) := by decide
theorem cl3 : ¬ (((chainU (1 : UInt64) (18446744073709551615 : UInt64)).toNat : Int) ≠ ((16294208416658607535 : UInt64).toNat : Int)) := by decide
theorem cl4 : ¬ (((chainU (2 : UInt64) (18446744073709551615 : UInt64)).toNat : Int) ≠ ((7960286522194355700 : UInt64).toNat : Int)) := by decide
theorem cl5 : ¬ (((chainU (1 : UInt64) (1234566 : UInt64)).toNat : Int) ≠ ((6457827717110365317 : UInt64).toNat : Int)) := by decide
theorem cl6 : ¬ (((worldU (⟨(-1 : Int), []⟩ : KWorld)).toNat : Int) ≠ ((0 : UInt64).toNat : Int)) := by decide
theorem cl7 : ¬ ((((0 : UInt64) + entU (hurtK 1 10)).toNat : Int) ≠ ((entU (hurtK 1 10)).toNat : Int)) := by decide
theorem cl8 : ¬ ((((entU (hurtK 1 10)) - entU (hurtK 1 10)).toNat : Int) ≠ ((0 : UInt64).toNat : Int)) := by decide
theorem cl9 : ¬ (((entU (hurtK 1 10)).toNat : Int) = ((0 : UInt64).toNat : Int)) := by decide
theorem cl10 : (differU (⟨0, [(hurtK 1 10), (hurtK 2 10), (hurtK 3 10)]⟩ : KWorld) (⟨0, [(hurtK 1 10), (hurtK 2 9), (hurtK 4 10)]⟩ : KWorld)) = [(2 : Int), (3 : Int), (4 : Int)] := by rw [differU, show outsK (⟨0, [(hurtK 1 10), (hurtK 2 10), (hurtK 3 10)]⟩ : KWorld) (⟨0, [(hurtK 1 10), (hurtK 2 9), (hurtK 4 10)]⟩ : KWorld) 2 = [2, 3, 2, 4] from by decide]; simp [List.mergeSort, List.MergeSort.Internal.splitInTwo]; decide
theorem cl11 : (((differU (⟨0, [(hurtK 1 10), (hurtK 2 10), (hurtK 3 10)]⟩ : KWorld) (⟨0, [(hurtK 1 10), (hurtK 2 10), (hurtK 3 10)]⟩ : KWorld)).length : Nat) : Int) = (0 : Int) := by rw [differU, show outsK (⟨0, [(hurtK 1 10), (hurtK 2 10), (hurtK 3 10)]⟩ : KWorld) (⟨0, [(hurtK 1 10), (hurtK 2 10), (hurtK 3 10)]⟩ : KWorld) 2 = [] from by decide, List.mergeSort_nil]; decide
theorem cl12 : ((worldU (⟨0, [(hurtK 1 10), (hurtK 2 10), (hurtK 3 10)]⟩ : KWorld)).toNat : Int) ≠ ((worldU (⟨0, [(hurtK 1 10), (hurtK 2 9), (hurtK 4 10)]⟩ : KWorld)).toNat : Int) := by decide
theorem tf56 : cfB Tryz.prog 27 = true := by kernel_rfl
theorem tf57 : cfB Tryz.prog 29 = true := by kernel_rfl
theorem tf58 : stB Tryz.prog 24 [(0, 1), (1, 1)] = true := by kernel_rfl
theorem tf59 : cfB Tryz.prog 30 = true := by kernel_rfl
theorem tf60 : cfB Tryz.prog 33 = true := by kernel_rfl
theorem tf61 : cfB Tryz.prog 7 = true := by kernel_rfl
theorem tf62 : cfB Tryz.prog 8 = true := by kernel_rfl
set_option maxHeartbeats 4000000 in
theorem awake_ok (β : Base) (w : World) (hw : St β [] w) : Calls Tryz.prog 12 #[] w fun r w' => r = .returned (.bool true) ∧ St β [] w' := by
  refine enter (n := 78) Tryz.func12 rfl Tryz.ntmps12 rfl ?_ hw
  refine c_seq ?_
  refine c_region ?_
  refine l_val (v := .bool false) rfl rfl rfl (e_assign) ?_
  refine l_nil ?_
  refine f_then ?_
  refine c_seq ?_
  refine c_seq ?_
  refine c_region ?_
  refine l_call rfl rfl rfl (cl_value (fst := []) (cap := []) (vs := [.int .i64 (-1)]) (all := [.int .i64 (-1)]) tf28 rfl rfl rfl) ?_
  intro w hw
  obtain ⟨β1, sb, kn, hw1, back⟩ := St.frame_all hw
  refine (tick_ok β1 w hw1 (-1 : Int)).mono ?_
  rintro e w' ⟨rfl, hw'⟩
  refine ⟨_, rfl, _, back _ _ hw', ?_⟩
  clear hw hw1 hw' back kn sb
  refine l_val (v := .bool (decide (((tickU (-1 : Int)).toNat : Int) ≠ ((0 : UInt64).toNat : Int)))) rfl rfl rfl (e_neq (a := ((tickU (-1 : Int)).toNat : Int)) (b := ((0 : UInt64).toNat : Int)) rfl rfl) ?_
  refine l_val (v := .bool (decide (((tickU (-1 : Int)).toNat : Int) ≠ ((0 : UInt64).toNat : Int)))) rfl rfl rfl (e_move) ?_
  refine l_split (s := 6) (p := ((tickU (-1 : Int)).toNat : Int) ≠ ((0 : UInt64).toNat : Int)) rfl (fun h => ?_) (fun h => ?_)
  exact absurd h cl0
  refine g_call rfl rfl rfl rfl rfl (cl_value (fst := []) (cap := []) (vs := [.string ⟨#[]⟩]) (all := [.string ⟨#[]⟩]) tf56 rfl rfl rfl) ?_
  intro w hw
  obtain ⟨β1, sb, kn, hw1, back⟩ := St.frame_all hw
  refine (name_ok β1 w hw1 (⟨#[]⟩) (by decide)).mono ?_
  rintro e w' ⟨rfl, hw'⟩
  refine ⟨_, rfl, _, back _ _ hw', ?_⟩
  clear hw hw1 hw' back kn sb
  refine g_val (v := .bool (decide (((seqU (wordsB (⟨#[]⟩))).toNat : Int) ≠ ((0 : UInt64).toNat : Int)))) rfl rfl rfl rfl rfl (e_neq (a := ((seqU (wordsB (⟨#[]⟩))).toNat : Int)) (b := ((0 : UInt64).toNat : Int)) rfl rfl) ?_
  refine l_val (v := .bool (decide (((seqU (wordsB (⟨#[]⟩))).toNat : Int) ≠ ((0 : UInt64).toNat : Int)))) rfl rfl rfl (e_pick_f rfl) ?_
  refine l_val (v := .bool (decide (((seqU (wordsB (⟨#[]⟩))).toNat : Int) ≠ ((0 : UInt64).toNat : Int)))) rfl rfl rfl (e_move) ?_
  refine l_split (s := 10) (p := ((seqU (wordsB (⟨#[]⟩))).toNat : Int) ≠ ((0 : UInt64).toNat : Int)) rfl (fun h => ?_) (fun h => ?_)
  exact absurd h cl1
  refine g_call rfl rfl rfl rfl rfl (cl_value (fst := []) (cap := []) (vs := [.int .i64 (-7046029254386353132)]) (all := [.int .i64 (-7046029254386353132)]) tf28 rfl rfl rfl) ?_
  intro w hw
  obtain ⟨β1, sb, kn, hw1, back⟩ := St.frame_all hw
  refine (tick_ok β1 w hw1 (-7046029254386353132 : Int)).mono ?_
  rintro e w' ⟨rfl, hw'⟩
  refine ⟨_, rfl, _, back _ _ hw', ?_⟩
  clear hw hw1 hw' back kn sb
  refine g_val (v := .bool (decide (((tickU (-7046029254386353132 : Int)).toNat : Int) ≠ ((16294208416658607535 : UInt64).toNat : Int)))) rfl rfl rfl rfl rfl (e_neq (a := ((tickU (-7046029254386353132 : Int)).toNat : Int)) (b := ((16294208416658607535 : UInt64).toNat : Int)) rfl rfl) ?_
  refine l_val (v := .bool (decide (((tickU (-7046029254386353132 : Int)).toNat : Int) ≠ ((16294208416658607535 : UInt64).toNat : Int)))) rfl rfl rfl (e_pick_f rfl) ?_
  refine l_val (v := .bool (decide (((tickU (-7046029254386353132 : Int)).toNat : Int) ≠ ((16294208416658607535 : UInt64).toNat : Int)))) rfl rfl rfl (e_move) ?_
  refine l_split (s := 14) (p := ((tickU (-7046029254386353132 : Int)).toNat : Int) ≠ ((16294208416658607535 : UInt64).toNat : Int)) rfl (fun h => ?_) (fun h => ?_)
  exact absurd h cl2
  refine g_call rfl rfl rfl rfl rfl (cl_value (fst := []) (cap := []) (vs := [.int .u64 (1), .int .u64 (18446744073709551615)]) (all := [.int .u64 (1), .int .u64 (18446744073709551615)]) tf3 rfl rfl rfl) ?_
  intro w hw
  obtain ⟨β1, sb, kn, hw1, back⟩ := St.frame_all hw
  refine (chain_ok β1 w hw1 (1 : UInt64) (18446744073709551615 : UInt64)).mono ?_
  rintro e w' ⟨rfl, hw'⟩
  refine ⟨_, rfl, _, back _ _ hw', ?_⟩
  clear hw hw1 hw' back kn sb
  refine g_val (v := .bool (decide (((chainU (1 : UInt64) (18446744073709551615 : UInt64)).toNat : Int) ≠ ((16294208416658607535 : UInt64).toNat : Int)))) rfl rfl rfl rfl rfl (e_neq (a := ((chainU (1 : UInt64) (18446744073709551615 : UInt64)).toNat : Int)) (b := ((16294208416658607535 : UInt64).toNat : Int)) rfl rfl) ?_
  refine l_val (v := .bool (decide (((chainU (1 : UInt64) (18446744073709551615 : UInt64)).toNat : Int) ≠ ((16294208416658607535 : UInt64).toNat : Int)))) rfl rfl rfl (e_pick_f rfl) ?_
  refine l_val (v := .bool (decide (((chainU (1 : UInt64) (18446744073709551615 : UInt64)).toNat : Int) ≠ ((16294208416658607535 : UInt64).toNat : Int)))) rfl rfl rfl (e_move) ?_
  refine l_split (s := 18) (p := ((chainU (1 : UInt64) (18446744073709551615 : UInt64)).toNat : Int) ≠ ((16294208416658607535 : UInt64).toNat : Int)) rfl (fun h => ?_) (fun h => ?_)
  exact absurd h cl3
  refine g_call rfl rfl rfl rfl rfl (cl_value (fst := []) (cap := []) (vs := [.int .u64 (2), .int .u64 (18446744073709551615)]) (all := [.int .u64 (2), .int .u64 (18446744073709551615)]) tf3 rfl rfl rfl) ?_
  intro w hw
  obtain ⟨β1, sb, kn, hw1, back⟩ := St.frame_all hw
  refine (chain_ok β1 w hw1 (2 : UInt64) (18446744073709551615 : UInt64)).mono ?_
  rintro e w' ⟨rfl, hw'⟩
  refine ⟨_, rfl, _, back _ _ hw', ?_⟩
  clear hw hw1 hw' back kn sb
  refine g_val (v := .bool (decide (((chainU (2 : UInt64) (18446744073709551615 : UInt64)).toNat : Int) ≠ ((7960286522194355700 : UInt64).toNat : Int)))) rfl rfl rfl rfl rfl (e_neq (a := ((chainU (2 : UInt64) (18446744073709551615 : UInt64)).toNat : Int)) (b := ((7960286522194355700 : UInt64).toNat : Int)) rfl rfl) ?_
  refine l_val (v := .bool (decide (((chainU (2 : UInt64) (18446744073709551615 : UInt64)).toNat : Int) ≠ ((7960286522194355700 : UInt64).toNat : Int)))) rfl rfl rfl (e_pick_f rfl) ?_
  refine l_val (v := .bool (decide (((chainU (2 : UInt64) (18446744073709551615 : UInt64)).toNat : Int) ≠ ((7960286522194355700 : UInt64).toNat : Int)))) rfl rfl rfl (e_move) ?_
  refine l_split (s := 22) (p := ((chainU (2 : UInt64) (18446744073709551615 : UInt64)).toNat : Int) ≠ ((7960286522194355700 : UInt64).toNat : Int)) rfl (fun h => ?_) (fun h => ?_)
  exact absurd h cl4
  refine g_call rfl rfl rfl rfl rfl (cl_value (fst := []) (cap := []) (vs := [.int .u64 (1), .int .u64 (1234566)]) (all := [.int .u64 (1), .int .u64 (1234566)]) tf3 rfl rfl rfl) ?_
  intro w hw
  obtain ⟨β1, sb, kn, hw1, back⟩ := St.frame_all hw
  refine (chain_ok β1 w hw1 (1 : UInt64) (1234566 : UInt64)).mono ?_
  rintro e w' ⟨rfl, hw'⟩
  refine ⟨_, rfl, _, back _ _ hw', ?_⟩
  clear hw hw1 hw' back kn sb
  refine g_val (v := .bool (decide (((chainU (1 : UInt64) (1234566 : UInt64)).toNat : Int) ≠ ((6457827717110365317 : UInt64).toNat : Int)))) rfl rfl rfl rfl rfl (e_neq (a := ((chainU (1 : UInt64) (1234566 : UInt64)).toNat : Int)) (b := ((6457827717110365317 : UInt64).toNat : Int)) rfl rfl) ?_
  refine l_val (v := .bool (decide (((chainU (1 : UInt64) (1234566 : UInt64)).toNat : Int) ≠ ((6457827717110365317 : UInt64).toNat : Int)))) rfl rfl rfl (e_pick_f rfl) ?_
  refine l_nil ?_
  refine f_then ?_
  refine c_if (((chainU (1 : UInt64) (1234566 : UInt64)).toNat : Int) ≠ ((6457827717110365317 : UInt64).toNat : Int)) rfl (fun hc1 => ?_) (fun hc1 => ?_)
  ·
    exact absurd hc1 cl5
  ·
    refine c_skip ?_
    refine f_then ?_
    refine c_seq ?_
    refine c_region ?_
    refine l_call rfl rfl rfl (cl_value (fst := []) (cap := []) (vs := [.int .i64 (1), .int .i64 (10)]) (all := [.int .i64 (1), .int .i64 (10)]) tf57 rfl rfl rfl) ?_
    intro w hw
    obtain ⟨β1, sb, kn, hw1, back⟩ := St.frame_all hw
    refine (hurt_ok β1 w hw1 (1 : Int) (10 : Int)).mono ?_
    rintro e w' ⟨b2, rfl, hw'⟩
    refine ⟨_, rfl, _, back _ _ hw', ?_⟩
    clear hw hw1 hw' back kn sb
    refine l_mv rfl rfl rfl (m_alloc tf33) ?_
    rintro _ _ ⟨b3, rfl, rfl⟩
    refine l_mu rfl rfl (m_store 0 tf24 (b := b3) (o := 0) (T := 35) (cs := #[.int .i64 (0), .slice none 0 0]) (cs' := #[.int .i64 (1), .slice (some ⟨b2, 0, none⟩) 2 2]) (v := .agg #[.int .i64 (1), .slice (some ⟨b2, 0, none⟩) 2 2]) rfl rfl rfl rfl rfl rfl rfl) ?_
    refine l_nil ?_
    refine f_then ?_
    refine c_seq ?_
    refine c_seq ?_
    refine c_perm (L' := [pt b3 (.cells #[.int .i64 (1), .slice (some ⟨b2, 0, none⟩) 2 2] 35), pt b2 (.cells #[.int .u8 (1), .int .i64 (5), .int .i64 (7), .int .i64 (0), .int .i64 (0), .int .u8 (8), .int .i64 (10), .int .i64 (0), .int .i64 (0), .int .i64 (0)] 38)]) ((perm_front 1 rfl).trans (perm_front 1 rfl)) ?_
    refine c_freeze (M := [pt b3 (.cells #[.int .i64 (1), .slice (some ⟨b2, 0, none⟩) 2 2] 35)]) (K := [pt b2 (.cells #[.int .u8 (1), .int .i64 (5), .int .i64 (7), .int .i64 (0), .int .i64 (0), .int .u8 (8), .int .i64 (10), .int .i64 (0), .int .i64 (0), .int .i64 (0)] 38)]) rfl (fun β₁ ext₁ kn₁ => ?_)
    have hE1 := kn₁ _ (Knows.of_res 0 rfl (fun _ _ hs h => Sl.mono CompR _ _ _ _ hs h) fun _ h => hurt_sl 1 10 h)
    refine c_quiet (by kernel_rfl) (by kernel_rfl) ?_
    refine q_val (v := .agg #[.int .i64 (-1), .slice none 0 0]) rfl rfl rfl (e_build tf49 tf58 (vs := [(0, .int .i64 (-1))]) (cells := #[.int .i64 (-1), .slice none 0 0]) rfl rfl) ?_
    refine q_call (v := Ux (worldU (⟨(-1 : Int), []⟩ : KWorld))) rfl rfl rfl (cl_value (fst := []) (cap := []) (vs := [.agg #[.int .i64 (-1), .slice none 0 0]]) (all := [.agg #[.int .i64 (-1), .slice none 0 0]]) tf59 rfl rfl rfl) (fun w hw => ?_) ?_
    · obtain ⟨β1, sb, kn, hw1, back⟩ := St.frame_all hw
      exact (world_ok β1 w hw1 (⟨(-1 : Int), []⟩ : KWorld) _ (Sl.nil EntR _)).mono (fun e w' ⟨he, hw'⟩ => ⟨he, st_mask [true] rfl (back _ _ hw')⟩)
    refine q_val (v := .bool (decide (((worldU (⟨(-1 : Int), []⟩ : KWorld)).toNat : Int) ≠ ((0 : UInt64).toNat : Int)))) rfl rfl rfl (e_neq (a := ((worldU (⟨(-1 : Int), []⟩ : KWorld)).toNat : Int)) (b := ((0 : UInt64).toNat : Int)) rfl rfl) ?_
    refine q_val (v := .bool (decide (((worldU (⟨(-1 : Int), []⟩ : KWorld)).toNat : Int) ≠ ((0 : UInt64).toNat : Int)))) rfl rfl rfl (e_move) ?_
    refine q_split (s := 30) (p := ((worldU (⟨(-1 : Int), []⟩ : KWorld)).toNat : Int) ≠ ((0 : UInt64).toNat : Int)) rfl (fun h => ?_) (fun h => ?_)
    exact absurd h cl6
    refine qg_val (v := .agg #[.int .i64 (1), .slice (some ⟨b2, 0, none⟩) 2 2]) rfl rfl rfl rfl rfl (e_load tf24 (cs := [.int .i64 (1), .slice (some ⟨b2, 0, none⟩) 2 2]) rfl (k_pt 0 (cs := #[.int .i64 (1), .slice (some ⟨b2, 0, none⟩) 2 2]) (vs := [.int .i64 (1), .slice (some ⟨b2, 0, none⟩) 2 2]) rfl rfl) rfl) ?_
    refine qg_call (v := Ux ((0 : UInt64) + entU (hurtK 1 10))) rfl rfl rfl rfl rfl (cl_value (fst := []) (cap := []) (vs := [.int .u64 (0), .agg #[.int .i64 (1), .slice (some ⟨b2, 0, none⟩) 2 2]]) (all := [.int .u64 (0), .agg #[.int .i64 (1), .slice (some ⟨b2, 0, none⟩) 2 2]]) tf34 rfl rfl rfl) (fun w hw => ?_) ?_
    · obtain ⟨β1, sb, kn, hw1, back⟩ := St.frame_all hw
      exact (with_ok β1 w hw1 (0 : UInt64) (hurtK 1 10) _ (Sl.mono _ _ _ _ _ sb hE1)).mono (fun e w' ⟨he, hw'⟩ => ⟨he, st_mask [true] rfl (back _ _ hw')⟩)
    refine qg_val (v := .agg #[.int .i64 (1), .slice (some ⟨b2, 0, none⟩) 2 2]) rfl rfl rfl rfl rfl (e_load tf24 (cs := [.int .i64 (1), .slice (some ⟨b2, 0, none⟩) 2 2]) rfl (k_pt 0 (cs := #[.int .i64 (1), .slice (some ⟨b2, 0, none⟩) 2 2]) (vs := [.int .i64 (1), .slice (some ⟨b2, 0, none⟩) 2 2]) rfl rfl) rfl) ?_
    refine qg_call (v := Ux (entU (hurtK 1 10))) rfl rfl rfl rfl rfl (cl_value (fst := []) (cap := []) (vs := [.agg #[.int .i64 (1), .slice (some ⟨b2, 0, none⟩) 2 2]]) (all := [.agg #[.int .i64 (1), .slice (some ⟨b2, 0, none⟩) 2 2]]) tf26 rfl rfl rfl) (fun w hw => ?_) ?_
    · obtain ⟨β1, sb, kn, hw1, back⟩ := St.frame_all hw
      exact (entity_ok β1 w hw1 (hurtK 1 10) _ (Sl.mono _ _ _ _ _ sb hE1)).mono (fun e w' ⟨he, hw'⟩ => ⟨he, st_mask [true] rfl (back _ _ hw')⟩)
    refine qg_val (v := .bool (decide ((((0 : UInt64) + entU (hurtK 1 10)).toNat : Int) ≠ ((entU (hurtK 1 10)).toNat : Int)))) rfl rfl rfl rfl rfl (e_neq (a := (((0 : UInt64) + entU (hurtK 1 10)).toNat : Int)) (b := ((entU (hurtK 1 10)).toNat : Int)) rfl rfl) ?_
    refine q_val (v := .bool (decide ((((0 : UInt64) + entU (hurtK 1 10)).toNat : Int) ≠ ((entU (hurtK 1 10)).toNat : Int)))) rfl rfl rfl (e_pick_f rfl) ?_
    refine q_val (v := .bool (decide ((((0 : UInt64) + entU (hurtK 1 10)).toNat : Int) ≠ ((entU (hurtK 1 10)).toNat : Int)))) rfl rfl rfl (e_move) ?_
    refine q_split (s := 37) (p := (((0 : UInt64) + entU (hurtK 1 10)).toNat : Int) ≠ ((entU (hurtK 1 10)).toNat : Int)) rfl (fun h => ?_) (fun h => ?_)
    exact absurd h cl7
    refine qg_val (v := .agg #[.int .i64 (1), .slice (some ⟨b2, 0, none⟩) 2 2]) rfl rfl rfl rfl rfl (e_load tf24 (cs := [.int .i64 (1), .slice (some ⟨b2, 0, none⟩) 2 2]) rfl (k_pt 0 (cs := #[.int .i64 (1), .slice (some ⟨b2, 0, none⟩) 2 2]) (vs := [.int .i64 (1), .slice (some ⟨b2, 0, none⟩) 2 2]) rfl rfl) rfl) ?_
    refine qg_call (v := Ux (entU (hurtK 1 10))) rfl rfl rfl rfl rfl (cl_value (fst := []) (cap := []) (vs := [.agg #[.int .i64 (1), .slice (some ⟨b2, 0, none⟩) 2 2]]) (all := [.agg #[.int .i64 (1), .slice (some ⟨b2, 0, none⟩) 2 2]]) tf26 rfl rfl rfl) (fun w hw => ?_) ?_
    · obtain ⟨β1, sb, kn, hw1, back⟩ := St.frame_all hw
      exact (entity_ok β1 w hw1 (hurtK 1 10) _ (Sl.mono _ _ _ _ _ sb hE1)).mono (fun e w' ⟨he, hw'⟩ => ⟨he, st_mask [true] rfl (back _ _ hw')⟩)
    refine qg_val (v := .agg #[.int .i64 (1), .slice (some ⟨b2, 0, none⟩) 2 2]) rfl rfl rfl rfl rfl (e_load tf24 (cs := [.int .i64 (1), .slice (some ⟨b2, 0, none⟩) 2 2]) rfl (k_pt 0 (cs := #[.int .i64 (1), .slice (some ⟨b2, 0, none⟩) 2 2]) (vs := [.int .i64 (1), .slice (some ⟨b2, 0, none⟩) 2 2]) rfl rfl) rfl) ?_
    refine qg_call (v := Ux ((entU (hurtK 1 10)) - entU (hurtK 1 10))) rfl rfl rfl rfl rfl (cl_value (fst := []) (cap := []) (vs := [Ux (entU (hurtK 1 10)), .agg #[.int .i64 (1), .slice (some ⟨b2, 0, none⟩) 2 2]]) (all := [Ux (entU (hurtK 1 10)), .agg #[.int .i64 (1), .slice (some ⟨b2, 0, none⟩) 2 2]]) tf60 rfl rfl rfl) (fun w hw => ?_) ?_
    · obtain ⟨β1, sb, kn, hw1, back⟩ := St.frame_all hw
      exact (without_ok β1 w hw1 (entU (hurtK 1 10)) (hurtK 1 10) _ (Sl.mono _ _ _ _ _ sb hE1)).mono (fun e w' ⟨he, hw'⟩ => ⟨he, st_mask [true] rfl (back _ _ hw')⟩)
    refine qg_val (v := .bool (decide ((((entU (hurtK 1 10)) - entU (hurtK 1 10)).toNat : Int) ≠ ((0 : UInt64).toNat : Int)))) rfl rfl rfl rfl rfl (e_neq (a := (((entU (hurtK 1 10)) - entU (hurtK 1 10)).toNat : Int)) (b := ((0 : UInt64).toNat : Int)) rfl rfl) ?_
    refine q_val (v := .bool (decide ((((entU (hurtK 1 10)) - entU (hurtK 1 10)).toNat : Int) ≠ ((0 : UInt64).toNat : Int)))) rfl rfl rfl (e_pick_f rfl) ?_
    refine q_val (v := .bool (decide ((((entU (hurtK 1 10)) - entU (hurtK 1 10)).toNat : Int) ≠ ((0 : UInt64).toNat : Int)))) rfl rfl rfl (e_move) ?_
    refine q_split (s := 44) (p := (((entU (hurtK 1 10)) - entU (hurtK 1 10)).toNat : Int) ≠ ((0 : UInt64).toNat : Int)) rfl (fun h => ?_) (fun h => ?_)
    exact absurd h cl8
    refine qg_val (v := .agg #[.int .i64 (1), .slice (some ⟨b2, 0, none⟩) 2 2]) rfl rfl rfl rfl rfl (e_load tf24 (cs := [.int .i64 (1), .slice (some ⟨b2, 0, none⟩) 2 2]) rfl (k_pt 0 (cs := #[.int .i64 (1), .slice (some ⟨b2, 0, none⟩) 2 2]) (vs := [.int .i64 (1), .slice (some ⟨b2, 0, none⟩) 2 2]) rfl rfl) rfl) ?_
    refine qg_call (v := Ux (entU (hurtK 1 10))) rfl rfl rfl rfl rfl (cl_value (fst := []) (cap := []) (vs := [.agg #[.int .i64 (1), .slice (some ⟨b2, 0, none⟩) 2 2]]) (all := [.agg #[.int .i64 (1), .slice (some ⟨b2, 0, none⟩) 2 2]]) tf26 rfl rfl rfl) (fun w hw => ?_) ?_
    · obtain ⟨β1, sb, kn, hw1, back⟩ := St.frame_all hw
      exact (entity_ok β1 w hw1 (hurtK 1 10) _ (Sl.mono _ _ _ _ _ sb hE1)).mono (fun e w' ⟨he, hw'⟩ => ⟨he, st_mask [true] rfl (back _ _ hw')⟩)
    refine qg_val (v := .bool (decide (((entU (hurtK 1 10)).toNat : Int) = ((0 : UInt64).toNat : Int)))) rfl rfl rfl rfl rfl (e_eql (a := ((entU (hurtK 1 10)).toNat : Int)) (b := ((0 : UInt64).toNat : Int)) rfl rfl) ?_
    refine q_val (v := .bool (decide (((entU (hurtK 1 10)).toNat : Int) = ((0 : UInt64).toNat : Int)))) rfl rfl rfl (e_pick_f rfl) ?_
    refine q_nil ?_
    refine f_then ?_
    refine c_if (((entU (hurtK 1 10)).toNat : Int) = ((0 : UInt64).toNat : Int)) rfl (fun hc4 => ?_) (fun hc4 => ?_)
    ·
      exact absurd hc4 cl9
    ·
      refine c_skip ?_
      refine f_then ?_
      refine c_seq ?_
      refine c_any [⟨[], [], [0], [49], fun f => f 49 = .agg #[.int .i64 (1), .slice (some ⟨b2, 0, none⟩) 2 2]⟩, ⟨[], [], [], [50], fun f => f 50 = .agg #[.int .i64 (2), .slice (some ⟨(blk (prt 1 (f 50))), 0, none⟩) 2 2]⟩, ⟨[1], [], [], [51], fun f => f 51 = .agg #[.int .i64 (3), .slice (some ⟨(blk (prt 1 (f 51))), 0, none⟩) 2 2]⟩, ⟨[0, 1, 2], [0, 1, 2], [], [52], fun f => f 52 = .slice (some ⟨(blk (f 52)), 0, none⟩) 3 3⟩, ⟨[0, 1, 2, 3], [3], [], [52, 53], fun f => f 53 = .agg #[.int .i64 (0), .slice (some ⟨(blk (f 52)), 0, none⟩) 3 3]⟩, ⟨[], [], [], [2], fun f => f 2 = .pointer (some ⟨(blk (f 2)), 0, none⟩)⟩, ⟨[0, 1, 2, 3, 4, 5], [5, 4], [], [], fun _ => True⟩] [⟨none, none, [0], [], fun _ => pt b3 (.cells #[.int .i64 (1), .slice (some ⟨b2, 0, none⟩) 2 2] 35)⟩, ⟨(some 1), none, [], [50], fun f => pt (blk (prt 1 (f 50))) (.cells #[.int .u8 (1), .int .i64 (5), .int .i64 (7), .int .i64 (0), .int .i64 (0), .int .u8 (8), .int .i64 (10), .int .i64 (0), .int .i64 (0), .int .i64 (0)] 38)⟩, ⟨(some 2), none, [], [51], fun f => pt (blk (prt 1 (f 51))) (.cells #[.int .u8 (1), .int .i64 (5), .int .i64 (7), .int .i64 (0), .int .i64 (0), .int .u8 (8), .int .i64 (10), .int .i64 (0), .int .i64 (0), .int .i64 (0)] 38)⟩, ⟨(some 3), none, [], [50, 51, 52], fun f => pt (blk (f 52)) (.cells #[.int .i64 (1), .slice (some ⟨b2, 0, none⟩) 2 2, .int .i64 (2), .slice (some ⟨(blk (prt 1 (f 50))), 0, none⟩) 2 2, .int .i64 (3), .slice (some ⟨(blk (prt 1 (f 51))), 0, none⟩) 2 2] 35)⟩, ⟨(some 5), (some 6), [6], [2], fun f => pt (blk (f 2)) (.cells #[.int .i64 (0), .slice none 0 0] 24)⟩, ⟨(some 6), none, [], [2, 52], fun f => pt (blk (f 2)) (.cells #[.int .i64 (0), .slice (some ⟨(blk (f 52)), 0, none⟩) 3 3] 24)⟩] [(1, .pointer (some ⟨b3, 0, none⟩))] [0] [] (by kernel_rfl) (by kernel_rfl) (by kernel_rfl) (by kernel_rfl) rfl ⟨rfl, trivial⟩ ⟨?_, ?_, ?_, ?_, ?_, ?_, ?_, trivial⟩ ?_
      · rintro f M - ⟨i0, -⟩
        have hs1 : f 1 = .pointer (some ⟨b3, 0, none⟩) := i0
        refine ob_start (L' := pt b3 (.cells #[.int .i64 (1), .slice (some ⟨b2, 0, none⟩) 2 2] 35) :: M) (by rfl) (up_cons rfl hs1) ?_
        refine l_val (v := .agg #[.int .i64 (1), .slice (some ⟨b2, 0, none⟩) 2 2]) rfl rfl rfl (e_load tf24 (cs := [.int .i64 (1), .slice (some ⟨b2, 0, none⟩) 2 2]) rfl (k_pt 0 (cs := #[.int .i64 (1), .slice (some ⟨b2, 0, none⟩) 2 2]) (vs := [.int .i64 (1), .slice (some ⟨b2, 0, none⟩) 2 2]) rfl rfl) rfl) ?_
        refine l_nil ?_
        exact f_owes_d (up_cons rfl hs1) rfl (perm_front 0 rfl)
      · rintro f M - -
        refine ob_start (L' := M) (by rfl) rfl ?_
        refine l_call rfl rfl rfl (cl_value (fst := []) (cap := []) (vs := [.int .i64 (2), .int .i64 (10)]) (all := [.int .i64 (2), .int .i64 (10)]) tf57 rfl rfl rfl) ?_
        intro w hw
        obtain ⟨β1, sb, kn, hw1, back⟩ := St.frame_all hw
        refine (hurt_ok β1 w hw1 (2 : Int) (10 : Int)).mono ?_
        rintro e w' ⟨b6, rfl, hw'⟩
        refine ⟨_, rfl, _, back _ _ hw', ?_⟩
        clear hw hw1 hw' back kn sb
        refine l_nil ?_
        exact f_owes_d rfl rfl (perm_front 0 rfl)
      · rintro f M - -
        refine ob_start (L' := M) (by rfl) rfl ?_
        refine l_call rfl rfl rfl (cl_value (fst := []) (cap := []) (vs := [.int .i64 (3), .int .i64 (10)]) (all := [.int .i64 (3), .int .i64 (10)]) tf57 rfl rfl rfl) ?_
        intro w hw
        obtain ⟨β1, sb, kn, hw1, back⟩ := St.frame_all hw
        refine (hurt_ok β1 w hw1 (3 : Int) (10 : Int)).mono ?_
        rintro e w' ⟨b8, rfl, hw'⟩
        refine ⟨_, rfl, _, back _ _ hw', ?_⟩
        clear hw hw1 hw' back kn sb
        refine l_nil ?_
        exact f_owes_d rfl rfl (perm_front 0 rfl)
      · rintro f M ⟨k0, k1, k2, -⟩ -
        have hs49 : f 49 = .agg #[.int .i64 (1), .slice (some ⟨b2, 0, none⟩) 2 2] := k0
        have hs50 : f 50 = .agg #[.int .i64 (2), .slice (some ⟨(blk (prt 1 (f 50))), 0, none⟩) 2 2] := k1
        have hs51 : f 51 = .agg #[.int .i64 (3), .slice (some ⟨(blk (prt 1 (f 51))), 0, none⟩) 2 2] := k2
        refine ob_start (L' := M) (by rfl) (up_cons (up_cons (up_cons rfl hs49) hs50) hs51) ?_
        refine l_mv rfl rfl rfl (m_slices tf32 tf33 (vs := [(0, .agg #[.int .i64 (1), .slice (some ⟨b2, 0, none⟩) 2 2]), (1, .agg #[.int .i64 (2), .slice (some ⟨(blk (prt 1 (f 50))), 0, none⟩) 2 2]), (2, .agg #[.int .i64 (3), .slice (some ⟨(blk (prt 1 (f 51))), 0, none⟩) 2 2])]) (cells := #[.int .i64 (1), .slice (some ⟨b2, 0, none⟩) 2 2, .int .i64 (2), .slice (some ⟨(blk (prt 1 (f 50))), 0, none⟩) 2 2, .int .i64 (3), .slice (some ⟨(blk (prt 1 (f 51))), 0, none⟩) 2 2]) rfl rfl rfl rfl) ?_
        rintro _ _ ⟨b10, rfl, rfl⟩
        refine l_nil ?_
        exact f_owes_d (up_cons (up_cons (up_cons rfl hs49) hs50) hs51) rfl (perm_front 0 rfl)
      · rintro f M ⟨k0, -⟩ -
        have hs52 : f 52 = .slice (some ⟨(blk (f 52)), 0, none⟩) 3 3 := k0
        refine ob_start (L' := M) (by rfl) (up_cons rfl hs52) ?_
        refine l_val (v := .agg #[.int .i64 (0), .slice (some ⟨(blk (f 52)), 0, none⟩) 3 3]) rfl rfl rfl (e_build tf49 tf58 (vs := [(1, .slice (some ⟨(blk (f 52)), 0, none⟩) 3 3)]) (cells := #[.int .i64 (0), .slice (some ⟨(blk (f 52)), 0, none⟩) 3 3]) rfl rfl) ?_
        refine l_nil ?_
        exact f_owes_d (up_cons rfl hs52) rfl (List.Perm.refl _)
      · rintro f M - -
        refine ob_start (L' := M) (by rfl) rfl ?_
        refine l_mv rfl rfl rfl (m_alloc tf49) ?_
        rintro _ _ ⟨b12, rfl, rfl⟩
        refine l_nil ?_
        exact f_owes_d rfl rfl (perm_front 0 rfl)
      · rintro f M ⟨k0, k1, -⟩ -
        have hs2 : f 2 = .pointer (some ⟨(blk (f 2)), 0, none⟩) := k0
        have hs53 : f 53 = .agg #[.int .i64 (0), .slice (some ⟨(blk (f 52)), 0, none⟩) 3 3] := k1
        refine ob_start (L' := pt (blk (f 2)) (.cells #[.int .i64 (0), .slice none 0 0] 24) :: M) (by rfl) (up_cons (up_cons rfl hs2) hs53) ?_
        refine l_mu rfl rfl (m_store 0 tf46 (b := (blk (f 2))) (o := 0) (T := 24) (cs := #[.int .i64 (0), .slice none 0 0]) (cs' := #[.int .i64 (0), .slice (some ⟨(blk (f 52)), 0, none⟩) 3 3]) (v := .agg #[.int .i64 (0), .slice (some ⟨(blk (f 52)), 0, none⟩) 3 3]) rfl rfl rfl rfl rfl rfl rfl) ?_
        refine l_nil ?_
        exact f_owes_n (up_cons (up_cons rfl hs2) hs53) trivial (perm_front 0 rfl)
      rintro fa13 ⟨-, -, -, -, -, k5, -, -⟩ ⟨j0, -⟩
      refine f_re (L' := [pt b3 (.cells #[.int .i64 (1), .slice (some ⟨b2, 0, none⟩) 2 2] 35), pt (blk (prt 1 (fa13 50))) (.cells #[.int .u8 (1), .int .i64 (5), .int .i64 (7), .int .i64 (0), .int .i64 (0), .int .u8 (8), .int .i64 (10), .int .i64 (0), .int .i64 (0), .int .i64 (0)] 38), pt (blk (prt 1 (fa13 51))) (.cells #[.int .u8 (1), .int .i64 (5), .int .i64 (7), .int .i64 (0), .int .i64 (0), .int .u8 (8), .int .i64 (10), .int .i64 (0), .int .i64 (0), .int .i64 (0)] 38), pt (blk (fa13 52)) (.cells #[.int .i64 (1), .slice (some ⟨b2, 0, none⟩) 2 2, .int .i64 (2), .slice (some ⟨(blk (prt 1 (fa13 50))), 0, none⟩) 2 2, .int .i64 (3), .slice (some ⟨(blk (prt 1 (fa13 51))), 0, none⟩) 2 2] 35), pt (blk (fa13 2)) (.cells #[.int .i64 (0), .slice (some ⟨(blk (fa13 52)), 0, none⟩) 3 3] 24)]) (by rfl) ?_
      refine f_rebase (d := 1) (v := .pointer (some ⟨b3, 0, none⟩)) j0 ?_
      refine f_rebase (d := 2) (v := .pointer (some ⟨(blk (fa13 2)), 0, none⟩)) k5 ?_
      refine f_then ?_
      refine c_seq ?_
      refine c_perm (L' := [pt b3 (.cells #[.int .i64 (1), .slice (some ⟨b2, 0, none⟩) 2 2] 35), pt (blk (fa13 2)) (.cells #[.int .i64 (0), .slice (some ⟨(blk (fa13 52)), 0, none⟩) 3 3] 24), pt (blk (fa13 52)) (.cells #[.int .i64 (1), .slice (some ⟨b2, 0, none⟩) 2 2, .int .i64 (2), .slice (some ⟨(blk (prt 1 (fa13 50))), 0, none⟩) 2 2, .int .i64 (3), .slice (some ⟨(blk (prt 1 (fa13 51))), 0, none⟩) 2 2] 35), pt (blk (prt 1 (fa13 50))) (.cells #[.int .u8 (1), .int .i64 (5), .int .i64 (7), .int .i64 (0), .int .i64 (0), .int .u8 (8), .int .i64 (10), .int .i64 (0), .int .i64 (0), .int .i64 (0)] 38), pt (blk (prt 1 (fa13 51))) (.cells #[.int .u8 (1), .int .i64 (5), .int .i64 (7), .int .i64 (0), .int .i64 (0), .int .u8 (8), .int .i64 (10), .int .i64 (0), .int .i64 (0), .int .i64 (0)] 38)]) (((((perm_front 2 rfl).trans (perm_front 2 rfl)).trans (perm_front 3 rfl)).trans (perm_front 4 rfl)).trans (perm_front 4 rfl)) ?_
      refine c_freeze (M := [pt b3 (.cells #[.int .i64 (1), .slice (some ⟨b2, 0, none⟩) 2 2] 35), pt (blk (fa13 2)) (.cells #[.int .i64 (0), .slice (some ⟨(blk (fa13 52)), 0, none⟩) 3 3] 24)]) (K := [pt (blk (fa13 52)) (.cells #[.int .i64 (1), .slice (some ⟨b2, 0, none⟩) 2 2, .int .i64 (2), .slice (some ⟨(blk (prt 1 (fa13 50))), 0, none⟩) 2 2, .int .i64 (3), .slice (some ⟨(blk (prt 1 (fa13 51))), 0, none⟩) 2 2] 35), pt (blk (prt 1 (fa13 50))) (.cells #[.int .u8 (1), .int .i64 (5), .int .i64 (7), .int .i64 (0), .int .i64 (0), .int .u8 (8), .int .i64 (10), .int .i64 (0), .int .i64 (0), .int .i64 (0)] 38), pt (blk (prt 1 (fa13 51))) (.cells #[.int .u8 (1), .int .i64 (5), .int .i64 (7), .int .i64 (0), .int .i64 (0), .int .u8 (8), .int .i64 (10), .int .i64 (0), .int .i64 (0), .int .i64 (0)] 38)]) rfl (fun β₂ ext₂ kn₂ => ?_)
      replace hE1 := Sl.mono _ _ _ _ _ ext₂.sub hE1
      have hA1 := kn₂ _ (Knows.of_res 1 rfl (fun _ _ hs h => Sl.mono CompR _ _ _ _ hs h) fun _ h => hurt_sl 2 10 h)
      have hA2 := kn₂ _ (Knows.of_res 2 rfl (fun _ _ hs h => Sl.mono CompR _ _ _ _ hs h) fun _ h => hurt_sl 3 10 h)
      have hA := ents3 (kn₂ _ (k_pt 0 (o := 0) (cs := #[.int .i64 (1), .slice (some ⟨b2, 0, none⟩) 2 2, .int .i64 (2), .slice (some ⟨(blk (prt 1 (fa13 50))), 0, none⟩) 2 2, .int .i64 (3), .slice (some ⟨(blk (prt 1 (fa13 51))), 0, none⟩) 2 2]) (vs := [.int .i64 (1), .slice (some ⟨b2, 0, none⟩) 2 2, .int .i64 (2), .slice (some ⟨(blk (prt 1 (fa13 50))), 0, none⟩) 2 2, .int .i64 (3), .slice (some ⟨(blk (prt 1 (fa13 51))), 0, none⟩) 2 2]) rfl rfl)) hE1 hA1 hA2
      refine c_any [⟨[], [], [0], [54], fun f => f 54 = .agg #[.int .i64 (1), .slice (some ⟨b2, 0, none⟩) 2 2]⟩, ⟨[], [], [], [55], fun f => f 55 = .agg #[.int .i64 (2), .slice (some ⟨(blk (prt 1 (f 55))), 0, none⟩) 2 2]⟩, ⟨[1], [], [], [56], fun f => f 56 = .agg #[.int .i64 (4), .slice (some ⟨(blk (prt 1 (f 56))), 0, none⟩) 2 2]⟩, ⟨[0, 1, 2], [0, 1, 2], [], [57], fun f => f 57 = .slice (some ⟨(blk (f 57)), 0, none⟩) 3 3⟩, ⟨[0, 1, 2, 3], [3], [], [57, 58], fun f => f 58 = .agg #[.int .i64 (0), .slice (some ⟨(blk (f 57)), 0, none⟩) 3 3]⟩, ⟨[], [], [], [3], fun f => f 3 = .pointer (some ⟨(blk (f 3)), 0, none⟩)⟩, ⟨[0, 1, 2, 3, 4, 5], [5, 4], [], [], fun _ => True⟩] [⟨none, none, [0], [], fun _ => pt b3 (.cells #[.int .i64 (1), .slice (some ⟨b2, 0, none⟩) 2 2] 35)⟩, ⟨none, none, [], [], fun _ => pt (blk (fa13 2)) (.cells #[.int .i64 (0), .slice (some ⟨(blk (fa13 52)), 0, none⟩) 3 3] 24)⟩, ⟨(some 1), none, [], [55], fun f => pt (blk (prt 1 (f 55))) (.cells #[.int .u8 (1), .int .i64 (5), .int .i64 (7), .int .i64 (0), .int .i64 (0), .int .u8 (8), .int .i64 (9), .int .i64 (0), .int .i64 (0), .int .i64 (0)] 38)⟩, ⟨(some 2), none, [], [56], fun f => pt (blk (prt 1 (f 56))) (.cells #[.int .u8 (1), .int .i64 (5), .int .i64 (7), .int .i64 (0), .int .i64 (0), .int .u8 (8), .int .i64 (10), .int .i64 (0), .int .i64 (0), .int .i64 (0)] 38)⟩, ⟨(some 3), none, [], [55, 56, 57], fun f => pt (blk (f 57)) (.cells #[.int .i64 (1), .slice (some ⟨b2, 0, none⟩) 2 2, .int .i64 (2), .slice (some ⟨(blk (prt 1 (f 55))), 0, none⟩) 2 2, .int .i64 (4), .slice (some ⟨(blk (prt 1 (f 56))), 0, none⟩) 2 2] 35)⟩, ⟨(some 5), (some 6), [6], [3], fun f => pt (blk (f 3)) (.cells #[.int .i64 (0), .slice none 0 0] 24)⟩, ⟨(some 6), none, [], [3, 57], fun f => pt (blk (f 3)) (.cells #[.int .i64 (0), .slice (some ⟨(blk (f 57)), 0, none⟩) 3 3] 24)⟩] [(1, .pointer (some ⟨b3, 0, none⟩)), (2, .pointer (some ⟨(blk (fa13 2)), 0, none⟩))] [1] [] (by kernel_rfl) (by kernel_rfl) (by kernel_rfl) (by kernel_rfl) rfl ⟨rfl, rfl, trivial⟩ ⟨?_, ?_, ?_, ?_, ?_, ?_, ?_, trivial⟩ ?_
      · rintro f M - ⟨i0, -⟩
        have hs1 : f 1 = .pointer (some ⟨b3, 0, none⟩) := i0
        refine ob_start (L' := pt b3 (.cells #[.int .i64 (1), .slice (some ⟨b2, 0, none⟩) 2 2] 35) :: M) (by rfl) (up_cons rfl hs1) ?_
        refine l_val (v := .agg #[.int .i64 (1), .slice (some ⟨b2, 0, none⟩) 2 2]) rfl rfl rfl (e_load tf24 (cs := [.int .i64 (1), .slice (some ⟨b2, 0, none⟩) 2 2]) rfl (k_pt 0 (cs := #[.int .i64 (1), .slice (some ⟨b2, 0, none⟩) 2 2]) (vs := [.int .i64 (1), .slice (some ⟨b2, 0, none⟩) 2 2]) rfl rfl) rfl) ?_
        refine l_nil ?_
        exact f_owes_d (up_cons rfl hs1) rfl (perm_front 0 rfl)
      · rintro f M - -
        refine ob_start (L' := M) (by rfl) rfl ?_
        refine l_call rfl rfl rfl (cl_value (fst := []) (cap := []) (vs := [.int .i64 (2), .int .i64 (9)]) (all := [.int .i64 (2), .int .i64 (9)]) tf57 rfl rfl rfl) ?_
        intro w hw
        obtain ⟨β1, sb, kn, hw1, back⟩ := St.frame_all hw
        refine (hurt_ok β1 w hw1 (2 : Int) (9 : Int)).mono ?_
        rintro e w' ⟨b15, rfl, hw'⟩
        refine ⟨_, rfl, _, back _ _ hw', ?_⟩
        clear hw hw1 hw' back kn sb
        refine l_nil ?_
        exact f_owes_d rfl rfl (perm_front 0 rfl)
      · rintro f M - -
        refine ob_start (L' := M) (by rfl) rfl ?_
        refine l_call rfl rfl rfl (cl_value (fst := []) (cap := []) (vs := [.int .i64 (4), .int .i64 (10)]) (all := [.int .i64 (4), .int .i64 (10)]) tf57 rfl rfl rfl) ?_
        intro w hw
        obtain ⟨β1, sb, kn, hw1, back⟩ := St.frame_all hw
        refine (hurt_ok β1 w hw1 (4 : Int) (10 : Int)).mono ?_
        rintro e w' ⟨b17, rfl, hw'⟩
        refine ⟨_, rfl, _, back _ _ hw', ?_⟩
        clear hw hw1 hw' back kn sb
        refine l_nil ?_
        exact f_owes_d rfl rfl (perm_front 0 rfl)
      · rintro f M ⟨k0, k1, k2, -⟩ -
        have hs54 : f 54 = .agg #[.int .i64 (1), .slice (some ⟨b2, 0, none⟩) 2 2] := k0
        have hs55 : f 55 = .agg #[.int .i64 (2), .slice (some ⟨(blk (prt 1 (f 55))), 0, none⟩) 2 2] := k1
        have hs56 : f 56 = .agg #[.int .i64 (4), .slice (some ⟨(blk (prt 1 (f 56))), 0, none⟩) 2 2] := k2
        refine ob_start (L' := M) (by rfl) (up_cons (up_cons (up_cons rfl hs54) hs55) hs56) ?_
        refine l_mv rfl rfl rfl (m_slices tf32 tf33 (vs := [(0, .agg #[.int .i64 (1), .slice (some ⟨b2, 0, none⟩) 2 2]), (1, .agg #[.int .i64 (2), .slice (some ⟨(blk (prt 1 (f 55))), 0, none⟩) 2 2]), (2, .agg #[.int .i64 (4), .slice (some ⟨(blk (prt 1 (f 56))), 0, none⟩) 2 2])]) (cells := #[.int .i64 (1), .slice (some ⟨b2, 0, none⟩) 2 2, .int .i64 (2), .slice (some ⟨(blk (prt 1 (f 55))), 0, none⟩) 2 2, .int .i64 (4), .slice (some ⟨(blk (prt 1 (f 56))), 0, none⟩) 2 2]) rfl rfl rfl rfl) ?_
        rintro _ _ ⟨b19, rfl, rfl⟩
        refine l_nil ?_
        exact f_owes_d (up_cons (up_cons (up_cons rfl hs54) hs55) hs56) rfl (perm_front 0 rfl)
      · rintro f M ⟨k0, -⟩ -
        have hs57 : f 57 = .slice (some ⟨(blk (f 57)), 0, none⟩) 3 3 := k0
        refine ob_start (L' := M) (by rfl) (up_cons rfl hs57) ?_
        refine l_val (v := .agg #[.int .i64 (0), .slice (some ⟨(blk (f 57)), 0, none⟩) 3 3]) rfl rfl rfl (e_build tf49 tf58 (vs := [(1, .slice (some ⟨(blk (f 57)), 0, none⟩) 3 3)]) (cells := #[.int .i64 (0), .slice (some ⟨(blk (f 57)), 0, none⟩) 3 3]) rfl rfl) ?_
        refine l_nil ?_
        exact f_owes_d (up_cons rfl hs57) rfl (List.Perm.refl _)
      · rintro f M - -
        refine ob_start (L' := M) (by rfl) rfl ?_
        refine l_mv rfl rfl rfl (m_alloc tf49) ?_
        rintro _ _ ⟨b21, rfl, rfl⟩
        refine l_nil ?_
        exact f_owes_d rfl rfl (perm_front 0 rfl)
      · rintro f M ⟨k0, k1, -⟩ -
        have hs3 : f 3 = .pointer (some ⟨(blk (f 3)), 0, none⟩) := k0
        have hs58 : f 58 = .agg #[.int .i64 (0), .slice (some ⟨(blk (f 57)), 0, none⟩) 3 3] := k1
        refine ob_start (L' := pt (blk (f 3)) (.cells #[.int .i64 (0), .slice none 0 0] 24) :: M) (by rfl) (up_cons (up_cons rfl hs3) hs58) ?_
        refine l_mu rfl rfl (m_store 0 tf46 (b := (blk (f 3))) (o := 0) (T := 24) (cs := #[.int .i64 (0), .slice none 0 0]) (cs' := #[.int .i64 (0), .slice (some ⟨(blk (f 57)), 0, none⟩) 3 3]) (v := .agg #[.int .i64 (0), .slice (some ⟨(blk (f 57)), 0, none⟩) 3 3]) rfl rfl rfl rfl rfl rfl rfl) ?_
        refine l_nil ?_
        exact f_owes_n (up_cons (up_cons rfl hs3) hs58) trivial (perm_front 0 rfl)
      rintro fa22 ⟨-, -, -, -, -, k5, -, -⟩ ⟨j0, -⟩
      refine f_re (L' := [pt b3 (.cells #[.int .i64 (1), .slice (some ⟨b2, 0, none⟩) 2 2] 35), pt (blk (fa13 2)) (.cells #[.int .i64 (0), .slice (some ⟨(blk (fa13 52)), 0, none⟩) 3 3] 24), pt (blk (prt 1 (fa22 55))) (.cells #[.int .u8 (1), .int .i64 (5), .int .i64 (7), .int .i64 (0), .int .i64 (0), .int .u8 (8), .int .i64 (9), .int .i64 (0), .int .i64 (0), .int .i64 (0)] 38), pt (blk (prt 1 (fa22 56))) (.cells #[.int .u8 (1), .int .i64 (5), .int .i64 (7), .int .i64 (0), .int .i64 (0), .int .u8 (8), .int .i64 (10), .int .i64 (0), .int .i64 (0), .int .i64 (0)] 38), pt (blk (fa22 57)) (.cells #[.int .i64 (1), .slice (some ⟨b2, 0, none⟩) 2 2, .int .i64 (2), .slice (some ⟨(blk (prt 1 (fa22 55))), 0, none⟩) 2 2, .int .i64 (4), .slice (some ⟨(blk (prt 1 (fa22 56))), 0, none⟩) 2 2] 35), pt (blk (fa22 3)) (.cells #[.int .i64 (0), .slice (some ⟨(blk (fa22 57)), 0, none⟩) 3 3] 24)]) (by rfl) ?_
      refine f_rebase (d := 2) (v := .pointer (some ⟨(blk (fa13 2)), 0, none⟩)) j0 ?_
      refine f_rebase (d := 3) (v := .pointer (some ⟨(blk (fa22 3)), 0, none⟩)) k5 ?_
      refine f_then ?_
      refine c_seq ?_
      refine c_perm (L' := [pt b3 (.cells #[.int .i64 (1), .slice (some ⟨b2, 0, none⟩) 2 2] 35), pt (blk (fa13 2)) (.cells #[.int .i64 (0), .slice (some ⟨(blk (fa13 52)), 0, none⟩) 3 3] 24), pt (blk (fa22 3)) (.cells #[.int .i64 (0), .slice (some ⟨(blk (fa22 57)), 0, none⟩) 3 3] 24), pt (blk (fa22 57)) (.cells #[.int .i64 (1), .slice (some ⟨b2, 0, none⟩) 2 2, .int .i64 (2), .slice (some ⟨(blk (prt 1 (fa22 55))), 0, none⟩) 2 2, .int .i64 (4), .slice (some ⟨(blk (prt 1 (fa22 56))), 0, none⟩) 2 2] 35), pt (blk (prt 1 (fa22 55))) (.cells #[.int .u8 (1), .int .i64 (5), .int .i64 (7), .int .i64 (0), .int .i64 (0), .int .u8 (8), .int .i64 (9), .int .i64 (0), .int .i64 (0), .int .i64 (0)] 38), pt (blk (prt 1 (fa22 56))) (.cells #[.int .u8 (1), .int .i64 (5), .int .i64 (7), .int .i64 (0), .int .i64 (0), .int .u8 (8), .int .i64 (10), .int .i64 (0), .int .i64 (0), .int .i64 (0)] 38)]) ((((((perm_front 3 rfl).trans (perm_front 3 rfl)).trans (perm_front 4 rfl)).trans (perm_front 5 rfl)).trans (perm_front 5 rfl)).trans (perm_front 5 rfl)) ?_
      refine c_freeze (M := [pt b3 (.cells #[.int .i64 (1), .slice (some ⟨b2, 0, none⟩) 2 2] 35), pt (blk (fa13 2)) (.cells #[.int .i64 (0), .slice (some ⟨(blk (fa13 52)), 0, none⟩) 3 3] 24), pt (blk (fa22 3)) (.cells #[.int .i64 (0), .slice (some ⟨(blk (fa22 57)), 0, none⟩) 3 3] 24)]) (K := [pt (blk (fa22 57)) (.cells #[.int .i64 (1), .slice (some ⟨b2, 0, none⟩) 2 2, .int .i64 (2), .slice (some ⟨(blk (prt 1 (fa22 55))), 0, none⟩) 2 2, .int .i64 (4), .slice (some ⟨(blk (prt 1 (fa22 56))), 0, none⟩) 2 2] 35), pt (blk (prt 1 (fa22 55))) (.cells #[.int .u8 (1), .int .i64 (5), .int .i64 (7), .int .i64 (0), .int .i64 (0), .int .u8 (8), .int .i64 (9), .int .i64 (0), .int .i64 (0), .int .i64 (0)] 38), pt (blk (prt 1 (fa22 56))) (.cells #[.int .u8 (1), .int .i64 (5), .int .i64 (7), .int .i64 (0), .int .i64 (0), .int .u8 (8), .int .i64 (10), .int .i64 (0), .int .i64 (0), .int .i64 (0)] 38)]) rfl (fun β₃ ext₃ kn₃ => ?_)
      replace hE1 := Sl.mono _ _ _ _ _ ext₃.sub hE1
      replace hA := Sl.mono _ _ _ _ _ ext₃.sub hA
      have hB1 := kn₃ _ (Knows.of_res 1 rfl (fun _ _ hs h => Sl.mono CompR _ _ _ _ hs h) fun _ h => hurt_sl 2 9 h)
      have hB2 := kn₃ _ (Knows.of_res 2 rfl (fun _ _ hs h => Sl.mono CompR _ _ _ _ hs h) fun _ h => hurt_sl 4 10 h)
      have hB := ents3 (kn₃ _ (k_pt 0 (o := 0) (cs := #[.int .i64 (1), .slice (some ⟨b2, 0, none⟩) 2 2, .int .i64 (2), .slice (some ⟨(blk (prt 1 (fa22 55))), 0, none⟩) 2 2, .int .i64 (4), .slice (some ⟨(blk (prt 1 (fa22 56))), 0, none⟩) 2 2]) (vs := [.int .i64 (1), .slice (some ⟨b2, 0, none⟩) 2 2, .int .i64 (2), .slice (some ⟨(blk (prt 1 (fa22 55))), 0, none⟩) 2 2, .int .i64 (4), .slice (some ⟨(blk (prt 1 (fa22 56))), 0, none⟩) 2 2]) rfl rfl)) hE1 hB1 hB2
      refine c_any [⟨[], [], [0], [59], fun f => f 59 = .agg #[.int .i64 (0), .slice (some ⟨(blk (fa13 52)), 0, none⟩) 3 3]⟩, ⟨[], [], [1], [60], fun f => f 60 = .agg #[.int .i64 (0), .slice (some ⟨(blk (fa22 57)), 0, none⟩) 3 3]⟩, ⟨[0, 1], [0, 1], [], [61], fun f => f 61 = ((f 61))⟩, ⟨[], [], [], [62], fun f => f 62 = .slice (some ⟨(blk (f 62)), 0, none⟩) 3 3⟩, ⟨[0, 1, 2, 3], [2, 3], [], [63], fun f => f 63 = .bool true⟩, ⟨[0, 1, 2, 3, 4], [4], [], [64], fun f => f 64 = .bool true⟩, ⟨[0, 1, 2, 3, 4, 5], [5], [0], [65], fun f => f 65 = .agg #[.int .i64 (0), .slice (some ⟨(blk (fa13 52)), 0, none⟩) 3 3]⟩, ⟨[0, 1, 2, 3, 4, 5], [5], [0], [66], fun f => f 66 = .agg #[.int .i64 (0), .slice (some ⟨(blk (fa13 52)), 0, none⟩) 3 3]⟩, ⟨[0, 1, 2, 3, 4, 5, 6, 7], [6, 7, 5], [], [67], fun f => f 67 = ((f 67))⟩, ⟨[0, 1, 2, 3, 4, 5, 6, 7, 8], [8, 5], [], [68], fun f => f 68 = Nx ((differU (⟨0, [(hurtK 1 10), (hurtK 2 10), (hurtK 3 10)]⟩ : KWorld) (⟨0, [(hurtK 1 10), (hurtK 2 10), (hurtK 3 10)]⟩ : KWorld)).length)⟩, ⟨[0, 1, 2, 3, 4, 5, 6, 7, 8, 9], [9, 5], [], [69], fun f => f 69 = .bool true⟩, ⟨[0, 1, 2, 3, 4, 5, 6, 7, 8, 9, 10], [5, 10], [], [70], fun f => f 70 = .bool true⟩, ⟨[0, 1, 2, 3, 4, 5, 6, 7, 8, 9, 10, 11], [11], [], [71], fun f => f 71 = .bool true⟩, ⟨[0, 1, 2, 3, 4, 5, 6, 7, 8, 9, 10, 11, 12], [12], [0], [72], fun f => f 72 = .agg #[.int .i64 (0), .slice (some ⟨(blk (fa13 52)), 0, none⟩) 3 3]⟩, ⟨[0, 1, 2, 3, 4, 5, 6, 7, 8, 9, 10, 11, 12, 13], [13, 12], [], [73], fun f => f 73 = Ux (worldU (⟨0, [(hurtK 1 10), (hurtK 2 10), (hurtK 3 10)]⟩ : KWorld))⟩, ⟨[0, 1, 2, 3, 4, 5, 6, 7, 8, 9, 10, 11, 12], [12], [1], [74], fun f => f 74 = .agg #[.int .i64 (0), .slice (some ⟨(blk (fa22 57)), 0, none⟩) 3 3]⟩, ⟨[0, 1, 2, 3, 4, 5, 6, 7, 8, 9, 10, 11, 12, 13, 14, 15], [15, 12], [], [75], fun f => f 75 = Ux (worldU (⟨0, [(hurtK 1 10), (hurtK 2 9), (hurtK 4 10)]⟩ : KWorld))⟩, ⟨[0, 1, 2, 3, 4, 5, 6, 7, 8, 9, 10, 11, 12, 13, 14, 15, 16], [14, 16, 12], [], [76], fun f => f 76 = .bool true⟩, ⟨[0, 1, 2, 3, 4, 5, 6, 7, 8, 9, 10, 11, 12, 13, 14, 15, 16, 17], [12, 17], [], [77], fun f => f 77 = .bool true⟩, ⟨[0, 1, 2, 3, 4, 5, 6, 7, 8, 9, 10, 11, 12, 13, 14, 15, 16, 17, 18], [18], [], [0], fun f => f 0 = .bool true⟩] [⟨none, none, [], [], fun _ => pt b3 (.cells #[.int .i64 (1), .slice (some ⟨b2, 0, none⟩) 2 2] 35)⟩, ⟨none, none, [0, 6, 7, 13], [], fun _ => pt (blk (fa13 2)) (.cells #[.int .i64 (0), .slice (some ⟨(blk (fa13 52)), 0, none⟩) 3 3] 24)⟩, ⟨none, none, [1, 15], [], fun _ => pt (blk (fa22 3)) (.cells #[.int .i64 (0), .slice (some ⟨(blk (fa22 57)), 0, none⟩) 3 3] 24)⟩, ⟨(some 2), none, [4], [61], fun f => row ((f 61)) 3 1 ((differU (⟨0, [(hurtK 1 10), (hurtK 2 10), (hurtK 3 10)]⟩ : KWorld) (⟨0, [(hurtK 1 10), (hurtK 2 9), (hurtK 4 10)]⟩ : KWorld)).length) (((differU (⟨0, [(hurtK 1 10), (hurtK 2 10), (hurtK 3 10)]⟩ : KWorld) (⟨0, [(hurtK 1 10), (hurtK 2 9), (hurtK 4 10)]⟩ : KWorld)).map fun z => Ix z))⟩, ⟨(some 3), none, [4], [62], fun f => pt (blk (f 62)) (.cells #[.int .i64 (2), .int .i64 (3), .int .i64 (4)] 3)⟩, ⟨(some 8), none, [9], [67], fun f => row ((f 67)) 3 1 ((differU (⟨0, [(hurtK 1 10), (hurtK 2 10), (hurtK 3 10)]⟩ : KWorld) (⟨0, [(hurtK 1 10), (hurtK 2 10), (hurtK 3 10)]⟩ : KWorld)).length) (((differU (⟨0, [(hurtK 1 10), (hurtK 2 10), (hurtK 3 10)]⟩ : KWorld) (⟨0, [(hurtK 1 10), (hurtK 2 10), (hurtK 3 10)]⟩ : KWorld)).map fun z => Ix z))⟩] [(2, .pointer (some ⟨(blk (fa13 2)), 0, none⟩)), (3, .pointer (some ⟨(blk (fa22 3)), 0, none⟩))] [] [] (by kernel_rfl) (by kernel_rfl) (by kernel_rfl) (by kernel_rfl) rfl ⟨rfl, rfl, trivial⟩ ⟨?_, ?_, ?_, ?_, ?_, ?_, ?_, ?_, ?_, ?_, ?_, ?_, ?_, ?_, ?_, ?_, ?_, ?_, ?_, ?_, trivial⟩ ?_
      · rintro f M - ⟨i0, -⟩
        have hs2 : f 2 = .pointer (some ⟨(blk (fa13 2)), 0, none⟩) := i0
        refine ob_start (L' := pt (blk (fa13 2)) (.cells #[.int .i64 (0), .slice (some ⟨(blk (fa13 52)), 0, none⟩) 3 3] 24) :: M) (by rfl) (up_cons rfl hs2) ?_
        refine l_val (v := .agg #[.int .i64 (0), .slice (some ⟨(blk (fa13 52)), 0, none⟩) 3 3]) rfl rfl rfl (e_load tf46 (cs := [.int .i64 (0), .slice (some ⟨(blk (fa13 52)), 0, none⟩) 3 3]) rfl (k_pt 0 (cs := #[.int .i64 (0), .slice (some ⟨(blk (fa13 52)), 0, none⟩) 3 3]) (vs := [.int .i64 (0), .slice (some ⟨(blk (fa13 52)), 0, none⟩) 3 3]) rfl rfl) rfl) ?_
        refine l_nil ?_
        exact f_owes_d (up_cons rfl hs2) rfl (perm_front 0 rfl)
      · rintro f M - ⟨i0, -⟩
        have hs3 : f 3 = .pointer (some ⟨(blk (fa22 3)), 0, none⟩) := i0
        refine ob_start (L' := pt (blk (fa22 3)) (.cells #[.int .i64 (0), .slice (some ⟨(blk (fa22 57)), 0, none⟩) 3 3] 24) :: M) (by rfl) (up_cons rfl hs3) ?_
        refine l_val (v := .agg #[.int .i64 (0), .slice (some ⟨(blk (fa22 57)), 0, none⟩) 3 3]) rfl rfl rfl (e_load tf46 (cs := [.int .i64 (0), .slice (some ⟨(blk (fa22 57)), 0, none⟩) 3 3]) rfl (k_pt 0 (cs := #[.int .i64 (0), .slice (some ⟨(blk (fa22 57)), 0, none⟩) 3 3]) (vs := [.int .i64 (0), .slice (some ⟨(blk (fa22 57)), 0, none⟩) 3 3]) rfl rfl) rfl) ?_
        refine l_nil ?_
        exact f_owes_d (up_cons rfl hs3) rfl (perm_front 0 rfl)
      · rintro f M ⟨k0, k1, -⟩ -
        have hs59 : f 59 = .agg #[.int .i64 (0), .slice (some ⟨(blk (fa13 52)), 0, none⟩) 3 3] := k0
        have hs60 : f 60 = .agg #[.int .i64 (0), .slice (some ⟨(blk (fa22 57)), 0, none⟩) 3 3] := k1
        refine ob_start (L' := M) (by rfl) (up_cons (up_cons rfl hs59) hs60) ?_
        refine l_call rfl rfl rfl (cl_value (fst := []) (cap := []) (vs := [.agg #[.int .i64 (0), .slice (some ⟨(blk (fa13 52)), 0, none⟩) 3 3], .agg #[.int .i64 (0), .slice (some ⟨(blk (fa22 57)), 0, none⟩) 3 3]]) (all := [.agg #[.int .i64 (0), .slice (some ⟨(blk (fa13 52)), 0, none⟩) 3 3], .agg #[.int .i64 (0), .slice (some ⟨(blk (fa22 57)), 0, none⟩) 3 3]]) tf61 rfl rfl rfl) ?_
        intro w hw
        obtain ⟨β1, sb, kn, hw1, back⟩ := St.frame_all hw
        refine (differ_ok β1 w hw1 (⟨0, [(hurtK 1 10), (hurtK 2 10), (hurtK 3 10)]⟩ : KWorld) (⟨0, [(hurtK 1 10), (hurtK 2 9), (hurtK 4 10)]⟩ : KWorld) _ _ (Sl.mono _ _ _ _ _ sb hA) (Sl.mono _ _ _ _ _ sb hB) (by decide) (by decide)).mono ?_
        rintro e w' ⟨v24, rfl, hw'⟩
        refine ⟨_, rfl, _, back _ _ hw', ?_⟩
        clear hw hw1 hw' back kn sb
        refine l_nil ?_
        exact f_owes_d (up_cons (up_cons rfl hs59) hs60) rfl (perm_front 0 rfl)
      · rintro f M - -
        refine ob_start (L' := M) (by rfl) rfl ?_
        refine l_mv rfl rfl rfl (m_slices tf39 tf52 (vs := [(0, .int .i64 (2)), (1, .int .i64 (3)), (2, .int .i64 (4))]) (cells := #[.int .i64 (2), .int .i64 (3), .int .i64 (4)]) rfl rfl rfl rfl) ?_
        rintro _ _ ⟨b26, rfl, rfl⟩
        refine l_nil ?_
        exact f_owes_d rfl rfl (perm_front 0 rfl)
      · rintro f M ⟨k0, k1, -⟩ -
        have hs61 : f 61 = ((f 61)) := k0
        have hs62 : f 62 = .slice (some ⟨(blk (f 62)), 0, none⟩) 3 3 := k1
        refine ob_start (L' := row ((f 61)) 3 1 ((differU (⟨0, [(hurtK 1 10), (hurtK 2 10), (hurtK 3 10)]⟩ : KWorld) (⟨0, [(hurtK 1 10), (hurtK 2 9), (hurtK 4 10)]⟩ : KWorld)).length) (((differU (⟨0, [(hurtK 1 10), (hurtK 2 10), (hurtK 3 10)]⟩ : KWorld) (⟨0, [(hurtK 1 10), (hurtK 2 9), (hurtK 4 10)]⟩ : KWorld)).map fun z => Ix z)) :: pt (blk (f 62)) (.cells #[.int .i64 (2), .int .i64 (3), .int .i64 (4)] 3) :: M) (by rfl) (up_cons (up_cons rfl hs61) hs62) ?_
        refine l_call rfl rfl rfl (cl_value (fst := []) (cap := []) (vs := [((f 61)), .slice (some ⟨(blk (f 62)), 0, none⟩) 3 3]) (all := [((f 61)), .slice (some ⟨(blk (f 62)), 0, none⟩) 3 3]) tf62 rfl rfl rfl) ?_
        intro w hw
        obtain ⟨β1, sb, kn, hw1, back⟩ := St.frame_all hw
        refine (sameInts_ok β1 w hw1 _ _ (differU (⟨0, [(hurtK 1 10), (hurtK 2 10), (hurtK 3 10)]⟩ : KWorld) (⟨0, [(hurtK 1 10), (hurtK 2 9), (hurtK 4 10)]⟩ : KWorld)) [(2 : Int), (3 : Int), (4 : Int)] (kn (fun h => Sl IntR h _ (differU (⟨0, [(hurtK 1 10), (hurtK 2 10), (hurtK 3 10)]⟩ : KWorld) (⟨0, [(hurtK 1 10), (hurtK 2 9), (hurtK 4 10)]⟩ : KWorld))) (Knows.of_res 0 rfl (fun _ _ hs h => Sl.mono IntR _ _ _ _ hs h) fun _ h => row_slI h)) (kn (fun h => Sl IntR h _ [(2 : Int), (3 : Int), (4 : Int)]) (Knows.of_res 1 rfl (fun _ _ hs h => Sl.mono IntR _ _ _ _ hs h) fun _ h => pt_slI (xs := [(2 : Int), (3 : Int), (4 : Int)]) h rfl (by decide)))).mono ?_
        rintro e w' ⟨rfl, hw'⟩
        refine ⟨_, rfl, _, back _ _ hw', ?_⟩
        clear hw hw1 hw' back kn sb
        refine l_nil ?_
        exact f_owes_d (up_cons (up_cons rfl hs61) hs62) (congrArg Value.bool (decide_eq_true cl10)) ((perm_front 1 rfl).trans (perm_front 1 rfl))
      · rintro f M ⟨k0, -⟩ -
        have hs63 : f 63 = .bool true := k0
        refine ob_start (L' := M) (by rfl) (up_cons rfl hs63) ?_
        refine l_val (v := .bool true) rfl rfl rfl (e_move) ?_
        refine l_nil ?_
        exact f_owes_d (up_cons rfl hs63) rfl (List.Perm.refl _)
      · rintro f M ⟨k0, -⟩ ⟨i0, -⟩
        have hs2 : f 2 = .pointer (some ⟨(blk (fa13 2)), 0, none⟩) := i0
        have hs64 : f 64 = .bool true := k0
        refine ob_start (L' := pt (blk (fa13 2)) (.cells #[.int .i64 (0), .slice (some ⟨(blk (fa13 52)), 0, none⟩) 3 3] 24) :: M) (by rfl) (up_cons (up_cons rfl hs2) hs64) ?_
        refine g_val (v := .agg #[.int .i64 (0), .slice (some ⟨(blk (fa13 52)), 0, none⟩) 3 3]) rfl rfl rfl rfl rfl (e_load tf46 (cs := [.int .i64 (0), .slice (some ⟨(blk (fa13 52)), 0, none⟩) 3 3]) rfl (k_pt 0 (cs := #[.int .i64 (0), .slice (some ⟨(blk (fa13 52)), 0, none⟩) 3 3]) (vs := [.int .i64 (0), .slice (some ⟨(blk (fa13 52)), 0, none⟩) 3 3]) rfl rfl) rfl) ?_
        refine l_nil ?_
        exact f_owes_d (up_cons (up_cons rfl hs2) hs64) rfl (perm_front 0 rfl)
      · rintro f M ⟨k0, -⟩ ⟨i0, -⟩
        have hs2 : f 2 = .pointer (some ⟨(blk (fa13 2)), 0, none⟩) := i0
        have hs64 : f 64 = .bool true := k0
        refine ob_start (L' := pt (blk (fa13 2)) (.cells #[.int .i64 (0), .slice (some ⟨(blk (fa13 52)), 0, none⟩) 3 3] 24) :: M) (by rfl) (up_cons (up_cons rfl hs2) hs64) ?_
        refine g_val (v := .agg #[.int .i64 (0), .slice (some ⟨(blk (fa13 52)), 0, none⟩) 3 3]) rfl rfl rfl rfl rfl (e_load tf46 (cs := [.int .i64 (0), .slice (some ⟨(blk (fa13 52)), 0, none⟩) 3 3]) rfl (k_pt 0 (cs := #[.int .i64 (0), .slice (some ⟨(blk (fa13 52)), 0, none⟩) 3 3]) (vs := [.int .i64 (0), .slice (some ⟨(blk (fa13 52)), 0, none⟩) 3 3]) rfl rfl) rfl) ?_
        refine l_nil ?_
        exact f_owes_d (up_cons (up_cons rfl hs2) hs64) rfl (perm_front 0 rfl)
      · rintro f M ⟨k0, k1, k2, -⟩ -
        have hs65 : f 65 = .agg #[.int .i64 (0), .slice (some ⟨(blk (fa13 52)), 0, none⟩) 3 3] := k0
        have hs66 : f 66 = .agg #[.int .i64 (0), .slice (some ⟨(blk (fa13 52)), 0, none⟩) 3 3] := k1
        have hs64 : f 64 = .bool true := k2
        refine ob_start (L' := M) (by rfl) (up_cons (up_cons (up_cons rfl hs65) hs66) hs64) ?_
        refine g_call rfl rfl rfl rfl rfl (cl_value (fst := []) (cap := []) (vs := [.agg #[.int .i64 (0), .slice (some ⟨(blk (fa13 52)), 0, none⟩) 3 3], .agg #[.int .i64 (0), .slice (some ⟨(blk (fa13 52)), 0, none⟩) 3 3]]) (all := [.agg #[.int .i64 (0), .slice (some ⟨(blk (fa13 52)), 0, none⟩) 3 3], .agg #[.int .i64 (0), .slice (some ⟨(blk (fa13 52)), 0, none⟩) 3 3]]) tf61 rfl rfl rfl) ?_
        intro w hw
        obtain ⟨β1, sb, kn, hw1, back⟩ := St.frame_all hw
        refine (differ_ok β1 w hw1 (⟨0, [(hurtK 1 10), (hurtK 2 10), (hurtK 3 10)]⟩ : KWorld) (⟨0, [(hurtK 1 10), (hurtK 2 10), (hurtK 3 10)]⟩ : KWorld) _ _ (Sl.mono _ _ _ _ _ sb hA) (Sl.mono _ _ _ _ _ sb hA) (by decide) (by decide)).mono ?_
        rintro e w' ⟨v28, rfl, hw'⟩
        refine ⟨_, rfl, _, back _ _ hw', ?_⟩
        clear hw hw1 hw' back kn sb
        refine l_nil ?_
        exact f_owes_d (up_cons (up_cons (up_cons rfl hs65) hs66) hs64) rfl (perm_front 0 rfl)
      · rintro f M ⟨k0, k1, -⟩ -
        have hs67 : f 67 = ((f 67)) := k0
        have hs64 : f 64 = .bool true := k1
        refine ob_start (L' := row ((f 67)) 3 1 ((differU (⟨0, [(hurtK 1 10), (hurtK 2 10), (hurtK 3 10)]⟩ : KWorld) (⟨0, [(hurtK 1 10), (hurtK 2 10), (hurtK 3 10)]⟩ : KWorld)).length) (((differU (⟨0, [(hurtK 1 10), (hurtK 2 10), (hurtK 3 10)]⟩ : KWorld) (⟨0, [(hurtK 1 10), (hurtK 2 10), (hurtK 3 10)]⟩ : KWorld)).map fun z => Ix z)) :: M) (by rfl) (up_cons (up_cons rfl hs67) hs64) ?_
        refine g_val (v := Nx ((differU (⟨0, [(hurtK 1 10), (hurtK 2 10), (hurtK 3 10)]⟩ : KWorld) (⟨0, [(hurtK 1 10), (hurtK 2 10), (hurtK 3 10)]⟩ : KWorld)).length)) rfl rfl rfl rfl rfl (e_len_row 0 rfl rfl tf38) ?_
        refine l_nil ?_
        exact f_owes_d (up_cons (up_cons rfl hs67) hs64) rfl (perm_front 0 rfl)
      · rintro f M ⟨k0, k1, -⟩ -
        have hs68 : f 68 = Nx ((differU (⟨0, [(hurtK 1 10), (hurtK 2 10), (hurtK 3 10)]⟩ : KWorld) (⟨0, [(hurtK 1 10), (hurtK 2 10), (hurtK 3 10)]⟩ : KWorld)).length) := k0
        have hs64 : f 64 = .bool true := k1
        refine ob_start (L' := M) (by rfl) (up_cons (up_cons rfl hs68) hs64) ?_
        refine g_val (v := .bool true) rfl rfl rfl rfl rfl ((ev_t cl11 (e_eql (a := (((differU (⟨0, [(hurtK 1 10), (hurtK 2 10), (hurtK 3 10)]⟩ : KWorld) (⟨0, [(hurtK 1 10), (hurtK 2 10), (hurtK 3 10)]⟩ : KWorld)).length : Nat) : Int)) (b := (0 : Int)) rfl rfl))) ?_
        refine l_nil ?_
        exact f_owes_d (up_cons (up_cons rfl hs68) hs64) rfl (List.Perm.refl _)
      · rintro f M ⟨k0, k1, -⟩ -
        have hs64 : f 64 = .bool true := k0
        have hs69 : f 69 = .bool true := k1
        refine ob_start (L' := M) (by rfl) (up_cons (up_cons rfl hs64) hs69) ?_
        refine l_val (v := .bool true) rfl rfl rfl (e_pick_t rfl) ?_
        refine l_nil ?_
        exact f_owes_d (up_cons (up_cons rfl hs64) hs69) rfl (List.Perm.refl _)
      · rintro f M ⟨k0, -⟩ -
        have hs70 : f 70 = .bool true := k0
        refine ob_start (L' := M) (by rfl) (up_cons rfl hs70) ?_
        refine l_val (v := .bool true) rfl rfl rfl (e_move) ?_
        refine l_nil ?_
        exact f_owes_d (up_cons rfl hs70) rfl (List.Perm.refl _)
      · rintro f M ⟨k0, -⟩ ⟨i0, -⟩
        have hs2 : f 2 = .pointer (some ⟨(blk (fa13 2)), 0, none⟩) := i0
        have hs71 : f 71 = .bool true := k0
        refine ob_start (L' := pt (blk (fa13 2)) (.cells #[.int .i64 (0), .slice (some ⟨(blk (fa13 52)), 0, none⟩) 3 3] 24) :: M) (by rfl) (up_cons (up_cons rfl hs2) hs71) ?_
        refine g_val (v := .agg #[.int .i64 (0), .slice (some ⟨(blk (fa13 52)), 0, none⟩) 3 3]) rfl rfl rfl rfl rfl (e_load tf46 (cs := [.int .i64 (0), .slice (some ⟨(blk (fa13 52)), 0, none⟩) 3 3]) rfl (k_pt 0 (cs := #[.int .i64 (0), .slice (some ⟨(blk (fa13 52)), 0, none⟩) 3 3]) (vs := [.int .i64 (0), .slice (some ⟨(blk (fa13 52)), 0, none⟩) 3 3]) rfl rfl) rfl) ?_
        refine l_nil ?_
        exact f_owes_d (up_cons (up_cons rfl hs2) hs71) rfl (perm_front 0 rfl)
      · rintro f M ⟨k0, k1, -⟩ -
        have hs72 : f 72 = .agg #[.int .i64 (0), .slice (some ⟨(blk (fa13 52)), 0, none⟩) 3 3] := k0
        have hs71 : f 71 = .bool true := k1
        refine ob_start (L' := M) (by rfl) (up_cons (up_cons rfl hs72) hs71) ?_
        refine g_call rfl rfl rfl rfl rfl (cl_value (fst := []) (cap := []) (vs := [.agg #[.int .i64 (0), .slice (some ⟨(blk (fa13 52)), 0, none⟩) 3 3]]) (all := [.agg #[.int .i64 (0), .slice (some ⟨(blk (fa13 52)), 0, none⟩) 3 3]]) tf59 rfl rfl rfl) ?_
        intro w hw
        obtain ⟨β1, sb, kn, hw1, back⟩ := St.frame_all hw
        refine (world_ok β1 w hw1 (⟨0, [(hurtK 1 10), (hurtK 2 10), (hurtK 3 10)]⟩ : KWorld) _ ((Sl.mono _ _ _ _ _ sb hA))).mono ?_
        rintro e w' ⟨rfl, hw'⟩
        refine ⟨_, rfl, _, back _ _ hw', ?_⟩
        clear hw hw1 hw' back kn sb
        refine l_nil ?_
        exact f_owes_d (up_cons (up_cons rfl hs72) hs71) rfl (List.Perm.refl _)
      · rintro f M ⟨k0, -⟩ ⟨i0, -⟩
        have hs3 : f 3 = .pointer (some ⟨(blk (fa22 3)), 0, none⟩) := i0
        have hs71 : f 71 = .bool true := k0
        refine ob_start (L' := pt (blk (fa22 3)) (.cells #[.int .i64 (0), .slice (some ⟨(blk (fa22 57)), 0, none⟩) 3 3] 24) :: M) (by rfl) (up_cons (up_cons rfl hs3) hs71) ?_
        refine g_val (v := .agg #[.int .i64 (0), .slice (some ⟨(blk (fa22 57)), 0, none⟩) 3 3]) rfl rfl rfl rfl rfl (e_load tf46 (cs := [.int .i64 (0), .slice (some ⟨(blk (fa22 57)), 0, none⟩) 3 3]) rfl (k_pt 0 (cs := #[.int .i64 (0), .slice (some ⟨(blk (fa22 57)), 0, none⟩) 3 3]) (vs := [.int .i64 (0), .slice (some ⟨(blk (fa22 57)), 0, none⟩) 3 3]) rfl rfl) rfl) ?_
        refine l_nil ?_
        exact f_owes_d (up_cons (up_cons rfl hs3) hs71) rfl (perm_front 0 rfl)
      · rintro f M ⟨k0, k1, -⟩ -
        have hs74 : f 74 = .agg #[.int .i64 (0), .slice (some ⟨(blk (fa22 57)), 0, none⟩) 3 3] := k0
        have hs71 : f 71 = .bool true := k1
        refine ob_start (L' := M) (by rfl) (up_cons (up_cons rfl hs74) hs71) ?_
        refine g_call rfl rfl rfl rfl rfl (cl_value (fst := []) (cap := []) (vs := [.agg #[.int .i64 (0), .slice (some ⟨(blk (fa22 57)), 0, none⟩) 3 3]]) (all := [.agg #[.int .i64 (0), .slice (some ⟨(blk (fa22 57)), 0, none⟩) 3 3]]) tf59 rfl rfl rfl) ?_
        intro w hw
        obtain ⟨β1, sb, kn, hw1, back⟩ := St.frame_all hw
        refine (world_ok β1 w hw1 (⟨0, [(hurtK 1 10), (hurtK 2 9), (hurtK 4 10)]⟩ : KWorld) _ ((Sl.mono _ _ _ _ _ sb hB))).mono ?_
        rintro e w' ⟨rfl, hw'⟩
        refine ⟨_, rfl, _, back _ _ hw', ?_⟩
        clear hw hw1 hw' back kn sb
        refine l_nil ?_
        exact f_owes_d (up_cons (up_cons rfl hs74) hs71) rfl (List.Perm.refl _)
      · rintro f M ⟨k0, k1, k2, -⟩ -
        have hs73 : f 73 = Ux (worldU (⟨0, [(hurtK 1 10), (hurtK 2 10), (hurtK 3 10)]⟩ : KWorld)) := k0
        have hs75 : f 75 = Ux (worldU (⟨0, [(hurtK 1 10), (hurtK 2 9), (hurtK 4 10)]⟩ : KWorld)) := k1
        have hs71 : f 71 = .bool true := k2
        refine ob_start (L' := M) (by rfl) (up_cons (up_cons (up_cons rfl hs73) hs75) hs71) ?_
        refine g_val (v := .bool true) rfl rfl rfl rfl rfl ((ev_t cl12 (e_neq (a := ((worldU (⟨0, [(hurtK 1 10), (hurtK 2 10), (hurtK 3 10)]⟩ : KWorld)).toNat : Int)) (b := ((worldU (⟨0, [(hurtK 1 10), (hurtK 2 9), (hurtK 4 10)]⟩ : KWorld)).toNat : Int)) rfl rfl))) ?_
        refine l_nil ?_
        exact f_owes_d (up_cons (up_cons (up_cons rfl hs73) hs75) hs71) rfl (List.Perm.refl _)
      · rintro f M ⟨k0, k1, -⟩ -
        have hs71 : f 71 = .bool true := k0
        have hs76 : f 76 = .bool true := k1
        refine ob_start (L' := M) (by rfl) (up_cons (up_cons rfl hs71) hs76) ?_
        refine l_val (v := .bool true) rfl rfl rfl (e_pick_t rfl) ?_
        refine l_nil ?_
        exact f_owes_d (up_cons (up_cons rfl hs71) hs76) rfl (List.Perm.refl _)
      · rintro f M ⟨k0, -⟩ -
        have hs77 : f 77 = .bool true := k0
        refine ob_start (L' := M) (by rfl) (up_cons rfl hs77) ?_
        refine l_val (v := .bool true) rfl rfl rfl (e_assign) ?_
        refine l_nil ?_
        exact f_owes_d (up_cons rfl hs77) rfl (List.Perm.refl _)
      rintro fa29 ⟨-, -, -, -, -, -, -, -, -, -, -, -, -, -, -, -, -, -, -, k19, -⟩ -
      refine f_re (L' := [pt b3 (.cells #[.int .i64 (1), .slice (some ⟨b2, 0, none⟩) 2 2] 35), pt (blk (fa13 2)) (.cells #[.int .i64 (0), .slice (some ⟨(blk (fa13 52)), 0, none⟩) 3 3] 24), pt (blk (fa22 3)) (.cells #[.int .i64 (0), .slice (some ⟨(blk (fa22 57)), 0, none⟩) 3 3] 24), row ((fa29 61)) 3 1 ((differU (⟨0, [(hurtK 1 10), (hurtK 2 10), (hurtK 3 10)]⟩ : KWorld) (⟨0, [(hurtK 1 10), (hurtK 2 9), (hurtK 4 10)]⟩ : KWorld)).length) (((differU (⟨0, [(hurtK 1 10), (hurtK 2 10), (hurtK 3 10)]⟩ : KWorld) (⟨0, [(hurtK 1 10), (hurtK 2 9), (hurtK 4 10)]⟩ : KWorld)).map fun z => Ix z)), pt (blk (fa29 62)) (.cells #[.int .i64 (2), .int .i64 (3), .int .i64 (4)] 3), row ((fa29 67)) 3 1 ((differU (⟨0, [(hurtK 1 10), (hurtK 2 10), (hurtK 3 10)]⟩ : KWorld) (⟨0, [(hurtK 1 10), (hurtK 2 10), (hurtK 3 10)]⟩ : KWorld)).length) (((differU (⟨0, [(hurtK 1 10), (hurtK 2 10), (hurtK 3 10)]⟩ : KWorld) (⟨0, [(hurtK 1 10), (hurtK 2 10), (hurtK 3 10)]⟩ : KWorld)).map fun z => Ix z))]) (by rfl) ?_
      refine f_rebase (d := 0) (v := .bool true) k19 ?_
      refine f_then ?_
      refine c_ret ?_
      refine ret1 Tryz.results12 (v := .bool true) rfl ?_
      intro w hw
      exact ⟨rfl, (((st_mask [false, false, false, false, false, false] rfl hw).weaken ext₃).weaken ext₂).weaken ext₁⟩
end Go.Proofs
