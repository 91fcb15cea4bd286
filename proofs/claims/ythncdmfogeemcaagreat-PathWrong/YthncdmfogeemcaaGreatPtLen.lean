/-
  The length between two points. Own work; plain Lean.
-/

namespace Go.Pth
def isqF : Nat → Nat → Nat → Nat
  | 0, i, _ => i
  | f + 1, i, n => if n ≤ i * i then i else isqF f (i + 1) n
/-- the least number whose square is no less -/
def isq (n : Nat) : Nat := isqF n 0 n
theorem isqF_ok : ∀ f i n, n ≤ (i + f) * (i + f) → (∀ j, j < i → j * j < n) → n ≤ isqF f i n * isqF f i n ∧ ∀ j, j < isqF f i n → j * j < n := by
  intro f
  induction f with
  | zero => intro i n h g; exact ⟨h, g⟩
  | succ f ih =>
    intro i n h g
    unfold isqF
    by_cases q : n ≤ i * i
    · rw [if_pos q]; exact ⟨q, g⟩
    · rw [if_neg q]
      refine ih (i + 1) n (by rw [show i + 1 + f = i + (f + 1) by omega]; exact h) fun j hj => ?_
      by_cases hji : j = i
      · subst hji; omega
      · exact g j (by omega)
theorem isq_ge (n : Nat) : n ≤ isq n * isq n := (isqF_ok n 0 n (by rw [Nat.zero_add]; cases n with | zero => exact Nat.le_refl _ | succ n => exact Nat.le_mul_of_pos_left _ (Nat.succ_pos _)) (fun j h => absurd h (Nat.not_lt_zero _))).1
theorem isq_lt {n j : Nat} (h : j < isq n) : j * j < n := (isqF_ok n 0 n (by rw [Nat.zero_add]; cases n with | zero => exact Nat.le_refl _ | succ n => exact Nat.le_mul_of_pos_left _ (Nat.succ_pos _)) (fun j h => absurd h (Nat.not_lt_zero _))).2 j h
theorem isq_le {n i : Nat} (h : n ≤ i * i) : isq n ≤ i := by
  rcases Nat.lt_or_ge i (isq n) with q | q
  · have := isq_lt q; omega
  · exact q
/-- the square of the distance -/
def d2 (x y u v : Int) : Nat := ((x - u) * (x - u) + (y - v) * (y - v)).toNat
theorem sq_nn (a : Int) : 0 ≤ a * a := by
  rcases Int.le_total 0 a with h | h
  · exact Int.mul_nonneg h h
  · have := Int.mul_nonneg (Int.neg_nonneg_of_nonpos h) (Int.neg_nonneg_of_nonpos h); rwa [Int.neg_mul_neg] at this
theorem d2_int (x y u v : Int) : ((d2 x y u v : Nat) : Int) = (x - u) * (x - u) + (y - v) * (y - v) := by
  unfold d2; rw [Int.toNat_of_nonneg (Int.add_nonneg (sq_nn _) (sq_nn _))]
theorem d2_comm (x y u v : Int) : d2 x y u v = d2 u v x y := by
  unfold d2; rw [show u - x = -(x - u) by omega, show v - y = -(y - v) by omega, Int.neg_mul_neg, Int.neg_mul_neg]
theorem d2_self (x y : Int) : d2 x y x y = 0 := by unfold d2; rw [Int.sub_self, Int.sub_self]; rfl
def inR (x : Int) : Prop := -2097152 ≤ x ∧ x ≤ 2097152
instance (x : Int) : Decidable (inR x) := inferInstanceAs (Decidable (_ ∧ _))
/-- what Length returns -/
def lenV (x y u v : Int) : Nat := if inR x ∧ inR y ∧ inR u ∧ inR v then isq (256 * d2 x y u v) else 0
theorem lenV_comm (x y u v : Int) : lenV x y u v = lenV u v x y := by
  unfold lenV; rw [d2_comm]
  by_cases h : inR x ∧ inR y ∧ inR u ∧ inR v
  · rw [if_pos h, if_pos ⟨h.2.2.1, h.2.2.2, h.1, h.2.1⟩]
  · rw [if_neg h, if_neg fun q => h ⟨q.2.2.1, q.2.2.2, q.1, q.2.1⟩]
theorem lenV_self (x y : Int) : lenV x y x y = 0 := by
  unfold lenV; rw [d2_self]; split
  · exact Nat.le_zero.1 (isq_le (Nat.le_refl _))
  · rfl
theorem sq_bd {a b : Int} (h1 : -b ≤ a) (h2 : a ≤ b) : a * a ≤ b * b := by
  have e : b * b - a * a = (b - a) * (b + a) := by rw [Int.mul_add, Int.sub_mul, Int.sub_mul, Int.mul_comm b a]; omega
  have := Int.mul_nonneg (show 0 ≤ b - a by omega) (show 0 ≤ b + a by omega)
  omega
theorem lenV_bd (x y u v : Int) : lenV x y u v ≤ 134217728 := by
  unfold lenV
  split
  · rename_i h
    obtain ⟨⟨a1, a2⟩, ⟨b1, b2⟩, ⟨c1, c2⟩, ⟨e1, e2⟩⟩ := h
    refine isq_le ?_
    have q1 : (x - u) * (x - u) ≤ 4194304 * 4194304 := sq_bd (by omega) (by omega)
    have q2 : (y - v) * (y - v) ≤ 4194304 * 4194304 := sq_bd (by omega) (by omega)
    refine Int.ofNat_le.1 ?_
    rw [Int.natCast_mul, d2_int]; omega
  · omega
end Go.Pth
