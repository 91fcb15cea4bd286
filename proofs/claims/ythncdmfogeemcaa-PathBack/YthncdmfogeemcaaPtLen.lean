/-
  The length between two points. Own work; plain Lean.
-/

namespace Go.Pth
def isqF : Nat → Nat → Nat → Nat
  | 0, i, _ => i
  | f + 1, i, n => if n ≤ i * i then i else isqF f (i + 1) n
/-- the least number whose square is no less -/
def isq (n : Nat) : Nat := isqF n 0 n
theorem isqF_ok : ∀ f i n, n ≤ (i + f) * (i + f) → (∀ j, j < i → j * j < n) → n ≤ isqF f i n * isqF f i n ∧ ∀ j, j < isqF f i n → j * j < n := by
  intro f
  induction f with
  | zero => intro i n h g; exact ⟨h, g⟩
  | succ f ih =>
    intro i n h g
    unfold isqF
    by_cases q : n ≤ i * i
    · rw [if_pos q]; exact ⟨q, g⟩
    · rw [if_neg q]
      refine ih (i + 1) n (by rw [show i + 1 + f = i + (f + 1) by omega]; exact h) fun j hj => ?_
      by_cases hji : j = i
      · subst hji; omega
      · exact g j (by omega)
theorem isq_ge (n : Nat) : n ≤ isq n * isq n := (isqF_ok n 0 n (by rw [Nat.zero_add]; cases n with | zero => exact Nat.le_refl _ | succ n => exact Nat.le_mul_of_pos_left _ (Nat.succ_pos _)) (fun j h => absurd h (Nat.not_lt_zero _))).1
theorem isq_lt {n j : Nat} (h : j < isq n) : j * j < n := (isqF_ok n 0 n (by rw [Nat.zero_add]; cases n with | zero => exact Nat.le_refl _ | succ n => exact Nat.le_mul_of_pos_left _ (Nat.succ_pos _)) (fun j h => absurd h (Nat.not_lt_zero _))).2 j h
theorem isq_le {n i : Nat} (h : n ≤ i * i) : isq n ≤ i := by
  rcases Nat.lt_or_ge i (isq n) with q | q
  · have := isq_lt q; omega
  · exact q
/-- the square of the distance -/
def d2 (x y u v : Int) : Nat := ((x - u) * (x - u) + (y - v) * (y - v)).toNat
theorem sq_nn (a : Int) : 0 ≤ a * a := by
  rcases Int.le_total 0 a with h | h
  · exact Int.mul_nonneg h h
  · have := Int.mul_nonneg (Int.neg_nonneg_of_nonpos h) (Int.neg_nonneg_of_nonpos h); rwa [Int.neg_mul_neg] at this
theorem d2_int (x y u v : Int) : ((d2 x y u v : Nat) : Int) = (x - u) * (x - u) + (y - v) * (y - v) := by
  unfold d2; rw [Int.toNat_of_nonneg (Int.add_nonneg (sq_nn _) (sq_nn _))]
theorem d2_comm (x y u v : Int) : d2 x y u v = d2 u v x y := by
  unfold d2; rw [show u - x = -(x - u) by omega, show v - y = -(y - v) by omega, Int.neg_mul_neg, Int.neg_mul_neg]
theorem d2_self (x y : Int) : d2 x y x y = 0 := by unfold d2; rw [Int.sub_self, Int.sub_self]; rfl
def inR (x : Int) : Prop := -2097152 ≤ x ∧ x ≤ 2097152
instance (x : Int) : Decidable (inR x) := inferInstanceAs (Decidable (_ ∧ _))
/-- what Length returns -/
def lenV (x y u v : Int) : Nat := if inR x ∧ inR y ∧ inR u ∧ inR v then isq (256 * d2 x y u v) else 0
theorem lenV_comm (x y u v : Int) : lenV x y u v = lenV u v x y := by
  unfold lenV; rw [d2_comm]
  by_cases h : inR x ∧ inR y ∧ inR u ∧ inR v
  · rw [if_pos h, if_pos ⟨h.2.2.1, h.2.2.2, h.1, h.2.1⟩]
  · rw [if_neg h, if_neg fun q => h ⟨q.2.2.1, q.2.2.2, q.1, q.2.1⟩]
theorem lenV_self (x y : Int) : lenV x y x y = 0 := by
  unfold lenV; rw [d2_self]; split
  · exact Nat.le_zero.1 (isq_le (Nat.le_refl _))
  · rfl
theorem sq_bd {a b : Int} (h1 : -b ≤ a) (h2 : a ≤ b) : a * a ≤ b * b := by
  have e : b * b - a * a = (b - a) * (b + a) := by rw [Int.mul_add, Int.sub_mul, Int.sub_mul, Int.mul_comm b a]; omega
  have := Int.mul_nonneg (show 0 ≤ b - a by omega) (show 0 ≤ b + a by omega)
  omega
theorem lt_of_sq {a b : Int} (hb : 0 ≤ b) (h : a * a ≤ b * b) : a ≤ b := by
  rcases Int.lt_or_le b a with q | q
  · have : (b + 1) * (b + 1) ≤ a * a := sq_bd (show -a ≤ b + 1 by omega) (by omega)
    have e : (b + 1) * (b + 1) = b * b + 2 * b + 1 := by rw [Int.mul_add, Int.add_mul]; omega
    omega
  · exact q
/-- the inequality of the triangle, for least roots -/
theorem tri {p q r s a b : Int} (ha : 0 ≤ a) (hb : 0 ≤ b) (h1 : 256 * (p * p + q * q) ≤ a * a) (h2 : 256 * (r * r + s * s) ≤ b * b) : 256 * ((p + r) * (p + r) + (q + s) * (q + s)) ≤ (a + b) * (a + b) := by
  have hab := Int.mul_nonneg ha hb
  have hc : 256 * (p * r + q * s) ≤ a * b := by
    refine lt_of_sq hab ?_
    have e1 : a * b * (a * b) = (a * a) * (b * b) := by rw [Int.mul_assoc, Int.mul_assoc, Int.mul_left_comm b a b]
    have n1 : 0 ≤ 256 * (p * p + q * q) := by have := sq_nn p; have := sq_nn q; omega
    have n2 : 0 ≤ 256 * (r * r + s * s) := by have := sq_nn r; have := sq_nn s; omega
    have m1 : (256 * (p * p + q * q)) * (256 * (r * r + s * s)) ≤ (a * a) * (b * b) := Int.mul_le_mul h1 h2 n2 (Int.le_trans n1 h1)
    have e2 : (256 * (p * p + q * q)) * (256 * (r * r + s * s)) = 65536 * ((p * p + q * q) * (r * r + s * s)) := by
      rw [Int.mul_assoc, Int.mul_left_comm (p * p + q * q) 256]; omega
    have e3 : 256 * (p * r + q * s) * (256 * (p * r + q * s)) = 65536 * ((p * r + q * s) * (p * r + q * s)) := by
      rw [Int.mul_assoc, Int.mul_left_comm (p * r + q * s) 256]; omega
    have e4 : (p * p + q * q) * (r * r + s * s) = (p * r + q * s) * (p * r + q * s) + (p * s - q * r) * (p * s - q * r) := by
      simp only [Int.add_mul, Int.mul_add, Int.sub_mul, Int.mul_sub]
      have t1 : p * p * (r * r) = p * r * (p * r) := by rw [Int.mul_assoc, Int.mul_assoc, Int.mul_left_comm p r r]
      have t2 : q * q * (r * r) = q * r * (q * r) := by rw [Int.mul_assoc, Int.mul_assoc, Int.mul_left_comm q r r]
      have t3 : p * p * (s * s) = p * s * (p * s) := by rw [Int.mul_assoc, Int.mul_assoc, Int.mul_left_comm p s s]
      have t4 : q * q * (s * s) = q * s * (q * s) := by rw [Int.mul_assoc, Int.mul_assoc, Int.mul_left_comm q s s]
      have t5 : p * r * (q * s) = p * s * (q * r) := by rw [Int.mul_assoc, Int.mul_assoc, Int.mul_left_comm r q s, Int.mul_left_comm s q r, Int.mul_comm r s]
      have t6 : q * s * (p * r) = p * r * (q * s) := Int.mul_comm _ _
      have t7 : q * r * (p * s) = p * s * (q * r) := Int.mul_comm _ _
      rw [t1, t2, t3, t4, t6, t7, t5]; omega
    have n3 := sq_nn (p * s - q * r)
    rw [e1, e3]; rw [e2, e4] at m1; omega
  have e5 : (a + b) * (a + b) = a * a + 2 * (a * b) + b * b := by rw [Int.add_mul, Int.mul_add, Int.mul_add, Int.mul_comm b a]; omega
  have e6 : (p + r) * (p + r) + (q + s) * (q + s) = (p * p + q * q) + 2 * (p * r + q * s) + (r * r + s * s) := by
    simp only [Int.add_mul, Int.mul_add]; rw [Int.mul_comm r p, Int.mul_comm s q]; omega
  rw [e5, e6]; omega
theorem lenV_tri {x y u v w z : Int} (hx : inR x) (hy : inR y) (hu : inR u) (hv : inR v) (hw : inR w) (hz : inR z) : lenV x y u v ≤ lenV x y w z + lenV w z u v := by
  unfold lenV; rw [if_pos ⟨hx, hy, hu, hv⟩, if_pos ⟨hx, hy, hw, hz⟩, if_pos ⟨hw, hz, hu, hv⟩]
  refine isq_le ?_
  have g1 := isq_ge (256 * d2 x y w z); have g2 := isq_ge (256 * d2 w z u v)
  have i1 := Int.ofNat_le.2 g1; have i2 := Int.ofNat_le.2 g2
  rw [Int.natCast_mul, Int.natCast_mul, d2_int] at i1 i2
  have := tri (Int.natCast_nonneg _) (Int.natCast_nonneg _) i1 i2
  refine Int.ofNat_le.1 ?_
  rw [Int.natCast_mul, Int.natCast_mul, d2_int, Int.natCast_add]
  rw [show x - w + (w - u) = x - u by omega, show y - z + (z - v) = y - v by omega] at this
  exact this
theorem lenV_bd (x y u v : Int) : lenV x y u v ≤ 134217728 := by
  unfold lenV
  split
  · rename_i h
    obtain ⟨⟨a1, a2⟩, ⟨b1, b2⟩, ⟨c1, c2⟩, ⟨e1, e2⟩⟩ := h
    refine isq_le ?_
    have q1 : (x - u) * (x - u) ≤ 4194304 * 4194304 := sq_bd (by omega) (by omega)
    have q2 : (y - v) * (y - v) ≤ 4194304 * 4194304 := sq_bd (by omega) (by omega)
    refine Int.ofNat_le.1 ?_
    rw [Int.natCast_mul, d2_int]; omega
  · omega
end Go.Pth
