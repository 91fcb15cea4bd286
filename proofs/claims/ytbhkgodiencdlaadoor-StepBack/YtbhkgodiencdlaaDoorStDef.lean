/-
  Bodies, and how far they are from each other, in plain terms. Own work; plain Lean.
-/

namespace Go.Stp
structure KB where
  id : Int
  x : Int
  y : Int
  vx : Int
  vy : Int
  w : Int
  h : Int
  round : Bool
  fixed : Bool
  deriving DecidableEq
structure KR where
  a : Int
  b : Int
  len : Int
  deriving DecidableEq
def okB (b : KB) : Prop := (0 ≤ b.id ∧ b.id ≤ 65536) ∧ (-1048576 ≤ b.x ∧ b.x ≤ 1048576) ∧ (-1048576 ≤ b.y ∧ b.y ≤ 1048576) ∧ (-4096 ≤ b.vx ∧ b.vx ≤ 4096) ∧ (-4096 ≤ b.vy ∧ b.vy ≤ 4096) ∧ (1 ≤ b.w ∧ b.w ≤ 16384) ∧ (1 ≤ b.h ∧ b.h ≤ 16384) ∧
  (b.round = true → b.w = b.h) ∧ (b.fixed = true → b.vx = 0 ∧ b.vy = 0)
instance (b : KB) : Decidable (okB b) := by unfold okB; infer_instance
/-- the room of two shapes whose middles are dx and dy apart -/
def room (a b : KB) (dx dy : Int) : Int :=
  if a.round then (if b.round then dx * dx + dy * dy - (a.w + b.w) * (a.w + b.w) else max (dx - b.w) 0 * max (dx - b.w) 0 + max (dy - b.h) 0 * max (dy - b.h) 0 - a.w * a.w)
  else (if b.round then max (dx - a.w) 0 * max (dx - a.w) 0 + max (dy - a.h) 0 * max (dy - a.h) 0 - b.w * b.w else max (dx - a.w - b.w) (dy - a.h - b.h))
def abs (x : Int) : Int := max x (-x)
def far (a b : KB) : Int := room a b (abs (a.x - b.x)) (abs (a.y - b.y))
def over (a b : KB) : Prop := okB a ∧ okB b ∧ far a b < 0
instance (a b : KB) : Decidable (over a b) := by unfold over; infer_instance
theorem sq_mono {u v : Int} (h0 : 0 ≤ u) (h : u ≤ v) : u * u ≤ v * v := Int.mul_le_mul h h h0 (by omega)
theorem room_mono {a b : KB} {dx dy ex ey : Int} (h1 : 0 ≤ dx) (h2 : dx ≤ ex) (h3 : 0 ≤ dy) (h4 : dy ≤ ey) : room a b dx dy ≤ room a b ex ey := by
  unfold room
  split <;> split
  · have := sq_mono h1 h2; have := sq_mono h3 h4; omega
  · have := sq_mono (u := max (dx - b.w) 0) (v := max (ex - b.w) 0) (by omega) (by omega)
    have := sq_mono (u := max (dy - b.h) 0) (v := max (ey - b.h) 0) (by omega) (by omega)
    omega
  · have := sq_mono (u := max (dx - a.w) 0) (v := max (ex - a.w) 0) (by omega) (by omega)
    have := sq_mono (u := max (dy - a.h) 0) (v := max (ey - a.h) 0) (by omega) (by omega)
    omega
  · omega
theorem abs_nonneg (x : Int) : 0 ≤ abs x := by unfold abs; omega
theorem abs_neg (x : Int) : abs (-x) = abs x := by unfold abs; omega
theorem room_comm (a b : KB) (dx dy : Int) : room a b dx dy = room b a dx dy := by
  unfold room
  cases a.round <;> cases b.round <;> simp
  · omega
  · rw [Int.add_comm a.w b.w]
theorem far_comm (a b : KB) : far a b = far b a := by
  unfold far
  rw [room_comm, ← abs_neg (a.x - b.x), ← abs_neg (a.y - b.y), show -(a.x - b.x) = b.x - a.x by omega, show -(a.y - b.y) = b.y - a.y by omega]
theorem over_comm (a b : KB) : over a b ↔ over b a := by unfold over; rw [far_comm]; exact ⟨fun ⟨x, y, z⟩ => ⟨y, x, z⟩, fun ⟨x, y, z⟩ => ⟨y, x, z⟩⟩
/-- a body shifted along an axis -/
def shX (b : KB) (n : Int) : KB := { b with x := b.x + n }
def shY (b : KB) (n : Int) : KB := { b with y := b.y + n }
theorem okB_shX {b : KB} {n : Int} (h : okB b) (h1 : -1048576 ≤ b.x + n) (h2 : b.x + n ≤ 1048576) : okB (shX b n) := ⟨h.1, ⟨h1, h2⟩, h.2.2⟩
theorem okB_shY {b : KB} {n : Int} (h : okB b) (h1 : -1048576 ≤ b.y + n) (h2 : b.y + n ≤ 1048576) : okB (shY b n) := ⟨h.1, h.2.1, ⟨h1, h2⟩, h.2.2.2⟩
/-- what is overlapped stays overlapped till the middles are beside each other -/
theorem over_onX {m o : KB} {s i j : Int} (hs : s = 1 ∨ s = -1) (hi : 0 ≤ i) (hij : i ≤ j) (hj : j ≤ s * (o.x - m.x)) (h : over (shX m (s * i)) o) : over (shX m (s * j)) o := by
  obtain ⟨h1, h2, h3⟩ := h
  have b1 := h1.2.1
  have b2 := h2.2.1
  have e1 : (shX m (s * i)).x = m.x + s * i := rfl
  rw [e1] at b1
  refine ⟨⟨h1.1, ⟨?_, ?_⟩, h1.2.2⟩, h2, ?_⟩
  · show -1048576 ≤ m.x + s * j
    rcases hs with rfl | rfl <;> omega
  · show m.x + s * j ≤ 1048576
    rcases hs with rfl | rfl <;> omega
  · refine Int.lt_of_le_of_lt ?_ h3
    unfold far
    refine Int.le_trans (room_mono (abs_nonneg _) ?_ (abs_nonneg _) (Int.le_refl _)) (Int.le_refl _)
    show abs (m.x + s * j - o.x) ≤ abs (m.x + s * i - o.x)
    unfold abs
    rcases hs with rfl | rfl <;> omega
theorem over_onY {m o : KB} {s i j : Int} (hs : s = 1 ∨ s = -1) (hi : 0 ≤ i) (hij : i ≤ j) (hj : j ≤ s * (o.y - m.y)) (h : over (shY m (s * i)) o) : over (shY m (s * j)) o := by
  obtain ⟨h1, h2, h3⟩ := h
  have b1 := h1.2.2.1
  have b2 := h2.2.2.1
  have e1 : (shY m (s * i)).y = m.y + s * i := rfl
  rw [e1] at b1
  refine ⟨⟨h1.1, h1.2.1, ⟨?_, ?_⟩, h1.2.2.2⟩, h2, ?_⟩
  · show -1048576 ≤ m.y + s * j
    rcases hs with rfl | rfl <;> omega
  · show m.y + s * j ≤ 1048576
    rcases hs with rfl | rfl <;> omega
  · refine Int.lt_of_le_of_lt ?_ h3
    unfold far
    refine Int.le_trans (room_mono (abs_nonneg _) (Int.le_refl _) (abs_nonneg _) ?_) (Int.le_refl _)
    show abs (m.y + s * j - o.y) ≤ abs (m.y + s * i - o.y)
    unfold abs
    rcases hs with rfl | rfl <;> omega
/-- a rope that is exceeded stays exceeded -/
theorem rope_on {u c s i j l : Int} (hs : s = 1 ∨ s = -1) (hi : 1 ≤ i) (hij : i ≤ j) (hl : u * u + c ≤ l) (h : l < (u + s * i) * (u + s * i) + c) : l < (u + s * j) * (u + s * j) + c := by
  have key : ∀ t : Int, (u + s * t) * (u + s * t) = u * u + t * (2 * (u * s) + t) := fun t => by
    rcases hs with rfl | rfl
    · simp only [Int.one_mul, Int.mul_one, Int.add_mul, Int.mul_add]
      rw [Int.mul_comm t (2 * u), Int.mul_assoc 2 u t, Int.mul_comm t u]; omega
    · simp only [Int.neg_mul, Int.one_mul, Int.mul_neg, Int.mul_one, Int.add_mul, Int.mul_add]
      rw [Int.mul_comm t (2 * u), Int.mul_assoc 2 u t, Int.mul_comm t u]; omega
  rw [key] at h ⊢
  have h1 : 0 < i * (2 * (u * s) + i) := by omega
  have h2 : 0 < 2 * (u * s) + i := Int.pos_of_mul_pos_right h1 (by omega)
  have h3 : i * (2 * (u * s) + i) ≤ j * (2 * (u * s) + j) := Int.mul_le_mul hij (by omega) (by omega) (by omega)
  omega
end Go.Stp
