/-
  Own work; plain Lean (StDef, StMod, StRun).
-/

namespace Go.Stp
structure KB where
  id : Int
  x : Int
  y : Int
  vx : Int
  vy : Int
  w : Int
  h : Int
  round : Bool
  fixed : Bool
  deriving DecidableEq
structure KR where
  a : Int
  b : Int
  len : Int
  deriving DecidableEq
def okB (b : KB) : Prop := (0 ≤ b.id ∧ b.id ≤ 65536) ∧ (-1048576 ≤ b.x ∧ b.x ≤ 1048576) ∧ (-1048576 ≤ b.y ∧ b.y ≤ 1048576) ∧ (-4096 ≤ b.vx ∧ b.vx ≤ 4096) ∧ (-4096 ≤ b.vy ∧ b.vy ≤ 4096) ∧ (1 ≤ b.w ∧ b.w ≤ 16384) ∧ (1 ≤ b.h ∧ b.h ≤ 16384) ∧
  (b.round = true → b.w = b.h) ∧ (b.fixed = true → b.vx = 0 ∧ b.vy = 0)
instance (b : KB) : Decidable (okB b) := by unfold okB; infer_instance
/-- the room of two shapes whose middles are dx and dy apart -/
def room (a b : KB) (dx dy : Int) : Int :=
  if a.round then (if b.round then dx * dx + dy * dy - (a.w + b.w) * (a.w + b.w) else max (dx - b.w) 0 * max (dx - b.w) 0 + max (dy - b.h) 0 * max (dy - b.h) 0 - a.w * a.w)
  else (if b.round then max (dx - a.w) 0 * max (dx - a.w) 0 + max (dy - a.h) 0 * max (dy - a.h) 0 - b.w * b.w else max (dx - a.w - b.w) (dy - a.h - b.h))
def abs (x : Int) : Int := max x (-x)
def far (a b : KB) : Int := room a b (abs (a.x - b.x)) (abs (a.y - b.y))
def over (a b : KB) : Prop := okB a ∧ okB b ∧ far a b < 0
instance (a b : KB) : Decidable (over a b) := by unfold over; infer_instance
theorem sq_mono {u v : Int} (h0 : 0 ≤ u) (h : u ≤ v) : u * u ≤ v * v := Int.mul_le_mul h h h0 (by omega)
theorem room_mono {a b : KB} {dx dy ex ey : Int} (h1 : 0 ≤ dx) (h2 : dx ≤ ex) (h3 : 0 ≤ dy) (h4 : dy ≤ ey) : room a b dx dy ≤ room a b ex ey := by
  unfold room
  split <;> split
  · have := sq_mono h1 h2; have := sq_mono h3 h4; omega
  · have := sq_mono (u := max (dx - b.w) 0) (v := max (ex - b.w) 0) (by omega) (by omega)
    have := sq_mono (u := max (dy - b.h) 0) (v := max (ey - b.h) 0) (by omega) (by omega)
    omega
  · have := sq_mono (u := max (dx - a.w) 0) (v := max (ex - a.w) 0) (by omega) (by omega)
    have := sq_mono (u := max (dy - a.h) 0) (v := max (ey - a.h) 0) (by omega) (by omega)
    omega
  · omega
theorem abs_nonneg (x : Int) : 0 ≤ abs x := by unfold abs; omega
theorem abs_neg (x : Int) : abs (-x) = abs x := by unfold abs; omega
theorem room_comm (a b : KB) (dx dy : Int) : room a b dx dy = room b a dx dy := by
  unfold room
  cases a.round <;> cases b.round <;> simp
  · omega
  · rw [Int.add_comm a.w b.w]
theorem far_comm (a b : KB) : far a b = far b a := by
  unfold far
  rw [room_comm, ← abs_neg (a.x - b.x), ← abs_neg (a.y - b.y), show -(a.x - b.x) = b.x - a.x by omega, show -(a.y - b.y) = b.y - a.y by omega]
theorem over_comm (a b : KB) : over a b ↔ over b a := by unfold over; rw [far_comm]; exact ⟨fun ⟨x, y, z⟩ => ⟨y, x, z⟩, fun ⟨x, y, z⟩ => ⟨y, x, z⟩⟩
/-- a body shifted along an axis -/
def shX (b : KB) (n : Int) : KB := { b with x := b.x + n }
def shY (b : KB) (n : Int) : KB := { b with y := b.y + n }
theorem okB_shX {b : KB} {n : Int} (h : okB b) (h1 : -1048576 ≤ b.x + n) (h2 : b.x + n ≤ 1048576) : okB (shX b n) := ⟨h.1, ⟨h1, h2⟩, h.2.2⟩
theorem okB_shY {b : KB} {n : Int} (h : okB b) (h1 : -1048576 ≤ b.y + n) (h2 : b.y + n ≤ 1048576) : okB (shY b n) := ⟨h.1, h.2.1, ⟨h1, h2⟩, h.2.2.2⟩
/-- what is overlapped stays overlapped till the middles are beside each other -/
theorem over_onX {m o : KB} {s i j : Int} (hs : s = 1 ∨ s = -1) (hi : 0 ≤ i) (hij : i ≤ j) (hj : j ≤ s * (o.x - m.x)) (h : over (shX m (s * i)) o) : over (shX m (s * j)) o := by
  obtain ⟨h1, h2, h3⟩ := h
  have b1 := h1.2.1
  have b2 := h2.2.1
  have e1 : (shX m (s * i)).x = m.x + s * i := rfl
  rw [e1] at b1
  refine ⟨⟨h1.1, ⟨?_, ?_⟩, h1.2.2⟩, h2, ?_⟩
  · show -1048576 ≤ m.x + s * j
    rcases hs with rfl | rfl <;> omega
  · show m.x + s * j ≤ 1048576
    rcases hs with rfl | rfl <;> omega
  · refine Int.lt_of_le_of_lt ?_ h3
    unfold far
    refine Int.le_trans (room_mono (abs_nonneg _) ?_ (abs_nonneg _) (Int.le_refl _)) (Int.le_refl _)
    show abs (m.x + s * j - o.x) ≤ abs (m.x + s * i - o.x)
    unfold abs
    rcases hs with rfl | rfl <;> omega
theorem over_onY {m o : KB} {s i j : Int} (hs : s = 1 ∨ s = -1) (hi : 0 ≤ i) (hij : i ≤ j) (hj : j ≤ s * (o.y - m.y)) (h : over (shY m (s * i)) o) : over (shY m (s * j)) o := by
  obtain ⟨h1, h2, h3⟩ := h
  have b1 := h1.2.2.1
  have b2 := h2.2.2.1
  have e1 : (shY m (s * i)).y = m.y + s * i := rfl
  rw [e1] at b1
  refine ⟨⟨h1.1, h1.2.1, ⟨?_, ?_⟩, h1.2.2.2⟩, h2, ?_⟩
  · show -1048576 ≤ m.y + s * j
    rcases hs with rfl | rfl <;> omega
  · show m.y + s * j ≤ 1048576
    rcases hs with rfl | rfl <;> omega
  · refine Int.lt_of_le_of_lt ?_ h3
    unfold far
    refine Int.le_trans (room_mono (abs_nonneg _) (Int.le_refl _) (abs_nonneg _) ?_) (Int.le_refl _)
    show abs (m.y + s * j - o.y) ≤ abs (m.y + s * i - o.y)
    unfold abs
    rcases hs with rfl | rfl <;> omega
/-- a rope that is exceeded stays exceeded -/
theorem rope_on {u c s i j l : Int} (hs : s = 1 ∨ s = -1) (hi : 1 ≤ i) (hij : i ≤ j) (hl : u * u + c ≤ l) (h : l < (u + s * i) * (u + s * i) + c) : l < (u + s * j) * (u + s * j) + c := by
  have key : ∀ t : Int, (u + s * t) * (u + s * t) = u * u + t * (2 * (u * s) + t) := fun t => by
    rcases hs with rfl | rfl
    · simp only [Int.one_mul, Int.mul_one, Int.add_mul, Int.mul_add]
      rw [Int.mul_comm t (2 * u), Int.mul_assoc 2 u t, Int.mul_comm t u]; omega
    · simp only [Int.neg_mul, Int.one_mul, Int.mul_neg, Int.mul_one, Int.add_mul, Int.mul_add]
      rw [Int.mul_comm t (2 * u), Int.mul_assoc 2 u t, Int.mul_comm t u]; omega
  rw [key] at h ⊢
  have h1 : 0 < i * (2 * (u * s) + i) := by omega
  have h2 : 0 < 2 * (u * s) + i := Int.pos_of_mul_pos_right h1 (by omega)
  have h3 : i * (2 * (u * s) + i) ≤ j * (2 * (u * s) + j) := Int.mul_le_mul hij (by omega) (by omega) (by omega)
  omega
end Go.Stp

namespace Go.Stp
/-- the axis: false is X, true is Y -/
def co (y : Bool) (b : KB) : Int := if y then b.y else b.x
def sh (y : Bool) (b : KB) (n : Int) : KB := if y then shY b n else shX b n
def dist (a b : KB) : Int := (a.x - b.x) * (a.x - b.x) + (a.y - b.y) * (a.y - b.y)
def inside (b : KB) : Prop := -1048576 ≤ b.x ∧ b.x ≤ 1048576 ∧ -1048576 ≤ b.y ∧ b.y ≤ 1048576
instance (b : KB) : Decidable (inside b) := by unfold inside; infer_instance
/-- the other bodies that b does not overlap -/
def others (bs : List KB) (b : KB) : List KB := bs.filter fun o => decide (o.id ≠ b.id) && !decide (over o b)
def hit (bs : List KB) (b nb : KB) : Option Int := ((others bs b).find? fun o => decide (over nb o)).map (·.id)
def endId (b : KB) (r : KR) : Int := r.a + r.b - b.id
def findB (bs : List KB) (i : Int) : Option KB := bs.find? (fun o => o.id == i)
/-- the other ends of b's ropes, and how far they may be -/
def endOf (bs : List KB) (b : KB) (r : KR) : Option (KB × Int) :=
  if r.a = b.id ∨ r.b = b.id then (findB bs (endId b r)).map fun o => (o, max (r.len * r.len) (dist b o)) else none
def ends (bs : List KB) (rs : List KR) (b : KB) : List (KB × Int) := rs.filterMap (endOf bs b)
def held (bs : List KB) (rs : List KR) (b nb : KB) : Bool := (ends bs rs b).any fun p => decide (p.2 < dist nb p.1)
/-- what stops b at the shift j; -1 for the world's end and a rope -/
def stopB (bs : List KB) (rs : List KR) (b nb : KB) : Option Int :=
  if inside nb then (match hit bs b nb with | some i => some i | none => if held bs rs b nb then some (-1) else none) else some (-1)
def firstStop (P : Nat → Option Int) : Nat → Nat → Nat × Option Int
  | 0, j => (j, none)
  | n + 1, j => match P (j + 1) with | some x => (j, some x) | none => firstStop P n (j + 1)
def sgn (n : Int) : Int := if n < 0 then -1 else 1
def runM (bs : List KB) (rs : List KR) (b : KB) (y : Bool) (n : Int) : Nat × Option Int := firstStop (fun j => stopB bs rs b (sh y b (sgn n * j))) n.natAbs 0
theorem firstStop_eq {P : Nat → Option Int} : ∀ {n j f : Nat} {z : Option Int}, (∀ i, j < i → i ≤ f → P i = none) → j ≤ f → f ≤ j + n → (f < j + n → P (f + 1) = z ∧ z ≠ none) → (f = j + n → z = none) → firstStop P n j = (f, z)
  | 0, j, f, z, _, h2, h3, _, h5 => by
    have : f = j := by omega
    rw [h5 (by omega), this]; rfl
  | n + 1, j, f, z, h1, h2, h3, h4, h5 => by
    unfold firstStop
    by_cases hj : f = j
    · obtain ⟨e, ne⟩ := h4 (by omega)
      subst hj
      rw [e]
      cases z with
      | none => exact absurd rfl ne
      | some x => rfl
    · rw [h1 (j + 1) (by omega) (by omega)]
      exact firstStop_eq (fun i a b => h1 i (by omega) b) (by omega) (by omega) (fun h => h4 (by omega)) (fun h => h5 (by omega))
theorem firstStop_spec {P : Nat → Option Int} : ∀ (n j : Nat), (∀ i, j < i → i ≤ (firstStop P n j).1 → P i = none) ∧ j ≤ (firstStop P n j).1 ∧ (firstStop P n j).1 ≤ j + n ∧
    ((firstStop P n j).2 = none ∧ (firstStop P n j).1 = j + n ∨ ∃ x, (firstStop P n j).2 = some x ∧ (firstStop P n j).1 < j + n ∧ P ((firstStop P n j).1 + 1) = some x)
  | 0, j => ⟨fun i a b => by simp only [firstStop] at b; omega, Nat.le_refl _, Nat.le_refl _, .inl ⟨rfl, rfl⟩⟩
  | n + 1, j => by
    cases hp : P (j + 1) with
    | some x =>
      have e : firstStop P (n + 1) j = (j, some x) := by unfold firstStop; rw [hp]
      rw [e]
      exact ⟨fun i a b => by simp only at b; omega, Nat.le_refl _, by simp only; omega, .inr ⟨x, rfl, by simp only; omega, hp⟩⟩
    | none =>
      have e : firstStop P (n + 1) j = firstStop P n (j + 1) := by rw [firstStop, hp]
      rw [e]
      obtain ⟨h1, h2, h3, h4⟩ := firstStop_spec (P := P) n (j + 1)
      refine ⟨fun i a b => ?_, by omega, by omega, ?_⟩
      · by_cases hi : i = j + 1
        · rw [hi]; exact hp
        · exact h1 i (by omega) b
      · rcases h4 with ⟨a, b⟩ | ⟨x, a, b, c⟩
        · exact .inl ⟨a, by omega⟩
        · exact .inr ⟨x, a, by omega, c⟩
/-- a stop: of whom, along which axis, by whom -/
structure KS where
  id : Int
  along : UInt8
  by_ : Int
  deriving DecidableEq
def clampS (x : Int) : Int := max (min x 4096) (-4096)
def okV (gx gy : Int) : Prop := -4096 ≤ gx ∧ gx ≤ 4096 ∧ -4096 ≤ gy ∧ gy ≤ 4096
instance (gx gy : Int) : Decidable (okV gx gy) := by unfold okV; infer_instance
def speedX (b : KB) (gx gy : Int) : Int := if b.fixed = true ∨ ¬ okB b ∨ ¬ okV gx gy then 0 else clampS (b.vx + gx)
def speedY (b : KB) (gx gy : Int) : Int := if b.fixed = true ∨ ¬ okB b ∨ ¬ okV gx gy then 0 else clampS (b.vy + gy)
def stopL (id : Int) (al : UInt8) : Option Int → List KS
  | none => []
  | some x => [⟨id, al, x⟩]
def keepV (n : Int) (z : Option Int) : Int := match z with | none => n | some _ => 0
/-- a scene that is valid -/
def okR (bs : List KB) (r : KR) : Prop := (findB bs r.a).isSome ∧ (findB bs r.b).isSome ∧ r.a < r.b ∧ 0 ≤ r.len ∧ r.len ≤ 2097152
def okS (bs : List KB) (rs : List KR) (gx gy : Int) : Prop := bs.length ≤ 64 ∧ rs.length ≤ 32 ∧ okV gx gy ∧ (∀ b ∈ bs, okB b) ∧ (∀ i a b, bs[i]? = some a → bs[i + 1]? = some b → a.id < b.id) ∧ ∀ r ∈ rs, okR bs r
end Go.Stp

namespace Go.Stp
/-- the least number from 1 to n at which p holds; n + 1 if there is none -/
def Least (n : Nat) (p : Nat → Prop) (k : Nat) : Prop := 1 ≤ k ∧ k ≤ n + 1 ∧ (∀ j, 1 ≤ j → j < k → ¬ p j) ∧ (k ≤ n → p k)
theorem inside_ok {b : KB} (h : okB b) : inside b := ⟨h.2.1.1, h.2.1.2, h.2.2.1.1, h.2.2.1.2⟩
theorem ok_of_inside {b : KB} {y : Bool} {n : Int} (h : okB b) (hi : inside (sh y b n)) : okB (sh y b n) := by
  cases y
  · exact okB_shX h hi.1 hi.2.1
  · exact okB_shY h hi.2.2.1 hi.2.2.2
theorem inside_iff {b : KB} {y : Bool} {n : Int} (h : okB b) : inside (sh y b n) ↔ -1048576 ≤ co y b + n ∧ co y b + n ≤ 1048576 := by
  have := inside_ok h
  cases y
  · exact ⟨fun a => ⟨a.1, a.2.1⟩, fun a => ⟨a.1, a.2, this.2.2.1, this.2.2.2⟩⟩
  · exact ⟨fun a => ⟨a.2.2.1, a.2.2.2⟩, fun a => ⟨this.1, this.2.1, a.1, a.2⟩⟩
theorem over_on {y : Bool} {m o : KB} {s i j : Int} (hs : s = 1 ∨ s = -1) (hi : 0 ≤ i) (hij : i ≤ j) (hj : j ≤ s * (co y o - co y m)) (h : over (sh y m (s * i)) o) : over (sh y m (s * j)) o := by
  cases y
  · exact over_onX hs hi hij hj h
  · exact over_onY hs hi hij hj h
/-- past the middle, a body that is not overlapped is not overlapped any more -/
theorem over_past {y : Bool} {m o : KB} {s i j : Int} (hs : s = 1 ∨ s = -1) (hij : i ≤ j) (hi : s * (co y o - co y m) ≤ i) (hok : okB (sh y m (s * i))) (h : ¬ over (sh y m (s * i)) o) : ¬ over (sh y m (s * j)) o := by
  rintro ⟨_, h2, h3⟩
  refine h ⟨hok, h2, Int.lt_of_le_of_lt ?_ h3⟩
  unfold far
  cases y
  · refine room_mono (abs_nonneg _) ?_ (abs_nonneg _) (Int.le_refl _)
    show abs (m.x + s * i - o.x) ≤ abs (m.x + s * j - o.x)
    have hi' : s * (o.x - m.x) ≤ i := hi
    unfold abs
    rcases hs with rfl | rfl <;> omega
  · refine room_mono (abs_nonneg _) (Int.le_refl _) (abs_nonneg _) ?_
    show abs (m.y + s * i - o.y) ≤ abs (m.y + s * j - o.y)
    have hi' : s * (o.y - m.y) ≤ i := hi
    unfold abs
    rcases hs with rfl | rfl <;> omega
theorem sh_zero (y : Bool) (b : KB) : sh y b 0 = b := by cases y <;> simp [sh, shX, shY]
/-- blocked: nothing in front -/
theorem blocked_none {y : Bool} {m o : KB} {s : Int} {most : Nat} (hs : s = 1 ∨ s = -1) (hm : okB m) (h : ¬ over m o) (hn : s * (co y o - co y m) ≤ 0) : Least most (fun j => over (sh y m (s * j)) o) (most + 1) := by
  refine ⟨by omega, by omega, fun j h1 h2 => ?_, fun h => by omega⟩
  have e : sh y m (s * 0) = m := by rw [Int.mul_zero, sh_zero]
  exact over_past (i := 0) hs (by omega) hn (by rw [e]; exact hm) (by rw [e]; exact h)
theorem near_ok {y : Bool} {m o : KB} {s : Int} (hs : s = 1 ∨ s = -1) (hm : okB m) (ho : okB o) : okB (sh y m (s * (s * (co y o - co y m)))) := by
  have e : s * (s * (co y o - co y m)) = co y o - co y m := by rcases hs with rfl | rfl <;> omega
  rw [e]
  refine ok_of_inside hm ((inside_iff hm).2 ?_)
  have := inside_ok ho
  cases y
  · exact ⟨by show _ ≤ m.x + (o.x - m.x); have := this.1; omega, by show m.x + (o.x - m.x) ≤ _; have := this.2.1; omega⟩
  · exact ⟨by show _ ≤ m.y + (o.y - m.y); have := this.2.2.1; omega, by show m.y + (o.y - m.y) ≤ _; have := this.2.2.2; omega⟩
theorem blocked_some {y : Bool} {m o : KB} {s : Int} {most n k : Nat} (hs : s = 1 ∨ s = -1) (hm : okB m) (ho : okB o) (hp : 0 < s * (co y o - co y m)) (hn : (n : Int) = min (s * (co y o - co y m)) (most : Int))
    (hk : Least n (fun j => over (sh y m (s * j)) o) k) : Least most (fun j => over (sh y m (s * j)) o) (if k ≤ n then k else most + 1) := by
  obtain ⟨k1, k2, k3, k4⟩ := hk
  by_cases h : k ≤ n
  · rw [if_pos h]; exact ⟨k1, by omega, k3, fun _ => k4 h⟩
  · rw [if_neg h]
    refine ⟨by omega, by omega, fun j h1 h2 => ?_, fun h => by omega⟩
    by_cases hj : j ≤ n
    · exact k3 j h1 (by omega)
    · have hnn : (n : Int) = s * (co y o - co y m) := by omega
      have n1 : 1 ≤ n := by omega
      have := k3 n n1 (by omega)
      refine over_past (i := (n : Int)) hs (by omega) (by omega) ?_ this
      rw [hnn]; exact near_ok hs hm ho
theorem dist_on {y : Bool} {b o : KB} {s l : Int} {i j : Nat} (hs : s = 1 ∨ s = -1) (hi : 1 ≤ i) (hij : i ≤ j) (hl : dist b o ≤ l) (h : l < dist (sh y b (s * i)) o) : l < dist (sh y b (s * j)) o := by
  cases y
  · have e : ∀ t : Int, dist (sh false b (s * t)) o = (b.x - o.x + s * t) * (b.x - o.x + s * t) + (b.y - o.y) * (b.y - o.y) := fun t => by
      show (b.x + s * t - o.x) * (b.x + s * t - o.x) + (b.y - o.y) * (b.y - o.y) = _
      rw [show b.x + s * t - o.x = b.x - o.x + s * t by omega]
    rw [e] at h ⊢
    exact rope_on hs (by omega) (by omega) hl h
  · have e : ∀ t : Int, dist (sh true b (s * t)) o = (b.y - o.y + s * t) * (b.y - o.y + s * t) + (b.x - o.x) * (b.x - o.x) := fun t => by
      show (b.x - o.x) * (b.x - o.x) + (b.y + s * t - o.y) * (b.y + s * t - o.y) = _
      rw [show b.y + s * t - o.y = b.y - o.y + s * t by omega]; omega
    rw [e] at h ⊢
    exact rope_on hs (by omega) (by omega) (by unfold dist at hl; omega) h
section
variable (y : Bool) (b : KB) (s : Int) (most : Nat)
/-- behind the ropes of es: the first shift that the world's end or one of them forbids -/
def Inv1 (es : List (KB × Int)) (first : Nat) : Prop :=
  1 ≤ first ∧ first ≤ most + 1 ∧ (∀ j : Nat, 1 ≤ j → j < first → inside (sh y b (s * j)) ∧ ∀ p ∈ es, ¬ p.2 < dist (sh y b (s * j)) p.1) ∧
  (first ≤ most → ¬ inside (sh y b (s * first)) ∨ ∃ p ∈ es, p.2 < dist (sh y b (s * first)) p.1)
variable {y b s most}
theorem inv1_nil {k : Nat} (hs : s = 1 ∨ s = -1) (hb : okB b) (hk : (k : Int) = min (most : Int) (1048576 - s * co y b) + 1) : Inv1 y b s most [] k := by
  have hc : -1048576 ≤ co y b ∧ co y b ≤ 1048576 := by
    have := inside_ok hb
    cases y
    · exact ⟨this.1, this.2.1⟩
    · exact ⟨this.2.2.1, this.2.2.2⟩
  have hi : ∀ j : Nat, inside (sh y b (s * j)) ↔ (-1048576 ≤ co y b + s * j ∧ co y b + s * j ≤ 1048576) := fun j => inside_iff hb
  refine ⟨?_, ?_, fun j h1 h2 => ⟨(hi j).2 ?_, fun p hp => by cases hp⟩, fun h => .inl fun h' => ?_⟩
  · rcases hs with rfl | rfl <;> omega
  · rcases hs with rfl | rfl <;> omega
  · rcases hs with rfl | rfl <;> omega
  · have := (hi k).1 h'
    rcases hs with rfl | rfl <;> omega
theorem inv1_step {es : List (KB × Int)} {o : KB} {l : Int} {first k : Nat} (h : Inv1 y b s most es first) (hk : Least most (fun j => l < dist (sh y b (s * j)) o) k) : Inv1 y b s most (es ++ [(o, l)]) (min first k) := by
  obtain ⟨h1, h2, h3, h4⟩ := h
  obtain ⟨k1, k2, k3, k4⟩ := hk
  refine ⟨by omega, by omega, fun j a c => ⟨(h3 j a (by omega)).1, fun p hp => ?_⟩, fun h => ?_⟩
  · rcases List.mem_append.1 hp with hp | hp
    · exact (h3 j a (by omega)).2 p hp
    · rw [List.mem_singleton.1 hp]; exact k3 j a (by omega)
  · by_cases hf : first ≤ k
    · rw [show min first k = first by omega] at h ⊢
      rcases h4 h with h' | ⟨p, hp, h'⟩
      · exact .inl h'
      · exact .inr ⟨p, List.mem_append_left _ hp, h'⟩
    · rw [show min first k = k by omega] at h ⊢
      exact .inr ⟨(o, l), List.mem_append_right _ (List.mem_singleton.2 rfl), k4 h⟩
variable (y b s most)
/-- behind the bodies os: the first shift that something forbids, and whose -/
def Inv2 (es : List (KB × Int)) (os : List KB) (first : Nat) (by_ : Int) : Prop :=
  1 ≤ first ∧ first ≤ most + 1 ∧ (∀ j : Nat, 1 ≤ j → j < first → (inside (sh y b (s * j)) ∧ ∀ p ∈ es, ¬ p.2 < dist (sh y b (s * j)) p.1) ∧ ∀ o ∈ os, ¬ over (sh y b (s * j)) o) ∧
  (first ≤ most → match os.find? (fun o => decide (over (sh y b (s * first)) o)) with
    | some o => by_ = o.id
    | none => by_ = -1 ∧ (¬ inside (sh y b (s * first)) ∨ ∃ p ∈ es, p.2 < dist (sh y b (s * first)) p.1))
variable {y b s most}
theorem inv2_nil {es : List (KB × Int)} {first : Nat} (h : Inv1 y b s most es first) : Inv2 y b s most es [] first (-1) :=
  ⟨h.1, h.2.1, fun j a c => ⟨h.2.2.1 j a c, fun o ho => by cases ho⟩, fun h' => ⟨rfl, h.2.2.2 h'⟩⟩
theorem inv2_step {es : List (KB × Int)} {os : List KB} {o : KB} {first n : Nat} {by_ : Int} (hid : ∀ o ∈ os, 0 ≤ o.id) (h : Inv2 y b s most es os first by_) (hk : Least most (fun j => over (sh y b (s * j)) o) n) :
    ((n < first ∨ n = first ∧ n ≤ most ∧ by_ < 0) → Inv2 y b s most es (os ++ [o]) n o.id) ∧ (¬ (n < first ∨ n = first ∧ n ≤ most ∧ by_ < 0) → Inv2 y b s most es (os ++ [o]) first by_) := by
  obtain ⟨h1, h2, h3, h4⟩ := h
  obtain ⟨k1, k2, k3, k4⟩ := hk
  have hap : ∀ (j : Nat), ((os ++ [o]).find? fun o => decide (over (sh y b (s * j)) o)) = match os.find? (fun o => decide (over (sh y b (s * j)) o)) with | some z => some z | none => if over (sh y b (s * j)) o then some o else none := fun j => by
    rw [List.find?_append]
    cases os.find? (fun o => decide (over (sh y b (s * j)) o)) with
    | some z => rfl
    | none => by_cases hh : over (sh y b (s * j)) o <;> simp [hh]
  constructor
  · intro hc
    refine ⟨k1, by omega, fun j a c => ⟨(h3 j a (by omega)).1, fun p hp => ?_⟩, fun h => ?_⟩
    · rcases List.mem_append.1 hp with hp | hp
      · exact (h3 j a (by omega)).2 p hp
      · rw [List.mem_singleton.1 hp]; exact k3 j a c
    · have hnone : os.find? (fun o => decide (over (sh y b (s * n)) o)) = none := by
        rcases hc with hc | ⟨rfl, hm, hb⟩
        · exact List.find?_eq_none.2 fun z hz => by simpa using (h3 n k1 hc).2 z hz
        · have := h4 hm
          cases hf : os.find? (fun o => decide (over (sh y b (s * n)) o)) with
          | none => rfl
          | some z => rw [hf] at this; have := hid z (List.mem_of_find?_eq_some hf); simp only at *; omega
      rw [hap, hnone, if_pos (k4 h)]
  · intro hc
    refine ⟨h1, h2, fun j a c => ⟨(h3 j a c).1, fun p hp => ?_⟩, fun h => ?_⟩
    · rcases List.mem_append.1 hp with hp | hp
      · exact (h3 j a c).2 p hp
      · rw [List.mem_singleton.1 hp]; exact k3 j a (by omega)
    · have := h4 h
      rw [hap]
      cases hf : os.find? (fun o => decide (over (sh y b (s * first)) o)) with
      | some z => rw [hf] at this; exact this
      | none =>
        rw [hf] at this
        have hno : ¬ over (sh y b (s * first)) o := by
          by_cases hn : first < n
          · exact k3 first h1 hn
          · exact absurd (by have := this.1; omega) hc
        rw [if_neg hno]; exact this
theorem run_done {bs : List KB} {rs : List KR} {first : Nat} {by_ : Int} (h : Inv2 y b s most (ends bs rs b) (others bs b) first by_) :
    firstStop (fun j => stopB bs rs b (sh y b (s * j))) most 0 = (first - 1, if first ≤ most then some by_ else none) := by
  obtain ⟨h1, h2, h3, h4⟩ := h
  refine firstStop_eq (fun i a c => ?_) (by omega) (by omega) (fun hf => ?_) (fun hf => by rw [if_neg (by omega)])
  · obtain ⟨⟨q1, q2⟩, q3⟩ := h3 i (by omega) (by omega)
    have e1 : hit bs b (sh y b (s * i)) = none := by
      unfold hit
      rw [List.find?_eq_none.2 (fun z hz => by simpa using q3 z hz)]; rfl
    have e2 : held bs rs b (sh y b (s * i)) = false := by
      unfold held
      rw [List.any_eq_false]
      exact fun p hp => by simpa using q2 p hp
    unfold stopB
    rw [if_pos q1, e1, e2]; rfl
  · have hm : first ≤ most := by omega
    rw [if_pos hm, show first - 1 + 1 = first by omega]
    refine ⟨?_, by simp⟩
    have := h4 hm
    unfold stopB hit
    cases hf : (others bs b).find? (fun o => decide (over (sh y b (s * first)) o)) with
    | some z =>
      rw [hf] at this
      have ho : over (sh y b (s * first)) z := by simpa using List.find?_some hf
      rw [if_pos (inside_ok ho.1)]
      simp only [Option.map_some, this]
    | none =>
      rw [hf] at this
      obtain ⟨rfl, hz⟩ := this
      by_cases hi : inside (sh y b (s * first))
      · rw [if_pos hi]
        have : held bs rs b (sh y b (s * first)) = true := by
          unfold held
          rcases hz with hz | ⟨p, hp, hz⟩
          · exact absurd hi hz
          · exact List.any_eq_true.2 ⟨p, hp, by simpa using hz⟩
        simp [this]
      · rw [if_neg hi]
end
theorem endOf_skip {bs : List KB} {b : KB} {r : KR} (h1 : r.a ≠ b.id) (h2 : r.b ≠ b.id) : endOf bs b r = none := if_neg fun h => h.elim h1 h2
theorem end_found {bs : List KB} {b : KB} {r : KR} (h : okR bs r) (he : r.a = b.id ∨ r.b = b.id) : ∃ o, findB bs (r.a + r.b - b.id) = some o := by
  obtain ⟨h1, h2, _⟩ := h
  rcases he with e | e
  · rw [e, show b.id + r.b - b.id = r.b by omega]; exact Option.isSome_iff_exists.1 h2
  · rw [e, show r.a + b.id - b.id = r.a by omega]; exact Option.isSome_iff_exists.1 h1
theorem endOf_some {bs : List KB} {b o : KB} {r : KR} (he : r.a = b.id ∨ r.b = b.id) (ho : findB bs (r.a + r.b - b.id) = some o) : endOf bs b r = some (o, max (r.len * r.len) (dist b o)) := by
  unfold endOf endId; rw [if_pos he, ho]; rfl
theorem ends_skip {bs : List KB} {rs : List KR} {b : KB} {k : Nat} {r : KR} (hx : rs[k]? = some r) (h : endOf bs b r = none) : ends bs (rs.take (k + 1)) b = ends bs (rs.take k) b := by
  unfold ends; rw [List.take_add_one, hx, List.filterMap_append]; simp [h]
theorem ends_snoc {bs : List KB} {rs : List KR} {b : KB} {k : Nat} {r : KR} {p : KB × Int} (hx : rs[k]? = some r) (h : endOf bs b r = some p) : ends bs (rs.take (k + 1)) b = ends bs (rs.take k) b ++ [p] := by
  unfold ends; rw [List.take_add_one, hx, List.filterMap_append]; simp [h]
theorem ends_pre {bs : List KB} {rs : List KR} {b : KB} {k : Nat} {r : KR} {p : KB × Int} (hx : rs[k]? = some r) (h : endOf bs b r = some p) : ends bs (rs.take k) b ++ [p] <+: ends bs rs b := by
  rw [← ends_snoc hx h]
  exact List.IsPrefix.filterMap _ (List.take_prefix _ _)
theorem others_skip {bs : List KB} {b : KB} {k : Nat} {o : KB} (hx : bs[k]? = some o) (h : ¬ (o.id ≠ b.id ∧ ¬ over o b)) : others (bs.take (k + 1)) b = others (bs.take k) b := by
  unfold others; rw [List.take_add_one, hx, List.filter_append]
  have : (decide (o.id ≠ b.id) && !decide (over o b)) = false := by
    rw [Bool.eq_false_iff]; intro e; simp at e; exact h ⟨e.1, e.2⟩
  simp only [Option.toList_some, List.filter_cons, this, List.filter_nil]; simp
theorem others_snoc {bs : List KB} {b : KB} {k : Nat} {o : KB} (hx : bs[k]? = some o) (h1 : o.id ≠ b.id) (h2 : ¬ over o b) : others (bs.take (k + 1)) b = others (bs.take k) b ++ [o] := by
  unfold others; rw [List.take_add_one, hx, List.filter_append]
  have : (decide (o.id ≠ b.id) && !decide (over o b)) = true := by simp [h1, h2]
  simp only [Option.toList_some, List.filter_cons, this, List.filter_nil, if_true]
theorem others_pre {bs : List KB} {b : KB} {k : Nat} {o : KB} (hx : bs[k]? = some o) (h1 : o.id ≠ b.id) (h2 : ¬ over o b) : others (bs.take k) b ++ [o] <+: others bs b := by
  rw [← others_snoc hx h1 h2]
  exact (List.take_prefix _ _).filter _
theorem rope_ids {bs : List KB} {r : KR} (hb : ∀ b ∈ bs, okB b) (h : okR bs r) : (0 ≤ r.a ∧ r.a ≤ 65536) ∧ (0 ≤ r.b ∧ r.b ≤ 65536) ∧ 0 ≤ r.len ∧ r.len ≤ 2097152 := by
  have key : ∀ i, (findB bs i).isSome = true → 0 ≤ i ∧ i ≤ 65536 := fun i hi => by
    obtain ⟨o, ho⟩ := Option.isSome_iff_exists.1 hi
    have := List.find?_some ho
    have h2 := (hb o (List.mem_of_find?_eq_some ho)).1
    simp at this; omega
  exact ⟨key _ h.1, key _ h.2.1, h.2.2.2⟩
end Go.Stp
namespace Go.Stp
/-- one axis of a move: the body, the stops, the speeds -/
def innerStep (rs : List KR) (B : List KB) (k : Nat) (id : Int) (y : Bool) (q : KB × List KS × Int × Int) : KB × List KS × Int × Int :=
  let n := if y then q.2.2.2 else q.2.2.1
  let u := runM (B.set k q.1) rs q.1 y n
  (sh y q.1 (sgn n * u.1), q.2.1 ++ stopL id (if y then 2 else 1) u.2, if y then q.2.2.1 else keepV n u.2, if y then keepV n u.2 else q.2.2.2)
def innerK (rs : List KR) (B : List KB) (k : Nat) (b : KB) (nx ny : Int) : Nat → KB × List KS × Int × Int
  | 0 => (b, [], nx, ny)
  | j + 1 => innerStep rs B k b.id (j == 1) (innerK rs B k b nx ny j)
/-- what a step makes of the body k -/
def stepAt (rs : List KR) (gx gy : Int) (B : List KB) (k : Nat) : List KB × List KS :=
  match B[k]? with
  | none => (B, [])
  | some b => if b.fixed then (B, []) else
    let q := innerK rs B k b (speedX b gx gy) (speedY b gx gy) 2
    (B.set k { q.1 with vx := q.2.2.1, vy := q.2.2.2 }, q.2.1)
def stepsTo (rs : List KR) (gx gy : Int) (bs : List KB) : Nat → List KB × List KS
  | 0 => (bs, [])
  | k + 1 => ((stepAt rs gx gy (stepsTo rs gx gy bs k).1 k).1, (stepsTo rs gx gy bs k).2 ++ (stepAt rs gx gy (stepsTo rs gx gy bs k).1 k).2)
def SameIds (B C : List KB) : Prop := B.map (·.id) = C.map (·.id)
theorem SameIds.len {B C : List KB} (h : SameIds B C) : B.length = C.length := by have := congrArg List.length h; simpa using this
theorem SameIds.set {B C : List KB} (h : SameIds B C) {k : Nat} {b c : KB} (hk : B[k]? = some b) (hc : c.id = b.id) : SameIds (B.set k c) C := by
  unfold SameIds at *
  rw [← h, List.map_set, hc]
  obtain ⟨hl, e⟩ := List.getElem?_eq_some_iff.1 hk
  refine List.ext_getElem? fun i => ?_
  rw [List.getElem?_set]
  by_cases hi : k = i
  · subst hi; simp [hl, e]
  · rw [if_neg hi]
theorem findB_ids {B C : List KB} (h : SameIds B C) (i : Int) : (findB B i).isSome = (findB C i).isSome := by
  have key : ∀ (B : List KB), (findB B i).isSome = (B.map (·.id)).any (· == i) := fun B => by
    unfold findB
    induction B with
    | nil => rfl
    | cons b B ih => rw [List.find?_cons, List.map_cons, List.any_cons, ← ih]; cases b.id == i <;> rfl
  rw [key, key, h]
theorem okR_ids {B C : List KB} (h : SameIds B C) {r : KR} (hr : okR C r) : okR B r := by
  unfold okR at *; rw [findB_ids h, findB_ids h]; exact hr
theorem okB_set {B : List KB} (h : ∀ o ∈ B, okB o) {k : Nat} {c : KB} (hc : okB c) : ∀ o ∈ B.set k c, okB o := fun o ho => by
  rcases List.mem_or_eq_of_mem_set ho with ho | rfl
  · exact h o ho
  · exact hc
theorem sgn_or (n : Int) : sgn n = 1 ∨ sgn n = -1 := by unfold sgn; split <;> simp
/-- a body stays where the world is -/
theorem runM_ok {bs : List KB} {rs : List KR} {b : KB} {y : Bool} {n : Int} (h : okB b) : okB (sh y b (sgn n * ((runM bs rs b y n).1 : Nat))) := by
  obtain ⟨h1, h2, h3, _⟩ := firstStop_spec (P := fun j => stopB bs rs b (sh y b (sgn n * j))) n.natAbs 0
  by_cases h0 : (runM bs rs b y n).1 = 0
  · rw [h0]; simpa [sh_zero] using h
  · have := h1 (runM bs rs b y n).1 (by omega) (Nat.le_refl _)
    have hi : inside (sh y b (sgn n * ((runM bs rs b y n).1 : Nat))) := by
      unfold stopB at this
      split at this
      · assumption
      · cases this
    exact ok_of_inside h hi
theorem sh_id (y : Bool) (b : KB) (n : Int) : (sh y b n).id = b.id := by cases y <;> rfl
theorem sh_vel (y : Bool) (b : KB) (n : Int) : (sh y b n).vx = b.vx ∧ (sh y b n).vy = b.vy ∧ (sh y b n).fixed = b.fixed := by cases y <;> exact ⟨rfl, rfl, rfl⟩
end Go.Stp
