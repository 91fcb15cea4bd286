/-
  The step of a scene in plain terms: a body goes unit by unit till something stops it. Own work; plain Lean.
-/
import Derived.Test.YtbhkgodiencdlaaDoorStDef
namespace Go.Stp
/-- the axis: false is X, true is Y -/
def co (y : Bool) (b : KB) : Int := if y then b.y else b.x
def sh (y : Bool) (b : KB) (n : Int) : KB := if y then shY b n else shX b n
def dist (a b : KB) : Int := (a.x - b.x) * (a.x - b.x) + (a.y - b.y) * (a.y - b.y)
def inside (b : KB) : Prop := -1048576 ≤ b.x ∧ b.x ≤ 1048576 ∧ -1048576 ≤ b.y ∧ b.y ≤ 1048576
instance (b : KB) : Decidable (inside b) := by unfold inside; infer_instance
/-- the other bodies that b does not overlap -/
def others (bs : List KB) (b : KB) : List KB := bs.filter fun o => decide (o.id ≠ b.id) && !decide (over o b)
def hit (bs : List KB) (b nb : KB) : Option Int := ((others bs b).find? fun o => decide (over nb o)).map (·.id)
def endId (b : KB) (r : KR) : Int := r.a + r.b - b.id
def findB (bs : List KB) (i : Int) : Option KB := bs.find? (fun o => o.id == i)
/-- the other ends of b's ropes, and how far they may be -/
def endOf (bs : List KB) (b : KB) (r : KR) : Option (KB × Int) :=
  if r.a = b.id ∨ r.b = b.id then (findB bs (endId b r)).map fun o => (o, max (r.len * r.len) (dist b o)) else none
def ends (bs : List KB) (rs : List KR) (b : KB) : List (KB × Int) := rs.filterMap (endOf bs b)
def held (bs : List KB) (rs : List KR) (b nb : KB) : Bool := (ends bs rs b).any fun p => decide (p.2 < dist nb p.1)
/-- what stops b at the shift j; -1 for the world's end and a rope -/
def stopB (bs : List KB) (rs : List KR) (b nb : KB) : Option Int :=
  if inside nb then (match hit bs b nb with | some i => some i | none => if held bs rs b nb then some (-1) else none) else some (-1)
def firstStop (P : Nat → Option Int) : Nat → Nat → Nat × Option Int
  | 0, j => (j, none)
  | n + 1, j => match P (j + 1) with | some x => (j, some x) | none => firstStop P n (j + 1)
def sgn (n : Int) : Int := if n < 0 then -1 else 1
def runM (bs : List KB) (rs : List KR) (b : KB) (y : Bool) (n : Int) : Nat × Option Int := firstStop (fun j => stopB bs rs b (sh y b (sgn n * j))) n.natAbs 0
theorem firstStop_eq {P : Nat → Option Int} : ∀ {n j f : Nat} {z : Option Int}, (∀ i, j < i → i ≤ f → P i = none) → j ≤ f → f ≤ j + n → (f < j + n → P (f + 1) = z ∧ z ≠ none) → (f = j + n → z = none) → firstStop P n j = (f, z)
  | 0, j, f, z, _, h2, h3, _, h5 => by
    have : f = j := by omega
    rw [h5 (by omega), this]; rfl
  | n + 1, j, f, z, h1, h2, h3, h4, h5 => by
    unfold firstStop
    by_cases hj : f = j
    · obtain ⟨e, ne⟩ := h4 (by omega)
      subst hj
      rw [e]
      cases z with
      | none => exact absurd rfl ne
      | some x => rfl
    · rw [h1 (j + 1) (by omega) (by omega)]
      exact firstStop_eq (fun i a b => h1 i (by omega) b) (by omega) (by omega) (fun h => h4 (by omega)) (fun h => h5 (by omega))
theorem firstStop_spec {P : Nat → Option Int} : ∀ (n j : Nat), (∀ i, j < i → i ≤ (firstStop P n j).1 → P i = none) ∧ j ≤ (firstStop P n j).1 ∧ (firstStop P n j).1 ≤ j + n ∧
    ((firstStop P n j).2 = none ∧ (firstStop P n j).1 = j + n ∨ ∃ x, (firstStop P n j).2 = some x ∧ (firstStop P n j).1 < j + n ∧ P ((firstStop P n j).1 + 1) = some x)
  | 0, j => ⟨fun i a b => by simp only [firstStop] at b; omega, Nat.le_refl _, Nat.le_refl _, .inl ⟨rfl, rfl⟩⟩
  | n + 1, j => by
    cases hp : P (j + 1) with
    | some x =>
      have e : firstStop P (n + 1) j = (j, some x) := by unfold firstStop; rw [hp]
      rw [e]
      exact ⟨fun i a b => by simp only at b; omega, Nat.le_refl _, by simp only; omega, .inr ⟨x, rfl, by simp only; omega, hp⟩⟩
    | none =>
      have e : firstStop P (n + 1) j = firstStop P n (j + 1) := by rw [firstStop, hp]
      rw [e]
      obtain ⟨h1, h2, h3, h4⟩ := firstStop_spec (P := P) n (j + 1)
      refine ⟨fun i a b => ?_, by omega, by omega, ?_⟩
      · by_cases hi : i = j + 1
        · rw [hi]; exact hp
        · exact h1 i (by omega) b
      · rcases h4 with ⟨a, b⟩ | ⟨x, a, b, c⟩
        · exact .inl ⟨a, by omega⟩
        · exact .inr ⟨x, a, by omega, c⟩
/-- a stop: of whom, along which axis, by whom -/
structure KS where
  id : Int
  along : UInt8
  by_ : Int
  deriving DecidableEq
def clampS (x : Int) : Int := max (min x 4096) (-4096)
def okV (gx gy : Int) : Prop := -4096 ≤ gx ∧ gx ≤ 4096 ∧ -4096 ≤ gy ∧ gy ≤ 4096
instance (gx gy : Int) : Decidable (okV gx gy) := by unfold okV; infer_instance
def speedX (b : KB) (gx gy : Int) : Int := if b.fixed = true ∨ ¬ okB b ∨ ¬ okV gx gy then 0 else clampS (b.vx + gx)
def speedY (b : KB) (gx gy : Int) : Int := if b.fixed = true ∨ ¬ okB b ∨ ¬ okV gx gy then 0 else clampS (b.vy + gy)
def stopL (id : Int) (al : UInt8) : Option Int → List KS
  | none => []
  | some x => [⟨id, al, x⟩]
def keepV (n : Int) (z : Option Int) : Int := match z with | none => n | some _ => 0
/-- a scene that is valid -/
def okR (bs : List KB) (r : KR) : Prop := (findB bs r.a).isSome ∧ (findB bs r.b).isSome ∧ r.a < r.b ∧ 0 ≤ r.len ∧ r.len ≤ 2097152
def okS (bs : List KB) (rs : List KR) (gx gy : Int) : Prop := bs.length ≤ 64 ∧ rs.length ≤ 32 ∧ okV gx gy ∧ (∀ b ∈ bs, okB b) ∧ (∀ i a b, bs[i]? = some a → bs[i + 1]? = some b → a.id < b.id) ∧ ∀ r ∈ rs, okR bs r
end Go.Stp
