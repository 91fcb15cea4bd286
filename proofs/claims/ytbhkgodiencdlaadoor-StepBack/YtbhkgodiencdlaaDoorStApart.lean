/-
  What a step does to each body; bodies that do not overlap. Own work; plain Lean.
-/
import Derived.Test.YtbhkgodiencdlaaDoorStMade
namespace Go.Stp
/-- no two bodies overlap -/
def apartP (bs : List KB) : Prop := ∀ (i j : Nat) (a b : KB), i ≠ j → bs[i]? = some a → bs[j]? = some b → ¬ over a b
theorem run_shift (bs : List KB) (rs : List KR) (b : KB) (y : Bool) (n : Int) : min n 0 ≤ sgn n * ((runM bs rs b y n).1 : Nat) ∧ sgn n * ((runM bs rs b y n).1 : Nat) ≤ max n 0 := by
  have h := run_le bs rs b y n
  generalize (runM bs rs b y n).1 = u at h
  unfold sgn; split <;> omega
theorem stepAt_ne {rs : List KR} {gx gy : Int} {B : List KB} {k m : Nat} (h : m ≠ k) : (stepAt rs gx gy B m).1[k]? = B[k]? := by
  rcases stepAt_cases rs gx gy B m with ⟨e, _⟩ | ⟨b, _, _, e⟩
  · rw [e]
  · rw [e]; exact List.getElem?_set_ne h
theorem at_before {rs : List KR} {gx gy : Int} {bs : List KB} {k : Nat} : ∀ m, m ≤ k → (stepsTo rs gx gy bs m).1[k]? = bs[k]?
  | 0, _ => rfl
  | m + 1, h => by
    show (stepAt rs gx gy (stepsTo rs gx gy bs m).1 m).1[k]? = _
    rw [stepAt_ne (by omega), at_before m (by omega)]
theorem at_after {rs : List KR} {gx gy : Int} {bs : List KB} {k : Nat} : ∀ m, k < m → (stepsTo rs gx gy bs m).1[k]? = (stepAt rs gx gy (stepsTo rs gx gy bs k).1 k).1[k]?
  | 0, h => by omega
  | m + 1, h => by
    show (stepAt rs gx gy (stepsTo rs gx gy bs m).1 m).1[k]? = _
    by_cases e : m = k
    · rw [e]
    · rw [stepAt_ne e, at_after m (by omega)]
theorem set_same {B : List KB} {k : Nat} {b : KB} (h : B[k]? = some b) : B.set k b = B := by
  obtain ⟨hl, e⟩ := List.getElem?_eq_some_iff.1 h
  rw [← e]; exact List.set_getElem_self hl
/-- the two moves of a body -/
theorem inner2 {rs : List KR} {B : List KB} {k : Nat} {b : KB} {nx ny : Int} (hk : B[k]? = some b) : ∃ u v : Nat × Option Int, runM B rs b false nx = u ∧ runM (B.set k (sh false b (sgn nx * (u.1 : Nat)))) rs (sh false b (sgn nx * (u.1 : Nat))) true ny = v ∧
    innerK rs B k b nx ny 2 = (sh true (sh false b (sgn nx * (u.1 : Nat))) (sgn ny * (v.1 : Nat)), stopL b.id 1 u.2 ++ stopL b.id 2 v.2, keepV nx u.2, keepV ny v.2) := by
  have q1 : innerK rs B k b nx ny 1 = (sh false b (sgn nx * ((runM B rs b false nx).1 : Nat)), stopL b.id 1 (runM B rs b false nx).2, keepV nx (runM B rs b false nx).2, ny) := by
    show innerStep rs B k b.id false (b, [], nx, ny) = _
    unfold innerStep
    simp only [set_same hk, Bool.false_eq_true, if_false, List.nil_append]
  refine ⟨_, _, rfl, rfl, ?_⟩
  show innerStep rs B k b.id true (innerK rs B k b nx ny 1) = _
  rw [q1]
  unfold innerStep
  simp only [if_true]
/-- where a body may be behind a step -/
def near (gx gy : Int) (a b : KB) : Prop := (b.id = a.id ∧ b.w = a.w ∧ b.h = a.h ∧ b.round = a.round ∧ b.fixed = a.fixed) ∧ (a.fixed = true → b = a) ∧
  (min (speedX a gx gy) 0 ≤ b.x - a.x ∧ b.x - a.x ≤ max (speedX a gx gy) 0) ∧ (min (speedY a gx gy) 0 ≤ b.y - a.y ∧ b.y - a.y ≤ max (speedY a gx gy) 0)
theorem near_self (gx gy : Int) (a : KB) : near gx gy a a := ⟨⟨rfl, rfl, rfl, rfl, rfl⟩, fun _ => rfl, by omega, by omega⟩
/-- the body k behind its own moves -/
theorem stepAt_self {rs : List KR} {gx gy : Int} {B : List KB} {k : Nat} {a : KB} (hk : B[k]? = some a) : ∃ b, (stepAt rs gx gy B k).1[k]? = some b ∧ near gx gy a b := by
  have hl := (List.getElem?_eq_some_iff.1 hk).1
  rcases stepAt_cases rs gx gy B k with ⟨e, _⟩ | ⟨c, hc, hf, e⟩
  · rw [e]; exact ⟨a, hk, near_self gx gy a⟩
  · rw [hk] at hc
    injection hc with hc
    subst hc
    obtain ⟨u, v, hu, hv, hi⟩ := inner2 (rs := rs) (nx := speedX a gx gy) (ny := speedY a gx gy) hk
    rw [e, hi]
    refine ⟨_, List.getElem?_set_self hl, ⟨rfl, rfl, rfl, rfl, rfl⟩, fun h => (by rw [hf] at h; cases h), ?_, ?_⟩
    · have := run_shift B rs a false (speedX a gx gy)
      rw [hu] at this
      show min _ 0 ≤ a.x + sgn (speedX a gx gy) * (u.1 : Nat) - a.x ∧ a.x + sgn (speedX a gx gy) * (u.1 : Nat) - a.x ≤ _
      omega
    · have := run_shift (B.set k (sh false a (sgn (speedX a gx gy) * (u.1 : Nat)))) rs (sh false a (sgn (speedX a gx gy) * (u.1 : Nat))) true (speedY a gx gy)
      rw [hv] at this
      show min _ 0 ≤ a.y + sgn (speedY a gx gy) * (v.1 : Nat) - a.y ∧ a.y + sgn (speedY a gx gy) * (v.1 : Nat) - a.y ≤ _
      omega
theorem near_step {rs : List KR} {gx gy : Int} {bs : List KB} {k m : Nat} {a b : KB} (ha : bs[k]? = some a) (hb : (stepsTo rs gx gy bs m).1[k]? = some b) : near gx gy a b := by
  by_cases h : k < m
  · rw [at_after m h] at hb
    obtain ⟨c, hc, hn⟩ := stepAt_self (rs := rs) (gx := gx) (gy := gy) (B := (stepsTo rs gx gy bs k).1) (k := k) (a := a) (by rw [at_before k (Nat.le_refl _)]; exact ha)
    rw [hc] at hb
    injection hb with hb
    rw [← hb]; exact hn
  · rw [at_before m (by omega), ha] at hb
    injection hb with hb
    rw [← hb]; exact near_self gx gy a
/-- what the reach of a body is -/
structure KA where
  lx : Int
  ly : Int
  hx : Int
  hy : Int
  deriving DecidableEq
/-- bodies of the first k that do not overlap -/
def ClearP (bs : List KB) (k : Nat) (out : List KB) : Prop := out.Sublist (bs.take k) ∧ apartP out
theorem ClearP.len {bs out : List KB} {k : Nat} (h : ClearP bs k out) : out.length ≤ k := by have := h.1.length_le; rw [List.length_take] at this; omega
end Go.Stp
