/-
  What a step does to each body; bodies that do not overlap. Own work; plain Lean.
-/
import Derived.Test.YtbhkgodiencdlaaDoorStMade
namespace Go.Stp
/-- no two bodies overlap -/
def apartP (bs : List KB) : Prop := ∀ (i j : Nat) (a b : KB), i ≠ j → bs[i]? = some a → bs[j]? = some b → ¬ over a b
theorem run_shift (bs : List KB) (rs : List KR) (b : KB) (y : Bool) (n : Int) : min n 0 ≤ sgn n * ((runM bs rs b y n).1 : Nat) ∧ sgn n * ((runM bs rs b y n).1 : Nat) ≤ max n 0 := by
  have h := run_le bs rs b y n
  generalize (runM bs rs b y n).1 = u at h
  unfold sgn; split <;> omega
theorem run_apart {bs : List KB} {rs : List KR} {b o : KB} {y : Bool} {n : Int} (hm : o ∈ bs) (hid : o.id ≠ b.id) (hno : ¬ over b o) : ¬ over (sh y b (sgn n * ((runM bs rs b y n).1 : Nat))) o := by
  obtain ⟨h1, _, _, _⟩ := firstStop_spec (P := fun j => stopB bs rs b (sh y b (sgn n * j))) n.natAbs 0
  by_cases h0 : (runM bs rs b y n).1 = 0
  · rw [h0, show sgn n * ((0 : Nat) : Int) = 0 by omega, sh_zero]; exact hno
  · have := h1 (runM bs rs b y n).1 (by omega) (Nat.le_refl _)
    intro hh
    unfold stopB at this
    rw [if_pos (inside_ok hh.1)] at this
    cases hhit : hit bs b (sh y b (sgn n * ((runM bs rs b y n).1 : Nat))) with
    | some i => rw [hhit] at this; cases this
    | none =>
      unfold hit at hhit
      rw [Option.map_eq_none_iff, List.find?_eq_none] at hhit
      have h2 : ¬ over o b := fun h => hno ((over_comm o b).1 h)
      exact absurd hh (by simpa using hhit o (List.mem_filter.2 ⟨hm, by simp [h2, hid]⟩))
theorem ord_ne {B : List KB} (ho : ordB B) {i k : Nat} {o b : KB} (hik : i ≠ k) (hi : B[i]? = some o) (hk : B[k]? = some b) : o.id ≠ b.id := by
  rcases Nat.lt_or_gt_of_ne hik with h | h
  · have := ho.lt h hi hk; omega
  · have := ho.lt h hk hi; omega
theorem inner_apart {rs : List KR} {B : List KB} {k i : Nat} {b o : KB} {nx ny : Int} (ho : ordB B) (hk : B[k]? = some b) (hik : i ≠ k) (hi : B[i]? = some o) (hno : ¬ over b o) :
    ∀ j, (innerK rs B k b nx ny j).1.id = b.id ∧ ¬ over (innerK rs B k b nx ny j).1 o
  | 0 => ⟨rfl, hno⟩
  | j + 1 => by
    obtain ⟨h1, h2⟩ := inner_apart (rs := rs) (nx := nx) (ny := ny) ho hk hik hi hno j
    have e : innerK rs B k b nx ny (j + 1) = innerStep rs B k b.id (j == 1) (innerK rs B k b nx ny j) := rfl
    rw [e]
    generalize innerK rs B k b nx ny j = q at h1 h2
    have hoi : (B.set k q.1)[i]? = some o := by rw [List.getElem?_set_ne (Ne.symm hik)]; exact hi
    unfold innerStep
    exact ⟨by show (sh _ _ _).id = _; rw [sh_id, h1], run_apart (List.mem_of_getElem? hoi) (by rw [h1]; exact ord_ne ho hik hi hk) h2⟩
theorem over_withV {b o : KB} {vx vy : Int} (hb : okB b) (h : ¬ over b o) : ¬ over (withV b vx vy) o := fun hh => h ⟨hb, hh.2.1, hh.2.2⟩
theorem apart_step {rs : List KR} {gx gy : Int} {bs : List KB} (h : okS bs rs gx gy) (ha : apartP bs) : ∀ k, apartP (stepsTo rs gx gy bs k).1
  | 0 => ha
  | k + 1 => by
    have ih := apart_step h ha k
    have hk := okS_step h k
    show apartP (stepAt rs gx gy (stepsTo rs gx gy bs k).1 k).1
    generalize (stepsTo rs gx gy bs k).1 = B at ih hk
    rcases stepAt_cases rs gx gy B k with ⟨e, _⟩ | ⟨c, hc, hf, e⟩
    · rw [e]; exact ih
    · rw [e]
      have hs := speed_bd c gx gy
      have q1 := (innerK_keeps (rs := rs) (B := B) (k := k) (hk.2.2.2.1 c (List.mem_of_getElem? hc)) hs.1 hs.2 2).1
      have key : ∀ i o vx vy, i ≠ k → B[i]? = some o → ¬ over (withV (innerK rs B k c (speedX c gx gy) (speedY c gx gy) 2).1 vx vy) o := fun i o vx vy hi ho => over_withV q1 (inner_apart hk.2.2.2.2.1 hc hi ho (ih k i c o (Ne.symm hi) hc ho) 2).2
      have hkl := (List.getElem?_eq_some_iff.1 hc).1
      intro i j a b hij ha hb
      by_cases hi : i = k
      · subst hi
        rw [List.getElem?_set_self hkl] at ha
        injection ha with ha
        rw [List.getElem?_set_ne hij] at hb
        rw [← ha]; exact key j b _ _ (Ne.symm hij) hb
      · rw [List.getElem?_set_ne (Ne.symm hi)] at ha
        by_cases hj : j = k
        · subst hj
          rw [List.getElem?_set_self hkl] at hb
          injection hb with hb
          rw [← hb]; intro h; exact key i a _ _ hi ha ((over_comm _ _).1 h)
        · rw [List.getElem?_set_ne (Ne.symm hj)] at hb
          exact ih i j a b hij ha hb
theorem stepAt_ne {rs : List KR} {gx gy : Int} {B : List KB} {k m : Nat} (h : m ≠ k) : (stepAt rs gx gy B m).1[k]? = B[k]? := by
  rcases stepAt_cases rs gx gy B m with ⟨e, _⟩ | ⟨b, _, _, e⟩
  · rw [e]
  · rw [e]; exact List.getElem?_set_ne h
theorem at_before {rs : List KR} {gx gy : Int} {bs : List KB} {k : Nat} : ∀ m, m ≤ k → (stepsTo rs gx gy bs m).1[k]? = bs[k]?
  | 0, _ => rfl
  | m + 1, h => by
    show (stepAt rs gx gy (stepsTo rs gx gy bs m).1 m).1[k]? = _
    rw [stepAt_ne (by omega), at_before m (by omega)]
theorem at_after {rs : List KR} {gx gy : Int} {bs : List KB} {k : Nat} : ∀ m, k < m → (stepsTo rs gx gy bs m).1[k]? = (stepAt rs gx gy (stepsTo rs gx gy bs k).1 k).1[k]?
  | 0, h => by omega
  | m + 1, h => by
    show (stepAt rs gx gy (stepsTo rs gx gy bs m).1 m).1[k]? = _
    by_cases e : m = k
    · rw [e]
    · rw [stepAt_ne e, at_after m (by omega)]
theorem set_same {B : List KB} {k : Nat} {b : KB} (h : B[k]? = some b) : B.set k b = B := by
  obtain ⟨hl, e⟩ := List.getElem?_eq_some_iff.1 h
  rw [← e]; exact List.set_getElem_self hl
/-- the two moves of a body -/
theorem inner2 {rs : List KR} {B : List KB} {k : Nat} {b : KB} {nx ny : Int} (hk : B[k]? = some b) : ∃ u v : Nat × Option Int, runM B rs b false nx = u ∧ runM (B.set k (sh false b (sgn nx * (u.1 : Nat)))) rs (sh false b (sgn nx * (u.1 : Nat))) true ny = v ∧
    innerK rs B k b nx ny 2 = (sh true (sh false b (sgn nx * (u.1 : Nat))) (sgn ny * (v.1 : Nat)), stopL b.id 1 u.2 ++ stopL b.id 2 v.2, keepV nx u.2, keepV ny v.2) := by
  have q1 : innerK rs B k b nx ny 1 = (sh false b (sgn nx * ((runM B rs b false nx).1 : Nat)), stopL b.id 1 (runM B rs b false nx).2, keepV nx (runM B rs b false nx).2, ny) := by
    show innerStep rs B k b.id false (b, [], nx, ny) = _
    unfold innerStep
    simp only [set_same hk, Bool.false_eq_true, if_false, List.nil_append]
  refine ⟨_, _, rfl, rfl, ?_⟩
  show innerStep rs B k b.id true (innerK rs B k b nx ny 1) = _
  rw [q1]
  unfold innerStep
  simp only [if_true]
/-- where a body may be behind a step -/
def near (gx gy : Int) (a b : KB) : Prop := (b.id = a.id ∧ b.w = a.w ∧ b.h = a.h ∧ b.round = a.round ∧ b.fixed = a.fixed) ∧ (a.fixed = true → b = a) ∧
  (min (speedX a gx gy) 0 ≤ b.x - a.x ∧ b.x - a.x ≤ max (speedX a gx gy) 0) ∧ (min (speedY a gx gy) 0 ≤ b.y - a.y ∧ b.y - a.y ≤ max (speedY a gx gy) 0)
theorem near_self (gx gy : Int) (a : KB) : near gx gy a a := ⟨⟨rfl, rfl, rfl, rfl, rfl⟩, fun _ => rfl, by omega, by omega⟩
/-- the body k behind its own moves -/
theorem stepAt_self {rs : List KR} {gx gy : Int} {B : List KB} {k : Nat} {a : KB} (hk : B[k]? = some a) : ∃ b, (stepAt rs gx gy B k).1[k]? = some b ∧ near gx gy a b := by
  have hl := (List.getElem?_eq_some_iff.1 hk).1
  rcases stepAt_cases rs gx gy B k with ⟨e, _⟩ | ⟨c, hc, hf, e⟩
  · rw [e]; exact ⟨a, hk, near_self gx gy a⟩
  · rw [hk] at hc
    injection hc with hc
    subst hc
    obtain ⟨u, v, hu, hv, hi⟩ := inner2 (rs := rs) (nx := speedX a gx gy) (ny := speedY a gx gy) hk
    rw [e, hi]
    refine ⟨_, List.getElem?_set_self hl, ⟨rfl, rfl, rfl, rfl, rfl⟩, fun h => (by rw [hf] at h; cases h), ?_, ?_⟩
    · have := run_shift B rs a false (speedX a gx gy)
      rw [hu] at this
      show min _ 0 ≤ a.x + sgn (speedX a gx gy) * (u.1 : Nat) - a.x ∧ a.x + sgn (speedX a gx gy) * (u.1 : Nat) - a.x ≤ _
      omega
    · have := run_shift (B.set k (sh false a (sgn (speedX a gx gy) * (u.1 : Nat)))) rs (sh false a (sgn (speedX a gx gy) * (u.1 : Nat))) true (speedY a gx gy)
      rw [hv] at this
      show min _ 0 ≤ a.y + sgn (speedY a gx gy) * (v.1 : Nat) - a.y ∧ a.y + sgn (speedY a gx gy) * (v.1 : Nat) - a.y ≤ _
      omega
theorem near_step {rs : List KR} {gx gy : Int} {bs : List KB} {k m : Nat} {a b : KB} (ha : bs[k]? = some a) (hb : (stepsTo rs gx gy bs m).1[k]? = some b) : near gx gy a b := by
  by_cases h : k < m
  · rw [at_after m h] at hb
    obtain ⟨c, hc, hn⟩ := stepAt_self (rs := rs) (gx := gx) (gy := gy) (B := (stepsTo rs gx gy bs k).1) (k := k) (a := a) (by rw [at_before k (Nat.le_refl _)]; exact ha)
    rw [hc] at hb
    injection hb with hb
    rw [← hb]; exact hn
  · rw [at_before m (by omega), ha] at hb
    injection hb with hb
    rw [← hb]; exact near_self gx gy a
/-- what the reach of a body is -/
structure KA where
  lx : Int
  ly : Int
  hx : Int
  hy : Int
  deriving DecidableEq
/-- bodies of the first k that do not overlap -/
def ClearP (bs : List KB) (k : Nat) (out : List KB) : Prop := out.Sublist (bs.take k) ∧ apartP out
theorem ClearP.len {bs out : List KB} {k : Nat} (h : ClearP bs k out) : out.length ≤ k := by have := h.1.length_le; rw [List.length_take] at this; omega
theorem clear_nil (bs : List KB) : ClearP bs 0 [] := ⟨by simp, fun i j a b _ h => by simp at h⟩
theorem clear_skip {bs out : List KB} {k : Nat} {x : KB} (h : ClearP bs k out) (hx : bs[k]? = some x) : ClearP bs (k + 1) out := by
  refine ⟨?_, h.2⟩
  rw [List.take_add_one, hx]
  exact h.1.trans (List.sublist_append_left _ _)
theorem clear_add {bs out : List KB} {k : Nat} {x : KB} (h : ClearP bs k out) (hx : bs[k]? = some x) (hno : ∀ o ∈ out, ¬ over x o) : ClearP bs (k + 1) (out ++ [x]) := by
  refine ⟨?_, fun i j a b hij ha hb => ?_⟩
  · rw [List.take_add_one, hx]
    exact h.1.append (List.Sublist.refl _)
  · by_cases hi : i < out.length
    · rw [List.getElem?_append_left hi] at ha
      by_cases hj : j < out.length
      · rw [List.getElem?_append_left hj] at hb; exact h.2 i j a b hij ha hb
      · have hl := (List.getElem?_eq_some_iff.1 hb).1
        obtain rfl : j = out.length := by simp at hl; omega
        simp at hb
        rw [← hb]; intro hh; exact hno a (List.mem_of_getElem? ha) ((over_comm _ _).1 hh)
    · have hl := (List.getElem?_eq_some_iff.1 ha).1
      obtain rfl : i = out.length := by simp at hl; omega
      have hj : j < out.length := by have hl := (List.getElem?_eq_some_iff.1 hb).1; simp at hl; omega
      rw [List.getElem?_append_left hj] at hb
      simp at ha
      rw [← ha]; exact hno b (List.mem_of_getElem? hb)
theorem clr_yes {out : List KB} {x o : KB} {j : Nat} {k : Bool} (h : k = true) (hp : k = true ↔ ∀ o ∈ out.take j, ¬ over x o) (ho : out[j]? = some o) : decide (¬ over x o) = true ↔ ∀ o ∈ out.take (j + 1), ¬ over x o := by
  have h1 := hp.1 h
  rw [List.take_add_one, ho, decide_eq_true_iff]
  constructor
  · intro hh z hz
    rcases List.mem_append.1 hz with hz | hz
    · exact h1 z hz
    · simp at hz; rw [hz]; exact hh
  · intro hh; exact hh o (List.mem_append_right _ (by simp))
theorem clr_no {out : List KB} {x : KB} {j : Nat} {k : Bool} (h : k = false) (hp : k = true ↔ ∀ o ∈ out.take j, ¬ over x o) : (false : Bool) = true ↔ ∀ o ∈ out.take (j + 1), ¬ over x o := by
  constructor
  · intro hh; cases hh
  · intro hh
    have := hp.2 fun z hz => hh z (List.mem_of_mem_take (show z ∈ (out.take (j + 1)).take j by rw [List.take_take, Nat.min_eq_left (by omega)]; exact hz))
    rw [h] at this; exact this
theorem clear_rope {bs out : List KB} {r : KR} (hr : okR bs r) (h1 : (0 : Int) ≤ idxI (fun y : KB => decide (y.id = r.a)) out) (h2 : (0 : Int) ≤ idxI (fun y : KB => decide (y.id = r.b)) out) : okR out r := by
  have key : ∀ i, (0 : Int) ≤ idxI (fun y : KB => decide (y.id = i)) out → (findB out i).isSome = true := fun i h => by
    have := idx_any (fun y : KB => decide (y.id = i)) out
    rw [decide_eq_true h] at this
    obtain ⟨o, ho, e⟩ := List.any_eq_true.1 this.symm
    rw [findB_iff]; exact ⟨o, ho, by simpa using e⟩
  exact ⟨key _ h1, key _ h2, hr.2.2⟩
theorem ord_pair {bs : List KB} (h : ordB bs) : bs.Pairwise fun a b => a.id < b.id := by
  rw [List.pairwise_iff_getElem]
  intro i j hi hj hij
  exact h.lt hij (List.getElem?_eq_getElem hi) (List.getElem?_eq_getElem hj)
theorem pair_ord {bs : List KB} (h : bs.Pairwise fun a b => a.id < b.id) : ordB bs := fun i a b ha hb => by
  rw [List.pairwise_iff_getElem] at h
  obtain ⟨h1, e1⟩ := List.getElem?_eq_some_iff.1 ha
  obtain ⟨h2, e2⟩ := List.getElem?_eq_some_iff.1 hb
  have := h i (i + 1) h1 h2 (by omega)
  rw [e1, e2] at this; exact this
theorem clear_ok {bs out : List KB} {rs R : List KR} {gx gy : Int} {k : Nat} (h : okS bs rs gx gy) (hc : ClearP bs k out) (hl : R.length ≤ rs.length) (hr : ∀ r ∈ R, okR out r) : okS out R gx gy := by
  obtain ⟨h1, h2, h3, h4, h5, h6⟩ := h
  have hs : out.Sublist bs := hc.1.trans (List.take_sublist _ _)
  exact ⟨by have := hs.length_le; omega, by omega, h3, fun b hb => h4 b (hs.subset hb), pair_ord ((ord_pair h5).sublist hs), hr⟩
theorem apart_drop {xs zs : List KB} {k j : Nat} {x y : KB} (ha : apartP xs) (hx : xs[k]? = some x) (hz : zs = xs.drop (k + 1)) (hy : zs[j]? = some y) : ¬ over x y := by
  rw [hz, List.getElem?_drop] at hy
  exact ha k _ x y (by omega) hx hy
end Go.Stp
