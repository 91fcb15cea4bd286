/-
  Bodies that nothing is near to move freely; what stopped a body. Own work; plain Lean.
-/
import Derived.Test.YtbhkgodiencdlaaDoorStApart
namespace Go.Stp
theorem over_box {a b : KB} (h : over a b) : (a.x - b.x ≤ a.w + b.w ∧ b.x - a.x ≤ a.w + b.w) ∧ a.y - b.y ≤ a.h + b.h ∧ b.y - a.y ≤ a.h + b.h := by
  obtain ⟨ha, hb, hf⟩ := h
  have wa := ha.2.2.2.2.2.1; have ha1 := ha.2.2.2.2.2.2.1; have wb := hb.2.2.2.2.2.1; have hb1 := hb.2.2.2.2.2.2.1
  have ra := ha.2.2.2.2.2.2.2.1; have rb := hb.2.2.2.2.2.2.2.1
  have key : ∀ {u s r : Int}, 0 ≤ u → 0 ≤ s → u * u + r < s * s → 0 ≤ r → u < s := fun {u s r} h1 h2 h3 h4 => by
    rcases Int.lt_or_le u s with h | h
    · exact h
    · have := sq_mono h2 h; omega
  have hx : a.x - b.x ≤ abs (a.x - b.x) ∧ b.x - a.x ≤ abs (a.x - b.x) := by unfold abs; omega
  have hy : a.y - b.y ≤ abs (a.y - b.y) ∧ b.y - a.y ≤ abs (a.y - b.y) := by unfold abs; omega
  have x0 := abs_nonneg (a.x - b.x); have y0 := abs_nonneg (a.y - b.y)
  unfold far room at hf
  generalize abs (a.x - b.x) = dx at *
  generalize abs (a.y - b.y) = dy at *
  have sx := Int.mul_nonneg x0 x0; have sy := Int.mul_nonneg y0 y0
  split at hf
  · rename_i hr
    have := ra hr
    split at hf
    · rename_i hs
      have := rb hs
      have k1 := key (u := dx) (s := a.w + b.w) (r := dy * dy) x0 (by omega) (by omega) sy
      have k2 := key (u := dy) (s := a.w + b.w) (r := dx * dx) y0 (by omega) (by omega) sx
      omega
    · have m1 := Int.mul_nonneg (show 0 ≤ max (dx - b.w) 0 by omega) (show 0 ≤ max (dx - b.w) 0 by omega)
      have m2 := Int.mul_nonneg (show 0 ≤ max (dy - b.h) 0 by omega) (show 0 ≤ max (dy - b.h) 0 by omega)
      have k1 := key (u := max (dx - b.w) 0) (s := a.w) (r := max (dy - b.h) 0 * max (dy - b.h) 0) (by omega) (by omega) (by omega) m2
      have k2 := key (u := max (dy - b.h) 0) (s := a.w) (r := max (dx - b.w) 0 * max (dx - b.w) 0) (by omega) (by omega) (by omega) m1
      omega
  · split at hf
    · rename_i hs
      have := rb hs
      have m1 := Int.mul_nonneg (show 0 ≤ max (dx - a.w) 0 by omega) (show 0 ≤ max (dx - a.w) 0 by omega)
      have m2 := Int.mul_nonneg (show 0 ≤ max (dy - a.h) 0 by omega) (show 0 ≤ max (dy - a.h) 0 by omega)
      have k1 := key (u := max (dx - a.w) 0) (s := b.w) (r := max (dy - a.h) 0 * max (dy - a.h) 0) (by omega) (by omega) (by omega) m2
      have k2 := key (u := max (dy - a.h) 0) (s := b.w) (r := max (dx - a.w) 0 * max (dx - a.w) 0) (by omega) (by omega) (by omega) m1
      omega
    · omega
def meets (r q : KA) : Prop := r.lx ≤ q.hx ∧ q.lx ≤ r.hx ∧ r.ly ≤ q.hy ∧ q.ly ≤ r.hy
instance (r q : KA) : Decidable (meets r q) := by unfold meets; infer_instance
/-- a body of which nothing comes near, and that has no rope -/
def aloneP (rs : List KR) (gx gy : Int) (bs : List KB) (i : Nat) (a : KB) : Prop := (∀ k o, k ≠ i → bs[k]? = some o → ¬ meets (reachB gx gy a) (reachB gx gy o)) ∧ ∀ r ∈ rs, r.a ≠ a.id ∧ r.b ≠ a.id
theorem run_free {bs : List KB} {rs : List KR} {b : KB} {y : Bool} {n : Int} (h : ∀ j : Nat, 1 ≤ j → j ≤ n.natAbs → stopB bs rs b (sh y b (sgn n * j)) = none) : runM bs rs b y n = (n.natAbs, none) := by
  unfold runM
  exact firstStop_eq (fun i h1 h2 => h i (by omega) h2) (by omega) (by omega) (fun h => by omega) (fun _ => rfl)
theorem stop_free {bs : List KB} {rs : List KR} {b nb : KB} (hin : inside nb) (hh : ∀ o ∈ bs, o.id ≠ b.id → ¬ over nb o) (hr : ∀ r ∈ rs, r.a ≠ b.id ∧ r.b ≠ b.id) : stopB bs rs b nb = none := by
  have e1 : hit bs b nb = none := by
    unfold hit
    rw [List.find?_eq_none.2 fun o ho => ?_]; rfl
    obtain ⟨h1, h2⟩ := List.mem_filter.1 ho
    have := hh o h1 (by simp at h2; exact h2.1)
    simpa using this
  have e2 : ends bs rs b = [] := by
    unfold ends
    rw [List.filterMap_eq_nil_iff]
    intro r hr'
    exact endOf_skip (hr r hr').1 (hr r hr').2
  unfold stopB
  rw [if_pos hin, e1]
  simp only [held, e2, List.any_nil]; rfl
/-- a body that is alone is not stopped -/
theorem alone_inner {rs : List KR} {gx gy : Int} {bs : List KB} (hok : okS bs rs gx gy) {i : Nat} {a : KB} (ha : bs[i]? = some a) (hp : (-1000 ≤ a.x ∧ a.x ≤ 1000) ∧ -1000 ≤ a.y ∧ a.y ≤ 1000) (hal : aloneP rs gx gy bs i a) :
    (innerK rs (stepsTo rs gx gy bs i).1 i a (speedX a gx gy) (speedY a gx gy) 2).2.1 = [] := by
  have hB : (stepsTo rs gx gy bs i).1[i]? = some a := by rw [at_before i (Nat.le_refl _)]; exact ha
  have hokB := okS_step hok i
  have hnear : ∀ (k : Nat) (o : KB), k ≠ i → (stepsTo rs gx gy bs i).1[k]? = some o → ∃ o0, bs[k]? = some o0 ∧ near gx gy o0 o := fun k o hk ho => by
    have hl := (List.getElem?_eq_some_iff.1 ho).1
    have hlen : (stepsTo rs gx gy bs i).1.length = bs.length := (step_keeps hok.2.2.2.1 i).1.len
    exact ⟨bs[k]'(by omega), List.getElem?_eq_getElem (by omega), near_step (List.getElem?_eq_getElem (by omega)) ho⟩
  generalize (stepsTo rs gx gy bs i).1 = B at hB hokB hnear
  have hs := speed_bd a gx gy
  have hord : ordB B := hokB.2.2.2.2.1
  have hil := (List.getElem?_eq_some_iff.1 hB).1
  -- a body shifted within its reach overlaps none
  have key : ∀ nb : KB, nb.w = a.w → nb.h = a.h → (min (speedX a gx gy) 0 ≤ nb.x - a.x ∧ nb.x - a.x ≤ max (speedX a gx gy) 0) → (min (speedY a gx gy) 0 ≤ nb.y - a.y ∧ nb.y - a.y ≤ max (speedY a gx gy) 0) → ∀ (k : Nat) (o : KB), k ≠ i → B[k]? = some o → ¬ over nb o := fun nb hw hh hx hy k o hk ho hov => by
    obtain ⟨o0, ho0, ⟨_, n2, n3, _, _⟩, _, n4, n5⟩ := hnear k o hk ho
    have hb := over_box hov
    refine hal.1 k o0 hk ho0 ?_
    unfold meets reachB
    simp only
    omega
  have hin : ∀ nb : KB, (min (speedX a gx gy) 0 ≤ nb.x - a.x ∧ nb.x - a.x ≤ max (speedX a gx gy) 0) → (min (speedY a gx gy) 0 ≤ nb.y - a.y ∧ nb.y - a.y ≤ max (speedY a gx gy) 0) → inside nb := fun nb hx hy => by unfold inside; omega
  obtain ⟨u, v, hu, hv, hi⟩ := inner2 (rs := rs) (nx := speedX a gx gy) (ny := speedY a gx gy) hB
  have hu2 : u = ((speedX a gx gy).natAbs, none) := by
    rw [← hu]
    refine run_free fun j h1 h2 => ?_
    have hx : min (speedX a gx gy) 0 ≤ (sh false a (sgn (speedX a gx gy) * (j : Int))).x - a.x ∧ (sh false a (sgn (speedX a gx gy) * (j : Int))).x - a.x ≤ max (speedX a gx gy) 0 := by
      show min _ 0 ≤ a.x + sgn (speedX a gx gy) * (j : Int) - a.x ∧ a.x + sgn (speedX a gx gy) * (j : Int) - a.x ≤ _
      unfold sgn; split <;> omega
    have hy : min (speedY a gx gy) 0 ≤ (sh false a (sgn (speedX a gx gy) * (j : Int))).y - a.y ∧ (sh false a (sgn (speedX a gx gy) * (j : Int))).y - a.y ≤ max (speedY a gx gy) 0 := by
      show min _ 0 ≤ a.y - a.y ∧ a.y - a.y ≤ _
      omega
    refine stop_free (hin _ hx hy) (fun o ho hid => ?_) hal.2
    obtain ⟨k, hk⟩ := List.getElem?_of_mem ho
    exact key (sh false a (sgn (speedX a gx gy) * (j : Int))) rfl rfl hx hy k o (fun e => hid (by rw [e, hB] at hk; injection hk with hk; rw [hk])) hk
  obtain ⟨c, hc⟩ : ∃ c, sh false a (sgn (speedX a gx gy) * (u.1 : Nat)) = c := ⟨_, rfl⟩
  rw [hc] at hv
  have hcx : min (speedX a gx gy) 0 ≤ c.x - a.x ∧ c.x - a.x ≤ max (speedX a gx gy) 0 := by
    rw [← hc, hu2]
    show min _ 0 ≤ a.x + sgn (speedX a gx gy) * (((speedX a gx gy).natAbs : Nat) : Int) - a.x ∧ a.x + sgn (speedX a gx gy) * (((speedX a gx gy).natAbs : Nat) : Int) - a.x ≤ _
    unfold sgn; split <;> omega
  have hc2 : c.y = a.y ∧ c.w = a.w ∧ c.h = a.h ∧ c.id = a.id := by rw [← hc]; exact ⟨rfl, rfl, rfl, rfl⟩
  have hv2 : v = ((speedY a gx gy).natAbs, none) := by
    rw [← hv]
    refine run_free fun j h1 h2 => ?_
    have hx : min (speedX a gx gy) 0 ≤ (sh true c (sgn (speedY a gx gy) * (j : Int))).x - a.x ∧ (sh true c (sgn (speedY a gx gy) * (j : Int))).x - a.x ≤ max (speedX a gx gy) 0 := hcx
    have hy : min (speedY a gx gy) 0 ≤ (sh true c (sgn (speedY a gx gy) * (j : Int))).y - a.y ∧ (sh true c (sgn (speedY a gx gy) * (j : Int))).y - a.y ≤ max (speedY a gx gy) 0 := by
      show min _ 0 ≤ c.y + sgn (speedY a gx gy) * (j : Int) - a.y ∧ c.y + sgn (speedY a gx gy) * (j : Int) - a.y ≤ _
      rw [hc2.1]
      unfold sgn; split <;> omega
    refine stop_free (hin _ hx hy) (fun o ho hid => ?_) (by rw [hc2.2.2.2]; exact hal.2)
    obtain ⟨k, hk⟩ := List.getElem?_of_mem ho
    by_cases e : k = i
    · subst e
      rw [List.getElem?_set_self hil] at hk
      injection hk with hk
      exact absurd (by rw [hk]) hid
    · rw [List.getElem?_set_ne (Ne.symm e)] at hk
      exact key (sh true c (sgn (speedY a gx gy) * (j : Int))) hc2.2.1 hc2.2.2.1 hx hy k o e hk
  rw [hi, hu2, hv2]; rfl
theorem stopL_ids (id : Int) (al : UInt8) (z : Option Int) : ∀ s ∈ stopL id al z, s.id = id ∧ s.along = al := fun s hs => by
  cases z with
  | none => cases hs
  | some x => simp [stopL] at hs; rw [hs]; exact ⟨rfl, rfl⟩
theorem stepAt_ids {rs : List KR} {gx gy : Int} {B : List KB} {k : Nat} : ∀ s ∈ (stepAt rs gx gy B k).2, (∃ b, B[k]? = some b ∧ s.id = b.id) ∧ (s.along = 1 ∨ s.along = 2) := fun s hs => by
  rcases stepAt_cases rs gx gy B k with ⟨e, _⟩ | ⟨c, hc, hf, e⟩
  · rw [e] at hs; cases hs
  · obtain ⟨u, v, _, _, hi⟩ := inner2 (rs := rs) (nx := speedX c gx gy) (ny := speedY c gx gy) hc
    rw [e, hi] at hs
    rcases List.mem_append.1 hs with hs | hs
    · have := stopL_ids _ _ _ s hs; exact ⟨⟨c, hc, this.1⟩, .inl this.2⟩
    · have := stopL_ids _ _ _ s hs; exact ⟨⟨c, hc, this.1⟩, .inr this.2⟩
theorem stops_along {rs : List KR} {gx gy : Int} {bs : List KB} : ∀ m, ∀ s ∈ (stepsTo rs gx gy bs m).2, s.along = 1 ∨ s.along = 2
  | 0, s, hs => by cases hs
  | m + 1, s, hs => by
    rcases List.mem_append.1 (show s ∈ (stepsTo rs gx gy bs m).2 ++ (stepAt rs gx gy (stepsTo rs gx gy bs m).1 m).2 from hs) with hs | hs
    · exact stops_along m s hs
    · exact (stepAt_ids s hs).2
theorem stops_of {rs : List KR} {gx gy : Int} {bs : List KB} (hok : okS bs rs gx gy) {i : Nat} {a : KB} (ha : bs[i]? = some a) : ∀ m,
    (stepsTo rs gx gy bs m).2.filter (fun s => decide (s.id = a.id)) = if i < m then (stepAt rs gx gy (stepsTo rs gx gy bs i).1 i).2 else []
  | 0 => by rw [if_neg (by omega)]; rfl
  | m + 1 => by
    show ((stepsTo rs gx gy bs m).2 ++ (stepAt rs gx gy (stepsTo rs gx gy bs m).1 m).2).filter _ = _
    rw [List.filter_append, stops_of hok ha m]
    have hord : ordB (stepsTo rs gx gy bs m).1 := (okS_step hok m).2.2.2.2.1
    have hid : ∃ c, (stepsTo rs gx gy bs m).1[i]? = some c ∧ c.id = a.id := by
      have h := (step_keeps (rs := rs) (gx := gx) (gy := gy) hok.2.2.2.1 m).1
      have := congrArg (·[i]?) h
      simp only [List.getElem?_map, ha, Option.map_some] at this
      cases hc : (stepsTo rs gx gy bs m).1[i]? with
      | none => rw [hc] at this; cases this
      | some c => rw [hc] at this; injection this with this; exact ⟨c, rfl, this⟩
    obtain ⟨c, hc, ec⟩ := hid
    by_cases e : m = i
    · subst e
      rw [if_neg (by omega), if_pos (by omega), List.nil_append, List.filter_eq_self]
      intro s hs
      obtain ⟨⟨b, hb, e2⟩, _⟩ := stepAt_ids s hs
      rw [hc] at hb; injection hb with hb
      simp [e2, ← hb, ec]
    · have hnil : (stepAt rs gx gy (stepsTo rs gx gy bs m).1 m).2.filter (fun s => decide (s.id = a.id)) = [] := by
        rw [List.filter_eq_nil_iff]
        intro s hs
        obtain ⟨⟨b, hb, e2⟩, _⟩ := stepAt_ids s hs
        have := ord_ne hord e hb hc
        simp [e2]; omega
      rw [hnil, List.append_nil]
      by_cases h : i < m
      · rw [if_pos h, if_pos (by omega)]
      · rw [if_neg h, if_neg (by omega)]
/-- how many stops of a body along an axis there are -/
def cnt (S : List KS) (id : Int) (al : UInt8) : Nat := (S.filter fun s => decide (s.id = id)).countP fun s => decide (s.along = al)
/-- along one axis: not stopped and by the speed, or stopped once and by less -/
def fair (moved speed now : Int) (n : Nat) : Prop := n ≤ 1 ∧ (n = 0 → moved = speed ∧ now = speed) ∧ (n = 1 → now = 0 ∧ moved ≠ speed) ∧ min speed 0 ≤ moved ∧ moved ≤ max speed 0
theorem fair_run {bs : List KB} {rs : List KR} {b : KB} {y : Bool} {n : Int} {u : Nat × Option Int} (hu : runM bs rs b y n = u) : fair (sgn n * (u.1 : Nat)) n (keepV n u.2) (if u.2.isSome then 1 else 0) := by
  have hs := run_shift bs rs b y n
  have h1 := run_sum (bs := bs) (rs := rs) (b := b) (y := y) (n := n)
  have h4 := (firstStop_spec (P := fun j => stopB bs rs b (sh y b (sgn n * j))) n.natAbs 0).2.2.2
  have e : firstStop (fun j => stopB bs rs b (sh y b (sgn n * j))) n.natAbs 0 = u := hu
  rw [e] at h4
  rw [hu] at hs h1
  obtain ⟨k, z⟩ := u
  simp only at *
  unfold fair
  cases z with
  | none =>
    have := h1 rfl
    simp only [Option.isSome_none, Bool.false_eq_true, if_false, keepV]
    refine ⟨by omega, fun _ => ⟨?_, trivial⟩, fun h => by omega, hs⟩
    rw [this]; unfold sgn; split <;> omega
  | some x =>
    rcases h4 with ⟨h, _⟩ | ⟨x', _, h5, _⟩
    · cases h
    · simp only [Option.isSome_some, if_true, keepV]
      refine ⟨by omega, fun h => by omega, fun _ => ⟨trivial, ?_⟩, hs⟩
      unfold sgn; split <;> omega
/-- what a step makes of a body, and its stops -/
structure Freed (rs : List KR) (gx gy : Int) (bs : List KB) (S : List KS) (i : Nat) (a b : KB) : Prop where
  alone : aloneP rs gx gy bs i a → cnt S a.id 1 = 0 ∧ cnt S a.id 2 = 0
  fairX : a.fixed = false → fair (b.x - a.x) (speedX a gx gy) b.vx (cnt S a.id 1)
  fairY : a.fixed = false → fair (b.y - a.y) (speedY a gx gy) b.vy (cnt S a.id 2)
  few : cnt S a.id 1 ≤ 1 ∧ cnt S a.id 2 ≤ 1
theorem cnt_two (id : Int) (zx zy : Option Int) : (stopL id 1 zx ++ stopL id 2 zy).countP (fun s => decide (s.along = 1)) = (if zx.isSome then 1 else 0) ∧ (stopL id 1 zx ++ stopL id 2 zy).countP (fun s => decide (s.along = 2)) = (if zy.isSome then 1 else 0) := by
  cases zx <;> cases zy <;> simp [stopL]
theorem free_law {rs : List KR} {gx gy : Int} {bs T : List KB} {S : List KS} (hok : okS bs rs gx gy) (hTS : stepsTo rs gx gy bs bs.length = (T, S)) {i : Nat} {a b : KB} (ha : bs[i]? = some a) (hb : T[i]? = some b) (hp : (-1000 ≤ a.x ∧ a.x ≤ 1000) ∧ -1000 ≤ a.y ∧ a.y ≤ 1000) : Freed rs gx gy bs S i a b := by
  have hl := (List.getElem?_eq_some_iff.1 ha).1
  have hB : (stepsTo rs gx gy bs i).1[i]? = some a := by rw [at_before i (Nat.le_refl _)]; exact ha
  have hBl := (List.getElem?_eq_some_iff.1 hB).1
  have e1 : T = (stepsTo rs gx gy bs bs.length).1 := by rw [hTS]
  have e2 : S = (stepsTo rs gx gy bs bs.length).2 := by rw [hTS]
  have hS := stops_of hok ha bs.length
  rw [if_pos hl, ← e2] at hS
  have hT := at_after (rs := rs) (gx := gx) (gy := gy) (bs := bs) (k := i) bs.length hl
  rw [← e1, hb] at hT
  have hal := alone_inner hok ha hp
  rcases stepAt_cases rs gx gy (stepsTo rs gx gy bs i).1 i with ⟨e, hfx⟩ | ⟨c, hc, hf, e⟩
  · rw [e] at hS hT
    have c0 : ∀ al, cnt S a.id al = 0 := fun al => by unfold cnt; rw [hS]; rfl
    have hf := hfx a hB
    exact ⟨fun _ => ⟨c0 1, c0 2⟩, fun h => (by rw [hf] at h; cases h), fun h => (by rw [hf] at h; cases h), by rw [c0, c0]; exact ⟨by omega, by omega⟩⟩
  · rw [hB] at hc
    injection hc with hc
    subst hc
    obtain ⟨u, v, hu, hv, hi⟩ := inner2 (rs := rs) (nx := speedX a gx gy) (ny := speedY a gx gy) hB
    have c2 := cnt_two a.id u.2 v.2
    have hS2 : S.filter (fun s => decide (s.id = a.id)) = stopL a.id 1 u.2 ++ stopL a.id 2 v.2 := by rw [hS, e, hi]
    have n1 : cnt S a.id 1 = if u.2.isSome then 1 else 0 := by unfold cnt; rw [hS2]; exact c2.1
    have n2 : cnt S a.id 2 = if v.2.isSome then 1 else 0 := by unfold cnt; rw [hS2]; exact c2.2
    rw [e, List.getElem?_set_self hBl, hi] at hT
    injection hT with hT
    subst hT
    refine ⟨fun h => ?_, fun _ => ?_, fun _ => ?_, by rw [n1, n2]; split <;> split <;> omega⟩
    · have := hal h
      rw [hi] at this
      have z1 : u.2 = none := by cases hz : u.2 with | none => rfl | some x => rw [hz] at this; cases this
      have z2 : v.2 = none := by
        cases hz : v.2 with
        | none => rfl
        | some x => rw [z1, hz] at this; cases this
      rw [n1, n2, z1, z2]; exact ⟨rfl, rfl⟩
    · have := fair_run hu
      rw [n1]
      show fair (a.x + sgn (speedX a gx gy) * (u.1 : Nat) - a.x) _ (keepV (speedX a gx gy) u.2) _
      rw [show a.x + sgn (speedX a gx gy) * (u.1 : Nat) - a.x = sgn (speedX a gx gy) * (u.1 : Nat) by omega]
      exact this
    · have := fair_run hv
      rw [n2]
      show fair (a.y + sgn (speedY a gx gy) * (v.1 : Nat) - a.y) _ (keepV (speedY a gx gy) v.2) _
      rw [show a.y + sgn (speedY a gx gy) * (v.1 : Nat) - a.y = sgn (speedY a gx gy) * (v.1 : Nat) by omega]
      exact this
end Go.Stp
