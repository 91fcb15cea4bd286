/-
  A body that goes along X among fixed ones, and what stops it, in plain terms. Own work; plain Lean.
-/
import Derived.Test.YtbhkgodiencdlaaDoorStMade
namespace Go.Stp
def fixB (b : KB) : KB := { b with vx := 0, vy := 0, fixed := true }
def unfix (b : KB) : KB := { b with fixed := false }
def setVx (b : KB) (v : Int) : KB := { b with vx := v }
theorem fixB_ok {b : KB} (h : okB b) : okB (fixB b) := ⟨h.1, h.2.1, h.2.2.1, ⟨by show (-4096 : Int) ≤ 0; decide, by show (0 : Int) ≤ 4096; decide⟩, ⟨by show (-4096 : Int) ≤ 0; decide, by show (0 : Int) ≤ 4096; decide⟩, h.2.2.2.2.2.1, h.2.2.2.2.2.2.1, h.2.2.2.2.2.2.2.1, fun _ => ⟨rfl, rfl⟩⟩
/-- the first body that a, shifted to b and next to n, is stopped by -/
def leastOf (a n : KB) (os : List KB) : Int := match os.find? (fun o => !decide (over a o) && decide (over n o)) with | some o => o.id | none => -1
theorem least_next {a n o : KB} {os : List KB} {k : Nat} (hk : os[k]? = some o) (hid : ∀ z ∈ os, 0 ≤ z.id) : leastOf a n (os.take (k + 1)) = if leastOf a n (os.take k) < 0 ∧ ¬ over a o ∧ over n o then o.id else leastOf a n (os.take k) := by
  have hpos : ∀ z, (os.take k).find? (fun o => !decide (over a o) && decide (over n o)) = some z → 0 ≤ z.id := fun z hz => hid z (List.mem_of_mem_take (List.mem_of_find?_eq_some hz))
  unfold leastOf
  rw [List.take_add_one, hk, List.find?_append]
  cases hf : (os.take k).find? (fun o => !decide (over a o) && decide (over n o)) with
  | some z =>
    have := hpos z hf
    simp only [Option.or_some, Option.some_or]
    rw [if_neg (by omega)]
  | none =>
    by_cases h1 : over a o <;> by_cases h2 : over n o <;> simp [h1, h2]
theorem over_vel {b o : KB} {vx vy : Int} (hf : b.fixed = false) (h1 : -4096 ≤ b.vx ∧ b.vx ≤ 4096) (h2 : -4096 ≤ b.vy ∧ b.vy ≤ 4096) (hx : -4096 ≤ vx ∧ vx ≤ 4096) (hy : -4096 ≤ vy ∧ vy ≤ 4096) : over (withV b vx vy) o ↔ over b o := by
  have e : okB (withV b vx vy) ↔ okB b := by
    constructor
    · intro h; exact ⟨h.1, h.2.1, h.2.2.1, h1, h2, h.2.2.2.2.2.1, h.2.2.2.2.2.2.1, h.2.2.2.2.2.2.2.1, fun e => by rw [hf] at e; cases e⟩
    · intro h; exact okB_withV h hf hx hy
  unfold over
  rw [e]; rfl
theorem find_filter {α : Type} (p q : α → Bool) (l : List α) : (l.filter p).find? q = l.find? (fun o => p o && q o) := by
  induction l with
  | nil => rfl
  | cons a l ih =>
    rw [List.filter_cons, List.find?_cons]
    cases hp : p a with
    | false => simp [ih]
    | true =>
      simp only [if_true, Bool.true_and, List.find?_cons, ih]
theorem stop_hit {bs : List KB} {a nb : KB} {x : Int} (hin : inside nb) (h : stopB bs [] a nb = some x) : hit bs a nb = some x := by
  unfold stopB at h
  rw [if_pos hin] at h
  cases hh : hit bs a nb with
  | some i => rw [hh] at h; exact h
  | none =>
    rw [hh] at h
    simp only at h
    rw [show held bs [] a nb = false from rfl, if_neg (by simp)] at h
    cases h
structure StopP (bs T : List KB) (S : List KS) (a b : KB) (v : Int) : Prop where
  len : T.length = bs.length
  first : T[0]? = some b
  few : S.length ≤ 1
  posY : b.y = a.y
  okb : okB b
  /-- not stopped -/
  free : S = [] → b.x = a.x + v ∧ b.vx = v
  /-- what it did not overlap it does not overlap -/
  apart : ∀ o ∈ bs.drop 1, ¬ over a o → ¬ over b o
  held : ∀ z, S[0]? = some z → z = ⟨a.id, 1, leastOf a { b with x := b.x + (if v < 0 then -1 else 1) } (bs.drop 1)⟩ ∧ 0 < leastOf a { b with x := b.x + (if v < 0 then -1 else 1) } (bs.drop 1) ∧ b.vx = 0
theorem fixed_rest {rs : List KR} {gx gy : Int} {bs : List KB} {B : List KB} {S : List KS} (hf : ∀ i b, 1 ≤ i → B[i]? = some b → b.fixed = true) (h1 : stepsTo rs gx gy bs 1 = (B, S)) : ∀ k, stepsTo rs gx gy bs (k + 1) = (B, S)
  | 0 => h1
  | k + 1 => by
    have ih := fixed_rest hf h1 k
    show ((stepAt rs gx gy (stepsTo rs gx gy bs (k + 1)).1 (k + 1)).1, (stepsTo rs gx gy bs (k + 1)).2 ++ (stepAt rs gx gy (stepsTo rs gx gy bs (k + 1)).1 (k + 1)).2) = _
    rw [ih]
    rcases stepAt_cases rs gx gy B (k + 1) with ⟨e, _⟩ | ⟨b, hb, hff, _⟩
    · rw [e]; simp
    · rw [hf _ b (by omega) hb] at hff; cases hff
theorem stops_law {bs : List KB} {a : KB} {v : Int} (hok : okS bs [] 0 0) (ha : bs[0]? = some a) (hf : a.fixed = false) (hvx : a.vx = v) (hvy : a.vy = 0) (hv : -500 ≤ v ∧ v ≤ 500) (hfx : ∀ i b, 1 ≤ i → bs[i]? = some b → b.fixed = true) (hid : ∀ o ∈ bs, 0 < o.id) (hpos : -1000 ≤ a.x ∧ a.x ≤ 1000) :
    ∃ T S b, stepsTo [] 0 0 bs bs.length = (T, S) ∧ StopP bs T S a b v := by
  obtain ⟨o1, o2, o3, o4, o5, o6⟩ := hok
  have o5 : ordB bs := o5
  have hokA := o4 a (List.mem_of_getElem? ha)
  have hl := (List.getElem?_eq_some_iff.1 ha).1
  have hno : ¬ (a.fixed = true ∨ ¬ okB a ∨ ¬ okV 0 0) := by
    rintro (h | h | h)
    · rw [hf] at h; cases h
    · exact h hokA
    · exact h o3
  have e1 : speedX a 0 0 = v := by unfold speedX clampS; rw [if_neg hno, hvx]; omega
  have e2 : speedY a 0 0 = 0 := by unfold speedY clampS; rw [if_neg hno, hvy]; decide
  obtain ⟨u, hu⟩ : ∃ u, runM bs [] a false v = u := ⟨_, rfl⟩
  have hset : bs.set 0 a = bs := set_self ha
  have q1 : innerK [] bs 0 a v 0 1 = (sh false a (sgn v * (u.1 : Nat)), stopL a.id 1 u.2, keepV v u.2, 0) := by
    show innerStep [] bs 0 a.id false (a, [], v, 0) = _
    unfold innerStep
    simp only [hset, Bool.false_eq_true, if_false, hu, List.nil_append]
  obtain ⟨c, hc⟩ : ∃ c, sh false a (sgn v * (u.1 : Nat)) = c := ⟨_, rfl⟩
  rw [hc] at q1
  have q2 : innerK [] bs 0 a v 0 2 = (c, stopL a.id 1 u.2, keepV v u.2, 0) := by
    show innerStep [] bs 0 a.id true (innerK [] bs 0 a v 0 1) = _
    rw [q1]
    unfold innerStep
    simp only [if_true]
    have r0 : runM (bs.set 0 c) [] c true 0 = (0, none) := rfl
    rw [r0]
    simp only [stopL, keepV, List.append_nil]
    rw [show sgn 0 * ((0 : Nat) : Int) = 0 by omega, sh_zero]
  have hkv : -4096 ≤ keepV v u.2 ∧ keepV v u.2 ≤ 4096 := by unfold keepV; split <;> omega
  have hcok : okB c := by rw [← hc, ← hu]; exact runM_ok hokA
  have hcf : c.fixed = false := by rw [← hc]; exact hf
  have hcx : c.x = a.x + sgn v * (u.1 : Nat) := by rw [← hc]; rfl
  have hcy : c.y = a.y := by rw [← hc]; rfl
  have hcv : c.vx = v ∧ c.vy = 0 := by rw [← hc]; exact ⟨hvx, hvy⟩
  obtain ⟨b, hb⟩ : ∃ b, withV c (keepV v u.2) 0 = b := ⟨_, rfl⟩
  have hat : stepAt [] 0 0 bs 0 = (bs.set 0 b, stopL a.id 1 u.2) := by
    rcases stepAt_cases [] 0 0 bs 0 with ⟨_, h⟩ | ⟨z, hz, _, e⟩
    · rw [h a ha] at hf; cases hf
    · rw [ha] at hz; injection hz with hz; subst hz
      rw [e, e1, e2, q2, hb]
  have h1 : stepsTo [] 0 0 bs 1 = (bs.set 0 b, stopL a.id 1 u.2) := by
    show ((stepAt [] 0 0 bs 0).1, [] ++ (stepAt [] 0 0 bs 0).2) = _
    rw [hat]; rfl
  have hall : stepsTo [] 0 0 bs bs.length = (bs.set 0 b, stopL a.id 1 u.2) := by
    obtain ⟨k, hk⟩ : ∃ k, bs.length = k + 1 := ⟨bs.length - 1, by omega⟩
    rw [hk]
    exact fixed_rest (fun i z hi hz => by rw [List.getElem?_set_ne (by omega)] at hz; exact hfx i z hi hz) h1 k
  have hbx : b.x = c.x := by rw [← hb]; rfl
  have hby : b.y = c.y := by rw [← hb]; rfl
  have hbv : b.vx = keepV v u.2 := by rw [← hb]; rfl
  have hov : ∀ o, over b o ↔ over c o := fun o => by rw [← hb]; exact over_vel hcf (by rw [hcv.1]; omega) (by rw [hcv.2]; omega) hkv (by omega)
  obtain ⟨s1, _, s3, s4⟩ := firstStop_spec (P := fun j => stopB bs [] a (sh false a (sgn v * j))) v.natAbs 0
  have hfu : firstStop (fun j => stopB bs [] a (sh false a (sgn v * j))) v.natAbs 0 = u := hu
  rw [hfu] at s1 s3 s4
  have hoth : ∀ o ∈ bs.drop 1, ¬ over a o → o ∈ others bs a := fun o ho hn => by
    refine List.mem_filter.2 ⟨List.mem_of_mem_drop ho, ?_⟩
    obtain ⟨i, hi⟩ := List.getElem?_of_mem ho
    rw [List.getElem?_drop] at hi
    have := o5.lt (show 0 < 1 + i by omega) ha hi
    have h2 : ¬ over o a := fun h => hn ((over_comm o a).1 h)
    simp [h2]; omega
  have hapart : ∀ o ∈ bs.drop 1, ¬ over a o → ¬ over b o := fun o ho hn => by
    rw [hov, ← hc]
    by_cases h0 : u.1 = 0
    · rw [h0, show sgn v * ((0 : Nat) : Int) = 0 by omega, sh_zero]; exact hn
    · have := s1 u.1 (by omega) (Nat.le_refl _)
      intro hh
      unfold stopB at this
      rw [if_pos (inside_ok hh.1)] at this
      cases hhit : hit bs a (sh false a (sgn v * (u.1 : Nat))) with
      | some i => rw [hhit] at this; cases this
      | none =>
        unfold hit at hhit
        rw [Option.map_eq_none_iff, List.find?_eq_none] at hhit
        exact absurd hh (by simpa using hhit o (hoth o ho hn))
  refine ⟨_, _, b, hall, by simp, by rw [List.getElem?_set_self hl], ?_, by rw [hby, hcy], ?_, ?_, hapart, ?_⟩
  · cases u.2 <;> simp [stopL]
  · rw [← hb]; exact okB_withV hcok hcf hkv (by omega)
  · intro h
    have hn : u.2 = none := by cases hz : u.2 with | none => rfl | some x => rw [hz] at h; cases h
    have := run_sum (bs := bs) (rs := []) (b := a) (y := false) (n := v) (by rw [hu]; exact hn)
    rw [hu] at this
    rw [hbx, hcx, hbv, hn, this]
    refine ⟨?_, rfl⟩
    unfold sgn; split <;> omega
  · intro z hz
    rcases s4 with ⟨h, _⟩ | ⟨x, hx, hlt, hP⟩
    · rw [h] at hz; cases hz
    · rw [hx] at hz
      have hze : z = ⟨a.id, 1, x⟩ := by simp [stopL] at hz; exact hz.symm
      have hbz : b.vx = 0 := by rw [hbv, hx]; rfl
      -- the next place
      obtain ⟨n, hn⟩ : ∃ n, ({ b with x := b.x + (if v < 0 then -1 else 1) } : KB) = n := ⟨_, rfl⟩
      have hsgn : (if v < 0 then (-1 : Int) else 1) = sgn v := rfl
      have hnv : over n = over (sh false a (sgn v * ((u.1 + 1 : Nat) : Int))) := by
        funext o
        have e : n = withV (sh false a (sgn v * ((u.1 + 1 : Nat) : Int))) (keepV v u.2) 0 := by
          rw [← hn, ← hb, ← hc, hsgn]
          show (⟨_, a.x + sgn v * (u.1 : Nat) + sgn v, _, _, _, _, _, _, _⟩ : KB) = ⟨_, a.x + sgn v * ((u.1 + 1 : Nat) : Int), _, _, _, _, _, _, _⟩
          rw [show a.x + sgn v * (u.1 : Nat) + sgn v = a.x + sgn v * ((u.1 + 1 : Nat) : Int) by rw [Int.natCast_add, Int.mul_add]; omega]
          rfl
        rw [e]
        exact propext (over_vel hf (by show -4096 ≤ a.vx ∧ a.vx ≤ 4096; omega) (by show -4096 ≤ a.vy ∧ a.vy ≤ 4096; omega) hkv (by omega))
      rw [hn]
      have hin : inside (sh false a (sgn v * ((u.1 + 1 : Nat) : Int))) := by
        refine (inside_iff (y := false) hokA).2 ?_
        show -1048576 ≤ a.x + _ ∧ a.x + _ ≤ 1048576
        have := sgn_or v
        rcases this with e | e <;> rw [e] <;> omega
      have hh := stop_hit hin (show stopB bs [] a (sh false a (sgn v * ((u.1 + 1 : Nat) : Int))) = some x from hP)
      have hh0 := hh
      have hx2 : leastOf a n (bs.drop 1) = x := by
        unfold hit at hh
        unfold leastOf
        have hsplit : bs = a :: bs.drop 1 := by
          cases bs with
          | nil => simp at ha
          | cons y l => simp at ha; subst ha; rfl
        have hfl : others bs a = (bs.drop 1).filter fun o => decide (o.id ≠ a.id) && !decide (over o a) := by
          have : others bs a = others (a :: bs.drop 1) a := by rw [← hsplit]
          rw [this]; unfold others
          rw [List.filter_cons]; simp
        rw [hfl, find_filter] at hh
        have hcong : (bs.drop 1).find? (fun o => !decide (over a o) && decide (over n o)) = (bs.drop 1).find? (fun o => (decide (o.id ≠ a.id) && !decide (over o a)) && decide (over (sh false a (sgn v * ((u.1 + 1 : Nat) : Int))) o)) := by
          have : ∀ l : List KB, (∀ o ∈ l, o.id ≠ a.id) → l.find? (fun o => !decide (over a o) && decide (over n o)) = l.find? (fun o => (decide (o.id ≠ a.id) && !decide (over o a)) && decide (over (sh false a (sgn v * ((u.1 + 1 : Nat) : Int))) o)) := by
            intro l
            induction l with
            | nil => intro _; rfl
            | cons o l ih =>
              intro hl'
              have e : (!decide (over a o) && decide (over n o)) = ((decide (o.id ≠ a.id) && !decide (over o a)) && decide (over (sh false a (sgn v * ((u.1 + 1 : Nat) : Int))) o)) := by
                have h1 := hl' o (List.mem_cons_self ..)
                have h2 : decide (over a o) = decide (over o a) := decide_eq_decide.2 (over_comm a o)
                rw [h2, decide_eq_true h1, Bool.true_and]
                congr 1
                exact decide_eq_decide.2 (by rw [hnv])
              rw [List.find?_cons, List.find?_cons, e, ih fun z hz => hl' z (List.mem_cons_of_mem _ hz)]
          refine this _ fun o ho => ?_
          obtain ⟨i, hi⟩ := List.getElem?_of_mem ho
          rw [List.getElem?_drop] at hi
          have := o5.lt (show 0 < 1 + i by omega) ha hi
          omega
        rw [hcong]
        cases hfind : (bs.drop 1).find? (fun o => (decide (o.id ≠ a.id) && !decide (over o a)) && decide (over (sh false a (sgn v * ((u.1 + 1 : Nat) : Int))) o)) with
        | none => rw [hfind] at hh; cases hh
        | some o => rw [hfind] at hh; simpa using hh
      refine ⟨by rw [hze, hx2], ?_, hbz⟩
      rw [hx2]
      unfold hit at hh0
      cases hfind : (others bs a).find? (fun o => decide (over (sh false a (sgn v * ((u.1 + 1 : Nat) : Int))) o)) with
      | none => rw [hfind] at hh0; cases hh0
      | some o =>
        rw [hfind] at hh0
        have : o.id = x := by simpa using hh0
        rw [← this]
        exact hid o (List.mem_filter.1 (List.mem_of_find?_eq_some hfind)).1
end Go.Stp
namespace Go.Stp
theorem fix_next {bs B : List KB} {k : Nat} {x : KB} (h : ∀ i, B[i]? = if i < k then (bs[i]?).map fixB else bs[i]?) (hx : B[k]? = some x) : ∀ i, (B.set k (fixB x))[i]? = if i < k + 1 then (bs[i]?).map fixB else bs[i]? := fun i => by
  have hl := (List.getElem?_eq_some_iff.1 hx).1
  have hk := h k
  rw [if_neg (by omega), hx] at hk
  by_cases e : i = k
  · subst e; rw [List.getElem?_set_self hl, if_pos (by omega), ← hk]; rfl
  · rw [List.getElem?_set_ne (Ne.symm e), h i]
    by_cases h2 : i < k
    · rw [if_pos h2, if_pos (by omega)]
    · rw [if_neg h2, if_neg (by omega)]
theorem tmod501_bd (x : Int) : -500 ≤ x.tmod 501 ∧ x.tmod 501 ≤ 500 := by
  have h1 := Int.tmod_lt_of_pos x (b := 501) (by decide)
  have h2 := Int.lt_tmod_of_pos x (b := 501) (by decide)
  omega
theorem stops_pre {bs B B1 : List KB} {k : Nat} {x0 a : KB} {v : Int} (hm : MadeP bs [] 0 0) (hk : bs.length ≤ k) (hl : B.length = bs.length) (hB : ∀ i, B[i]? = if i < k then (bs[i]?).map fixB else bs[i]?) (hx0 : B[0]? = some x0) (ha : a = setVx (unfix x0) v) (hB1 : B1 = B.set 0 a) (hv : -500 ≤ v ∧ v ≤ 500) :
    okS B1 [] 0 0 ∧ B1[0]? = some a ∧ a.fixed = false ∧ a.vx = v ∧ a.vy = 0 ∧ (∀ i b, 1 ≤ i → B1[i]? = some b → b.fixed = true) ∧ (∀ o ∈ B1, 0 < o.id) ∧ (-1000 ≤ a.x ∧ a.x ≤ 1000) ∧ B1.length = bs.length := by
  have hl0 := (List.getElem?_eq_some_iff.1 hx0).1
  have hel : ∀ i b, B[i]? = some b → ∃ c, bs[i]? = some c ∧ b = fixB c := fun i b hb => by
    have hi := (List.getElem?_eq_some_iff.1 hb).1
    rw [hB i, if_pos (by omega)] at hb
    cases hc : bs[i]? with
    | none => rw [hc] at hb; cases hb
    | some c => rw [hc] at hb; injection hb with hb; exact ⟨c, hc, hb.symm⟩
  obtain ⟨c0, hc0, e0⟩ := hel 0 x0 hx0
  have hok0 := hm.ok.2.2.2.1 c0 (List.mem_of_getElem? hc0)
  have haok : okB a := by
    rw [ha, e0]
    exact ⟨hok0.1, hok0.2.1, hok0.2.2.1, ⟨by show -4096 ≤ v; omega, by show v ≤ 4096; omega⟩, ⟨by show (-4096 : Int) ≤ 0; decide, by show (0 : Int) ≤ 4096; decide⟩, hok0.2.2.2.2.2.1, hok0.2.2.2.2.2.2.1, hok0.2.2.2.2.2.2.2.1, (fun h => nomatch (show false = true from h))⟩
  have hid : SameIds B1 bs := by
    unfold SameIds
    rw [hB1]
    refine List.ext_getElem? fun i => ?_
    rw [List.getElem?_map, List.getElem?_map]
    by_cases e : i = 0
    · subst e; rw [List.getElem?_set_self hl0, hc0, ha, e0]; rfl
    · rw [List.getElem?_set_ne (Ne.symm e)]
      cases hb : B[i]? with
      | none =>
        have := List.getElem?_eq_none_iff.1 hb
        rw [List.getElem?_eq_none (by omega)]
      | some b => obtain ⟨c, hc, e2⟩ := hel i b hb; rw [hc, e2]; rfl
  have hBok : ∀ o ∈ B, okB o := fun o ho => by
    obtain ⟨i, hi⟩ := List.getElem?_of_mem ho
    obtain ⟨c, hc, e2⟩ := hel i o hi
    rw [e2]; exact fixB_ok (hm.ok.2.2.2.1 c (List.mem_of_getElem? hc))
  refine ⟨⟨by rw [hid.len]; exact hm.ok.1, by decide, by decide, by rw [hB1]; exact okB_set hBok haok, ordB_ids hid hm.ok.2.2.2.2.1, fun r hr => (List.not_mem_nil hr).elim⟩, by rw [hB1, List.getElem?_set_self hl0], by rw [ha]; rfl, by rw [ha]; rfl, by rw [ha, e0]; rfl, fun i b hi hb => ?_, fun o ho => ?_, ?_, hid.len⟩
  · rw [hB1, List.getElem?_set_ne (by omega)] at hb
    obtain ⟨c, _, e2⟩ := hel i b hb
    rw [e2]; rfl
  · obtain ⟨i, hi⟩ := List.getElem?_of_mem ho
    have h1 := congrArg (·[i]?) hid
    simp only [List.getElem?_map, hi, Option.map_some] at h1
    cases hc : bs[i]? with
    | none => rw [hc] at h1; cases h1
    | some c => rw [hc] at h1; injection h1 with h1; have h2 := hm.bodies.1 i c hc; have h3 : o.id = c.id := h1; omega
  · rw [ha, e0]; exact hm.bodies.2.2 c0 (List.mem_of_getElem? hc0)
end Go.Stp
