/-
  A stack of boxes at rest stays as it is, in plain terms. Own work; plain Lean.
-/
import Derived.Test.YtbhkgodiencdlaaDoorStBase
namespace Go.Stp
theorem hit_eq {bs : List KB} {b nb o : KB} {m : Nat} (hm : bs[m]? = some o) (hid : o.id ≠ b.id) (hno : ¬ over o b) (ho : over nb o) (hl : ∀ j, j < m → ∀ z, bs[j]? = some z → ¬ over nb z) : hit bs b nb = some o.id := by
  have e : (others bs b).find? (fun o => decide (over nb o)) = some o := by
    unfold others
    rw [List.find?_filter, List.find?_eq_some_iff_getElem]
    obtain ⟨hml, hme⟩ := List.getElem?_eq_some_iff.1 hm
    refine ⟨by simp [hid, hno, ho], m, hml, hme, fun j hj => ?_⟩
    have := hl j hj bs[j] (List.getElem?_eq_getElem (by omega))
    simp [this]
  unfold hit; rw [e]; rfl
theorem over_box {a b : KB} (ha : okB a) (hb : okB b) (h1 : a.round = false) (h2 : b.round = false) : over a b ↔ (max (a.x - b.x) (b.x - a.x) < a.w + b.w ∧ max (a.y - b.y) (b.y - a.y) < a.h + b.h) := by
  have e : far a b = max (abs (a.x - b.x) - a.w - b.w) (abs (a.y - b.y) - a.h - b.h) := by unfold far; rw [room_ff h1 h2]
  constructor
  · intro h; have h3 := h.2.2; rw [e] at h3; unfold abs at h3; omega
  · intro h; refine ⟨ha, hb, ?_⟩; rw [e]; unfold abs; omega
/-- a body at rest that is held from below stays -/
theorem rest_at {bs : List KB} {gy i : Int} {k : Nat} {b : KB} (hk : bs[k]? = some b) (hf : b.fixed = false) (hb : okB b) (hvx : b.vx = 0) (hvy : b.vy = 0) (hg : -4096 ≤ gy ∧ gy < 0) (hh : hit bs b (sh true b (-1)) = some i) (hi : inside (sh true b (-1))) :
    stepAt [] 0 gy bs k = (bs, [⟨b.id, 2, i⟩]) := by
  have hV : okV 0 gy := ⟨by omega, by omega, hg.1, by omega⟩
  have hno : ¬ (b.fixed = true ∨ ¬ okB b ∨ ¬ okV 0 gy) := by rintro (h | h | h); rw [hf] at h; cases h; exact h hb; exact h hV
  have e1 : speedX b 0 gy = 0 := by unfold speedX; rw [if_neg hno, hvx]; rfl
  have e2 : speedY b 0 gy = gy := by unfold speedY clampS; rw [if_neg hno, hvy]; omega
  have hset : bs.set k b = bs := set_self hk
  have r1 : runM bs [] b false 0 = (0, none) := rfl
  have hs0 : sgn gy = -1 := by unfold sgn; rw [if_pos hg.2]
  have r2 : runM bs [] b true gy = (0, some i) := by
    unfold runM
    obtain ⟨m, hm⟩ : ∃ m, gy.natAbs = m + 1 := ⟨gy.natAbs - 1, by omega⟩
    rw [hm]
    unfold firstStop
    have : stopB bs [] b (sh true b (sgn gy * ((0 + 1 : Nat) : Int))) = some i := by
      rw [hs0, show (-1 : Int) * ((0 + 1 : Nat) : Int) = -1 by omega]
      unfold stopB; rw [if_pos hi, hh]
    simp only [this]
  have q1 : innerK [] bs k b 0 gy 1 = (b, [], 0, gy) := by
    show innerStep [] bs k b.id false (b, [], 0, gy) = _
    unfold innerStep
    simp only [hset, Bool.false_eq_true, if_false, r1, stopL, keepV, List.append_nil]
    rw [show sgn 0 * ((0 : Nat) : Int) = 0 by omega, sh_zero]
  have q2 : innerK [] bs k b 0 gy 2 = (b, [⟨b.id, 2, i⟩], 0, 0) := by
    show innerStep [] bs k b.id true (innerK [] bs k b 0 gy 1) = _
    rw [q1]
    unfold innerStep
    simp only [hset, if_true, r2, stopL, keepV, List.nil_append]
    rw [show sgn gy * ((0 : Nat) : Int) = 0 by omega, sh_zero]
  unfold stepAt
  rw [hk]
  have : ({ b with vx := 0, vy := 0 } : KB) = b := by cases b; simp at hvx hvy; simp [hvx, hvy]
  show (if b.fixed = true then (bs, []) else (bs.set k { (innerK [] bs k b (speedX b 0 gy) (speedY b 0 gy) 2).1 with vx := (innerK [] bs k b (speedX b 0 gy) (speedY b 0 gy) 2).2.2.1, vy := (innerK [] bs k b (speedX b 0 gy) (speedY b 0 gy) 2).2.2.2 }, (innerK [] bs k b (speedX b 0 gy) (speedY b 0 gy) 2).2.1)) = _
  rw [if_neg (by rw [hf]; simp), e1, e2, q2]
  show (bs.set k ({ b with vx := 0, vy := 0 } : KB), _) = _
  rw [this, hset]
section
variable (sz : List UInt8)
def szN (i : Nat) : Nat := ((sz[i]?).getD 0).toNat
def bw (j : Nat) : Int := 1 + ((szN sz (2 * j) % 40 : Nat) : Int)
def bh (j : Nat) : Int := 1 + ((szN sz (2 * j + 1) % 40 : Nat) : Int)
def top : Nat → Int
  | 0 => 0
  | j + 1 => top j + 2 * bh sz j
def sbox (j : Nat) : KB := ⟨1 + 2 * j, (((szN sz (2 * j) % (1 + szN sz (2 * j) % 40 + 1) : Nat)) : Int), top sz j + bh sz j, 0, 0, bw sz j, bh sz j, false, false⟩
def floor : KB := ⟨0, 0, -5, 0, 0, 1000, 5, false, true⟩
def sb0 : KB := ⟨50, 300, 5, 0, 0, 10, 5, false, false⟩
def sb1 : KB := ⟨51, 340, 5, 0, 0, 10, 5, false, false⟩
def sb2 : KB := ⟨52, 320, 13, 0, 0, 30, 3, false, false⟩
def stackTo (n : Nat) : List KB := floor :: (List.range n).map (sbox sz)
def stack (n : Nat) : List KB := stackTo sz n ++ [sb0, sb1, sb2]
variable {sz}
theorem bw_bd (j : Nat) : 1 ≤ bw sz j ∧ bw sz j ≤ 40 := by unfold bw; omega
theorem bh_bd (j : Nat) : 1 ≤ bh sz j ∧ bh sz j ≤ 40 := by unfold bh; omega
theorem top_bd (j : Nat) : 0 ≤ top sz j ∧ top sz j ≤ 80 * (j : Int) := by
  induction j with
  | zero => exact ⟨Int.le_refl _, Int.le_refl _⟩
  | succ j ih => have := bh_bd (sz := sz) j; unfold top; omega
theorem top_lt {i j : Nat} (h : i < j) : top sz i + 2 * bh sz i ≤ top sz j := by
  induction j with
  | zero => omega
  | succ j ih =>
    by_cases e : i = j
    · subst e; exact Int.le_refl _
    · have := ih (by omega); have := bh_bd (sz := sz) j; show _ ≤ top sz j + 2 * bh sz j; omega
theorem bx_bd (j : Nat) : 0 ≤ (sbox sz j).x ∧ (sbox sz j).x ≤ bw sz j := by
  show 0 ≤ (((szN sz (2 * j) % (1 + szN sz (2 * j) % 40 + 1) : Nat)) : Int) ∧ (((szN sz (2 * j) % (1 + szN sz (2 * j) % 40 + 1) : Nat)) : Int) ≤ 1 + ((szN sz (2 * j) % 40 : Nat) : Int)
  have := Nat.mod_lt (szN sz (2 * j)) (show 0 < 1 + szN sz (2 * j) % 40 + 1 by omega)
  omega
theorem sbox_ok {j : Nat} (hj : j < 20) : okB (sbox sz j) := by
  have h1 := bw_bd (sz := sz) j; have h2 := bh_bd (sz := sz) j; have h3 := top_bd (sz := sz) j; have h4 := bx_bd (sz := sz) j
  refine ⟨⟨?_, ?_⟩, ⟨?_, ?_⟩, ⟨?_, ?_⟩, ⟨(by decide : (-4096 : Int) ≤ 0), (by decide : (0 : Int) ≤ 4096)⟩, ⟨(by decide : (-4096 : Int) ≤ 0), (by decide : (0 : Int) ≤ 4096)⟩, ⟨?_, ?_⟩, ⟨?_, ?_⟩, (fun h => nomatch (show false = true from h)), (fun h => nomatch (show false = true from h))⟩
  · show (0 : Int) ≤ 1 + 2 * j; omega
  · show 1 + 2 * (j : Int) ≤ 65536; omega
  · omega
  · omega
  · show -1048576 ≤ top sz j + bh sz j; omega
  · show top sz j + bh sz j ≤ 1048576; omega
  · exact h1.1
  · show bw sz j ≤ 16384; omega
  · exact h2.1
  · show bh sz j ≤ 16384; omega
theorem floor_ok : okB floor := by decide
theorem sb_ok : okB sb0 ∧ okB sb1 ∧ okB sb2 := by decide
theorem stack_get {n k : Nat} : (stack sz n)[k]? = if k = 0 then some floor else if k ≤ n then some (sbox sz (k - 1)) else if k = n + 1 then some sb0 else if k = n + 2 then some sb1 else if k = n + 3 then some sb2 else none := by
  unfold stack stackTo
  cases k with
  | zero => rfl
  | succ k =>
    rw [if_neg (by omega), List.cons_append, List.getElem?_cons_succ]
    by_cases h : k + 1 ≤ n
    · rw [if_pos h, List.getElem?_append_left (by simp; omega), List.getElem?_map, List.getElem?_range (by omega)]; rfl
    · rw [if_neg h, List.getElem?_append_right (by simp; omega)]
      simp only [List.length_map, List.length_range]
      obtain ⟨d, rfl⟩ : ∃ d, k = n + d := ⟨k - n, by omega⟩
      rw [show n + d - n = d by omega]
      match d with
      | 0 => simp
      | 1 => simp
      | 2 => simp
      | d + 3 => rw [if_neg (by omega), if_neg (by omega), if_neg (by omega)]; rfl
theorem stack_len {n : Nat} : (stack sz n).length = n + 4 := by simp [stack, stackTo]
theorem stack_ok {n : Nat} (hn : n ≤ 20) {gy : Int} (hg : -4096 ≤ gy ∧ gy < 0) : okS (stack sz n) [] 0 gy := by
  refine ⟨by rw [stack_len]; omega, by decide, ⟨by decide, by decide, hg.1, by omega⟩, fun b hb => ?_, fun i a b ha hb => ?_, fun r hr => by cases hr⟩
  · obtain ⟨k, hk⟩ := List.getElem?_of_mem hb
    rw [stack_get] at hk
    split at hk
    · injection hk with hk; subst hk; exact floor_ok
    · split at hk
      · injection hk with hk; subst hk; exact sbox_ok (by omega)
      · split at hk
        · injection hk with hk; subst hk; exact sb_ok.1
        · split at hk
          · injection hk with hk; subst hk; exact sb_ok.2.1
          · split at hk
            · injection hk with hk; subst hk; exact sb_ok.2.2
            · cases hk
  · have key : ∀ {k : Nat} {z : KB}, (stack sz n)[k]? = some z → (z.id = if k = 0 then 0 else if k ≤ n then 1 + 2 * ((k : Int) - 1) else if k = n + 1 then 50 else if k = n + 2 then 51 else 52) ∧ k ≤ n + 3 := by
      intro k z hk
      have hl := (List.getElem?_eq_some_iff.1 hk).1
      rw [stack_len] at hl
      rw [stack_get] at hk
      refine ⟨?_, by omega⟩
      split at hk
      · rename_i h0; injection hk with hk; subst hk; rw [if_pos h0]; rfl
      · rename_i h0; rw [if_neg h0]
        split at hk
        · rename_i h1; injection hk with hk; subst hk; rw [if_pos h1]; show 1 + 2 * ((k - 1 : Nat) : Int) = _; omega
        · rename_i h1; rw [if_neg h1]
          split at hk
          · rename_i h2; injection hk with hk; subst hk; rw [if_pos h2]; rfl
          · rename_i h2; rw [if_neg h2]
            split at hk
            · rename_i h3; injection hk with hk; subst hk; rw [if_pos h3]; rfl
            · rename_i h3; rw [if_neg h3]
              split at hk
              · injection hk with hk; subst hk; rfl
              · cases hk
    obtain ⟨ea, _⟩ := key ha
    obtain ⟨eb, hl⟩ := key hb
    rw [ea, eb]
    repeat' split
    all_goals omega
/-- what the box k stands on -/
def below (n k : Nat) : Int := if k ≤ n then (if k = 1 then 0 else 1 + 2 * ((k : Int) - 2)) else if k = n + 3 then 50 else 0
theorem stack_rest {n k : Nat} (hn : n ≤ 10) (hk0 : 1 ≤ k) (hk : k ≤ n + 3) {gy : Int} (hg : -4096 ≤ gy ∧ gy < 0) :
    ∃ b, (stack sz n)[k]? = some b ∧ stepAt [] 0 gy (stack sz n) k = (stack sz n, [⟨b.id, 2, below n k⟩]) := by
  have over_s : ∀ {b z : KB} {n : Int}, okB b → okB z → okB (sh true b n) → b.round = false → z.round = false → (over (sh true b n) z ↔ (max (b.x - z.x) (z.x - b.x) < b.w + z.w ∧ max (b.y + n - z.y) (z.y - (b.y + n)) < b.h + z.h)) := fun hb hz hs h1 h2 => over_box hs hz h1 h2
  by_cases h : k ≤ n
  · obtain ⟨j, rfl⟩ : ∃ j, k = j + 1 := ⟨k - 1, by omega⟩
    have hb : okB (sbox sz j) := sbox_ok (by omega)
    have e1 : (stack sz n)[j + 1]? = some (sbox sz j) := by rw [stack_get, if_neg (by omega), if_pos h]; rfl
    have w1 := bw_bd (sz := sz) j; have h1 := bh_bd (sz := sz) j; have t1 := top_bd (sz := sz) j; have x1 := bx_bd (sz := sz) j
    have yb : (sbox sz j).y = top sz j + bh sz j := rfl
    have hs : okB (sh true (sbox sz j) (-1)) := okB_shY hb (by omega) (by omega)
    refine ⟨_, e1, rest_at e1 rfl hb rfl rfl hg ?_ (inside_ok hs)⟩
    by_cases hj : j = 0
    · subst hj
      have e0 : (stack sz n)[0]? = some floor := rfl
      have hb2 : below n (0 + 1) = floor.id := by unfold below; rw [if_pos h]; rfl
      rw [hb2]
      refine hit_eq e0 (by show (0 : Int) ≠ 1 + 2 * ((0 : Nat) : Int); omega) ?_ ?_ (fun i hi => absurd hi (by omega))
      · rw [over_box floor_ok hb rfl rfl]
        show ¬ (_ ∧ max ((-5 : Int) - (sbox sz 0).y) ((sbox sz 0).y - (-5)) < 5 + bh sz 0)
        rw [yb]; omega
      · rw [over_s hb floor_ok hs rfl rfl]
        show max ((sbox sz 0).x - 0) (0 - (sbox sz 0).x) < bw sz 0 + 1000 ∧ max ((sbox sz 0).y + -1 - (-5)) ((-5) - ((sbox sz 0).y + -1)) < bh sz 0 + 5
        have : top sz 0 = 0 := rfl
        rw [yb]; omega
    · obtain ⟨i, rfl⟩ : ∃ i, j = i + 1 := ⟨j - 1, by omega⟩
      have hc : okB (sbox sz i) := sbox_ok (by omega)
      have e0 : (stack sz n)[i + 1]? = some (sbox sz i) := by rw [stack_get, if_neg (by omega), if_pos (by omega)]; rfl
      have w2 := bw_bd (sz := sz) i; have h2 := bh_bd (sz := sz) i; have t2 := top_bd (sz := sz) i; have x2 := bx_bd (sz := sz) i
      have yc : (sbox sz i).y = top sz i + bh sz i := rfl
      have tt : top sz (i + 1) = top sz i + 2 * bh sz i := rfl
      have hb2 : below n (i + 1 + 1) = (sbox sz i).id := by unfold below; rw [if_pos h, if_neg (by omega)]; show _ = 1 + 2 * (i : Int); omega
      rw [hb2]
      refine hit_eq e0 (by show 1 + 2 * (i : Int) ≠ 1 + 2 * ((i + 1 : Nat) : Int); omega) ?_ ?_ (fun q hq z hz => ?_)
      · rw [over_box hc hb rfl rfl]
        show ¬ (_ ∧ max ((sbox sz i).y - (sbox sz (i + 1)).y) ((sbox sz (i + 1)).y - (sbox sz i).y) < bh sz i + bh sz (i + 1))
        rw [yb, yc]; omega
      · rw [over_s hb hc hs rfl rfl]
        show max ((sbox sz (i + 1)).x - (sbox sz i).x) ((sbox sz i).x - (sbox sz (i + 1)).x) < bw sz (i + 1) + bw sz i ∧ max ((sbox sz (i + 1)).y + -1 - (sbox sz i).y) ((sbox sz i).y - ((sbox sz (i + 1)).y + -1)) < bh sz (i + 1) + bh sz i
        rw [yb, yc]; omega
      · rw [stack_get] at hz
        by_cases hq0 : q = 0
        · rw [if_pos hq0] at hz; injection hz with hz; subst hz
          rw [over_s hb floor_ok hs rfl rfl]
          show ¬ (_ ∧ max ((sbox sz (i + 1)).y + -1 - (-5)) ((-5) - ((sbox sz (i + 1)).y + -1)) < bh sz (i + 1) + 5)
          rw [yb]; omega
        · rw [if_neg hq0, if_pos (by omega)] at hz; injection hz with hz; subst hz
          have hd : okB (sbox sz (q - 1)) := sbox_ok (by omega)
          have h3 := bh_bd (sz := sz) (q - 1)
          have t3 := top_lt (sz := sz) (show q - 1 < i by omega)
          rw [over_s hb hd hs rfl rfl]
          show ¬ (_ ∧ max ((sbox sz (i + 1)).y + -1 - (top sz (q - 1) + bh sz (q - 1))) (top sz (q - 1) + bh sz (q - 1) - ((sbox sz (i + 1)).y + -1)) < bh sz (i + 1) + bh sz (q - 1))
          rw [yb]; omega
  · -- the three beside the stack
    have far_s : ∀ {b : KB} {q : Nat}, okB b → okB (sh true b (-1)) → b.round = false → 150 ≤ b.x - b.w → q < 20 → ¬ over (sh true b (-1)) (sbox sz q) := by
      intro b q hb hs hr hx hq
      have w1 := bw_bd (sz := sz) q; have x1 := bx_bd (sz := sz) q
      rw [over_s hb (sbox_ok hq) hs hr rfl]
      show ¬ (max (b.x - (sbox sz q).x) ((sbox sz q).x - b.x) < b.w + bw sz q ∧ _)
      omega
    have hcase : k = n + 1 ∨ k = n + 2 ∨ k = n + 3 := by omega
    have e0 : (stack sz n)[0]? = some floor := rfl
    rcases hcase with rfl | rfl | rfl
    · have e1 : (stack sz n)[n + 1]? = some sb0 := by rw [stack_get, if_neg (by omega), if_neg (by omega), if_pos rfl]
      refine ⟨_, e1, rest_at e1 rfl sb_ok.1 rfl rfl hg ?_ (by decide)⟩
      have hb2 : below n (n + 1) = floor.id := by unfold below; rw [if_neg (by omega), if_neg (by omega)]; rfl
      rw [hb2]
      exact hit_eq e0 (by decide) (by decide) (by decide) (fun i hi => absurd hi (by omega))
    · have e1 : (stack sz n)[n + 2]? = some sb1 := by rw [stack_get, if_neg (by omega), if_neg (by omega), if_neg (by omega), if_pos rfl]
      refine ⟨_, e1, rest_at e1 rfl sb_ok.2.1 rfl rfl hg ?_ (by decide)⟩
      have hb2 : below n (n + 2) = floor.id := by unfold below; rw [if_neg (by omega), if_neg (by omega)]; rfl
      rw [hb2]
      exact hit_eq e0 (by decide) (by decide) (by decide) (fun i hi => absurd hi (by omega))
    · have e1 : (stack sz n)[n + 3]? = some sb2 := by rw [stack_get, if_neg (by omega), if_neg (by omega), if_neg (by omega), if_neg (by omega), if_pos rfl]
      have e2 : (stack sz n)[n + 1]? = some sb0 := by rw [stack_get, if_neg (by omega), if_neg (by omega), if_pos rfl]
      refine ⟨_, e1, rest_at e1 rfl sb_ok.2.2 rfl rfl hg ?_ (by decide)⟩
      have hb2 : below n (n + 3) = sb0.id := by unfold below; rw [if_neg (by omega), if_pos rfl]; rfl
      rw [hb2]
      refine hit_eq e2 (by decide) (by decide) (by decide) (fun q hq z hz => ?_)
      rw [stack_get] at hz
      by_cases hq0 : q = 0
      · rw [if_pos hq0] at hz; injection hz with hz; subst hz; decide
      · rw [if_neg hq0, if_pos (by omega)] at hz; injection hz with hz; subst hz
        exact far_s sb_ok.2.2 (by decide) rfl (by decide) (by omega)
/-- the whole step -/
theorem stack_steps {n : Nat} (hn : n ≤ 10) {gy : Int} (hg : -4096 ≤ gy ∧ gy < 0) : ∀ k, k ≤ n + 3 → (stepsTo [] 0 gy (stack sz n) (k + 1)).1 = stack sz n ∧ (stepsTo [] 0 gy (stack sz n) (k + 1)).2.length = k ∧
    ∀ i b, i < k → (stack sz n)[i + 1]? = some b → (stepsTo [] 0 gy (stack sz n) (k + 1)).2[i]? = some ⟨b.id, 2, below n (i + 1)⟩
  | 0, _ => by
    have e : stepAt [] 0 gy (stack sz n) 0 = (stack sz n, []) := rfl
    exact ⟨by show (stepAt [] 0 gy (stack sz n) 0).1 = _; rw [e], by show ([] ++ (stepAt [] 0 gy (stack sz n) 0).2).length = 0; rw [e]; rfl, fun i b hi => by omega⟩
  | k + 1, hk => by
    obtain ⟨h1, h2, h3⟩ := stack_steps hn hg k (by omega)
    obtain ⟨b, hb, hs⟩ := stack_rest (sz := sz) hn (show 1 ≤ k + 1 by omega) (by omega) hg
    have e : stepsTo [] 0 gy (stack sz n) (k + 1 + 1) = (stack sz n, (stepsTo [] 0 gy (stack sz n) (k + 1)).2 ++ [⟨b.id, 2, below n (k + 1)⟩]) := by
      show ((stepAt [] 0 gy (stepsTo [] 0 gy (stack sz n) (k + 1)).1 (k + 1)).1, _ ++ (stepAt [] 0 gy (stepsTo [] 0 gy (stack sz n) (k + 1)).1 (k + 1)).2) = _
      rw [h1, hs]
    rw [e]
    refine ⟨rfl, by simp [h2], fun i c hi hc => ?_⟩
    by_cases hik : i < k
    · rw [List.getElem?_append_left (by omega)]; exact h3 i c hik hc
    · obtain rfl : i = k := by omega
      rw [hb] at hc; injection hc with hc; subst hc
      show ((stepsTo [] 0 gy (stack sz n) (i + 1)).2 ++ [(⟨b.id, 2, below n (i + 1)⟩ : KS)])[i]? = _
      rw [List.getElem?_append_right (by omega), h2]; simp
end
end Go.Stp
namespace Go.Stp
variable {sz : List UInt8}
theorem stackTo_len (sz : List UInt8) (n : Nat) : (stackTo sz n).length = n + 1 := by simp [stackTo]
theorem stackTo_succ (sz : List UInt8) (n : Nat) : stackTo sz (n + 1) = stackTo sz n ++ [sbox sz n] := by unfold stackTo; rw [List.range_succ, List.map_append]; rfl
theorem stack_done {n : Nat} (hn : n ≤ 10) {gy : Int} (hg : -4096 ≤ gy ∧ gy < 0) : ∃ S, stepsTo [] 0 gy (stack sz n) (stack sz n).length = (stack sz n, S) ∧ S.length = n + 3 ∧
    ∀ i b, i < n + 3 → (stack sz n)[i + 1]? = some b → ∃ z, S[i]? = some z ∧ z = ⟨b.id, 2, below n (i + 1)⟩ := by
  obtain ⟨h1, h2, h3⟩ := stack_steps (sz := sz) hn hg (n + 3) (Nat.le_refl _)
  rw [stack_len]
  exact ⟨_, Prod.ext h1 rfl, h2, fun i b hi hb => ⟨_, h3 i b hi hb, rfl⟩⟩
theorem stack_id {n k : Nat} {z : KB} (hk : (stack sz n)[k]? = some z) : z.id = if k = 0 then 0 else if k ≤ n then 1 + 2 * ((k : Int) - 1) else if k = n + 1 then 50 else if k = n + 2 then 51 else 52 := by
  rw [stack_get] at hk
  split at hk
  · rename_i h0; injection hk with hk; subst hk; rw [if_pos h0]; rfl
  · rename_i h0; rw [if_neg h0]
    split at hk
    · rename_i h1; injection hk with hk; subst hk; rw [if_pos h1]; show 1 + 2 * ((k - 1 : Nat) : Int) = _; omega
    · rename_i h1; rw [if_neg h1]
      split at hk
      · rename_i h2; injection hk with hk; subst hk; rw [if_pos h2]; rfl
      · rename_i h2; rw [if_neg h2]
        split at hk
        · rename_i h3; injection hk with hk; subst hk; rw [if_pos h3]; rfl
        · rename_i h3; rw [if_neg h3]
          split at hk
          · injection hk with hk; subst hk; rfl
          · cases hk
theorem stop_is {n j : Nat} {a b : KB} {z : KS} {v : Int} (hn : n ≤ 10) (hj : j < n + 3) (ha : (stack sz n)[j]? = some a) (hb : (stack sz n)[j + 1]? = some b) (hz : z = ⟨b.id, 2, below n (j + 1)⟩)
    (hv : v = if b.id = 50 ∨ b.id = 51 then 0 else if b.id = 52 then 50 else a.id) : z = ⟨b.id, 2, v⟩ := by
  have e1 := stack_id ha
  have e2 := stack_id hb
  have : below n (j + 1) = v := by
    rw [hv, e1, e2]
    unfold below
    repeat' split
    all_goals omega
  rw [hz, this]
theorem sbox_eq {xs : List UInt8} {n : Nat} {x y : UInt8} (hx : xs[2 * n]? = some x) (hy : xs[2 * n + 1]? = some y) : sbox xs n = ⟨((1 + 2 * n : Nat) : Int), ((x.toNat % (1 + x.toNat % 40 + 1) : Nat) : Int), top xs n + ((1 + y.toNat % 40 : Nat) : Int), 0, 0, ((1 + x.toNat % 40 : Nat) : Int), ((1 + y.toNat % 40 : Nat) : Int), false, false⟩ := by
  unfold sbox bh bw szN
  rw [hx, hy]
  simp only [Option.getD_some]
  congr 1 <;> omega
theorem top_next {xs : List UInt8} {n : Nat} {y : UInt8} (hy : xs[2 * n + 1]? = some y) : top xs (n + 1) = top xs n + ((2 * (1 + y.toNat % 40) : Nat) : Int) := by
  show top xs n + 2 * bh xs n = _
  unfold bh szN
  rw [hy]
  simp only [Option.getD_some]; omega
end Go.Stp
namespace Go.Stp
theorem rest_pack (xs : List UInt8) {n : Nat} (hn : n ≤ 10) {gy : Int} (hg : -4096 ≤ gy ∧ gy < 0) : ∃ bs S, stack xs n = bs ∧ bs.length = n + 4 ∧ okS bs [] 0 gy ∧ stepsTo [] 0 gy bs bs.length = (bs, S) ∧ S.length = n + 3 ∧
    ∀ j a b, j < n + 3 → bs[j]? = some a → bs[j + 1]? = some b → ∃ z, S[j]? = some z ∧ z.id = b.id ∧ ∀ v : Int, (v = if b.id = 50 ∨ b.id = 51 then 0 else if b.id = 52 then 50 else a.id) → z = ⟨b.id, 2, v⟩ := by
  obtain ⟨S, hS, hSl, hSi⟩ := stack_done (sz := xs) hn hg
  refine ⟨stack xs n, S, rfl, stack_len, stack_ok (by omega) hg, hS, hSl, fun j a b hj ha hb => ?_⟩
  obtain ⟨z, hz, hze⟩ := hSi j b hj hb
  exact ⟨z, hz, by rw [hze], fun v hv => stop_is hn hj ha hb hze hv⟩
end Go.Stp
