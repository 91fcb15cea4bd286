/-
  Own work; plain Lean (StBase, StMade, StApart, StFree, StPart, StMix, BrDef).
-/
import Derived.Test.YtdkibofhppgbjaaGreatDoorStRun
import Derived.Test.YtdkibofhppgbjaaGreatDoorSlFam
import Derived.Test.YtdkibofhppgbjaaGreatDoorSlFlat
import Derived.Test.YtdkibofhppgbjaaGreatDoorSlAny
import Derived.Test.YtdkibofhppgbjaaGreatDoorSlFn
namespace Go.Sl
open Go.Stp
section
variable {P : Program} {ro : Option Nat} {n : Nat} {ds : List Deferred} {β : Base} {Q : Exit → Act → World → Prop} {f : Fm} {L : List Res} {ops : Array Oper} {rest : List Oper}
variable {d : Option Tmp} {ty : TypeId} {ps : String} {af : Array Edge} {g : Option (Nat × Bool)}
theorem e_max4 {x y z u : Operand} {k : IntKind} {a b c e : Int} {ts : Array TypeId} (hx : ev f x = .int k a) (hy : ev f y = .int k b) (hz : ev f z = .int k c) (hu : ev f u = .int k e) :
    EV P β L f ⟨d, .call ⟨.builtin .max, #[x, y, z, u], ts⟩, ty, ps, af, g⟩ (.int k (max (max (max a b) c) e)) := fun w _ => by
  simp [execOp, resolve, invoke, builtin, hx, hy, hz, hu, Builtin.max_, Builtin.max2]
  repeat' split
  all_goals omega
/-- return from a function with two ranges over functions -/
theorem retM2 {fn : Func} {R : Ending → World → Prop} {t u D E : Nat} {v v' : Value} (i j : Nat) (hi : L[i]? = some (pt D (.deferred (some [])))) (hj : (L.set i (pt D (.deferred none)))[j]? = some (pt E (.deferred (some [])))) (hr : fn.results = #[.tmp t, .tmp u]) (hv : f t = v) (hv' : f u = v')
    (h : ∀ w, St β ((L.set i (pt D (.deferred none))).set j (pt E (.deferred none))) w → R (.returned (.tuple #[v, v'])) w) : Fin n [mark D, mark E] β (bodyPostM (Fe none) 3 P fn R) .ret f L := fun a w ha hw => by
  show LeavesInM _ _ _ _ _ _ a.defers _ _
  rw [ha.defers]
  have hb := hw.pt i hi
  have hw1 : St β (L.set i (pt D (.deferred none))) (w.putObj D (.deferred none)) := St.back i hi (hw.front i hi).putObj
  refine ⟨by simp, .inl ⟨D, _, rfl, run_takeDeferred hb, ?_⟩⟩
  have hb2 := hw1.pt j hj
  have hw2 : St β ((L.set i (pt D (.deferred none))).set j (pt E (.deferred none))) ((w.putObj D (.deferred none)).putObj E (.deferred none)) := St.back j hj (hw1.front j hj).putObj
  refine ⟨by simp, .inl ⟨E, _, rfl, run_takeDeferred hb2, ?_⟩⟩
  exact ⟨.tuple #[v, v'], by rw [results_tmp2 hr, ha.result, ha.result, hv, hv'], h _ hw2⟩
theorem e_index_2 {x i : Operand} {t e : Nat} {u v : Value} {y : Bool} (hx : ev f x = .agg #[u, v]) (hy : ev f i = Nx y.toNat) (ht : arB P t 2 e 1 = true) (hne : tyB P e false 1 = true) :
    EV P β L f ⟨d, .index t x i, ty, ps, af, g⟩ (if y then v else u) := by
  cases y
  · exact e_index_a (k := 0) hx hy ht rfl (by decide) hne
  · exact e_index_a (k := 1) hx hy ht rfl (by decide) hne
end
/-- the least number below n at which p holds; n if there is none -/
def searchN (p : Nat → Bool) : Nat → Nat → Nat
  | 0, i => i
  | k + 1, i => if p i then i else searchN p k (i + 1)
theorem searchN_eq {p : Nat → Bool} : ∀ {n i k : Nat}, i ≤ k → k ≤ i + n → (∀ j, i ≤ j → j < k → p j = false) → (k < i + n → p k = true) → searchN p n i = k
  | 0, i, k, h1, h2, _, _ => by unfold searchN; omega
  | n + 1, i, k, h1, h2, h3, h4 => by
    unfold searchN
    by_cases h : k = i
    · rw [if_pos (h ▸ h4 (by omega)), h]
    · rw [h3 i (Nat.le_refl _) (by omega), if_neg (by simp)]
      exact searchN_eq (by omega) (by omega) (fun j a b => h3 j (by omega) b) (fun a => h4 (by omega))
theorem searchN_spec {p : Nat → Bool} : ∀ (n i : Nat), i ≤ searchN p n i ∧ searchN p n i ≤ i + n ∧ (∀ j, i ≤ j → j < searchN p n i → p j = false) ∧ (searchN p n i < i + n → p (searchN p n i) = true)
  | 0, i => ⟨Nat.le_refl _, Nat.le_refl _, fun j a b => by unfold searchN at b; omega, fun h => by unfold searchN at h; omega⟩
  | n + 1, i => by
    unfold searchN
    by_cases h : p i = true
    · rw [if_pos h]; exact ⟨Nat.le_refl _, by omega, fun j a b => by omega, fun _ => h⟩
    · rw [if_neg h]
      obtain ⟨h1, h2, h3, h4⟩ := searchN_spec (p := p) n (i + 1)
      refine ⟨by omega, by omega, fun j a b => ?_, fun hh => h4 (by omega)⟩
      by_cases hj : j = i
      · rw [hj]; simpa using h
      · exact h3 j (by omega) b
end Go.Sl
namespace Go.Stp
open Go.Sl
abbrev bC (b : KB) : Array Value := #[Ix b.id, Ix b.x, Ix b.y, Ix b.vx, Ix b.vy, Ix b.w, Ix b.h, .bool b.round, .bool b.fixed]
abbrev bodyE (b : KB) : List Value := [Ix b.id, Ix b.x, Ix b.y, Ix b.vx, Ix b.vy, Ix b.w, Ix b.h, .bool b.round, .bool b.fixed]
def KBR : Rp KB := Rp.flat 9 bodyE (fun _ => rfl)
abbrev ropeE (r : KR) : List Value := [Ix r.a, Ix r.b, Ix r.len]
def KRR : Rp KR := Rp.flat 3 ropeE (fun _ => rfl)
theorem vec_eq {a b c e : Int} : [Ix a, Ix b] = [Ix c, Ix e] ↔ a = c ∧ b = e := by simp
theorem body_eq {x y : KB} : bodyE x = bodyE y ↔ x = y := by
  constructor
  · intro h; cases x; cases y; simp at h; simp [h]
  · rintro rfl; rfl
theorem rope_eq {x y : KR} : ropeE x = ropeE y ↔ x = y := by
  constructor
  · intro h; cases x; cases y; simp at h; simp [h]
  · rintro rfl; rfl
abbrev stopE (x : KS) : List Value := [Ix x.id, Bx x.along, Ix x.by_]
theorem bx_inj {a b : UInt8} (h : Bx a = Bx b) : a = b := by
  injection h with _ h
  exact UInt8.toNat_inj.1 (by omega)
theorem stop_eq {x y : KS} : stopE x = stopE y ↔ x = y := by
  constructor
  · intro h
    cases x; cases y
    injection h with h1 h2
    injection h2 with h2 h3
    injection h3 with h3
    have := bx_inj h2
    simp at h1 h3 this
    simp [h1, h3, this]
  · rintro rfl; rfl
abbrev BodyF : Fl KB := ⟨9, bodyE, fun _ => rfl, fun _ => rfl, by decide⟩
abbrev RopeF : Fl KR := ⟨3, ropeE, fun _ => rfl, fun _ => rfl, by decide⟩
abbrev StopF : Fl KS := ⟨3, stopE, fun _ => rfl, fun _ => rfl, by decide⟩
def withV (b : KB) (vx vy : Int) : KB := { b with vx := vx, vy := vy }
/-- a mover: the scene, the body, the axis, the sign -/
abbrev mC (v rv : Value) (gx gy : Int) (b : KB) (y : Bool) (s : Int) : Array Value := #[v, rv, Ix gx, Ix gy, Ix b.id, Ix b.x, Ix b.y, Ix b.vx, Ix b.vy, Ix b.w, Ix b.h, .bool b.round, .bool b.fixed, Nx y.toNat, Ix s]
/-- the negative, as the machine has it -/
def wneg (x : Int) : Int := IntKind.i64.wrap (0 - x)
theorem wneg_eq {x : Int} (h : -9223372036854775808 ≤ x ∧ x ≤ 9223372036854775807) : wneg x = if x = -9223372036854775808 then x else -x := by
  unfold wneg
  split
  · rename_i e; subst e; decide
  · rw [i64w (by omega)]; omega
theorem pull_iff {x y : Int} (hx : -9223372036854775808 ≤ x ∧ x ≤ 9223372036854775807) (hy : -9223372036854775808 ≤ y ∧ y ≤ 9223372036854775807) :
    (max (max (max x (wneg x)) y) (wneg y) ≤ 4096 ∧ (-4096 : Int) ≤ min x y) ↔ okV x y := by
  unfold okV
  rw [wneg_eq hx, wneg_eq hy]
  split <;> split <;> omega
def leastN (n : Nat) (p : Nat → Bool) : Nat := 1 + searchN (fun i => p (i + 1)) n 0
theorem leastN_least (n : Nat) (p : Nat → Bool) : Least n (fun j => p j = true) (leastN n p) := by
  obtain ⟨h1, h2, h3, h4⟩ := searchN_spec (p := fun i => p (i + 1)) n 0
  unfold leastN
  refine ⟨by omega, by omega, fun j a b => ?_, fun h => ?_⟩
  · have := h3 (j - 1) (by omega) (by omega)
    rw [show j - 1 + 1 = j by omega] at this
    simp [this]
  · rw [show 1 + searchN (fun i => p (i + 1)) n 0 = searchN (fun i => p (i + 1)) n 0 + 1 by omega]; exact h4 (by omega)
theorem least_eq {n k : Nat} {p : Nat → Bool} (h : Least n (fun j => p j = true) k) : leastN n p = k := by
  obtain ⟨h1, h2, h3, h4⟩ := h
  unfold leastN
  rw [searchN_eq (k := k - 1) (by omega) (by omega) (fun j _ b => by simpa using h3 (j + 1) (by omega) (by omega)) (fun a => by rw [show k - 1 + 1 = k by omega]; exact h4 (by omega))]
  omega
/-- how far it is to the body o -/
def blockN (y : Bool) (b : KB) (s : Int) (most : Nat) (o : KB) : Nat := leastN most fun j => decide (over (sh y b (s * j)) o)
abbrev ropeN (y : Bool) (b : KB) (s : Int) (most : Nat) (p : KB × Int) : Nat := leastN most fun j => decide (p.2 < dist (sh y b (s * j)) p.1)
theorem blockN_least (y : Bool) (b : KB) (s : Int) (most : Nat) (o : KB) : Least most (fun j => over (sh y b (s * j)) o) (blockN y b s most o) := by
  unfold blockN
  have h := leastN_least most fun j => decide (over (sh y b (s * j)) o)
  simpa only [decide_eq_true_eq] using h
theorem blockN_eq {y : Bool} {b : KB} {s : Int} {most : Nat} {o : KB} {k : Nat} (h : Least most (fun j => over (sh y b (s * j)) o) k) : blockN y b s most o = k :=
  least_eq (by simpa only [decide_eq_true_eq] using h)
theorem ropeN_least (y : Bool) (b : KB) (s : Int) (most : Nat) (p : KB × Int) : Least most (fun j => p.2 < dist (sh y b (s * j)) p.1) (ropeN y b s most p) := by
  unfold ropeN
  have h := leastN_least most fun j => decide (p.2 < dist (sh y b (s * j)) p.1)
  simpa only [decide_eq_true_eq] using h
/-- the variable 'rooms' -/
def GR (β : Base) : Prop := Cs β.heap ⟨0, 0, none⟩ [.func (.func 265) #[] #[], .func (.func 266) #[] #[], .func (.func 267) #[] #[], .func (.func 268) #[] #[]]
theorem GR.mono {β β' : Base} (hs : Sub β.heap β'.heap) (h : GR β) : GR β' := Cs.mono _ _ _ _ hs h
theorem sq_bd {x B : Int} (h : -B ≤ x) (h' : x ≤ B) : 0 ≤ x * x ∧ x * x ≤ B * B := by
  have hB : 0 ≤ B := by omega
  rcases Int.le_total 0 x with hx | hx
  · exact ⟨Int.mul_nonneg hx hx, Int.mul_le_mul h' h' hx hB⟩
  · rw [← Int.neg_mul_neg]; exact ⟨Int.mul_nonneg (by omega) (by omega), Int.mul_le_mul (by omega) (by omega) (by omega) hB⟩
theorem room_ff {a b : KB} (ha : a.round = false) (hb : b.round = false) (dx dy : Int) : room a b dx dy = max (dx - a.w - b.w) (dy - a.h - b.h) := by simp [room, ha, hb]
theorem room_ft {a b : KB} (ha : a.round = false) (hb : b.round = true) (dx dy : Int) : room a b dx dy = max (dx - a.w) 0 * max (dx - a.w) 0 + max (dy - a.h) 0 * max (dy - a.h) 0 - b.w * b.w := by simp [room, ha, hb]
theorem room_tf {a b : KB} (ha : a.round = true) (hb : b.round = false) (dx dy : Int) : room a b dx dy = max (dx - b.w) 0 * max (dx - b.w) 0 + max (dy - b.h) 0 * max (dy - b.h) 0 - a.w * a.w := by simp [room, ha, hb]
theorem room_tt {a b : KB} (ha : a.round = true) (hb : b.round = true) (dx dy : Int) : room a b dx dy = dx * dx + dy * dy - (a.w + b.w) * (a.w + b.w) := by simp [room, ha, hb]
/-- what shape.far answers -/
def farV (a b : KB) : Array Value := if okB a ∧ okB b then #[Ix (far a b), .bool true] else #[.int .i64 0, .bool false]
theorem farV_noA {a b : KB} (h : ¬ okB a) : farV a b = #[.int .i64 0, .bool false] := if_neg fun x => h x.1
theorem farV_noB {a b : KB} (h : ¬ okB b) : farV a b = #[.int .i64 0, .bool false] := if_neg fun x => h x.2
theorem farV_yes {a b : KB} (ha : okB a) (hb : okB b) {z : Int} (h : room a b (abs (a.x - b.x)) (abs (a.y - b.y)) = z) : farV a b = #[Ix z, .bool true] := by
  unfold farV far; rw [if_pos ⟨ha, hb⟩, h]
theorem all_ite {xs : List Int} {lo hi : Int} {k : Nat} {x : Int} (hx : xs[k]? = some x) (h : ¬ (lo ≤ x ∧ x ≤ hi)) : decide (∀ z ∈ xs, lo ≤ z ∧ z ≤ hi) = false :=
  decide_eq_false fun a => h (a x (List.mem_of_getElem? hx))
theorem all_end {xs : List Int} {lo hi : Int} {k : Nat} (hk : xs.length ≤ k) (h : ∀ z ∈ xs.take k, lo ≤ z ∧ z ≤ hi) : decide (∀ z ∈ xs, lo ≤ z ∧ z ≤ hi) = true :=
  decide_eq_true (by rwa [List.take_of_length_le hk] at h)
theorem all_next {xs : List Int} {lo hi : Int} {k : Nat} {x : Int} (hx : xs[k]? = some x) (h : ∀ z ∈ xs.take k, lo ≤ z ∧ z ≤ hi) (h2 : lo ≤ x ∧ x ≤ hi) : ∀ z ∈ xs.take (k + 1), lo ≤ z ∧ z ≤ hi := by
  rw [List.take_add_one, hx]
  intro z hz
  rcases List.mem_append.1 hz with hz | hz
  · exact h z hz
  · simp at hz; rw [hz]; exact h2
def midB (b : KB) : Prop := (-2097152 ≤ b.x ∧ b.x ≤ 2097152) ∧ (-2097152 ≤ b.y ∧ b.y ≤ 2097152)
theorem okB.mid {b : KB} (h : okB b) : midB b := ⟨⟨by have := h.2.1.1; omega, by have := h.2.1.2; omega⟩, ⟨by have := h.2.2.1.1; omega, by have := h.2.2.1.2; omega⟩⟩
theorem okB.co {b : KB} (h : okB b) (y : Bool) : -1048576 ≤ co y b ∧ co y b ≤ 1048576 := by
  cases y
  · exact h.2.1
  · exact h.2.2.1
theorem sgn_mul {s n B : Int} (hs : s = 1 ∨ s = -1) (hn : -B ≤ n ∧ n ≤ B) : -B ≤ s * n ∧ s * n ≤ B := by
  rcases hs with rfl | rfl <;> omega
theorem mid_sh {b : KB} {y : Bool} {n : Int} (h : okB b) (hn : -1048576 ≤ n ∧ n ≤ 1048576) : midB (sh y b n) := by
  have h1 := h.2.1; have h2 := h.2.2.1
  cases y
  · exact ⟨⟨by show _ ≤ b.x + n; omega, by show b.x + n ≤ _; omega⟩, ⟨by show _ ≤ b.y; omega, by show b.y ≤ _; omega⟩⟩
  · exact ⟨⟨by show _ ≤ b.x; omega, by show b.x ≤ _; omega⟩, ⟨by show _ ≤ b.y + n; omega, by show b.y + n ≤ _; omega⟩⟩
theorem dist_bd {a b : KB} (ha : midB a) (hb : midB b) : 0 ≤ dist a b ∧ dist a b ≤ 35184372088832 := by
  have q1 := sq_bd (x := a.x - b.x) (B := 4194304) (by have := ha.1; have := hb.1; omega) (by have := ha.1; have := hb.1; omega)
  have q2 := sq_bd (x := a.y - b.y) (B := 4194304) (by have := ha.2; have := hb.2; omega) (by have := ha.2; have := hb.2; omega)
  unfold dist; omega
theorem U_toNat {n : Nat} (h : n < 18446744073709551616) : (U (n : Int)).toNat = n := by
  have h1 := ux_of (n : Int)
  rw [u64w] at h1
  omega
theorem half_toNat {m : Nat} (h : m < 9223372036854775808) : (U ((m : Nat) : Int) >>> (1 : UInt64)).toNat = m / 2 := by
  rw [UInt64.toNat_shiftRight, U_toNat (by omega), show (1 : UInt64).toNat % 64 = 1 from rfl, Nat.shiftRight_succ, Nat.shiftRight_zero]
/-- bodies in the order of their IDs -/
def ordB (bs : List KB) : Prop := ∀ i a b, bs[i]? = some a → bs[i + 1]? = some b → a.id < b.id
theorem ordB.lt {bs : List KB} (h : ordB bs) : ∀ {j i : Nat} {a b : KB}, i < j → bs[i]? = some a → bs[j]? = some b → a.id < b.id
  | 0, i, _, _, hij, _, _ => by omega
  | j + 1, i, a, b, hij, ha, hb => by
    by_cases e : i = j
    · subst e; exact h i a b ha hb
    · obtain ⟨c, hc⟩ : ∃ c, bs[j]? = some c := ⟨_, List.getElem?_eq_getElem (by have := (List.getElem?_eq_some_iff.1 hb).1; omega)⟩
      exact Int.lt_trans (ordB.lt h (by omega) ha hc) (h j c b hc hb)
def idAt (bs : List KB) (i : Nat) : Int := ((bs[i]?).map (·.id)).getD 0
theorem idAt_eq {bs : List KB} {i : Nat} {b : KB} (h : bs[i]? = some b) : idAt bs i = b.id := by unfold idAt; rw [h]; rfl
def lbN (bs : List KB) (id : Int) : Nat := searchN (fun i => decide (id ≤ idAt bs i)) bs.length 0
theorem lb_next {bs : List KB} {id : Int} {t h : Nat} {x : KB} (ho : ordB bs) (hx : bs[h]? = some x) (hlt : x.id < id) (ht : t < h + 1) : idAt bs t < id := by
  obtain ⟨c, hc⟩ : ∃ c, bs[t]? = some c := ⟨_, List.getElem?_eq_getElem (by have := (List.getElem?_eq_some_iff.1 hx).1; omega)⟩
  rw [idAt_eq hc]
  by_cases e : t = h
  · subst e; rw [hx] at hc; injection hc with hc; rw [← hc]; exact hlt
  · exact Int.lt_trans (ho.lt (by omega) hc hx) hlt
theorem lb_eq {bs : List KB} {id : Int} {k : Nat} (h1 : k ≤ bs.length) (h2 : ∀ t, t < k → idAt bs t < id) (h3 : k < bs.length → id ≤ idAt bs k) : lbN bs id = k :=
  searchN_eq (by omega) (by omega) (fun j _ b => decide_eq_false (by have := h2 j b; omega)) (fun h => decide_eq_true (h3 (by omega)))
theorem findB_iff {bs : List KB} {id : Int} : (findB bs id).isSome = true ↔ ∃ b ∈ bs, b.id = id := by
  unfold findB
  rw [List.find?_isSome]
  simp
theorem lb_found {bs : List KB} {id : Int} {k : Nat} {x : KB} (ho : ordB bs) (h2 : ∀ t, t < k → idAt bs t < id) (hx : bs[k]? = some x) (hle : id ≤ x.id) : (x.id = id) ↔ (findB bs id).isSome = true := by
  rw [findB_iff]
  constructor
  · exact fun h => ⟨x, List.mem_of_getElem? hx, h⟩
  · rintro ⟨b, hb, e⟩
    obtain ⟨i, hi⟩ := List.getElem?_of_mem hb
    by_cases c : i < k
    · have := h2 i c; rw [idAt_eq hi] at this; omega
    · by_cases c2 : i = k
      · subst c2; rw [hx] at hi; injection hi with hi; rw [hi]; exact e
      · have := ho.lt (i := k) (j := i) (by omega) hx hi; omega
theorem lb_none {bs : List KB} {id : Int} {k : Nat} (hk : bs.length ≤ k) (h2 : ∀ t, t < k → idAt bs t < id) : (findB bs id).isSome = false := by
  cases h : (findB bs id).isSome with
  | false => rfl
  | true =>
    obtain ⟨b, hb, e⟩ := findB_iff.1 h
    obtain ⟨i, hi⟩ := List.getElem?_of_mem hb
    have := (List.getElem?_eq_some_iff.1 hi).1
    have := h2 i (by omega)
    rw [idAt_eq hi] at this; omega
/-- the body found, by its index -/
theorem idx_body {bs : List KB} {i : Int} {o : KB} (h : findB bs i = some o) : ∃ k : Nat, idxI (fun b : KB => decide (b.id = i)) bs = k ∧ bs[k]? = some o := by
  unfold findB at h
  obtain ⟨hp, k, hk, e, hno⟩ := List.find?_eq_some_iff_getElem.1 h
  refine ⟨k, idx_found (x := o) (by rw [List.getElem?_eq_getElem hk, e]) (by simpa using hp) fun y hy => ?_, by rw [List.getElem?_eq_getElem hk, e]⟩
  obtain ⟨j, hj, rfl⟩ := List.mem_take_iff_getElem.1 hy
  have := hno j (by omega)
  simpa using this
/-- island.Valid, body by body -/
theorem okS_next {bs : List KB} {k : Nat} {x : KB} (hx : bs[k]? = some x) (h : ∀ b ∈ bs.take k, okB b) (hok : okB x) : ∀ b ∈ bs.take (k + 1), okB b := by
  rw [List.take_add_one, hx]
  intro z hz
  rcases List.mem_append.1 hz with hz | hz
  · exact h z hz
  · simp at hz; rw [hz]; exact hok
theorem ord_next {bs : List KB} {k : Nat} {x : KB} (hx : bs[k]? = some x) (h : ∀ i a b, i + 1 < k → bs[i]? = some a → bs[i + 1]? = some b → a.id < b.id) (hok : 0 < k → ∀ y, bs[k - 1]? = some y → y.id < x.id) :
    ∀ i a b, i + 1 < k + 1 → bs[i]? = some a → bs[i + 1]? = some b → a.id < b.id := fun i a b hi ha hb => by
  by_cases e : i + 1 = k
  · subst e; rw [hx] at hb; injection hb with hb; rw [← hb]; exact hok (by omega) a (by simpa using ha)
  · exact h i a b (by omega) ha hb
theorem ord_all {bs : List KB} {k : Nat} (hk : bs.length ≤ k) (h : ∀ i a b, i + 1 < k → bs[i]? = some a → bs[i + 1]? = some b → a.id < b.id) : ordB bs := fun i a b ha hb =>
  h i a b (by have := (List.getElem?_eq_some_iff.1 hb).1; omega) ha hb
theorem ok_all {bs : List KB} {k : Nat} (hk : bs.length ≤ k) (h : ∀ b ∈ bs.take k, okB b) : ∀ b ∈ bs, okB b := by rwa [List.take_of_length_le hk] at h
instance (bs : List KB) (r : KR) : Decidable (okR bs r) := by unfold okR; infer_instance
/-- how far the ropes and the world's end let it go -/
def firstR (y : Bool) (b : KB) (s : Int) (most m0 : Nat) (es : List (KB × Int)) : Nat := es.foldl (fun k p => min k (ropeN y b s most p)) (m0 + 1)
theorem firstR_snoc (y : Bool) (b : KB) (s : Int) (most m0 : Nat) (es : List (KB × Int)) (x : KB × Int) : firstR y b s most m0 (es ++ [x]) = min (firstR y b s most m0 es) (ropeN y b s most x) := by unfold firstR; rw [List.foldl_append]; rfl
def stepO (y : Bool) (b : KB) (s : Int) (most : Nat) (q : Nat × Int) (o : KB) : Nat × Int := if blockN y b s most o < q.1 ∨ blockN y b s most o = q.1 ∧ blockN y b s most o ≤ most ∧ q.2 < 0 then (blockN y b s most o, o.id) else q
/-- how far the other bodies let it go, and who stops it -/
def firstO (y : Bool) (b : KB) (s : Int) (most k0 : Nat) (os : List KB) : Nat × Int := os.foldl (stepO y b s most) (k0, -1)
theorem firstO_yes {y : Bool} {b : KB} {s : Int} {most k0 : Nat} {os : List KB} {o : KB} (h : blockN y b s most o < (firstO y b s most k0 os).1 ∨ blockN y b s most o = (firstO y b s most k0 os).1 ∧ blockN y b s most o ≤ most ∧ (firstO y b s most k0 os).2 < 0) :
    firstO y b s most k0 (os ++ [o]) = (blockN y b s most o, o.id) := by
  show (os ++ [o]).foldl _ _ = _
  rw [List.foldl_append]; exact if_pos h
theorem firstO_no {y : Bool} {b : KB} {s : Int} {most k0 : Nat} {os : List KB} {o : KB} (h : ¬ (blockN y b s most o < (firstO y b s most k0 os).1 ∨ blockN y b s most o = (firstO y b s most k0 os).1 ∧ blockN y b s most o ≤ most ∧ (firstO y b s most k0 os).2 < 0)) :
    firstO y b s most k0 (os ++ [o]) = firstO y b s most k0 os := by
  show (os ++ [o]).foldl _ _ = _
  rw [List.foldl_append]; exact if_neg h
theorem inv1_fold {y : Bool} {b : KB} {s : Int} {most : Nat} : ∀ (es es0 : List (KB × Int)) (k : Nat), Inv1 y b s most es0 k → Inv1 y b s most (es0 ++ es) (es.foldl (fun k p => min k (ropeN y b s most p)) k)
  | [], es0, k, h => by simpa using h
  | e :: es, es0, k, h => by
    have := inv1_fold es (es0 ++ [e]) _ (inv1_step (o := e.1) (l := e.2) h (ropeN_least y b s most e))
    simpa using this
theorem inv2_fold {y : Bool} {b : KB} {s : Int} {most : Nat} {es : List (KB × Int)} : ∀ (os os0 : List KB) (q : Nat × Int), (∀ o ∈ os0 ++ os, 0 ≤ o.id) → Inv2 y b s most es os0 q.1 q.2 → Inv2 y b s most es (os0 ++ os) (os.foldl (stepO y b s most) q).1 (os.foldl (stepO y b s most) q).2
  | [], os0, q, _, h => by simpa using h
  | o :: os, os0, q, hid, h => by
    have hk := inv2_step (fun z hz => hid z (List.mem_append_left _ hz)) h (blockN_least y b s most o)
    have hq : Inv2 y b s most es (os0 ++ [o]) (stepO y b s most q o).1 (stepO y b s most q o).2 := by
      unfold stepO
      split
      · rename_i hc; exact hk.1 hc
      · rename_i hc; exact hk.2 hc
    have := inv2_fold os (os0 ++ [o]) _ (by simpa using hid) hq
    simpa using this
/-- what mover.run answers -/
def runP (bs : List KB) (rs : List KR) (b : KB) (y : Bool) (s : Int) (most : Nat) : Nat × Int :=
  let q := firstO y b s most (firstR y b s most (min (most : Int) (1048576 - s * co y b)).toNat (ends bs rs b)) (others bs b)
  (q.1 - 1, q.2)
theorem runP_spec {bs : List KB} {rs : List KR} {b : KB} {y : Bool} {s : Int} {most : Nat} (hs : s = 1 ∨ s = -1) (hb : okB b) (hbs : ∀ o ∈ bs, okB o) :
    (runP bs rs b y s most).1 ≤ most ∧ firstStop (fun j => stopB bs rs b (sh y b (s * j))) most 0 = ((runP bs rs b y s most).1, if (runP bs rs b y s most).1 < most then some (runP bs rs b y s most).2 else none) := by
  have hco := hb.co y
  have hw : 0 ≤ 1048576 - s * co y b := by rcases hs with rfl | rfl <;> omega
  have hk : (((min (most : Int) (1048576 - s * co y b)).toNat + 1 : Nat) : Int) = min (most : Int) (1048576 - s * co y b) + 1 := by omega
  have h0 : Inv1 y b s most [] ((min (most : Int) (1048576 - s * co y b)).toNat + 1) := inv1_nil hs hb hk
  have h1 : Inv1 y b s most (ends bs rs b) (firstR y b s most (min (most : Int) (1048576 - s * co y b)).toNat (ends bs rs b)) := by
    have := inv1_fold (ends bs rs b) [] _ h0
    rwa [List.nil_append] at this
  have h2 : Inv2 y b s most (ends bs rs b) (others bs b) (firstO y b s most (firstR y b s most (min (most : Int) (1048576 - s * co y b)).toNat (ends bs rs b)) (others bs b)).1 (firstO y b s most (firstR y b s most (min (most : Int) (1048576 - s * co y b)).toNat (ends bs rs b)) (others bs b)).2 := by
    have := inv2_fold (others bs b) [] (firstR y b s most (min (most : Int) (1048576 - s * co y b)).toNat (ends bs rs b), -1) (fun o ho => (hbs o (List.mem_filter.1 (show o ∈ others bs b by simpa using ho)).1).1.1) (inv2_nil h1)
    rwa [List.nil_append] at this
  unfold runP
  generalize firstO y b s most (firstR y b s most (min (most : Int) (1048576 - s * co y b)).toNat (ends bs rs b)) (others bs b) = q at h2
  have h3 := run_done (bs := bs) (rs := rs) h2
  have h4 := h2.1
  have h5 := h2.2.1
  refine ⟨by show q.1 - 1 ≤ most; omega, ?_⟩
  rw [h3]
  show _ = (q.1 - 1, if q.1 - 1 < most then some q.2 else none)
  by_cases h : q.1 ≤ most
  · rw [if_pos h, if_pos (by omega)]
  · rw [if_neg h, if_neg (by omega)]
theorem ends_mem {bs : List KB} {rs : List KR} {b : KB} {p : KB × Int} (hb : okB b) (hbs : ∀ o ∈ bs, okB o) (hrs : ∀ r ∈ rs, okR bs r) (h : p ∈ ends bs rs b) : okB p.1 ∧ dist b p.1 ≤ p.2 ∧ 0 ≤ p.2 ∧ p.2 ≤ 35184372088832 := by
  obtain ⟨r, hr, he⟩ := List.mem_filterMap.1 h
  unfold endOf at he
  split at he
  · cases hf : findB bs (endId b r) with
    | none => rw [hf] at he; cases he
    | some o =>
      rw [hf] at he
      simp only [Option.map_some, Option.some.injEq] at he
      subst he
      have ho := hbs o (List.mem_of_find?_eq_some hf)
      have h1 := dist_bd hb.mid ho.mid
      have h2 := (rope_ids hbs (hrs r hr)).2.2
      have h3 := sq_bd (x := r.len) (B := 2097152) (by omega) (by omega)
      exact ⟨ho, by show dist b o ≤ max _ _; omega, by show 0 ≤ max _ _; omega, by show max _ _ ≤ _; omega⟩
  · cases he
theorem others_mem {bs : List KB} {b o : KB} (hbs : ∀ o ∈ bs, okB o) (h : o ∈ others bs b) : okB o ∧ ¬ over b o := by
  obtain ⟨h1, h2⟩ := List.mem_filter.1 h
  simp at h2
  exact ⟨hbs o h1, fun h => h2.2 ((over_comm b o).1 h)⟩
theorem mem_pre {α : Type} {pre xs : List α} {x : α} (h : ∃ ys, ys = xs ∧ pre ++ [x] <+: ys) : x ∈ xs := by
  obtain ⟨_, rfl, h⟩ := h
  exact h.subset (List.mem_append_right _ (List.mem_singleton.2 rfl))
theorem runP_M {bs : List KB} {rs : List KR} {b : KB} {y : Bool} {n s : Int} {m : Nat} (hs : s = sgn n) (hm : max n (0 - n) = (m : Int)) (hb : okB b) (hbs : ∀ o ∈ bs, okB o) :
    (runP bs rs b y s m).1 ≤ m ∧ (runM bs rs b y n).1 = (runP bs rs b y s m).1 ∧ (runM bs rs b y n).2 = if (runP bs rs b y s m).1 < m then some (runP bs rs b y s m).2 else none := by
  have h := runP_spec (rs := rs) (y := y) (most := m) (hs ▸ sgn_or n : s = 1 ∨ s = -1) hb hbs
  have hmn : n.natAbs = m := by omega
  refine ⟨h.1, ?_⟩
  unfold runM
  rw [hmn, ← hs, h.2]
  exact ⟨rfl, rfl⟩
section
variable {rs : List KR} {B : List KB} {k : Nat} {id : Int} {y : Bool} {q : KB × List KS × Int × Int} {C C2 : KB} {S T : List KS} {vx vy n s : Int} {m : Nat} {u : Nat × Int}
theorem inner_yes (hC : C = q.1) (hT : T = S ++ q.2.1) (hx : vx = q.2.2.1) (hy : vy = q.2.2.2) (hn : n = if y then vy else vx) (hs : s = sgn n) (hm : max n (0 - n) = (m : Int)) (hu : runP (B.set k C) rs C y s m = u) (hC2 : sh y C (s * (u.1 : Nat)) = C2)
    (hok : okB C) (hbs : ∀ o ∈ B.set k C, okB o) (hlt : u.1 < m) : C2 = (innerStep rs B k id y q).1 ∧ T ++ [⟨id, if y then 2 else 1, u.2⟩] = S ++ (innerStep rs B k id y q).2.1 ∧ (if y then vx else 0) = (innerStep rs B k id y q).2.2.1 ∧ (if y then 0 else vy) = (innerStep rs B k id y q).2.2.2 := by
  obtain ⟨_, h1, h2⟩ := runP_M (rs := rs) (y := y) hs hm hok hbs
  rw [hu] at h1 h2
  rw [if_pos hlt] at h2
  subst hC; subst hx; subst hy; subst hs; subst hC2; subst hT; subst hn
  unfold innerStep
  simp only [h1, h2, stopL, keepV]
  exact ⟨trivial, by simp, trivial, trivial⟩
theorem inner_no (hC : C = q.1) (hT : T = S ++ q.2.1) (hx : vx = q.2.2.1) (hy : vy = q.2.2.2) (hn : n = if y then vy else vx) (hs : s = sgn n) (hm : max n (0 - n) = (m : Int)) (hu : runP (B.set k C) rs C y s m = u) (hC2 : sh y C (s * (u.1 : Nat)) = C2)
    (hok : okB C) (hbs : ∀ o ∈ B.set k C, okB o) (hlt : ¬ u.1 < m) : C2 = (innerStep rs B k id y q).1 ∧ T = S ++ (innerStep rs B k id y q).2.1 ∧ vx = (innerStep rs B k id y q).2.2.1 ∧ vy = (innerStep rs B k id y q).2.2.2 := by
  obtain ⟨_, h1, h2⟩ := runP_M (rs := rs) (y := y) hs hm hok hbs
  rw [hu] at h1 h2
  rw [if_neg hlt] at h2
  subst hC; subst hx; subst hy; subst hs; subst hC2; subst hT; subst hn
  unfold innerStep
  simp only [h1, h2, stopL, keepV]
  refine ⟨trivial, by simp, ?_, ?_⟩ <;> cases y <;> rfl
/-- the moved body is a body again -/
theorem inner_ok (hs : s = sgn n) (hm : max n (0 - n) = (m : Int)) (hu : runP (B.set k C) rs C y s m = u) (hC2 : sh y C (s * (u.1 : Nat)) = C2) (hok : okB C) (hbs : ∀ o ∈ B.set k C, okB o) : okB C2 := by
  obtain ⟨_, h1, _⟩ := runP_M (rs := rs) (y := y) hs hm hok hbs
  rw [hu] at h1
  rw [← hC2, hs, ← h1]
  exact runM_ok hok
end
theorem innerK_succ (rs : List KR) (B : List KB) (k : Nat) (b : KB) (nx ny : Int) (y : Bool) : innerK rs B k b nx ny (y.toNat + 1) = innerStep rs B k b.id y (innerK rs B k b nx ny y.toNat) := by cases y <;> rfl
theorem next_fixed {rs : List KR} {gx gy : Int} {bs B : List KB} {S : List KS} {k : Nat} {x : KB} (hB : B = (stepsTo rs gx gy bs k).1) (hS : S = (stepsTo rs gx gy bs k).2) (hx : B[k]? = some x) (hf : x.fixed = true) :
    B = (stepsTo rs gx gy bs (k + 1)).1 ∧ S = (stepsTo rs gx gy bs (k + 1)).2 := by
  have e : stepAt rs gx gy B k = (B, []) := by unfold stepAt; rw [hx]; simp only; rw [if_pos hf]
  have e2 : stepsTo rs gx gy bs (k + 1) = ((stepAt rs gx gy B k).1, S ++ (stepAt rs gx gy B k).2) := by rw [hB, hS]; rfl
  rw [e2, e]; exact ⟨rfl, by simp⟩
theorem next_move {rs : List KR} {gx gy : Int} {bs B : List KB} {S T : List KS} {k : Nat} {x C : KB} {vx vy nx ny : Int} (hB : B = (stepsTo rs gx gy bs k).1) (hS : S = (stepsTo rs gx gy bs k).2) (hx : B[k]? = some x) (hf : x.fixed = false)
    (hnx : nx = speedX x gx gy) (hny : ny = speedY x gx gy) (hC : C = (innerK rs B k x nx ny 2).1) (hT : T = S ++ (innerK rs B k x nx ny 2).2.1) (hvx : vx = (innerK rs B k x nx ny 2).2.2.1) (hvy : vy = (innerK rs B k x nx ny 2).2.2.2) :
    B.set k (withV C vx vy) = (stepsTo rs gx gy bs (k + 1)).1 ∧ T = (stepsTo rs gx gy bs (k + 1)).2 := by
  have e : stepAt rs gx gy B k = (B.set k (withV C vx vy), (innerK rs B k x nx ny 2).2.1) := by
    unfold stepAt; rw [hx]; simp only; rw [if_neg (by rw [hf]; simp), hC, hvx, hvy, hnx, hny]; rfl
  have e2 : stepsTo rs gx gy bs (k + 1) = ((stepAt rs gx gy B k).1, S ++ (stepAt rs gx gy B k).2) := by rw [hB, hS]; rfl
  rw [e2, e]; exact ⟨rfl, hT⟩
theorem set_self {α : Type} {xs : List α} {k : Nat} {x : α} (h : xs[k]? = some x) : xs.set k x = xs := by
  obtain ⟨hl, e⟩ := List.getElem?_eq_some_iff.1 h
  rw [← e]; exact List.set_getElem_self hl
theorem get_set {α : Type} {xs : List α} {k : Nat} (x : α) (h : k < xs.length) : (xs.set k x)[k]? = some x := by rw [List.getElem?_set_self h]
theorem speed_bd (b : KB) (gx gy : Int) : (-4096 ≤ speedX b gx gy ∧ speedX b gx gy ≤ 4096) ∧ (-4096 ≤ speedY b gx gy ∧ speedY b gx gy ≤ 4096) := by
  unfold speedX speedY clampS
  constructor <;> split <;> omega
theorem okB_withV {b : KB} (h : okB b) (hf : b.fixed = false) {vx vy : Int} (hx : -4096 ≤ vx ∧ vx ≤ 4096) (hy : -4096 ≤ vy ∧ vy ≤ 4096) : okB (withV b vx vy) :=
  ⟨h.1, h.2.1, h.2.2.1, hx, hy, h.2.2.2.2.2.1, h.2.2.2.2.2.2.1, h.2.2.2.2.2.2.2.1, fun e => by rw [show (withV b vx vy).fixed = b.fixed from rfl, hf] at e; cases e⟩
theorem nil_empty {α : Type} {R : Rp α} {h : PHeap} {a : Option Addr} {xs : List α} (he : Elems R h a xs) (hn : a.isNone = true) : xs = [] := by
  cases xs with
  | nil => rfl
  | cons x xs => rw [(he 0 x rfl).1] at hn; cases hn
end Go.Stp

namespace Go.Stp
open Go.Sl
structure KF where
  x : Int
  y : Int
  vx : Int
  vy : Int
  w : UInt8
  h : UInt8
  round : Bool
  fixed : Bool
def okF (f : KF) : Prop := (-128 ≤ f.x ∧ f.x ≤ 127) ∧ (-128 ≤ f.y ∧ f.y ≤ 127) ∧ (-128 ≤ f.vx ∧ f.vx ≤ 127) ∧ (-128 ≤ f.vy ∧ f.vy ≤ 127)
abbrev I8x (x : Int) : Value := .int .i8 x
abbrev formE (f : KF) : List Value := [I8x f.x, I8x f.y, I8x f.vx, I8x f.vy, Bx f.w, Bx f.h, .bool f.round, .bool f.fixed]
def FormR : Rp KF := ⟨8, fun _ cs f => cs = formE f ∧ okF f, fun _ _ _ h => by rw [h.1]; rfl, fun _ _ _ _ _ h => h⟩
def madeB (f : KF) (i : Nat) : KB :=
  ⟨((1 + 2 * i : Nat) : Int), 3 * f.x, 3 * f.y, if f.fixed then 0 else f.vx, if f.fixed then 0 else f.vy, ((1 + f.w.toNat % 40 : Nat) : Int), if f.round then ((1 + f.w.toNat % 40 : Nat) : Int) else ((1 + f.h.toNat % 40 : Nat) : Int), f.round, f.fixed⟩
theorem madeB_ok {f : KF} (h : okF f) {i : Nat} (hi : i < 16) : okB (madeB f i) := by
  obtain ⟨h1, h2, h3, h4⟩ := h
  unfold madeB okB
  simp only
  refine ⟨by omega, by omega, by omega, ?_, ?_, by omega, ?_, ?_, ?_⟩
  · split <;> omega
  · split <;> omega
  · split <;> omega
  · intro h; rw [if_pos h]
  · intro h; rw [if_pos h, if_pos h]; exact ⟨rfl, rfl⟩
theorem madeB_x {f : KF} (h : okF f) (i : Nat) : (-1000 ≤ (madeB f i).x ∧ (madeB f i).x ≤ 1000) ∧ -1000 ≤ (madeB f i).y ∧ (madeB f i).y ≤ 1000 := by
  have := h.1
  have := h.2.1
  show (-1000 ≤ 3 * f.x ∧ 3 * f.x ≤ 1000) ∧ -1000 ≤ 3 * f.y ∧ 3 * f.y ≤ 1000
  omega
/-- bodies as Made makes them: the IDs 1, 3, 5 .. -/
def madeL (bs : List KB) : Prop := (∀ i b, bs[i]? = some b → b.id = ((1 + 2 * i : Nat) : Int)) ∧ (∀ b ∈ bs, okB b) ∧ ∀ b ∈ bs, (-1000 ≤ b.x ∧ b.x ≤ 1000) ∧ -1000 ≤ b.y ∧ b.y ≤ 1000
theorem madeL_nil : madeL [] := ⟨(fun i b h => by simp at h), (fun b h => (List.not_mem_nil h).elim), (fun b h => (List.not_mem_nil h).elim)⟩
theorem madeL_snoc {bs : List KB} (h : madeL bs) {b : KB} (hid : b.id = ((1 + 2 * bs.length : Nat) : Int)) (hb : okB b) (hx : (-1000 ≤ b.x ∧ b.x ≤ 1000) ∧ -1000 ≤ b.y ∧ b.y ≤ 1000) : madeL (bs ++ [b]) := by
  refine ⟨fun i z hz => ?_, fun z hz => ?_, fun z hz => (List.mem_append.1 hz).elim (h.2.2 z) fun e => by rw [List.mem_singleton.1 e]; exact hx⟩
  · by_cases hi : i < bs.length
    · rw [List.getElem?_append_left hi] at hz; exact h.1 i z hz
    · have hl := (List.getElem?_eq_some_iff.1 hz).1
      have : i = bs.length := by simp at hl; omega
      subst this
      simp at hz; rw [← hz]; exact hid
  · rcases List.mem_append.1 hz with hz | hz
    · exact h.2.1 z hz
    · rw [List.mem_singleton.1 hz]; exact hb
theorem madeL_ord {bs : List KB} (h : madeL bs) : ordB bs := fun i a b ha hb => by rw [h.1 i a ha, h.1 (i + 1) b hb]; omega
/-- a rope between two of n bodies -/
def madeR (n : Nat) (r : KR) : Prop := ∃ a b : Nat, a < b ∧ b < n ∧ r.a = ((1 + 2 * a : Nat) : Int) ∧ r.b = ((1 + 2 * b : Nat) : Int) ∧ 200 ≤ r.len ∧ r.len ≤ 455
theorem madeR_ok {bs : List KB} (h : madeL bs) {r : KR} (hr : madeR bs.length r) : okR bs r := by
  obtain ⟨a, b, hab, hb, ea, eb, h1, h2⟩ := hr
  have key : ∀ i : Nat, i < bs.length → (findB bs ((1 + 2 * i : Nat) : Int)).isSome := fun i hi => by
    rw [findB_iff]; exact ⟨bs[i], List.getElem_mem hi, h.1 i _ (List.getElem?_eq_getElem hi)⟩
  exact ⟨by rw [ea]; exact key a (by omega), by rw [eb]; exact key b hb, by rw [ea, eb]; omega, by omega, by omega⟩
/-- what Made makes -/
structure MadeP (bs : List KB) (rs : List KR) (gx gy : Int) : Prop where
  ok : okS bs rs gx gy
  bodies : madeL bs
  few : bs.length ≤ 16
  ropes : rs.length ≤ 6
theorem madeP_mk {bs : List KB} {rs : List KR} {gx gy : Int} (h : madeL bs) (hr : ∀ r ∈ rs, madeR bs.length r) (h1 : bs.length ≤ 16) (h2 : rs.length ≤ 6) (hx : -31 ≤ gx ∧ gx ≤ 31) (hy : -31 ≤ gy ∧ gy ≤ 31) : MadeP bs rs gx gy :=
  ⟨⟨by omega, by omega, ⟨by omega, by omega, by omega, by omega⟩, h.2.1, madeL_ord h, fun r hr' => madeR_ok h (hr r hr')⟩, h, h1, h2⟩
theorem tmod_bd (x : Int) : -31 ≤ x.tmod 32 ∧ x.tmod 32 ≤ 31 := by
  have h1 := Int.tmod_lt_of_pos x (b := 32) (by decide)
  have h2 := Int.lt_tmod_of_pos x (b := 32) (by decide)
  omega
/-! What a step keeps. -/
theorem innerK_keeps {rs : List KR} {B : List KB} {k : Nat} {b : KB} {nx ny : Int} (hb : okB b) (hx : -4096 ≤ nx ∧ nx ≤ 4096) (hy : -4096 ≤ ny ∧ ny ≤ 4096) : ∀ j,
    okB (innerK rs B k b nx ny j).1 ∧ (innerK rs B k b nx ny j).1.id = b.id ∧ (innerK rs B k b nx ny j).1.fixed = b.fixed ∧ (-4096 ≤ (innerK rs B k b nx ny j).2.2.1 ∧ (innerK rs B k b nx ny j).2.2.1 ≤ 4096) ∧ (-4096 ≤ (innerK rs B k b nx ny j).2.2.2 ∧ (innerK rs B k b nx ny j).2.2.2 ≤ 4096)
  | 0 => ⟨hb, rfl, rfl, hx, hy⟩
  | j + 1 => by
    obtain ⟨h1, h2, h3, h4, h5⟩ := innerK_keeps (rs := rs) (B := B) (k := k) hb hx hy j
    show okB (innerStep rs B k b.id (j == 1) (innerK rs B k b nx ny j)).1 ∧ _
    generalize hq : innerK rs B k b nx ny j = q at h1 h2 h3 h4 h5
    have e : innerK rs B k b nx ny (j + 1) = innerStep rs B k b.id (j == 1) q := by rw [← hq]; rfl
    rw [e]
    unfold innerStep
    refine ⟨runM_ok h1, by rw [← h2]; exact sh_id _ _ _, by rw [← h3]; exact (sh_vel _ _ _).2.2, ?_, ?_⟩
    · simp only
      split
      · exact h4
      · unfold keepV; split
        · exact h4
        · exact ⟨by decide, by decide⟩
    · simp only
      split
      · unfold keepV; split
        · exact h5
        · exact ⟨by decide, by decide⟩
      · exact h5
theorem stepAt_cases (rs : List KR) (gx gy : Int) (B : List KB) (k : Nat) : stepAt rs gx gy B k = (B, []) ∧ (∀ b, B[k]? = some b → b.fixed = true) ∨ ∃ b, B[k]? = some b ∧ b.fixed = false ∧
    stepAt rs gx gy B k = (B.set k (withV (innerK rs B k b (speedX b gx gy) (speedY b gx gy) 2).1 (innerK rs B k b (speedX b gx gy) (speedY b gx gy) 2).2.2.1 (innerK rs B k b (speedX b gx gy) (speedY b gx gy) 2).2.2.2), (innerK rs B k b (speedX b gx gy) (speedY b gx gy) 2).2.1) := by
  unfold stepAt
  cases hk : B[k]? with
  | none => exact .inl ⟨rfl, fun b hb => by cases hb⟩
  | some b =>
    simp only
    cases hf : b.fixed with
    | true => exact .inl ⟨rfl, fun c hc => by injection hc with hc; rw [← hc]; exact hf⟩
    | false => exact .inr ⟨b, rfl, hf, rfl⟩
theorem step_keeps {rs : List KR} {gx gy : Int} {bs : List KB} (hbs : ∀ o ∈ bs, okB o) : ∀ k, SameIds (stepsTo rs gx gy bs k).1 bs ∧ ∀ o ∈ (stepsTo rs gx gy bs k).1, okB o
  | 0 => ⟨rfl, hbs⟩
  | k + 1 => by
    obtain ⟨h1, h2⟩ := step_keeps hbs k
    show SameIds (stepAt rs gx gy (stepsTo rs gx gy bs k).1 k).1 bs ∧ ∀ o ∈ (stepAt rs gx gy (stepsTo rs gx gy bs k).1 k).1, okB o
    rcases stepAt_cases rs gx gy (stepsTo rs gx gy bs k).1 k with ⟨e, _⟩ | ⟨b, hb, hf, e⟩
    · rw [e]; exact ⟨h1, h2⟩
    · rw [e]
      have hs := speed_bd b gx gy
      obtain ⟨q1, q2, q3, q4, q5⟩ := innerK_keeps (rs := rs) (B := (stepsTo rs gx gy bs k).1) (k := k) (h2 b (List.mem_of_getElem? hb)) hs.1 hs.2 2
      exact ⟨h1.set hb q2, okB_set h2 (okB_withV q1 (q3.trans hf) q4 q5)⟩
theorem ordB_ids {B C : List KB} (h : SameIds B C) (hc : ordB C) : ordB B := fun i a b ha hb => by
  have key : ∀ {i : Nat} {a : KB}, B[i]? = some a → ∃ c, C[i]? = some c ∧ c.id = a.id := fun {i a} ha => by
    have := congrArg (·[i]?) h
    simp only [List.getElem?_map, ha, Option.map_some] at this
    cases hc : C[i]? with
    | none => rw [hc] at this; cases this
    | some c => rw [hc] at this; injection this with this; exact ⟨c, rfl, this.symm⟩
  obtain ⟨c, h1, e1⟩ := key ha
  obtain ⟨d, h2, e2⟩ := key hb
  rw [← e1, ← e2]; exact hc i c d h1 h2
end Go.Stp

namespace Go.Stp
open Go.Sl
/-- no two bodies overlap -/
def apartP (bs : List KB) : Prop := ∀ (i j : Nat) (a b : KB), i ≠ j → bs[i]? = some a → bs[j]? = some b → ¬ over a b
theorem run_shift (bs : List KB) (rs : List KR) (b : KB) (y : Bool) (n : Int) : min n 0 ≤ sgn n * ((runM bs rs b y n).1 : Nat) ∧ sgn n * ((runM bs rs b y n).1 : Nat) ≤ max n 0 := by
  have h := run_le bs rs b y n
  generalize (runM bs rs b y n).1 = u at h
  unfold sgn; split <;> omega
theorem ord_ne {B : List KB} (ho : ordB B) {i k : Nat} {o b : KB} (hik : i ≠ k) (hi : B[i]? = some o) (hk : B[k]? = some b) : o.id ≠ b.id := by
  rcases Nat.lt_or_gt_of_ne hik with h | h
  · have := ho.lt h hi hk; omega
  · have := ho.lt h hk hi; omega
theorem stepAt_ne {rs : List KR} {gx gy : Int} {B : List KB} {k m : Nat} (h : m ≠ k) : (stepAt rs gx gy B m).1[k]? = B[k]? := by
  rcases stepAt_cases rs gx gy B m with ⟨e, _⟩ | ⟨b, _, _, e⟩
  · rw [e]
  · rw [e]; exact List.getElem?_set_ne h
theorem at_before {rs : List KR} {gx gy : Int} {bs : List KB} {k : Nat} : ∀ m, m ≤ k → (stepsTo rs gx gy bs m).1[k]? = bs[k]?
  | 0, _ => rfl
  | m + 1, h => by
    show (stepAt rs gx gy (stepsTo rs gx gy bs m).1 m).1[k]? = _
    rw [stepAt_ne (by omega), at_before m (by omega)]
theorem at_after {rs : List KR} {gx gy : Int} {bs : List KB} {k : Nat} : ∀ m, k < m → (stepsTo rs gx gy bs m).1[k]? = (stepAt rs gx gy (stepsTo rs gx gy bs k).1 k).1[k]?
  | 0, h => by omega
  | m + 1, h => by
    show (stepAt rs gx gy (stepsTo rs gx gy bs m).1 m).1[k]? = _
    by_cases e : m = k
    · rw [e]
    · rw [stepAt_ne e, at_after m (by omega)]
theorem set_same {B : List KB} {k : Nat} {b : KB} (h : B[k]? = some b) : B.set k b = B := by
  obtain ⟨hl, e⟩ := List.getElem?_eq_some_iff.1 h
  rw [← e]; exact List.set_getElem_self hl
/-- the two moves of a body -/
theorem inner2 {rs : List KR} {B : List KB} {k : Nat} {b : KB} {nx ny : Int} (hk : B[k]? = some b) : ∃ u v : Nat × Option Int, runM B rs b false nx = u ∧ runM (B.set k (sh false b (sgn nx * (u.1 : Nat)))) rs (sh false b (sgn nx * (u.1 : Nat))) true ny = v ∧
    innerK rs B k b nx ny 2 = (sh true (sh false b (sgn nx * (u.1 : Nat))) (sgn ny * (v.1 : Nat)), stopL b.id 1 u.2 ++ stopL b.id 2 v.2, keepV nx u.2, keepV ny v.2) := by
  have q1 : innerK rs B k b nx ny 1 = (sh false b (sgn nx * ((runM B rs b false nx).1 : Nat)), stopL b.id 1 (runM B rs b false nx).2, keepV nx (runM B rs b false nx).2, ny) := by
    show innerStep rs B k b.id false (b, [], nx, ny) = _
    unfold innerStep
    simp only [set_same hk, Bool.false_eq_true, if_false, List.nil_append]
  refine ⟨_, _, rfl, rfl, ?_⟩
  show innerStep rs B k b.id true (innerK rs B k b nx ny 1) = _
  rw [q1]
  unfold innerStep
  simp only [if_true]
/-- where a body may be behind a step -/
def near (gx gy : Int) (a b : KB) : Prop := (b.id = a.id ∧ b.w = a.w ∧ b.h = a.h ∧ b.round = a.round ∧ b.fixed = a.fixed) ∧ (a.fixed = true → b = a) ∧
  (min (speedX a gx gy) 0 ≤ b.x - a.x ∧ b.x - a.x ≤ max (speedX a gx gy) 0) ∧ (min (speedY a gx gy) 0 ≤ b.y - a.y ∧ b.y - a.y ≤ max (speedY a gx gy) 0)
theorem near_self (gx gy : Int) (a : KB) : near gx gy a a := ⟨⟨rfl, rfl, rfl, rfl, rfl⟩, fun _ => rfl, by omega, by omega⟩
/-- the body k behind its own moves -/
theorem stepAt_self {rs : List KR} {gx gy : Int} {B : List KB} {k : Nat} {a : KB} (hk : B[k]? = some a) : ∃ b, (stepAt rs gx gy B k).1[k]? = some b ∧ near gx gy a b := by
  have hl := (List.getElem?_eq_some_iff.1 hk).1
  rcases stepAt_cases rs gx gy B k with ⟨e, _⟩ | ⟨c, hc, hf, e⟩
  · rw [e]; exact ⟨a, hk, near_self gx gy a⟩
  · rw [hk] at hc
    injection hc with hc
    subst hc
    obtain ⟨u, v, hu, hv, hi⟩ := inner2 (rs := rs) (nx := speedX a gx gy) (ny := speedY a gx gy) hk
    rw [e, hi]
    refine ⟨_, List.getElem?_set_self hl, ⟨rfl, rfl, rfl, rfl, rfl⟩, fun h => (by rw [hf] at h; cases h), ?_, ?_⟩
    · have := run_shift B rs a false (speedX a gx gy)
      rw [hu] at this
      show min _ 0 ≤ a.x + sgn (speedX a gx gy) * (u.1 : Nat) - a.x ∧ a.x + sgn (speedX a gx gy) * (u.1 : Nat) - a.x ≤ _
      omega
    · have := run_shift (B.set k (sh false a (sgn (speedX a gx gy) * (u.1 : Nat)))) rs (sh false a (sgn (speedX a gx gy) * (u.1 : Nat))) true (speedY a gx gy)
      rw [hv] at this
      show min _ 0 ≤ a.y + sgn (speedY a gx gy) * (v.1 : Nat) - a.y ∧ a.y + sgn (speedY a gx gy) * (v.1 : Nat) - a.y ≤ _
      omega
theorem near_step {rs : List KR} {gx gy : Int} {bs : List KB} {k m : Nat} {a b : KB} (ha : bs[k]? = some a) (hb : (stepsTo rs gx gy bs m).1[k]? = some b) : near gx gy a b := by
  by_cases h : k < m
  · rw [at_after m h] at hb
    obtain ⟨c, hc, hn⟩ := stepAt_self (rs := rs) (gx := gx) (gy := gy) (B := (stepsTo rs gx gy bs k).1) (k := k) (a := a) (by rw [at_before k (Nat.le_refl _)]; exact ha)
    rw [hc] at hb
    injection hb with hb
    rw [← hb]; exact hn
  · rw [at_before m (by omega), ha] at hb
    injection hb with hb
    rw [← hb]; exact near_self gx gy a
/-- what the reach of a body is -/
structure KAs where
  lx : Int
  ly : Int
  hx : Int
  hy : Int
  deriving DecidableEq
def reachB (gx gy : Int) (a : KB) : KAs := ⟨a.x - a.w + min (speedX a gx gy) 0, a.y - a.h + min (speedY a gx gy) 0, a.x + a.w + max (speedX a gx gy) 0, a.y + a.h + max (speedY a gx gy) 0⟩
/-- bodies of the first k that do not overlap -/
def ClearP (bs : List KB) (k : Nat) (out : List KB) : Prop := out.Sublist (bs.take k) ∧ apartP out
theorem ClearP.len {bs out : List KB} {k : Nat} (h : ClearP bs k out) : out.length ≤ k := by have := h.1.length_le; rw [List.length_take] at this; omega
end Go.Stp

namespace Go.Stp
theorem over_box {a b : KB} (h : over a b) : (a.x - b.x ≤ a.w + b.w ∧ b.x - a.x ≤ a.w + b.w) ∧ a.y - b.y ≤ a.h + b.h ∧ b.y - a.y ≤ a.h + b.h := by
  obtain ⟨ha, hb, hf⟩ := h
  have wa := ha.2.2.2.2.2.1; have ha1 := ha.2.2.2.2.2.2.1; have wb := hb.2.2.2.2.2.1; have hb1 := hb.2.2.2.2.2.2.1
  have ra := ha.2.2.2.2.2.2.2.1; have rb := hb.2.2.2.2.2.2.2.1
  have key : ∀ {u s r : Int}, 0 ≤ u → 0 ≤ s → u * u + r < s * s → 0 ≤ r → u < s := fun {u s r} h1 h2 h3 h4 => by
    rcases Int.lt_or_le u s with h | h
    · exact h
    · have := sq_mono h2 h; omega
  have hx : a.x - b.x ≤ abs (a.x - b.x) ∧ b.x - a.x ≤ abs (a.x - b.x) := by unfold abs; omega
  have hy : a.y - b.y ≤ abs (a.y - b.y) ∧ b.y - a.y ≤ abs (a.y - b.y) := by unfold abs; omega
  have x0 := abs_nonneg (a.x - b.x); have y0 := abs_nonneg (a.y - b.y)
  unfold far room at hf
  generalize abs (a.x - b.x) = dx at *
  generalize abs (a.y - b.y) = dy at *
  have sx := Int.mul_nonneg x0 x0; have sy := Int.mul_nonneg y0 y0
  split at hf
  · rename_i hr
    have := ra hr
    split at hf
    · rename_i hs
      have := rb hs
      have k1 := key (u := dx) (s := a.w + b.w) (r := dy * dy) x0 (by omega) (by omega) sy
      have k2 := key (u := dy) (s := a.w + b.w) (r := dx * dx) y0 (by omega) (by omega) sx
      omega
    · have m1 := Int.mul_nonneg (show 0 ≤ max (dx - b.w) 0 by omega) (show 0 ≤ max (dx - b.w) 0 by omega)
      have m2 := Int.mul_nonneg (show 0 ≤ max (dy - b.h) 0 by omega) (show 0 ≤ max (dy - b.h) 0 by omega)
      have k1 := key (u := max (dx - b.w) 0) (s := a.w) (r := max (dy - b.h) 0 * max (dy - b.h) 0) (by omega) (by omega) (by omega) m2
      have k2 := key (u := max (dy - b.h) 0) (s := a.w) (r := max (dx - b.w) 0 * max (dx - b.w) 0) (by omega) (by omega) (by omega) m1
      omega
  · split at hf
    · rename_i hs
      have := rb hs
      have m1 := Int.mul_nonneg (show 0 ≤ max (dx - a.w) 0 by omega) (show 0 ≤ max (dx - a.w) 0 by omega)
      have m2 := Int.mul_nonneg (show 0 ≤ max (dy - a.h) 0 by omega) (show 0 ≤ max (dy - a.h) 0 by omega)
      have k1 := key (u := max (dx - a.w) 0) (s := b.w) (r := max (dy - a.h) 0 * max (dy - a.h) 0) (by omega) (by omega) (by omega) m2
      have k2 := key (u := max (dy - a.h) 0) (s := b.w) (r := max (dx - a.w) 0 * max (dx - a.w) 0) (by omega) (by omega) (by omega) m1
      omega
    · omega
def meets (r q : KAs) : Prop := r.lx ≤ q.hx ∧ q.lx ≤ r.hx ∧ r.ly ≤ q.hy ∧ q.ly ≤ r.hy
instance (r q : KAs) : Decidable (meets r q) := by unfold meets; infer_instance
/-- a body of which nothing comes near, and that has no rope -/
def aloneP (rs : List KR) (gx gy : Int) (bs : List KB) (i : Nat) (a : KB) : Prop := (∀ k o, k ≠ i → bs[k]? = some o → ¬ meets (reachB gx gy a) (reachB gx gy o)) ∧ ∀ r ∈ rs, r.a ≠ a.id ∧ r.b ≠ a.id
theorem stopL_ids (id : Int) (al : UInt8) (z : Option Int) : ∀ s ∈ stopL id al z, s.id = id ∧ s.along = al := fun s hs => by
  cases z with
  | none => cases hs
  | some x => simp [stopL] at hs; rw [hs]; exact ⟨rfl, rfl⟩
theorem stepAt_ids {rs : List KR} {gx gy : Int} {B : List KB} {k : Nat} : ∀ s ∈ (stepAt rs gx gy B k).2, (∃ b, B[k]? = some b ∧ s.id = b.id) ∧ (s.along = 1 ∨ s.along = 2) := fun s hs => by
  rcases stepAt_cases rs gx gy B k with ⟨e, _⟩ | ⟨c, hc, hf, e⟩
  · rw [e] at hs; cases hs
  · obtain ⟨u, v, _, _, hi⟩ := inner2 (rs := rs) (nx := speedX c gx gy) (ny := speedY c gx gy) hc
    rw [e, hi] at hs
    rcases List.mem_append.1 hs with hs | hs
    · have := stopL_ids _ _ _ s hs; exact ⟨⟨c, hc, this.1⟩, .inl this.2⟩
    · have := stopL_ids _ _ _ s hs; exact ⟨⟨c, hc, this.1⟩, .inr this.2⟩
/-- how many stops of a body along an axis there are -/
def cnt (S : List KS) (id : Int) (al : UInt8) : Nat := (S.filter fun s => decide (s.id = id)).countP fun s => decide (s.along = al)
/-- along one axis: not stopped and by the speed, or stopped once and by less -/
def fair (moved speed now : Int) (n : Nat) : Prop := n ≤ 1 ∧ (n = 0 → moved = speed ∧ now = speed) ∧ (n = 1 → now = 0 ∧ moved ≠ speed) ∧ min speed 0 ≤ moved ∧ moved ≤ max speed 0
/-- what a step makes of a body, and its stops -/
structure Freed (rs : List KR) (gx gy : Int) (bs : List KB) (S : List KS) (i : Nat) (a b : KB) : Prop where
  alone : aloneP rs gx gy bs i a → cnt S a.id 1 = 0 ∧ cnt S a.id 2 = 0
  fairX : a.fixed = false → fair (b.x - a.x) (speedX a gx gy) b.vx (cnt S a.id 1)
  fairY : a.fixed = false → fair (b.y - a.y) (speedY a gx gy) b.vy (cnt S a.id 2)
  few : cnt S a.id 1 ≤ 1 ∧ cnt S a.id 2 ≤ 1
end Go.Stp

namespace Go.Stp
/-- what a part keeps -/
def keepI (ids : List Int) (b : KB) : Bool := b.fixed || decide (b.id ∈ ids)
def ropesP (pb : List KB) (rs : List KR) : List KR := rs.filter fun r => (findB pb r.a).isSome && (findB pb r.b).isSome
/-- nothing that moves and is not of ids comes near one of ids, nor is roped to it -/
structure SepI (rs : List KR) (gx gy : Int) (bs : List KB) (ids : List Int) : Prop where
  box : ∀ a ∈ bs, ∀ o ∈ bs, a.fixed = false → o.fixed = false → a.id ∈ ids → ¬ o.id ∈ ids → ¬ meets (reachB gx gy a) (reachB gx gy o)
  rope : ∀ r ∈ rs, ∀ a ∈ bs, ∀ o ∈ bs, a.fixed = false → o.fixed = false → a.id ∈ ids → ¬ o.id ∈ ids → ¬ (r.a = a.id ∧ r.b = o.id) ∧ ¬ (r.b = a.id ∧ r.a = o.id)
theorem keepI_no {ids : List Int} {b : KB} (h : keepI ids b = false) : b.fixed = false ∧ ¬ b.id ∈ ids := by
  unfold keepI at h
  rw [Bool.or_eq_false_iff, decide_eq_false_iff_not] at h; exact h
theorem keepI_yes {ids : List Int} {b : KB} (h : b.fixed = true ∨ b.id ∈ ids) : keepI ids b = true := by
  unfold keepI
  rcases h with h | h
  · rw [h]; rfl
  · rw [decide_eq_true h]; simp
theorem find_congr {α : Type} {p q : α → Bool} : ∀ {l : List α}, (∀ x ∈ l, p x = q x) → l.find? p = l.find? q
  | [], _ => rfl
  | a :: l, h => by
    rw [List.find?_cons, List.find?_cons, h a List.mem_cons_self, find_congr fun x hx => h x (List.mem_cons_of_mem _ hx)]
theorem fmap_congr {α β : Type} {f g : α → Option β} : ∀ {l : List α}, (∀ x ∈ l, f x = g x) → l.filterMap f = l.filterMap g
  | [], _ => rfl
  | a :: l, h => by
    rw [List.filterMap_cons, List.filterMap_cons, h a List.mem_cons_self, fmap_congr fun x hx => h x (List.mem_cons_of_mem _ hx)]
theorem fs_congr {P Q : Nat → Option Int} : ∀ (n j : Nat), (∀ i, j < i → i ≤ j + n → P i = Q i) → firstStop P n j = firstStop Q n j
  | 0, _, _ => rfl
  | n + 1, j, h => by
    unfold firstStop
    rw [h (j + 1) (by omega) (by omega), fs_congr n (j + 1) fun i a b => h i (by omega) (by omega)]
/-- where bodies that are left out do not matter -/
theorem stop_part {ids : List Int} {C : List KB} {rs R : List KR} {b nb : KB} {p : KR → Bool} (hR : R = rs.filter p) (h1 : ∀ o ∈ C, keepI ids o = false → ¬ over nb o)
    (h2 : ∀ r ∈ rs, (r.a = b.id ∨ r.b = b.id) → p r = true ∧ ∀ o ∈ C, o.id = endId b r → keepI ids o = true) : stopB (C.filter (keepI ids)) R b nb = stopB C rs b nb := by
  have e1 : hit (C.filter (keepI ids)) b nb = hit C b nb := by
    unfold hit others
    congr 1
    rw [List.find?_filter, List.find?_filter, List.find?_filter]
    refine find_congr fun o ho => ?_
    cases hk : keepI ids o with
    | true => simp
    | false => simp [h1 o ho hk]
  have hf : ∀ r ∈ rs, (r.a = b.id ∨ r.b = b.id) → findB (C.filter (keepI ids)) (endId b r) = findB C (endId b r) := fun r hr he => by
    unfold findB
    rw [List.find?_filter]
    refine find_congr fun o ho => ?_
    by_cases e : o.id = endId b r
    · rw [(h2 r hr he).2 o ho e]; simp [e]
    · simp [e]
  have e2 : ends (C.filter (keepI ids)) R b = ends C rs b := by
    unfold ends
    rw [hR, List.filterMap_filter]
    refine fmap_congr fun r hr => ?_
    by_cases he : r.a = b.id ∨ r.b = b.id
    · rw [(h2 r hr he).1, if_pos rfl]
      unfold endOf
      rw [hf r hr he]
    · rw [not_or] at he
      rw [endOf_skip he.1 he.2, endOf_skip he.1 he.2]; simp
  unfold stopB held
  rw [e1, e2]
/-- among what is kept -/
theorem filt_at {keep : KB → Bool} {B : List KB} {m : Nat} {b : KB} (hb : B[m]? = some b) (hk : keep b = true) : (B.filter keep)[((B.take m).filter keep).length]? = some b := by
  obtain ⟨hl, e⟩ := List.getElem?_eq_some_iff.1 hb
  have hs : B = B.take m ++ b :: B.drop (m + 1) := by rw [← e, ← List.drop_eq_getElem_cons, List.take_append_drop]
  have : B.filter keep = (B.take m).filter keep ++ b :: (B.drop (m + 1)).filter keep := by
    conv => lhs; rw [hs]
    rw [List.filter_append, List.filter_cons_of_pos hk]
  rw [this, List.getElem?_append_right (Nat.le_refl _), Nat.sub_self]; rfl
theorem filt_set {keep : KB → Bool} {B : List KB} {m : Nat} {b c : KB} (hb : B[m]? = some b) (hk : keep b = true) (hc : keep c = true) : (B.set m c).filter keep = (B.filter keep).set ((B.take m).filter keep).length c := by
  obtain ⟨hl, e⟩ := List.getElem?_eq_some_iff.1 hb
  have hs : B = B.take m ++ b :: B.drop (m + 1) := by rw [← e, ← List.drop_eq_getElem_cons, List.take_append_drop]
  have hm : (B.take m).length = m := by rw [List.length_take]; omega
  have h1 : B.set m c = B.take m ++ c :: B.drop (m + 1) := by
    conv => lhs; rw [hs]
    rw [List.set_append_right _ _ (by omega), hm, Nat.sub_self]; rfl
  have h2 : B.filter keep = (B.take m).filter keep ++ b :: (B.drop (m + 1)).filter keep := by
    conv => lhs; rw [hs]
    rw [List.filter_append, List.filter_cons_of_pos hk]
  rw [h1, h2, List.filter_append, List.filter_cons_of_pos hc, List.set_append_right _ _ (Nat.le_refl _), Nat.sub_self]; rfl
theorem filt_out {keep : KB → Bool} {B : List KB} {m : Nat} {b c : KB} (hb : B[m]? = some b) (hk : keep b = false) (hc : keep c = false) : (B.set m c).filter keep = B.filter keep := by
  obtain ⟨hl, e⟩ := List.getElem?_eq_some_iff.1 hb
  have hs : B = B.take m ++ b :: B.drop (m + 1) := by rw [← e, ← List.drop_eq_getElem_cons, List.take_append_drop]
  have hm : (B.take m).length = m := by rw [List.length_take]; omega
  have h1 : B.set m c = B.take m ++ c :: B.drop (m + 1) := by
    conv => lhs; rw [hs]
    rw [List.set_append_right _ _ (by omega), hm, Nat.sub_self]; rfl
  have h2 : B.filter keep = (B.take m).filter keep ++ (B.drop (m + 1)).filter keep := by
    conv => lhs; rw [hs]
    rw [List.filter_append, List.filter_cons_of_neg (by rw [hk]; decide)]
  rw [h1, h2, List.filter_append, List.filter_cons_of_neg (by rw [hc]; decide)]
theorem run_part {ids : List Int} {C : List KB} {rs R : List KR} {b : KB} {y : Bool} {n : Int} {p : KR → Bool} (hR : R = rs.filter p) (h1 : ∀ j : Nat, j ≤ n.natAbs → ∀ o ∈ C, keepI ids o = false → ¬ over (sh y b (sgn n * j)) o)
    (h2 : ∀ r ∈ rs, (r.a = b.id ∨ r.b = b.id) → p r = true ∧ ∀ o ∈ C, o.id = endId b r → keepI ids o = true) : runM (C.filter (keepI ids)) R b y n = runM C rs b y n := by
  unfold runM
  exact fs_congr _ _ fun i _ hi => stop_part hR (h1 i (by omega)) h2
/-- the moves of one body of the part -/
theorem inner_part {ids : List Int} {rs : List KR} {gx gy : Int} {bs : List KB} (hok : okS bs rs gx gy) (hs : SepI rs gx gy bs ids) {m : Nat} {a : KB} (ha : bs[m]? = some a) (hf : a.fixed = false) (hid : a.id ∈ ids) :
    innerK (ropesP (bs.filter (keepI ids)) rs) ((stepsTo rs gx gy bs m).1.filter (keepI ids)) (((stepsTo rs gx gy bs m).1.take m).filter (keepI ids)).length a (speedX a gx gy) (speedY a gx gy) 2
      = innerK rs (stepsTo rs gx gy bs m).1 m a (speedX a gx gy) (speedY a gx gy) 2 := by
  have hB : (stepsTo rs gx gy bs m).1[m]? = some a := by rw [at_before m (Nat.le_refl _)]; exact ha
  have hnear : ∀ (k : Nat) (o : KB), (stepsTo rs gx gy bs m).1[k]? = some o → ∃ o0, bs[k]? = some o0 ∧ near gx gy o0 o := fun k o ho => by
    have hl := (List.getElem?_eq_some_iff.1 ho).1
    have hlen : (stepsTo rs gx gy bs m).1.length = bs.length := (step_keeps hok.2.2.2.1 m).1.len
    exact ⟨bs[k]'(by omega), List.getElem?_eq_getElem (by omega), near_step (List.getElem?_eq_getElem (by omega)) ho⟩
  generalize (stepsTo rs gx gy bs m).1 = B at hB hnear
  have ham := List.mem_of_getElem? ha
  have hml := (List.getElem?_eq_some_iff.1 hB).1
  have hka : keepI ids a = true := keepI_yes (.inr hid)
  have hP := filt_at hB hka
  -- a body left out is not met
  have key : ∀ nb : KB, nb.w = a.w → nb.h = a.h → (min (speedX a gx gy) 0 ≤ nb.x - a.x ∧ nb.x - a.x ≤ max (speedX a gx gy) 0) → (min (speedY a gx gy) 0 ≤ nb.y - a.y ∧ nb.y - a.y ≤ max (speedY a gx gy) 0) → ∀ (k : Nat) (o : KB), B[k]? = some o → keepI ids o = false → ¬ over nb o := fun nb hw hh hx hy k o hk hn hov => by
    obtain ⟨o0, ho0, ⟨n1, n2, n3, _, n6⟩, _, n4, n5⟩ := hnear k o hk
    obtain ⟨g1, g2⟩ := keepI_no hn
    have hb := over_box hov
    refine hs.box a ham o0 (List.mem_of_getElem? ho0) hf (by rw [← n6]; exact g1) hid (by rw [← n1]; exact g2) ?_
    unfold meets reachB
    simp only
    omega
  -- the ropes
  have hrope : ∀ (C : List KB) (q : KB), (∀ o ∈ C, ∃ o0 ∈ bs, o.id = o0.id ∧ o.fixed = o0.fixed) → q.id = a.id → ∀ r ∈ rs, (r.a = q.id ∨ r.b = q.id) → ((findB (bs.filter (keepI ids)) r.a).isSome && (findB (bs.filter (keepI ids)) r.b).isSome) = true ∧ ∀ o ∈ C, o.id = endId q r → keepI ids o = true := fun C q hC hq r hr he => by
    have hkeep : ∀ o ∈ bs, o.id = endId q r → keepI ids o = true := fun o ho e => by
      cases hk : keepI ids o with
      | true => rfl
      | false =>
        obtain ⟨g1, g2⟩ := keepI_no hk
        have := hs.rope r hr a ham o ho hf g1 hid g2
        unfold endId at e
        rcases he with he | he
        · exact absurd ⟨by omega, by omega⟩ this.1
        · exact absurd ⟨by omega, by omega⟩ this.2
    have hfound : ∀ i : Int, (findB bs i).isSome = true → (i = a.id ∨ i = endId q r) → (findB (bs.filter (keepI ids)) i).isSome = true := fun i hi hc => by
      rw [findB_iff] at hi ⊢
      obtain ⟨o, ho, e⟩ := hi
      rcases hc with hc | hc
      · exact ⟨a, List.mem_filter.2 ⟨ham, hka⟩, hc.symm⟩
      · exact ⟨o, List.mem_filter.2 ⟨ho, hkeep o ho (e.trans hc)⟩, e⟩
    have hrok := hok.2.2.2.2.2 r hr
    refine ⟨?_, fun o ho e => ?_⟩
    · rw [Bool.and_eq_true]
      unfold endId at hfound
      rcases he with he | he
      · exact ⟨hfound _ hrok.1 (.inl (by omega)), hfound _ hrok.2.1 (.inr (by omega))⟩
      · exact ⟨hfound _ hrok.1 (.inr (by omega)), hfound _ hrok.2.1 (.inl (by omega))⟩
    · obtain ⟨o0, ho0, e1, e2⟩ := hC o ho
      have := hkeep o0 ho0 (by rw [← e1]; exact e)
      unfold keepI at this ⊢
      rw [e1, e2]; exact this
  have hCB : ∀ o ∈ B, ∃ o0 ∈ bs, o.id = o0.id ∧ o.fixed = o0.fixed := fun o ho => by
    obtain ⟨k, hk⟩ := List.getElem?_of_mem ho
    obtain ⟨o0, h1, ⟨n1, _, _, _, n6⟩, _⟩ := hnear k o hk
    exact ⟨o0, List.mem_of_getElem? h1, n1, n6⟩
  obtain ⟨u, v, hu, hv, hi⟩ := inner2 (rs := rs) (nx := speedX a gx gy) (ny := speedY a gx gy) hB
  obtain ⟨u', v', hu', hv', hi'⟩ := inner2 (rs := ropesP (bs.filter (keepI ids)) rs) (nx := speedX a gx gy) (ny := speedY a gx gy) hP
  have eu : u' = u := by
    rw [← hu', ← hu]
    refine run_part rfl (fun j hj o ho hn => ?_) (hrope B a hCB rfl)
    obtain ⟨k, hk⟩ := List.getElem?_of_mem ho
    refine key (sh false a (sgn (speedX a gx gy) * (j : Int))) rfl rfl ?_ ?_ k o hk hn
    · show min _ 0 ≤ a.x + sgn (speedX a gx gy) * (j : Int) - a.x ∧ a.x + sgn (speedX a gx gy) * (j : Int) - a.x ≤ _
      unfold sgn; split <;> omega
    · show min _ 0 ≤ a.y - a.y ∧ a.y - a.y ≤ _
      omega
  subst eu
  have hsx := run_shift B rs a false (speedX a gx gy)
  rw [hu] at hsx
  obtain ⟨c, hc⟩ : ∃ c, sh false a (sgn (speedX a gx gy) * (u'.1 : Nat)) = c := ⟨_, rfl⟩
  have hcx : min (speedX a gx gy) 0 ≤ c.x - a.x ∧ c.x - a.x ≤ max (speedX a gx gy) 0 := by
    rw [← hc]
    show min _ 0 ≤ a.x + sgn (speedX a gx gy) * ((u'.1 : Nat) : Int) - a.x ∧ a.x + sgn (speedX a gx gy) * ((u'.1 : Nat) : Int) - a.x ≤ _
    omega
  have hc2 : c.y = a.y ∧ c.w = a.w ∧ c.h = a.h ∧ c.id = a.id ∧ c.fixed = a.fixed := by rw [← hc]; exact ⟨rfl, rfl, rfl, rfl, rfl⟩
  have hkc : keepI ids c = true := keepI_yes (.inr (by rw [hc2.2.2.2.1]; exact hid))
  rw [hc] at hv hv'
  rw [← filt_set hB hka hkc] at hv'
  have hCC : ∀ o ∈ B.set m c, ∃ o0 ∈ bs, o.id = o0.id ∧ o.fixed = o0.fixed := fun o ho => by
    rcases List.mem_or_eq_of_mem_set ho with ho | rfl
    · exact hCB o ho
    · exact ⟨a, ham, hc2.2.2.2.1, hc2.2.2.2.2⟩
  have ev : v' = v := by
    rw [← hv', ← hv]
    refine run_part rfl (fun j hj o ho hn => ?_) (hrope (B.set m c) c hCC hc2.2.2.2.1)
    rcases List.mem_or_eq_of_mem_set ho with ho | rfl
    · obtain ⟨k, hk⟩ := List.getElem?_of_mem ho
      refine key (sh true c (sgn (speedY a gx gy) * (j : Int))) hc2.2.1 hc2.2.2.1 hcx ?_ k o hk hn
      show min _ 0 ≤ c.y + sgn (speedY a gx gy) * (j : Int) - a.y ∧ c.y + sgn (speedY a gx gy) * (j : Int) - a.y ≤ _
      rw [hc2.1]
      unfold sgn; split <;> omega
    · rw [hkc] at hn; cases hn
  rw [hi, hi', ev]
/-- the part steps as it does within the scene -/
theorem part_steps {ids : List Int} {rs : List KR} {gx gy : Int} {bs : List KB} (hok : okS bs rs gx gy) (hs : SepI rs gx gy bs ids) : ∀ m, m ≤ bs.length →
    stepsTo (ropesP (bs.filter (keepI ids)) rs) gx gy (bs.filter (keepI ids)) ((bs.take m).filter (keepI ids)).length = ((stepsTo rs gx gy bs m).1.filter (keepI ids), (stepsTo rs gx gy bs m).2.filter fun s => decide (s.id ∈ ids))
  | 0, _ => rfl
  | m + 1, hm => by
    have ih := part_steps hok hs m (by omega)
    obtain ⟨a, ha⟩ : ∃ a, bs[m]? = some a := ⟨bs[m]'(by omega), List.getElem?_eq_getElem (by omega)⟩
    have hB : (stepsTo rs gx gy bs m).1[m]? = some a := by rw [at_before m (Nat.le_refl _)]; exact ha
    have hin := fun h1 h2 => inner_part hok hs ha h1 h2
    have hlen : (((stepsTo rs gx gy bs m).1.take m).filter (keepI ids)).length = ((bs.take m).filter (keepI ids)).length := by
      have hl := (step_keeps (rs := rs) (gx := gx) (gy := gy) hok.2.2.2.1 m).1.len
      have key : ∀ k, k ≤ bs.length → (((stepsTo rs gx gy bs m).1.take k).filter (keepI ids)).length = ((bs.take k).filter (keepI ids)).length := by
        intro k
        induction k with
        | zero => intro _; rfl
        | succ k ihk =>
          intro hk
          have e1 : bs[k]? = some (bs[k]'(by omega)) := List.getElem?_eq_getElem (by omega)
          have e2 : (stepsTo rs gx gy bs m).1[k]? = some ((stepsTo rs gx gy bs m).1[k]'(by omega)) := List.getElem?_eq_getElem (by omega)
          have hn := near_step (rs := rs) (gx := gx) (gy := gy) (m := m) e1 e2
          have ek : keepI ids ((stepsTo rs gx gy bs m).1[k]'(by omega)) = keepI ids (bs[k]'(by omega)) := by unfold keepI; rw [hn.1.1, hn.1.2.2.2.2]
          rw [List.take_add_one, List.take_add_one, e1, e2, List.filter_append, List.filter_append, List.length_append, List.length_append, ihk (by omega)]
          simp only [Option.toList_some, List.filter_cons, ek, List.filter_nil]
          split <;> rfl
      exact key m (by omega)
    have htake : ((bs.take (m + 1)).filter (keepI ids)).length = ((bs.take m).filter (keepI ids)).length + if keepI ids a then 1 else 0 := by
      rw [List.take_add_one, ha, List.filter_append, List.length_append]
      simp only [Option.toList_some, List.filter_cons, List.filter_nil]
      split <;> rfl
    show _ = ((stepAt rs gx gy (stepsTo rs gx gy bs m).1 m).1.filter (keepI ids), ((stepsTo rs gx gy bs m).2 ++ (stepAt rs gx gy (stepsTo rs gx gy bs m).1 m).2).filter fun s => decide (s.id ∈ ids))
    have hidsS := stepAt_ids (rs := rs) (gx := gx) (gy := gy) (B := (stepsTo rs gx gy bs m).1) (k := m)
    rw [List.filter_append]
    cases hk : keepI ids a with
    | false =>
      rw [htake, hk, if_neg (by decide), Nat.add_zero, ih]
      have hnil : (stepAt rs gx gy (stepsTo rs gx gy bs m).1 m).2.filter (fun s => decide (s.id ∈ ids)) = [] := by
        rw [List.filter_eq_nil_iff]
        intro s hs'
        obtain ⟨⟨b, hb, e⟩, _⟩ := hidsS s hs'
        rw [hB] at hb; injection hb with hb
        rw [e, ← hb]
        simpa using (keepI_no hk).2
      rw [hnil, List.append_nil]
      rcases stepAt_cases rs gx gy (stepsTo rs gx gy bs m).1 m with ⟨e, _⟩ | ⟨c, hc, hf, e⟩
      · rw [e]
      · obtain ⟨d, hd, hn⟩ := stepAt_self (rs := rs) (gx := gx) (gy := gy) hB
        rw [hB] at hc; injection hc with hc; subst hc
        rw [e] at hd ⊢
        rw [List.getElem?_set_self (List.getElem?_eq_some_iff.1 hB).1] at hd
        injection hd with hd
        rw [hd, filt_out hB hk (by unfold keepI at hk ⊢; rw [hn.1.1, hn.1.2.2.2.2]; exact hk)]
    | true =>
      rw [htake, hk, if_pos rfl]
      have hself : (stepAt rs gx gy (stepsTo rs gx gy bs m).1 m).2.filter (fun s => decide (s.id ∈ ids)) = (stepAt rs gx gy (stepsTo rs gx gy bs m).1 m).2 := by
        rw [List.filter_eq_self]
        intro s hs'
        rcases stepAt_cases rs gx gy (stepsTo rs gx gy bs m).1 m with ⟨e, _⟩ | ⟨c, hc, hf, e⟩
        · rw [e] at hs'; cases hs'
        · obtain ⟨⟨b, hb, e2⟩, _⟩ := hidsS s hs'
          rw [hc] at hb; injection hb with hb
          rw [hB] at hc; injection hc with hc
          rw [e2, ← hb, ← hc]
          subst hc
          unfold keepI at hk
          rw [hf, Bool.false_or] at hk; exact hk
      rw [hself]
      show ((stepAt _ gx gy (stepsTo _ gx gy _ _).1 _).1, (stepsTo _ gx gy _ _).2 ++ (stepAt _ gx gy (stepsTo _ gx gy _ _).1 _).2) = _
      rw [ih]
      simp only
      have hP := filt_at hB hk
      rw [hlen] at hP
      cases hf : a.fixed with
      | true =>
        have e1 : stepAt rs gx gy (stepsTo rs gx gy bs m).1 m = ((stepsTo rs gx gy bs m).1, []) := by unfold stepAt; rw [hB]; simp [hf]
        have e2 : stepAt (ropesP (bs.filter (keepI ids)) rs) gx gy ((stepsTo rs gx gy bs m).1.filter (keepI ids)) ((bs.take m).filter (keepI ids)).length = ((stepsTo rs gx gy bs m).1.filter (keepI ids), []) := by unfold stepAt; rw [hP]; simp [hf]
        rw [e1, e2]
      | false =>
        have hid : a.id ∈ ids := by
          unfold keepI at hk
          rw [hf, Bool.false_or, decide_eq_true_eq] at hk; exact hk
        have hin := hin hf hid
        rw [hlen] at hin
        have e1 : stepAt rs gx gy (stepsTo rs gx gy bs m).1 m = ((stepsTo rs gx gy bs m).1.set m (withV (innerK rs (stepsTo rs gx gy bs m).1 m a (speedX a gx gy) (speedY a gx gy) 2).1 (innerK rs (stepsTo rs gx gy bs m).1 m a (speedX a gx gy) (speedY a gx gy) 2).2.2.1 (innerK rs (stepsTo rs gx gy bs m).1 m a (speedX a gx gy) (speedY a gx gy) 2).2.2.2), (innerK rs (stepsTo rs gx gy bs m).1 m a (speedX a gx gy) (speedY a gx gy) 2).2.1) := by
          unfold stepAt; rw [hB]; simp only [hf, Bool.false_eq_true, if_false]; rfl
        have e2 : ∀ Z, Z = innerK (ropesP (bs.filter (keepI ids)) rs) ((stepsTo rs gx gy bs m).1.filter (keepI ids)) ((bs.take m).filter (keepI ids)).length a (speedX a gx gy) (speedY a gx gy) 2 → stepAt (ropesP (bs.filter (keepI ids)) rs) gx gy ((stepsTo rs gx gy bs m).1.filter (keepI ids)) ((bs.take m).filter (keepI ids)).length = (((stepsTo rs gx gy bs m).1.filter (keepI ids)).set ((bs.take m).filter (keepI ids)).length (withV Z.1 Z.2.2.1 Z.2.2.2), Z.2.1) := fun Z hZ => by
          subst hZ
          unfold stepAt; rw [hP]; simp only [hf, Bool.false_eq_true, if_false]; rfl
        obtain ⟨d, hd, hn⟩ := stepAt_self (rs := rs) (gx := gx) (gy := gy) hB
        rw [e1] at hd
        simp only at hd
        rw [List.getElem?_set_self (List.getElem?_eq_some_iff.1 hB).1] at hd
        injection hd with hd
        rw [e1, e2 _ hin.symm]
        simp only
        rw [filt_set hB hk (by rw [hd]; exact keepI_yes (.inr (by rw [hn.1.1]; exact hid))), hlen]
theorem part_whole {ids : List Int} {rs : List KR} {gx gy : Int} {bs T : List KB} {S : List KS} (hok : okS bs rs gx gy) (hs : SepI rs gx gy bs ids) (hTS : stepsTo rs gx gy bs bs.length = (T, S)) :
    stepsTo (ropesP (bs.filter (keepI ids)) rs) gx gy (bs.filter (keepI ids)) (bs.filter (keepI ids)).length = (T.filter (keepI ids), S.filter fun s => decide (s.id ∈ ids)) := by
  have := part_steps hok hs bs.length (Nat.le_refl _)
  rw [List.take_length, hTS] at this
  exact this
end Go.Stp

namespace Go.Stp
/-- the bodies bs, those with a name in d as they are in T -/
def mixB (d : List Int) (bs T : List KB) : List KB := List.zipWith (fun a t => if a.id ∈ d then t else a) bs T
/-- bodies behind a step: the names and what is fixed stay -/
structure TwinB (bs T : List KB) : Prop where
  len : T.length = bs.length
  same : ∀ (k : Nat) (a t : KB), bs[k]? = some a → T[k]? = some t → t.id = a.id ∧ t.fixed = a.fixed ∧ (a.fixed = true → t = a)
theorem twin_step {rs : List KR} {gx gy : Int} {bs : List KB} (hok : okS bs rs gx gy) (m : Nat) : TwinB bs (stepsTo rs gx gy bs m).1 :=
  ⟨(step_keeps hok.2.2.2.1 m).1.len, fun k a t ha ht => by
    have h := near_step ha ht
    exact ⟨h.1.1, h.1.2.2.2.2, h.2.1⟩⟩
theorem mix_len {d : List Int} {bs T : List KB} (h : TwinB bs T) : (mixB d bs T).length = bs.length := by
  unfold mixB; rw [List.length_zipWith, h.len]; omega
theorem mix_at {d : List Int} {bs T : List KB} {k : Nat} {a t : KB} (ha : bs[k]? = some a) (ht : T[k]? = some t) : (mixB d bs T)[k]? = some (if a.id ∈ d then t else a) := by
  unfold mixB
  rw [List.getElem?_zipWith, ha, ht]
theorem mix_get {d : List Int} {bs T : List KB} (h : TwinB bs T) {k : Nat} {b : KB} (hb : (mixB d bs T)[k]? = some b) : ∃ a t, bs[k]? = some a ∧ T[k]? = some t ∧ b = if a.id ∈ d then t else a := by
  have hl := (List.getElem?_eq_some_iff.1 hb).1
  rw [mix_len h] at hl
  have h1 := List.getElem?_eq_getElem hl
  have h2 := List.getElem?_eq_getElem (show k < T.length by rw [h.len]; exact hl)
  refine ⟨_, _, h1, h2, ?_⟩
  rw [mix_at h1 h2] at hb
  exact (Option.some.inj hb).symm
theorem mix_nil {bs T : List KB} (h : TwinB bs T) : mixB [] bs T = bs := by
  refine List.ext_getElem? fun k => ?_
  by_cases hk : k < bs.length
  · rw [mix_at (List.getElem?_eq_getElem hk) (List.getElem?_eq_getElem (show k < T.length by rw [h.len]; exact hk)), if_neg (List.not_mem_nil), List.getElem?_eq_getElem hk]
  · rw [List.getElem?_eq_none (by rw [mix_len h]; omega), List.getElem?_eq_none (by omega)]
theorem mix_all {d : List Int} {bs T : List KB} (h : TwinB bs T) (ha : ∀ a ∈ bs, a.fixed = true ∨ a.id ∈ d) : mixB d bs T = T := by
  refine List.ext_getElem? fun k => ?_
  by_cases hk : k < bs.length
  · have h1 := List.getElem?_eq_getElem hk
    have h2 := List.getElem?_eq_getElem (show k < T.length by rw [h.len]; exact hk)
    rw [mix_at h1 h2, h2]
    split
    · rfl
    · rename_i hn
      rcases ha _ (List.mem_of_getElem? h1) with hf | hd
      · rw [(h.same k _ _ h1 h2).2.2 hf]
      · exact absurd hd hn
  · rw [List.getElem?_eq_none (by rw [mix_len h]; omega), List.getElem?_eq_none (by rw [h.len]; omega)]
theorem mix_set {d : List Int} {bs T : List KB} (h : TwinB bs T) (ho : ordB bs) {k : Nat} {a t : KB} (ha : bs[k]? = some a) (ht : T[k]? = some t) : (mixB d bs T).set k t = mixB (d ++ [a.id]) bs T := by
  refine List.ext_getElem? fun i => ?_
  by_cases hi : i < bs.length
  · have h1 := List.getElem?_eq_getElem hi
    have h2 := List.getElem?_eq_getElem (show i < T.length by rw [h.len]; exact hi)
    rw [mix_at h1 h2]
    by_cases e : k = i
    · subst e
      rw [List.getElem?_set_self (by rw [mix_len h]; exact hi)]
      rw [ha] at h1; rw [ht] at h2
      rw [← Option.some.inj h1, ← Option.some.inj h2, if_pos (by simp)]
    · rw [List.getElem?_set_ne e, mix_at h1 h2]
      have := ord_ne ho (Ne.symm e) h1 ha
      simp only [List.mem_append, List.mem_singleton, this, or_false]
  · rw [List.getElem?_eq_none (by rw [List.length_set, mix_len h]; omega), List.getElem?_eq_none (by rw [mix_len h]; omega)]
theorem mix_meta {d : List Int} {bs T : List KB} (h : TwinB bs T) : (mixB d bs T).map (fun b => (b.id, b.fixed)) = bs.map fun b => (b.id, b.fixed) := by
  refine List.ext_getElem? fun i => ?_
  rw [List.getElem?_map, List.getElem?_map]
  by_cases hi : i < bs.length
  · have h1 := List.getElem?_eq_getElem hi
    have h2 := List.getElem?_eq_getElem (show i < T.length by rw [h.len]; exact hi)
    rw [mix_at h1 h2, h1]
    have := h.same i _ _ h1 h2
    split
    · simp only [Option.map_some, this.1, this.2.1]
    · rfl
  · rw [List.getElem?_eq_none (by rw [mix_len h]; omega), List.getElem?_eq_none (by omega)]
theorem mix_ids {d : List Int} {bs T : List KB} (h : TwinB bs T) : SameIds (mixB d bs T) bs := by
  have := congrArg (List.map Prod.fst) (mix_meta (d := d) h)
  rw [List.map_map, List.map_map] at this; exact this
theorem mix_ok {d : List Int} {bs T : List KB} {rs : List KR} {gx gy : Int} (h : TwinB bs T) (hok : okS bs rs gx gy) (hT : ∀ t ∈ T, okB t) : okS (mixB d bs T) rs gx gy := by
  obtain ⟨h1, h2, h3, h4, h5, h6⟩ := hok
  refine ⟨by rw [mix_len h]; exact h1, h2, h3, fun b hb => ?_, ordB_ids (mix_ids h) h5, fun r hr => okR_ids (mix_ids h) (h6 r hr)⟩
  obtain ⟨k, hk⟩ := List.getElem?_of_mem hb
  obtain ⟨a, t, ha, ht, rfl⟩ := mix_get h hk
  split
  · exact hT t (List.mem_of_getElem? ht)
  · exact h4 a (List.mem_of_getElem? ha)
/-- what the names ids keep is as it was if none of them was changed -/
theorem mix_part {d ids : List Int} : ∀ {bs T : List KB}, TwinB bs T → (∀ a ∈ bs, a.id ∈ d → a.fixed = true ∨ ¬ a.id ∈ ids) → (mixB d bs T).filter (keepI ids) = bs.filter (keepI ids)
  | [], T, _, _ => by unfold mixB; rfl
  | a :: bs, [], h, _ => by have := h.len; simp at this
  | a :: bs, t :: T, h, hd => by
    have h0 := h.same 0 a t rfl rfl
    have ih := mix_part (d := d) (ids := ids) (bs := bs) (T := T) ⟨by have := h.len; simp at this; exact this, fun k a' t' ha ht => h.same (k + 1) a' t' (by simpa using ha) (by simpa using ht)⟩ fun x hx => hd x (List.mem_cons_of_mem _ hx)
    show List.filter _ ((if a.id ∈ d then t else a) :: mixB d bs T) = _
    by_cases hm : a.id ∈ d
    · rw [if_pos hm]
      rcases hd a List.mem_cons_self hm with hf | hn
      · rw [h0.2.2 hf, List.filter_cons, List.filter_cons, ih]
      · cases hf : a.fixed with
        | true => rw [h0.2.2 hf, List.filter_cons, List.filter_cons, ih]
        | false =>
          have k1 : keepI ids a = false := by unfold keepI; rw [hf, decide_eq_false hn]; rfl
          have k2 : keepI ids t = false := by unfold keepI; rw [h0.1, h0.2.1, hf, decide_eq_false hn]; rfl
          rw [List.filter_cons_of_neg (by rw [k2]; decide), List.filter_cons_of_neg (by rw [k1]; decide), ih]
    · rw [if_neg hm, List.filter_cons, List.filter_cons, ih]
/-- stops of two disjoint sets of names -/
theorem filt_two {S : List KS} {d ids : List Int} (h : ∀ x ∈ ids, ¬ x ∈ d) : (S.filter fun s => decide (s.id ∈ d ++ ids)).length = (S.filter fun s => decide (s.id ∈ d)).length + (S.filter fun s => decide (s.id ∈ ids)).length := by
  induction S with
  | nil => rfl
  | cons s S ih =>
    simp only [List.filter_cons, List.mem_append] at ih ⊢
    by_cases h1 : s.id ∈ d
    · have h2 : ¬ s.id ∈ ids := fun q => h _ q h1
      simp only [h1, h2, true_or, decide_true, decide_false, if_true, Bool.false_eq_true, if_false, List.length_cons, ih]; omega
    · by_cases h2 : s.id ∈ ids
      · simp only [h1, h2, or_true, decide_true, decide_false, if_true, Bool.false_eq_true, if_false, List.length_cons, ih]; omega
      · simp only [h1, h2, or_self, decide_false, Bool.false_eq_true, if_false, ih]
/-- the stops among the first k of a list, as a prefix of the filtered list -/
theorem filt_pre {α : Type} {p : α → Bool} {S : List α} {k : Nat} {s : α} (hs : S[k]? = some s) (hp : p s = true) : (S.filter p)[((S.take k).filter p).length]? = some s ∧ ((S.take (k + 1)).filter p).length = ((S.take k).filter p).length + 1 := by
  obtain ⟨hl, e⟩ := List.getElem?_eq_some_iff.1 hs
  have hx : S = S.take k ++ s :: S.drop (k + 1) := by rw [← e, ← List.drop_eq_getElem_cons, List.take_append_drop]
  constructor
  · have : S.filter p = (S.take k).filter p ++ s :: (S.drop (k + 1)).filter p := by
      conv => lhs; rw [hx]
      rw [List.filter_append, List.filter_cons_of_pos hp]
    rw [this, List.getElem?_append_right (Nat.le_refl _), Nat.sub_self]; rfl
  · rw [List.take_add_one, hs, List.filter_append, List.length_append]
    simp only [Option.toList_some, List.filter_cons, hp, List.filter_nil, if_true]; rfl
theorem filt_skip {α : Type} {p : α → Bool} {S : List α} {k : Nat} {s : α} (hs : S[k]? = some s) (hp : p s = false) : ((S.take (k + 1)).filter p).length = ((S.take k).filter p).length := by
  rw [List.take_add_one, hs, List.filter_append, List.length_append]
  simp only [Option.toList_some, List.filter_cons, hp, List.filter_nil, Bool.false_eq_true, if_false]; rfl
/-- the stops are of bodies that move -/
theorem stops_free {rs : List KR} {gx gy : Int} {bs : List KB} (hok : okS bs rs gx gy) : ∀ m, ∀ s ∈ (stepsTo rs gx gy bs m).2, ∃ a ∈ bs, a.fixed = false ∧ a.id = s.id
  | 0, s, hs => by cases hs
  | m + 1, s, hs => by
    rcases List.mem_append.1 (show s ∈ (stepsTo rs gx gy bs m).2 ++ (stepAt rs gx gy (stepsTo rs gx gy bs m).1 m).2 from hs) with hs | hs
    · exact stops_free hok m s hs
    · rcases stepAt_cases rs gx gy (stepsTo rs gx gy bs m).1 m with ⟨e, _⟩ | ⟨c, hc, hf, e⟩
      · rw [e] at hs; cases hs
      · obtain ⟨⟨b, hb, e2⟩, _⟩ := stepAt_ids s hs
        rw [hc] at hb; obtain rfl := Option.some.inj hb
        rw [at_before m (Nat.le_refl _)] at hc
        exact ⟨c, List.mem_of_getElem? hc, hf, e2.symm⟩
end Go.Stp

namespace Go.Brd
open Go.Sl
structure KA where
  lx : Int
  ly : Int
  hx : Int
  hy : Int
  deriving DecidableEq
structure KP where
  a : Int
  b : Int
  deriving DecidableEq
/-- an area with its number -/
structure KT where
  id : Int
  ar : KA
  deriving DecidableEq
def okSpan (l h : Int) : Prop := -2097152 ≤ l ∧ l ≤ h ∧ h ≤ 2097152
instance (l h : Int) : Decidable (okSpan l h) := by unfold okSpan; infer_instance
def okA (a : KA) : Prop := okSpan a.lx a.hx ∧ okSpan a.ly a.hy
instance (a : KA) : Decidable (okA a) := by unfold okA; infer_instance
def comA (a b : KA) : KA := ⟨max a.lx b.lx, max a.ly b.ly, min a.hx b.hx, min a.hy b.hy⟩
def meetA (a b : KA) : Prop := okA a ∧ okA b ∧ okA (comA a b)
instance (a b : KA) : Decidable (meetA a b) := by unfold meetA; infer_instance
def zeroA : KA := ⟨0, 0, 0, 0⟩
abbrev areaE (a : KA) : List Value := [Ix a.lx, Ix a.ly, Ix a.hx, Ix a.hy]
abbrev aC (a : KA) : Array Value := #[Ix a.lx, Ix a.ly, Ix a.hx, Ix a.hy]
abbrev pairE (p : KP) : List Value := [Ix p.a, Ix p.b]
abbrev thingE (t : KT) : List Value := [Ix t.id, Ix t.ar.lx, Ix t.ar.ly, Ix t.ar.hx, Ix t.ar.hy]
abbrev AreaF : Fl KA := ⟨4, areaE, fun _ => rfl, fun _ => rfl, by decide⟩
abbrev PairF : Fl KP := ⟨2, pairE, fun _ => rfl, fun _ => rfl, by decide⟩
abbrev ThingF : Fl KT := ⟨5, thingE, fun _ => rfl, fun _ => rfl, by decide⟩
end Go.Brd
