/-
  How bodies, ropes and movers lie in memory; functions that are handed over; n-ary max. Own work; plain Lean.
-/
import Derived.Test.YtdkibofhppgbjaaGreatDoorStRun
import Derived.Test.YtdkibofhppgbjaaGreatDoorSlFam
import Derived.Test.YtdkibofhppgbjaaGreatDoorSlFlat
import Derived.Test.YtdkibofhppgbjaaGreatDoorSlAny
namespace Go.Sl
open Go.Stp
section
variable {P : Program} {ro : Option Nat} {n : Nat} {ds : List Deferred} {β : Base} {Q : Exit → Act → World → Prop} {f : Fm} {L : List Res} {ops : Array Oper} {rest : List Oper}
variable {d : Option Tmp} {ty : TypeId} {ps : String} {af : Array Edge} {g : Option (Nat × Bool)}
theorem e_max4 {x y z u : Operand} {k : IntKind} {a b c e : Int} {ts : Array TypeId} (hx : ev f x = .int k a) (hy : ev f y = .int k b) (hz : ev f z = .int k c) (hu : ev f u = .int k e) :
    EV P β L f ⟨d, .call ⟨.builtin .max, #[x, y, z, u], ts⟩, ty, ps, af, g⟩ (.int k (max (max (max a b) c) e)) := fun w _ => by
  simp [execOp, resolve, invoke, builtin, hx, hy, hz, hu, Builtin.max_, Builtin.max2]
  repeat' split
  all_goals omega
/-- return from a function with two ranges over functions -/
theorem retM2 {fn : Func} {R : Ending → World → Prop} {t u D E : Nat} {v v' : Value} (i j : Nat) (hi : L[i]? = some (pt D (.deferred (some [])))) (hj : (L.set i (pt D (.deferred none)))[j]? = some (pt E (.deferred (some [])))) (hr : fn.results = #[.tmp t, .tmp u]) (hv : f t = v) (hv' : f u = v')
    (h : ∀ w, St β ((L.set i (pt D (.deferred none))).set j (pt E (.deferred none))) w → R (.returned (.tuple #[v, v'])) w) : Fin n [mark D, mark E] β (bodyPostM (Fe none) 3 P fn R) .ret f L := fun a w ha hw => by
  show LeavesInM _ _ _ _ _ _ a.defers _ _
  rw [ha.defers]
  have hb := hw.pt i hi
  have hw1 : St β (L.set i (pt D (.deferred none))) (w.putObj D (.deferred none)) := St.back i hi (hw.front i hi).putObj
  refine ⟨by simp, .inl ⟨D, _, rfl, run_takeDeferred hb, ?_⟩⟩
  have hb2 := hw1.pt j hj
  have hw2 : St β ((L.set i (pt D (.deferred none))).set j (pt E (.deferred none))) ((w.putObj D (.deferred none)).putObj E (.deferred none)) := St.back j hj (hw1.front j hj).putObj
  refine ⟨by simp, .inl ⟨E, _, rfl, run_takeDeferred hb2, ?_⟩⟩
  exact ⟨.tuple #[v, v'], by rw [results_tmp2 hr, ha.result, ha.result, hv, hv'], h _ hw2⟩
theorem e_index_2 {x i : Operand} {t e : Nat} {u v : Value} {y : Bool} (hx : ev f x = .agg #[u, v]) (hy : ev f i = Nx y.toNat) (ht : arB P t 2 e 1 = true) (hne : tyB P e false 1 = true) :
    EV P β L f ⟨d, .index t x i, ty, ps, af, g⟩ (if y then v else u) := by
  cases y
  · exact e_index_a (k := 0) hx hy ht rfl (by decide) hne
  · exact e_index_a (k := 1) hx hy ht rfl (by decide) hne
end
/-- a function of values that answers what res says and turns nothing -/
def FnV (P : Program) {α : Type} (β : Base) (fn : Value) (enc : α → List Value) (S : α → Prop) (res : α → Value) : Prop :=
  ∃ g fst cap, fn = .func (.func g) fst.toArray cap.toArray ∧ cfB P g = true ∧ ∀ β₁, Sub β.heap β₁.heap → ∀ x, S x → ∀ w, St β₁ [] w → Calls P g (fst ++ enc x ++ cap).toArray w fun r w' => r = .returned (res x) ∧ St β₁ [] w'
theorem FnV.mono {P : Program} {α : Type} {β β' : Base} {fn : Value} {enc : α → List Value} {S : α → Prop} {res : α → Value} (h : FnV P β fn enc S res) (hs : Sub β.heap β'.heap) : FnV P β' fn enc S res := by
  obtain ⟨g, fst, cap, e, hc, hk⟩ := h
  exact ⟨g, fst, cap, e, hc, fun β₁ h1 => hk β₁ (hs.trans h1)⟩
/-- the least number below n at which p holds; n if there is none -/
def searchN (p : Nat → Bool) : Nat → Nat → Nat
  | 0, i => i
  | k + 1, i => if p i then i else searchN p k (i + 1)
theorem searchN_eq {p : Nat → Bool} : ∀ {n i k : Nat}, i ≤ k → k ≤ i + n → (∀ j, i ≤ j → j < k → p j = false) → (k < i + n → p k = true) → searchN p n i = k
  | 0, i, k, h1, h2, _, _ => by unfold searchN; omega
  | n + 1, i, k, h1, h2, h3, h4 => by
    unfold searchN
    by_cases h : k = i
    · rw [if_pos (h ▸ h4 (by omega)), h]
    · rw [h3 i (Nat.le_refl _) (by omega), if_neg (by simp)]
      exact searchN_eq (by omega) (by omega) (fun j a b => h3 j (by omega) b) (fun a => h4 (by omega))
theorem searchN_spec {p : Nat → Bool} : ∀ (n i : Nat), i ≤ searchN p n i ∧ searchN p n i ≤ i + n ∧ (∀ j, i ≤ j → j < searchN p n i → p j = false) ∧ (searchN p n i < i + n → p (searchN p n i) = true)
  | 0, i => ⟨Nat.le_refl _, Nat.le_refl _, fun j a b => by unfold searchN at b; omega, fun h => by unfold searchN at h; omega⟩
  | n + 1, i => by
    unfold searchN
    by_cases h : p i = true
    · rw [if_pos h]; exact ⟨Nat.le_refl _, by omega, fun j a b => by omega, fun _ => h⟩
    · rw [if_neg h]
      obtain ⟨h1, h2, h3, h4⟩ := searchN_spec (p := p) n (i + 1)
      refine ⟨by omega, by omega, fun j a b => ?_, fun hh => h4 (by omega)⟩
      by_cases hj : j = i
      · rw [hj]; simpa using h
      · exact h3 j (by omega) b
end Go.Sl
namespace Go.Stp
open Go.Sl
abbrev bC (b : KB) : Array Value := #[Ix b.id, Ix b.x, Ix b.y, Ix b.vx, Ix b.vy, Ix b.w, Ix b.h, .bool b.round, .bool b.fixed]
abbrev bodyE (b : KB) : List Value := [Ix b.id, Ix b.x, Ix b.y, Ix b.vx, Ix b.vy, Ix b.w, Ix b.h, .bool b.round, .bool b.fixed]
def KBR : Rp KB := Rp.flat 9 bodyE (fun _ => rfl)
abbrev ropeE (r : KR) : List Value := [Ix r.a, Ix r.b, Ix r.len]
def KRR : Rp KR := Rp.flat 3 ropeE (fun _ => rfl)
theorem vec_eq {a b c e : Int} : [Ix a, Ix b] = [Ix c, Ix e] ↔ a = c ∧ b = e := by simp
theorem body_eq {x y : KB} : bodyE x = bodyE y ↔ x = y := by
  constructor
  · intro h; cases x; cases y; simp at h; simp [h]
  · rintro rfl; rfl
theorem rope_eq {x y : KR} : ropeE x = ropeE y ↔ x = y := by
  constructor
  · intro h; cases x; cases y; simp at h; simp [h]
  · rintro rfl; rfl
abbrev stopE (x : KS) : List Value := [Ix x.id, Bx x.along, Ix x.by_]
theorem bx_inj {a b : UInt8} (h : Bx a = Bx b) : a = b := by
  injection h with _ h
  exact UInt8.toNat_inj.1 (by omega)
theorem stop_eq {x y : KS} : stopE x = stopE y ↔ x = y := by
  constructor
  · intro h
    cases x; cases y
    injection h with h1 h2
    injection h2 with h2 h3
    injection h3 with h3
    have := bx_inj h2
    simp at h1 h3 this
    simp [h1, h3, this]
  · rintro rfl; rfl
abbrev BodyF : Fl KB := ⟨9, bodyE, fun _ => rfl, fun _ => rfl, by decide⟩
abbrev RopeF : Fl KR := ⟨3, ropeE, fun _ => rfl, fun _ => rfl, by decide⟩
abbrev StopF : Fl KS := ⟨3, stopE, fun _ => rfl, fun _ => rfl, by decide⟩
def withV (b : KB) (vx vy : Int) : KB := { b with vx := vx, vy := vy }
/-- a mover: the scene, the body, the axis, the sign -/
abbrev mC (v rv : Value) (gx gy : Int) (b : KB) (y : Bool) (s : Int) : Array Value := #[v, rv, Ix gx, Ix gy, Ix b.id, Ix b.x, Ix b.y, Ix b.vx, Ix b.vy, Ix b.w, Ix b.h, .bool b.round, .bool b.fixed, Nx y.toNat, Ix s]
/-- the negative, as the machine has it -/
def wneg (x : Int) : Int := IntKind.i64.wrap (0 - x)
theorem wneg_eq {x : Int} (h : -9223372036854775808 ≤ x ∧ x ≤ 9223372036854775807) : wneg x = if x = -9223372036854775808 then x else -x := by
  unfold wneg
  split
  · rename_i e; subst e; decide
  · rw [i64w (by omega)]; omega
theorem pull_iff {x y : Int} (hx : -9223372036854775808 ≤ x ∧ x ≤ 9223372036854775807) (hy : -9223372036854775808 ≤ y ∧ y ≤ 9223372036854775807) :
    (max (max (max x (wneg x)) y) (wneg y) ≤ 4096 ∧ (-4096 : Int) ≤ min x y) ↔ okV x y := by
  unfold okV
  rw [wneg_eq hx, wneg_eq hy]
  split <;> split <;> omega
def leastN (n : Nat) (p : Nat → Bool) : Nat := 1 + searchN (fun i => p (i + 1)) n 0
theorem leastN_least (n : Nat) (p : Nat → Bool) : Least n (fun j => p j = true) (leastN n p) := by
  obtain ⟨h1, h2, h3, h4⟩ := searchN_spec (p := fun i => p (i + 1)) n 0
  unfold leastN
  refine ⟨by omega, by omega, fun j a b => ?_, fun h => ?_⟩
  · have := h3 (j - 1) (by omega) (by omega)
    rw [show j - 1 + 1 = j by omega] at this
    simp [this]
  · rw [show 1 + searchN (fun i => p (i + 1)) n 0 = searchN (fun i => p (i + 1)) n 0 + 1 by omega]; exact h4 (by omega)
theorem least_eq {n k : Nat} {p : Nat → Bool} (h : Least n (fun j => p j = true) k) : leastN n p = k := by
  obtain ⟨h1, h2, h3, h4⟩ := h
  unfold leastN
  rw [searchN_eq (k := k - 1) (by omega) (by omega) (fun j _ b => by simpa using h3 (j + 1) (by omega) (by omega)) (fun a => by rw [show k - 1 + 1 = k by omega]; exact h4 (by omega))]
  omega
/-- how far it is to the body o -/
def blockN (y : Bool) (b : KB) (s : Int) (most : Nat) (o : KB) : Nat := leastN most fun j => decide (over (sh y b (s * j)) o)
abbrev ropeN (y : Bool) (b : KB) (s : Int) (most : Nat) (p : KB × Int) : Nat := leastN most fun j => decide (p.2 < dist (sh y b (s * j)) p.1)
theorem blockN_least (y : Bool) (b : KB) (s : Int) (most : Nat) (o : KB) : Least most (fun j => over (sh y b (s * j)) o) (blockN y b s most o) := by
  unfold blockN
  have h := leastN_least most fun j => decide (over (sh y b (s * j)) o)
  simpa only [decide_eq_true_eq] using h
theorem blockN_eq {y : Bool} {b : KB} {s : Int} {most : Nat} {o : KB} {k : Nat} (h : Least most (fun j => over (sh y b (s * j)) o) k) : blockN y b s most o = k :=
  least_eq (by simpa only [decide_eq_true_eq] using h)
theorem ropeN_least (y : Bool) (b : KB) (s : Int) (most : Nat) (p : KB × Int) : Least most (fun j => p.2 < dist (sh y b (s * j)) p.1) (ropeN y b s most p) := by
  unfold ropeN
  have h := leastN_least most fun j => decide (p.2 < dist (sh y b (s * j)) p.1)
  simpa only [decide_eq_true_eq] using h
/-- the variable 'rooms' -/
def GR (β : Base) : Prop := Cs β.heap ⟨0, 0, none⟩ [.func (.func 265) #[] #[], .func (.func 266) #[] #[], .func (.func 267) #[] #[], .func (.func 268) #[] #[]]
theorem GR.mono {β β' : Base} (hs : Sub β.heap β'.heap) (h : GR β) : GR β' := Cs.mono _ _ _ _ hs h
theorem sq_bd {x B : Int} (h : -B ≤ x) (h' : x ≤ B) : 0 ≤ x * x ∧ x * x ≤ B * B := by
  have hB : 0 ≤ B := by omega
  rcases Int.le_total 0 x with hx | hx
  · exact ⟨Int.mul_nonneg hx hx, Int.mul_le_mul h' h' hx hB⟩
  · rw [← Int.neg_mul_neg]; exact ⟨Int.mul_nonneg (by omega) (by omega), Int.mul_le_mul (by omega) (by omega) (by omega) hB⟩
theorem room_ff {a b : KB} (ha : a.round = false) (hb : b.round = false) (dx dy : Int) : room a b dx dy = max (dx - a.w - b.w) (dy - a.h - b.h) := by simp [room, ha, hb]
theorem room_ft {a b : KB} (ha : a.round = false) (hb : b.round = true) (dx dy : Int) : room a b dx dy = max (dx - a.w) 0 * max (dx - a.w) 0 + max (dy - a.h) 0 * max (dy - a.h) 0 - b.w * b.w := by simp [room, ha, hb]
theorem room_tf {a b : KB} (ha : a.round = true) (hb : b.round = false) (dx dy : Int) : room a b dx dy = max (dx - b.w) 0 * max (dx - b.w) 0 + max (dy - b.h) 0 * max (dy - b.h) 0 - a.w * a.w := by simp [room, ha, hb]
theorem room_tt {a b : KB} (ha : a.round = true) (hb : b.round = true) (dx dy : Int) : room a b dx dy = dx * dx + dy * dy - (a.w + b.w) * (a.w + b.w) := by simp [room, ha, hb]
/-- what shape.far answers -/
def farV (a b : KB) : Array Value := if okB a ∧ okB b then #[Ix (far a b), .bool true] else #[.int .i64 0, .bool false]
theorem farV_noA {a b : KB} (h : ¬ okB a) : farV a b = #[.int .i64 0, .bool false] := if_neg fun x => h x.1
theorem farV_noB {a b : KB} (h : ¬ okB b) : farV a b = #[.int .i64 0, .bool false] := if_neg fun x => h x.2
theorem farV_yes {a b : KB} (ha : okB a) (hb : okB b) {z : Int} (h : room a b (abs (a.x - b.x)) (abs (a.y - b.y)) = z) : farV a b = #[Ix z, .bool true] := by
  unfold farV far; rw [if_pos ⟨ha, hb⟩, h]
theorem all_ite {xs : List Int} {lo hi : Int} {k : Nat} {x : Int} (hx : xs[k]? = some x) (h : ¬ (lo ≤ x ∧ x ≤ hi)) : decide (∀ z ∈ xs, lo ≤ z ∧ z ≤ hi) = false :=
  decide_eq_false fun a => h (a x (List.mem_of_getElem? hx))
theorem all_end {xs : List Int} {lo hi : Int} {k : Nat} (hk : xs.length ≤ k) (h : ∀ z ∈ xs.take k, lo ≤ z ∧ z ≤ hi) : decide (∀ z ∈ xs, lo ≤ z ∧ z ≤ hi) = true :=
  decide_eq_true (by rwa [List.take_of_length_le hk] at h)
theorem all_next {xs : List Int} {lo hi : Int} {k : Nat} {x : Int} (hx : xs[k]? = some x) (h : ∀ z ∈ xs.take k, lo ≤ z ∧ z ≤ hi) (h2 : lo ≤ x ∧ x ≤ hi) : ∀ z ∈ xs.take (k + 1), lo ≤ z ∧ z ≤ hi := by
  rw [List.take_add_one, hx]
  intro z hz
  rcases List.mem_append.1 hz with hz | hz
  · exact h z hz
  · simp at hz; rw [hz]; exact h2
def midB (b : KB) : Prop := (-2097152 ≤ b.x ∧ b.x ≤ 2097152) ∧ (-2097152 ≤ b.y ∧ b.y ≤ 2097152)
theorem okB.mid {b : KB} (h : okB b) : midB b := ⟨⟨by have := h.2.1.1; omega, by have := h.2.1.2; omega⟩, ⟨by have := h.2.2.1.1; omega, by have := h.2.2.1.2; omega⟩⟩
theorem okB.co {b : KB} (h : okB b) (y : Bool) : -1048576 ≤ co y b ∧ co y b ≤ 1048576 := by
  cases y
  · exact h.2.1
  · exact h.2.2.1
theorem sgn_mul {s n B : Int} (hs : s = 1 ∨ s = -1) (hn : -B ≤ n ∧ n ≤ B) : -B ≤ s * n ∧ s * n ≤ B := by
  rcases hs with rfl | rfl <;> omega
theorem mid_sh {b : KB} {y : Bool} {n : Int} (h : okB b) (hn : -1048576 ≤ n ∧ n ≤ 1048576) : midB (sh y b n) := by
  have h1 := h.2.1; have h2 := h.2.2.1
  cases y
  · exact ⟨⟨by show _ ≤ b.x + n; omega, by show b.x + n ≤ _; omega⟩, ⟨by show _ ≤ b.y; omega, by show b.y ≤ _; omega⟩⟩
  · exact ⟨⟨by show _ ≤ b.x; omega, by show b.x ≤ _; omega⟩, ⟨by show _ ≤ b.y + n; omega, by show b.y + n ≤ _; omega⟩⟩
theorem dist_bd {a b : KB} (ha : midB a) (hb : midB b) : 0 ≤ dist a b ∧ dist a b ≤ 35184372088832 := by
  have q1 := sq_bd (x := a.x - b.x) (B := 4194304) (by have := ha.1; have := hb.1; omega) (by have := ha.1; have := hb.1; omega)
  have q2 := sq_bd (x := a.y - b.y) (B := 4194304) (by have := ha.2; have := hb.2; omega) (by have := ha.2; have := hb.2; omega)
  unfold dist; omega
def cmpI (a b : Int) : Int := if a < b then -1 else if b < a then 1 else 0
theorem U_toNat {n : Nat} (h : n < 18446744073709551616) : (U (n : Int)).toNat = n := by
  have h1 := ux_of (n : Int)
  rw [u64w] at h1
  omega
theorem half_toNat {m : Nat} (h : m < 9223372036854775808) : (U ((m : Nat) : Int) >>> (1 : UInt64)).toNat = m / 2 := by
  rw [UInt64.toNat_shiftRight, U_toNat (by omega), show (1 : UInt64).toNat % 64 = 1 from rfl, Nat.shiftRight_succ, Nat.shiftRight_zero]
/-- bodies in the order of their IDs -/
def ordB (bs : List KB) : Prop := ∀ i a b, bs[i]? = some a → bs[i + 1]? = some b → a.id < b.id
theorem ordB.lt {bs : List KB} (h : ordB bs) : ∀ {j i : Nat} {a b : KB}, i < j → bs[i]? = some a → bs[j]? = some b → a.id < b.id
  | 0, i, _, _, hij, _, _ => by omega
  | j + 1, i, a, b, hij, ha, hb => by
    by_cases e : i = j
    · subst e; exact h i a b ha hb
    · obtain ⟨c, hc⟩ : ∃ c, bs[j]? = some c := ⟨_, List.getElem?_eq_getElem (by have := (List.getElem?_eq_some_iff.1 hb).1; omega)⟩
      exact Int.lt_trans (ordB.lt h (by omega) ha hc) (h j c b hc hb)
def idAt (bs : List KB) (i : Nat) : Int := ((bs[i]?).map (·.id)).getD 0
theorem idAt_eq {bs : List KB} {i : Nat} {b : KB} (h : bs[i]? = some b) : idAt bs i = b.id := by unfold idAt; rw [h]; rfl
def lbN (bs : List KB) (id : Int) : Nat := searchN (fun i => decide (id ≤ idAt bs i)) bs.length 0
theorem lb_next {bs : List KB} {id : Int} {t h : Nat} {x : KB} (ho : ordB bs) (hx : bs[h]? = some x) (hlt : x.id < id) (ht : t < h + 1) : idAt bs t < id := by
  obtain ⟨c, hc⟩ : ∃ c, bs[t]? = some c := ⟨_, List.getElem?_eq_getElem (by have := (List.getElem?_eq_some_iff.1 hx).1; omega)⟩
  rw [idAt_eq hc]
  by_cases e : t = h
  · subst e; rw [hx] at hc; injection hc with hc; rw [← hc]; exact hlt
  · exact Int.lt_trans (ho.lt (by omega) hc hx) hlt
theorem lb_eq {bs : List KB} {id : Int} {k : Nat} (h1 : k ≤ bs.length) (h2 : ∀ t, t < k → idAt bs t < id) (h3 : k < bs.length → id ≤ idAt bs k) : lbN bs id = k :=
  searchN_eq (by omega) (by omega) (fun j _ b => decide_eq_false (by have := h2 j b; omega)) (fun h => decide_eq_true (h3 (by omega)))
theorem findB_iff {bs : List KB} {id : Int} : (findB bs id).isSome = true ↔ ∃ b ∈ bs, b.id = id := by
  unfold findB
  rw [List.find?_isSome]
  simp
theorem lb_found {bs : List KB} {id : Int} {k : Nat} {x : KB} (ho : ordB bs) (h2 : ∀ t, t < k → idAt bs t < id) (hx : bs[k]? = some x) (hle : id ≤ x.id) : (x.id = id) ↔ (findB bs id).isSome = true := by
  rw [findB_iff]
  constructor
  · exact fun h => ⟨x, List.mem_of_getElem? hx, h⟩
  · rintro ⟨b, hb, e⟩
    obtain ⟨i, hi⟩ := List.getElem?_of_mem hb
    by_cases c : i < k
    · have := h2 i c; rw [idAt_eq hi] at this; omega
    · by_cases c2 : i = k
      · subst c2; rw [hx] at hi; injection hi with hi; rw [hi]; exact e
      · have := ho.lt (i := k) (j := i) (by omega) hx hi; omega
theorem lb_none {bs : List KB} {id : Int} {k : Nat} (hk : bs.length ≤ k) (h2 : ∀ t, t < k → idAt bs t < id) : (findB bs id).isSome = false := by
  cases h : (findB bs id).isSome with
  | false => rfl
  | true =>
    obtain ⟨b, hb, e⟩ := findB_iff.1 h
    obtain ⟨i, hi⟩ := List.getElem?_of_mem hb
    have := (List.getElem?_eq_some_iff.1 hi).1
    have := h2 i (by omega)
    rw [idAt_eq hi] at this; omega
def idxI {α : Type} (p : α → Bool) (xs : List α) : Int := match xs.findIdx? p with | some i => (i : Int) | none => -1
theorem idx_found {α : Type} {p : α → Bool} {xs : List α} {k : Nat} {x : α} (hx : xs[k]? = some x) (hp : p x = true) (hno : ∀ y ∈ xs.take k, p y = false) : idxI p xs = k := by
  have : xs.findIdx? p = some k := by
    rw [List.findIdx?_eq_some_iff_getElem]
    obtain ⟨h, e⟩ := List.getElem?_eq_some_iff.1 hx
    refine ⟨h, by rw [e]; exact hp, fun j hj => ?_⟩
    have hj' : j < xs.length := by omega
    have := hno xs[j] (by rw [List.mem_take_iff_getElem]; exact ⟨j, by omega, rfl⟩)
    simpa using this
  unfold idxI; rw [this]
theorem idx_none {α : Type} {p : α → Bool} {xs : List α} {k : Nat} (hk : xs.length ≤ k) (hno : ∀ y ∈ xs.take k, p y = false) : idxI p xs = -1 := by
  rw [List.take_of_length_le hk] at hno
  have : xs.findIdx? p = none := List.findIdx?_eq_none_iff.2 hno
  unfold idxI; rw [this]
theorem idx_next {α : Type} {p : α → Bool} {xs : List α} {k : Nat} {x : α} (hx : xs[k]? = some x) (hp : p x = false) (hno : ∀ y ∈ xs.take k, p y = false) : ∀ y ∈ xs.take (k + 1), p y = false := by
  rw [List.take_add_one, hx]
  intro z hz
  rcases List.mem_append.1 hz with hz | hz
  · exact hno z hz
  · simp at hz; rw [hz]; exact hp
theorem idx_any {α : Type} (p : α → Bool) (xs : List α) : decide ((0 : Int) ≤ idxI p xs) = xs.any p := by
  unfold idxI
  cases h : xs.findIdx? p with
  | none =>
    have := List.findIdx?_eq_none_iff.1 h
    have e : xs.any p = false := List.any_eq_false.2 fun x hx => by simp [this x hx]
    rw [e]; rfl
  | some i =>
    obtain ⟨hi, hp, _⟩ := List.findIdx?_eq_some_iff_getElem.1 h
    have e : xs.any p = true := List.any_eq_true.2 ⟨_, List.getElem_mem hi, hp⟩
    rw [e]; exact decide_eq_true (Int.natCast_nonneg i)
/-- the body found, by its index -/
theorem idx_body {bs : List KB} {i : Int} {o : KB} (h : findB bs i = some o) : ∃ k : Nat, idxI (fun b : KB => decide (b.id = i)) bs = k ∧ bs[k]? = some o := by
  unfold findB at h
  obtain ⟨hp, k, hk, e, hno⟩ := List.find?_eq_some_iff_getElem.1 h
  refine ⟨k, idx_found (x := o) (by rw [List.getElem?_eq_getElem hk, e]) (by simpa using hp) fun y hy => ?_, by rw [List.getElem?_eq_getElem hk, e]⟩
  obtain ⟨j, hj, rfl⟩ := List.mem_take_iff_getElem.1 hy
  have := hno j (by omega)
  simpa using this
/-- island.Valid, body by body -/
theorem okS_next {bs : List KB} {k : Nat} {x : KB} (hx : bs[k]? = some x) (h : ∀ b ∈ bs.take k, okB b) (hok : okB x) : ∀ b ∈ bs.take (k + 1), okB b := by
  rw [List.take_add_one, hx]
  intro z hz
  rcases List.mem_append.1 hz with hz | hz
  · exact h z hz
  · simp at hz; rw [hz]; exact hok
theorem ord_next {bs : List KB} {k : Nat} {x : KB} (hx : bs[k]? = some x) (h : ∀ i a b, i + 1 < k → bs[i]? = some a → bs[i + 1]? = some b → a.id < b.id) (hok : 0 < k → ∀ y, bs[k - 1]? = some y → y.id < x.id) :
    ∀ i a b, i + 1 < k + 1 → bs[i]? = some a → bs[i + 1]? = some b → a.id < b.id := fun i a b hi ha hb => by
  by_cases e : i + 1 = k
  · subst e; rw [hx] at hb; injection hb with hb; rw [← hb]; exact hok (by omega) a (by simpa using ha)
  · exact h i a b (by omega) ha hb
theorem ord_all {bs : List KB} {k : Nat} (hk : bs.length ≤ k) (h : ∀ i a b, i + 1 < k → bs[i]? = some a → bs[i + 1]? = some b → a.id < b.id) : ordB bs := fun i a b ha hb =>
  h i a b (by have := (List.getElem?_eq_some_iff.1 hb).1; omega) ha hb
theorem ok_all {bs : List KB} {k : Nat} (hk : bs.length ≤ k) (h : ∀ b ∈ bs.take k, okB b) : ∀ b ∈ bs, okB b := by rwa [List.take_of_length_le hk] at h
instance (bs : List KB) (r : KR) : Decidable (okR bs r) := by unfold okR; infer_instance
/-- how far the ropes and the world's end let it go -/
def firstR (y : Bool) (b : KB) (s : Int) (most m0 : Nat) (es : List (KB × Int)) : Nat := es.foldl (fun k p => min k (ropeN y b s most p)) (m0 + 1)
theorem firstR_snoc (y : Bool) (b : KB) (s : Int) (most m0 : Nat) (es : List (KB × Int)) (x : KB × Int) : firstR y b s most m0 (es ++ [x]) = min (firstR y b s most m0 es) (ropeN y b s most x) := by unfold firstR; rw [List.foldl_append]; rfl
def stepO (y : Bool) (b : KB) (s : Int) (most : Nat) (q : Nat × Int) (o : KB) : Nat × Int := if blockN y b s most o < q.1 ∨ blockN y b s most o = q.1 ∧ blockN y b s most o ≤ most ∧ q.2 < 0 then (blockN y b s most o, o.id) else q
/-- how far the other bodies let it go, and who stops it -/
def firstO (y : Bool) (b : KB) (s : Int) (most k0 : Nat) (os : List KB) : Nat × Int := os.foldl (stepO y b s most) (k0, -1)
theorem firstO_yes {y : Bool} {b : KB} {s : Int} {most k0 : Nat} {os : List KB} {o : KB} (h : blockN y b s most o < (firstO y b s most k0 os).1 ∨ blockN y b s most o = (firstO y b s most k0 os).1 ∧ blockN y b s most o ≤ most ∧ (firstO y b s most k0 os).2 < 0) :
    firstO y b s most k0 (os ++ [o]) = (blockN y b s most o, o.id) := by
  show (os ++ [o]).foldl _ _ = _
  rw [List.foldl_append]; exact if_pos h
theorem firstO_no {y : Bool} {b : KB} {s : Int} {most k0 : Nat} {os : List KB} {o : KB} (h : ¬ (blockN y b s most o < (firstO y b s most k0 os).1 ∨ blockN y b s most o = (firstO y b s most k0 os).1 ∧ blockN y b s most o ≤ most ∧ (firstO y b s most k0 os).2 < 0)) :
    firstO y b s most k0 (os ++ [o]) = firstO y b s most k0 os := by
  show (os ++ [o]).foldl _ _ = _
  rw [List.foldl_append]; exact if_neg h
theorem inv1_fold {y : Bool} {b : KB} {s : Int} {most : Nat} : ∀ (es es0 : List (KB × Int)) (k : Nat), Inv1 y b s most es0 k → Inv1 y b s most (es0 ++ es) (es.foldl (fun k p => min k (ropeN y b s most p)) k)
  | [], es0, k, h => by simpa using h
  | e :: es, es0, k, h => by
    have := inv1_fold es (es0 ++ [e]) _ (inv1_step (o := e.1) (l := e.2) h (ropeN_least y b s most e))
    simpa using this
theorem inv2_fold {y : Bool} {b : KB} {s : Int} {most : Nat} {es : List (KB × Int)} : ∀ (os os0 : List KB) (q : Nat × Int), (∀ o ∈ os0 ++ os, 0 ≤ o.id) → Inv2 y b s most es os0 q.1 q.2 → Inv2 y b s most es (os0 ++ os) (os.foldl (stepO y b s most) q).1 (os.foldl (stepO y b s most) q).2
  | [], os0, q, _, h => by simpa using h
  | o :: os, os0, q, hid, h => by
    have hk := inv2_step (fun z hz => hid z (List.mem_append_left _ hz)) h (blockN_least y b s most o)
    have hq : Inv2 y b s most es (os0 ++ [o]) (stepO y b s most q o).1 (stepO y b s most q o).2 := by
      unfold stepO
      split
      · rename_i hc; exact hk.1 hc
      · rename_i hc; exact hk.2 hc
    have := inv2_fold os (os0 ++ [o]) _ (by simpa using hid) hq
    simpa using this
/-- what mover.run answers -/
def runP (bs : List KB) (rs : List KR) (b : KB) (y : Bool) (s : Int) (most : Nat) : Nat × Int :=
  let q := firstO y b s most (firstR y b s most (min (most : Int) (1048576 - s * co y b)).toNat (ends bs rs b)) (others bs b)
  (q.1 - 1, q.2)
theorem runP_spec {bs : List KB} {rs : List KR} {b : KB} {y : Bool} {s : Int} {most : Nat} (hs : s = 1 ∨ s = -1) (hb : okB b) (hbs : ∀ o ∈ bs, okB o) :
    (runP bs rs b y s most).1 ≤ most ∧ firstStop (fun j => stopB bs rs b (sh y b (s * j))) most 0 = ((runP bs rs b y s most).1, if (runP bs rs b y s most).1 < most then some (runP bs rs b y s most).2 else none) := by
  have hco := hb.co y
  have hw : 0 ≤ 1048576 - s * co y b := by rcases hs with rfl | rfl <;> omega
  have hk : (((min (most : Int) (1048576 - s * co y b)).toNat + 1 : Nat) : Int) = min (most : Int) (1048576 - s * co y b) + 1 := by omega
  have h0 : Inv1 y b s most [] ((min (most : Int) (1048576 - s * co y b)).toNat + 1) := inv1_nil hs hb hk
  have h1 : Inv1 y b s most (ends bs rs b) (firstR y b s most (min (most : Int) (1048576 - s * co y b)).toNat (ends bs rs b)) := by
    have := inv1_fold (ends bs rs b) [] _ h0
    rwa [List.nil_append] at this
  have h2 : Inv2 y b s most (ends bs rs b) (others bs b) (firstO y b s most (firstR y b s most (min (most : Int) (1048576 - s * co y b)).toNat (ends bs rs b)) (others bs b)).1 (firstO y b s most (firstR y b s most (min (most : Int) (1048576 - s * co y b)).toNat (ends bs rs b)) (others bs b)).2 := by
    have := inv2_fold (others bs b) [] (firstR y b s most (min (most : Int) (1048576 - s * co y b)).toNat (ends bs rs b), -1) (fun o ho => (hbs o (List.mem_filter.1 (show o ∈ others bs b by simpa using ho)).1).1.1) (inv2_nil h1)
    rwa [List.nil_append] at this
  unfold runP
  generalize firstO y b s most (firstR y b s most (min (most : Int) (1048576 - s * co y b)).toNat (ends bs rs b)) (others bs b) = q at h2
  have h3 := run_done (bs := bs) (rs := rs) h2
  have h4 := h2.1
  have h5 := h2.2.1
  refine ⟨by show q.1 - 1 ≤ most; omega, ?_⟩
  rw [h3]
  show _ = (q.1 - 1, if q.1 - 1 < most then some q.2 else none)
  by_cases h : q.1 ≤ most
  · rw [if_pos h, if_pos (by omega)]
  · rw [if_neg h, if_neg (by omega)]
theorem ends_mem {bs : List KB} {rs : List KR} {b : KB} {p : KB × Int} (hb : okB b) (hbs : ∀ o ∈ bs, okB o) (hrs : ∀ r ∈ rs, okR bs r) (h : p ∈ ends bs rs b) : okB p.1 ∧ dist b p.1 ≤ p.2 ∧ 0 ≤ p.2 ∧ p.2 ≤ 35184372088832 := by
  obtain ⟨r, hr, he⟩ := List.mem_filterMap.1 h
  unfold endOf at he
  split at he
  · cases hf : findB bs (endId b r) with
    | none => rw [hf] at he; cases he
    | some o =>
      rw [hf] at he
      simp only [Option.map_some, Option.some.injEq] at he
      subst he
      have ho := hbs o (List.mem_of_find?_eq_some hf)
      have h1 := dist_bd hb.mid ho.mid
      have h2 := (rope_ids hbs (hrs r hr)).2.2
      have h3 := sq_bd (x := r.len) (B := 2097152) (by omega) (by omega)
      exact ⟨ho, by show dist b o ≤ max _ _; omega, by show 0 ≤ max _ _; omega, by show max _ _ ≤ _; omega⟩
  · cases he
theorem others_mem {bs : List KB} {b o : KB} (hbs : ∀ o ∈ bs, okB o) (h : o ∈ others bs b) : okB o ∧ ¬ over b o := by
  obtain ⟨h1, h2⟩ := List.mem_filter.1 h
  simp at h2
  exact ⟨hbs o h1, fun h => h2.2 ((over_comm b o).1 h)⟩
theorem mem_pre {α : Type} {pre xs : List α} {x : α} (h : ∃ ys, ys = xs ∧ pre ++ [x] <+: ys) : x ∈ xs := by
  obtain ⟨_, rfl, h⟩ := h
  exact h.subset (List.mem_append_right _ (List.mem_singleton.2 rfl))
theorem runP_M {bs : List KB} {rs : List KR} {b : KB} {y : Bool} {n s : Int} {m : Nat} (hs : s = sgn n) (hm : max n (0 - n) = (m : Int)) (hb : okB b) (hbs : ∀ o ∈ bs, okB o) :
    (runP bs rs b y s m).1 ≤ m ∧ (runM bs rs b y n).1 = (runP bs rs b y s m).1 ∧ (runM bs rs b y n).2 = if (runP bs rs b y s m).1 < m then some (runP bs rs b y s m).2 else none := by
  have h := runP_spec (rs := rs) (y := y) (most := m) (hs ▸ sgn_or n : s = 1 ∨ s = -1) hb hbs
  have hmn : n.natAbs = m := by omega
  refine ⟨h.1, ?_⟩
  unfold runM
  rw [hmn, ← hs, h.2]
  exact ⟨rfl, rfl⟩
section
variable {rs : List KR} {B : List KB} {k : Nat} {id : Int} {y : Bool} {q : KB × List KS × Int × Int} {C C2 : KB} {S T : List KS} {vx vy n s : Int} {m : Nat} {u : Nat × Int}
theorem inner_yes (hC : C = q.1) (hT : T = S ++ q.2.1) (hx : vx = q.2.2.1) (hy : vy = q.2.2.2) (hn : n = if y then vy else vx) (hs : s = sgn n) (hm : max n (0 - n) = (m : Int)) (hu : runP (B.set k C) rs C y s m = u) (hC2 : sh y C (s * (u.1 : Nat)) = C2)
    (hok : okB C) (hbs : ∀ o ∈ B.set k C, okB o) (hlt : u.1 < m) : C2 = (innerStep rs B k id y q).1 ∧ T ++ [⟨id, if y then 2 else 1, u.2⟩] = S ++ (innerStep rs B k id y q).2.1 ∧ (if y then vx else 0) = (innerStep rs B k id y q).2.2.1 ∧ (if y then 0 else vy) = (innerStep rs B k id y q).2.2.2 := by
  obtain ⟨_, h1, h2⟩ := runP_M (rs := rs) (y := y) hs hm hok hbs
  rw [hu] at h1 h2
  rw [if_pos hlt] at h2
  subst hC; subst hx; subst hy; subst hs; subst hC2; subst hT; subst hn
  unfold innerStep
  simp only [h1, h2, stopL, keepV]
  exact ⟨trivial, by simp, trivial, trivial⟩
theorem inner_no (hC : C = q.1) (hT : T = S ++ q.2.1) (hx : vx = q.2.2.1) (hy : vy = q.2.2.2) (hn : n = if y then vy else vx) (hs : s = sgn n) (hm : max n (0 - n) = (m : Int)) (hu : runP (B.set k C) rs C y s m = u) (hC2 : sh y C (s * (u.1 : Nat)) = C2)
    (hok : okB C) (hbs : ∀ o ∈ B.set k C, okB o) (hlt : ¬ u.1 < m) : C2 = (innerStep rs B k id y q).1 ∧ T = S ++ (innerStep rs B k id y q).2.1 ∧ vx = (innerStep rs B k id y q).2.2.1 ∧ vy = (innerStep rs B k id y q).2.2.2 := by
  obtain ⟨_, h1, h2⟩ := runP_M (rs := rs) (y := y) hs hm hok hbs
  rw [hu] at h1 h2
  rw [if_neg hlt] at h2
  subst hC; subst hx; subst hy; subst hs; subst hC2; subst hT; subst hn
  unfold innerStep
  simp only [h1, h2, stopL, keepV]
  refine ⟨trivial, by simp, ?_, ?_⟩ <;> cases y <;> rfl
/-- the moved body is a body again -/
theorem inner_ok (hs : s = sgn n) (hm : max n (0 - n) = (m : Int)) (hu : runP (B.set k C) rs C y s m = u) (hC2 : sh y C (s * (u.1 : Nat)) = C2) (hok : okB C) (hbs : ∀ o ∈ B.set k C, okB o) : okB C2 := by
  obtain ⟨_, h1, _⟩ := runP_M (rs := rs) (y := y) hs hm hok hbs
  rw [hu] at h1
  rw [← hC2, hs, ← h1]
  exact runM_ok hok
end
theorem innerK_succ (rs : List KR) (B : List KB) (k : Nat) (b : KB) (nx ny : Int) (y : Bool) : innerK rs B k b nx ny (y.toNat + 1) = innerStep rs B k b.id y (innerK rs B k b nx ny y.toNat) := by cases y <;> rfl
theorem next_fixed {rs : List KR} {gx gy : Int} {bs B : List KB} {S : List KS} {k : Nat} {x : KB} (hB : B = (stepsTo rs gx gy bs k).1) (hS : S = (stepsTo rs gx gy bs k).2) (hx : B[k]? = some x) (hf : x.fixed = true) :
    B = (stepsTo rs gx gy bs (k + 1)).1 ∧ S = (stepsTo rs gx gy bs (k + 1)).2 := by
  have e : stepAt rs gx gy B k = (B, []) := by unfold stepAt; rw [hx]; simp only; rw [if_pos hf]
  have e2 : stepsTo rs gx gy bs (k + 1) = ((stepAt rs gx gy B k).1, S ++ (stepAt rs gx gy B k).2) := by rw [hB, hS]; rfl
  rw [e2, e]; exact ⟨rfl, by simp⟩
theorem next_move {rs : List KR} {gx gy : Int} {bs B : List KB} {S T : List KS} {k : Nat} {x C : KB} {vx vy nx ny : Int} (hB : B = (stepsTo rs gx gy bs k).1) (hS : S = (stepsTo rs gx gy bs k).2) (hx : B[k]? = some x) (hf : x.fixed = false)
    (hnx : nx = speedX x gx gy) (hny : ny = speedY x gx gy) (hC : C = (innerK rs B k x nx ny 2).1) (hT : T = S ++ (innerK rs B k x nx ny 2).2.1) (hvx : vx = (innerK rs B k x nx ny 2).2.2.1) (hvy : vy = (innerK rs B k x nx ny 2).2.2.2) :
    B.set k (withV C vx vy) = (stepsTo rs gx gy bs (k + 1)).1 ∧ T = (stepsTo rs gx gy bs (k + 1)).2 := by
  have e : stepAt rs gx gy B k = (B.set k (withV C vx vy), (innerK rs B k x nx ny 2).2.1) := by
    unfold stepAt; rw [hx]; simp only; rw [if_neg (by rw [hf]; simp), hC, hvx, hvy, hnx, hny]; rfl
  have e2 : stepsTo rs gx gy bs (k + 1) = ((stepAt rs gx gy B k).1, S ++ (stepAt rs gx gy B k).2) := by rw [hB, hS]; rfl
  rw [e2, e]; exact ⟨rfl, hT⟩
theorem set_self {α : Type} {xs : List α} {k : Nat} {x : α} (h : xs[k]? = some x) : xs.set k x = xs := by
  obtain ⟨hl, e⟩ := List.getElem?_eq_some_iff.1 h
  rw [← e]; exact List.set_getElem_self hl
theorem get_set {α : Type} {xs : List α} {k : Nat} (x : α) (h : k < xs.length) : (xs.set k x)[k]? = some x := by rw [List.getElem?_set_self h]
theorem speed_bd (b : KB) (gx gy : Int) : (-4096 ≤ speedX b gx gy ∧ speedX b gx gy ≤ 4096) ∧ (-4096 ≤ speedY b gx gy ∧ speedY b gx gy ≤ 4096) := by
  unfold speedX speedY clampS
  constructor <;> split <;> omega
theorem okB_withV {b : KB} (h : okB b) (hf : b.fixed = false) {vx vy : Int} (hx : -4096 ≤ vx ∧ vx ≤ 4096) (hy : -4096 ≤ vy ∧ vy ≤ 4096) : okB (withV b vx vy) :=
  ⟨h.1, h.2.1, h.2.2.1, hx, hy, h.2.2.2.2.2.1, h.2.2.2.2.2.2.1, h.2.2.2.2.2.2.2.1, fun e => by rw [show (withV b vx vy).fixed = b.fixed from rfl, hf] at e; cases e⟩
theorem nil_empty {α : Type} {R : Rp α} {h : PHeap} {a : Option Addr} {xs : List α} (he : Elems R h a xs) (hn : a.isNone = true) : xs = [] := by
  cases xs with
  | nil => rfl
  | cons x xs => rw [(he 0 x rfl).1] at hn; cases hn
end Go.Stp
