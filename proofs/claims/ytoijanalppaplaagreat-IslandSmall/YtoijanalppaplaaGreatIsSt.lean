/-
 Bodies, scenes that are valid, what Made makes: chapter 8's walks under chapter 7's numbers (trans.py). Own work.
-/
import Derived.Test.YtoijanalppaplaaGreatSlFam
import Derived.Test.YtoijanalppaplaaGreatSlJb
import Derived.Test.YtoijanalppaplaaGreatSlFlat
import Derived.Test.YtoijanalppaplaaGreatSlAny
import Derived.Test.YtoijanalppaplaaGreatProg
import Derived.Test.YtoijanalppaplaaGreatSlFn
import Derived.Test.YtoijanalppaplaaGreatSlC
namespace Go.Stp
structure KB where
 id : Int
 x : Int
 y : Int
 vx : Int
 vy : Int
 w : Int
 h : Int
 round : Bool
 fixed : Bool
 deriving DecidableEq
structure KR where
 a : Int
 b : Int
 len : Int
 deriving DecidableEq
def okB (b : KB) : Prop := (0 ≤ b.id ∧ b.id ≤ 65536) ∧ (-1048576 ≤ b.x ∧ b.x ≤ 1048576) ∧ (-1048576 ≤ b.y ∧ b.y ≤ 1048576) ∧ (-4096 ≤ b.vx ∧ b.vx ≤ 4096) ∧ (-4096 ≤ b.vy ∧ b.vy ≤ 4096) ∧ (1 ≤ b.w ∧ b.w ≤ 16384) ∧ (1 ≤ b.h ∧ b.h ≤ 16384) ∧
 (b.round = true → b.w = b.h) ∧ (b.fixed = true → b.vx = 0 ∧ b.vy = 0)
instance (b : KB) : Decidable (okB b) := by unfold okB; infer_instance
/-- the room of two shapes whose middles are dx and dy apart -/
def room (a b : KB) (dx dy : Int) : Int :=
 if a.round then (if b.round then dx * dx + dy * dy - (a.w + b.w) * (a.w + b.w) else max (dx - b.w) 0 * max (dx - b.w) 0 + max (dy - b.h) 0 * max (dy - b.h) 0 - a.w * a.w)
 else (if b.round then max (dx - a.w) 0 * max (dx - a.w) 0 + max (dy - a.h) 0 * max (dy - a.h) 0 - b.w * b.w else max (dx - a.w - b.w) (dy - a.h - b.h))
def abs (x : Int) : Int := max x (-x)
def far (a b : KB) : Int := room a b (abs (a.x - b.x)) (abs (a.y - b.y))
def over (a b : KB) : Prop := okB a ∧ okB b ∧ far a b < 0
instance (a b : KB) : Decidable (over a b) := by unfold over; infer_instance
end Go.Stp
namespace Go.Stp
def dist (a b : KB) : Int := (a.x - b.x) * (a.x - b.x) + (a.y - b.y) * (a.y - b.y)
def inside (b : KB) : Prop := -1048576 ≤ b.x ∧ b.x ≤ 1048576 ∧ -1048576 ≤ b.y ∧ b.y ≤ 1048576
instance (b : KB) : Decidable (inside b) := by unfold inside; infer_instance
def endId (b : KB) (r : KR) : Int := r.a + r.b - b.id
def findB (bs : List KB) (i : Int) : Option KB := bs.find? (fun o => o.id == i)
/-- the other ends of b's ropes, and how far they may be -/
def endOf (bs : List KB) (b : KB) (r : KR) : Option (KB × Int) :=
 if r.a = b.id ∨ r.b = b.id then (findB bs (endId b r)).map fun o => (o, max (r.len * r.len) (dist b o)) else none
def ends (bs : List KB) (rs : List KR) (b : KB) : List (KB × Int) := rs.filterMap (endOf bs b)
def held (bs : List KB) (rs : List KR) (b nb : KB) : Bool := (ends bs rs b).any fun p => decide (p.2 < dist nb p.1)
/-- a stop: of whom, along which axis, by whom -/
structure KS where
 id : Int
 along : UInt8
 by_ : Int
 deriving DecidableEq
def clampS (x : Int) : Int := max (min x 4096) (-4096)
def okV (gx gy : Int) : Prop := -4096 ≤ gx ∧ gx ≤ 4096 ∧ -4096 ≤ gy ∧ gy ≤ 4096
instance (gx gy : Int) : Decidable (okV gx gy) := by unfold okV; infer_instance
def speedX (b : KB) (gx gy : Int) : Int := if b.fixed = true ∨ ¬ okB b ∨ ¬ okV gx gy then 0 else clampS (b.vx + gx)
def speedY (b : KB) (gx gy : Int) : Int := if b.fixed = true ∨ ¬ okB b ∨ ¬ okV gx gy then 0 else clampS (b.vy + gy)
/-- a scene that is valid -/
def okR (bs : List KB) (r : KR) : Prop := (findB bs r.a).isSome ∧ (findB bs r.b).isSome ∧ r.a < r.b ∧ 0 ≤ r.len ∧ r.len ≤ 2097152
def okS (bs : List KB) (rs : List KR) (gx gy : Int) : Prop := bs.length ≤ 64 ∧ rs.length ≤ 32 ∧ okV gx gy ∧ (∀ b ∈ bs, okB b) ∧ (∀ i a b, bs[i]? = some a → bs[i + 1]? = some b → a.id < b.id) ∧ ∀ r ∈ rs, okR bs r
end Go.Stp
namespace Go.Stp
section
variable (y : Bool) (b : KB) (s : Int) (most : Nat)
variable {y b s most}
variable (y b s most)
variable {y b s most}
end
end Go.Stp
namespace Go.Stp
def SameIds (B C : List KB) : Prop := B.map (·.id) = C.map (·.id)
theorem SameIds.len {B C : List KB} (h : SameIds B C) : B.length = C.length := by have := congrArg List.length h; simpa using this
theorem SameIds.set {B C : List KB} (h : SameIds B C) {k : Nat} {b c : KB} (hk : B[k]? = some b) (hc : c.id = b.id) : SameIds (B.set k c) C := by
 unfold SameIds at *
 rw [← h, List.map_set, hc]
 obtain ⟨hl, e⟩ := List.getElem?_eq_some_iff.1 hk
 refine List.ext_getElem? fun i => ?_
 rw [List.getElem?_set]
 by_cases hi : k = i
 ·subst hi; simp [hl, e]
 rw [if_neg hi]
end Go.Stp
namespace Go.Sl
open Go.Stp
section
variable {P : Program} {ro : Option Nat} {n : Nat} {ds : List Deferred} {β : Base} {Q : Exit → Act → World → Prop} {f : Fm} {L : List Res} {ops : Array Oper} {rest : List Oper}
variable {d : Option Tmp} {ty : TypeId} {ps : String} {af : Array Edge} {g : Option (Nat × Bool)}
theorem e_max4 {x y z u : Operand} {k : IntKind} {a b c e : Int} {ts : Array TypeId} (hx : ev f x = .int k a) (hy : ev f y = .int k b) (hz : ev f z = .int k c) (hu : ev f u = .int k e) :
  EV P β L f ⟨d, .call ⟨.builtin .max, #[x, y, z, u], ts⟩, ty, ps, af, g⟩ (.int k (max (max (max a b) c) e)) := fun w _ => by
 simp [execOp, resolve, invoke, builtin, hx, hy, hz, hu, Builtin.max_, Builtin.max2]
 repeat' split
 all_goals omega
end
/-- the least number below n at which p holds; n if there is none -/
def searchN (p : Nat → Bool) : Nat → Nat → Nat
 | 0, i => i
 | k + 1, i => if p i then i else searchN p k (i + 1)
theorem searchN_eq {p : Nat → Bool} : ∀ {n i k : Nat}, i ≤ k → k ≤ i + n → (∀ j, i ≤ j → j < k → p j = false) → (k < i + n → p k = true) → searchN p n i = k
 | 0, i, k, h1, h2, _, _ => by unfold searchN; omega
 | n + 1, i, k, h1, h2, h3, h4 => by
  unfold searchN
  by_cases h : k = i
  ·rw [if_pos (h ▸ h4 (by omega)), h]
  ·rw [h3 i (Nat.le_refl _) (by omega), if_neg (by simp)]
   exact searchN_eq (by omega) (by omega) (fun j a b => h3 j (by omega) b) (fun a => h4 (by omega))
end Go.Sl
namespace Go.Stp
open Go.Sl
abbrev bC (b : KB) : Array Value := #[Ix b.id, Ix b.x, Ix b.y, Ix b.vx, Ix b.vy, Ix b.w, Ix b.h, .bool b.round, .bool b.fixed]
abbrev bodyE (b : KB) : List Value := [Ix b.id, Ix b.x, Ix b.y, Ix b.vx, Ix b.vy, Ix b.w, Ix b.h, .bool b.round, .bool b.fixed]
def KBR : Rp KB := Rp.flat 9 bodyE (fun _ => rfl)
abbrev ropeE (r : KR) : List Value := [Ix r.a, Ix r.b, Ix r.len]
def KRR : Rp KR := Rp.flat 3 ropeE (fun _ => rfl)
theorem vec_eq {a b c e : Int} : [Ix a, Ix b] = [Ix c, Ix e] ↔ a = c ∧ b = e := by simp
theorem body_eq {x y : KB} : bodyE x = bodyE y ↔ x = y := by
 constructor
 ·intro h; cases x; cases y; simp at h; simp [h]
 rintro rfl; rfl
theorem rope_eq {x y : KR} : ropeE x = ropeE y ↔ x = y := by
 constructor
 ·intro h; cases x; cases y; simp at h; simp [h]
 ·rintro rfl; rfl
abbrev BodyF : Fl KB := ⟨9, bodyE, fun _ => rfl, fun _ => rfl, by decide⟩
abbrev RopeF : Fl KR := ⟨3, ropeE, fun _ => rfl, fun _ => rfl, by decide⟩
/-- the negative, as the machine has it -/
def wneg (x : Int) : Int := IntKind.i64.wrap (0 - x)
theorem wneg_eq {x : Int} (h : -9223372036854775808 ≤ x ∧ x ≤ 9223372036854775807) : wneg x = if x = -9223372036854775808 then x else -x := by
 unfold wneg
 split
 ·rename_i e; subst e; decide
 rw [i64w (by omega)]; omega
theorem pull_iff {x y : Int} (hx : -9223372036854775808 ≤ x ∧ x ≤ 9223372036854775807) (hy : -9223372036854775808 ≤ y ∧ y ≤ 9223372036854775807) :
  (max (max (max x (wneg x)) y) (wneg y) ≤ 4096 ∧ (-4096 : Int) ≤ min x y) ↔ okV x y := by
 unfold okV
 rw [wneg_eq hx, wneg_eq hy]
 split <;> split <;> omega
/-- the variable 'rooms' -/
theorem all_ite {xs : List Int} {lo hi : Int} {k : Nat} {x : Int} (hx : xs[k]? = some x) (h : ¬ (lo ≤ x ∧ x ≤ hi)) : decide (∀ z ∈ xs, lo ≤ z ∧ z ≤ hi) = false :=
 decide_eq_false fun a => h (a x (List.mem_of_getElem? hx))
theorem all_end {xs : List Int} {lo hi : Int} {k : Nat} (hk : xs.length ≤ k) (h : ∀ z ∈ xs.take k, lo ≤ z ∧ z ≤ hi) : decide (∀ z ∈ xs, lo ≤ z ∧ z ≤ hi) = true :=
 decide_eq_true (by rwa [List.take_of_length_le hk] at h)
theorem all_next {xs : List Int} {lo hi : Int} {k : Nat} {x : Int} (hx : xs[k]? = some x) (h : ∀ z ∈ xs.take k, lo ≤ z ∧ z ≤ hi) (h2 : lo ≤ x ∧ x ≤ hi) : ∀ z ∈ xs.take (k + 1), lo ≤ z ∧ z ≤ hi := by
 rw [List.take_add_one, hx]
 intro z hz
 rcases List.mem_append.1 hz with hz | hz
 ·exact h z hz
 simp at hz; rw [hz]; exact h2
theorem U_toNat {n : Nat} (h : n < 18446744073709551616) : (U (n : Int)).toNat = n := by
 have h1 := ux_of (n : Int)
 rw [u64w] at h1
 omega
theorem half_toNat {m : Nat} (h : m < 9223372036854775808) : (U ((m : Nat) : Int) >>> (1 : UInt64)).toNat = m / 2 := by
 rw [UInt64.toNat_shiftRight, U_toNat (by omega), show (1 : UInt64).toNat % 64 = 1 from rfl, Nat.shiftRight_succ, Nat.shiftRight_zero]
/-- bodies in the order of their IDs -/
def ordB (bs : List KB) : Prop := ∀ i a b, bs[i]? = some a → bs[i + 1]? = some b → a.id < b.id
theorem ordB.lt {bs : List KB} (h : ordB bs) : ∀ {j i : Nat} {a b : KB}, i < j → bs[i]? = some a → bs[j]? = some b → a.id < b.id
 | 0, i, _, _, hij, _, _ => by omega
 | j + 1, i, a, b, hij, ha, hb => by
  by_cases e : i = j
  ·subst e; exact h i a b ha hb
  ·obtain ⟨c, hc⟩ : ∃ c, bs[j]? = some c := ⟨_, List.getElem?_eq_getElem (by have := (List.getElem?_eq_some_iff.1 hb).1; omega)⟩
   exact Int.lt_trans (ordB.lt h (by omega) ha hc) (h j c b hc hb)
def idAt (bs : List KB) (i : Nat) : Int := ((bs[i]?).map (·.id)).getD 0
theorem idAt_eq {bs : List KB} {i : Nat} {b : KB} (h : bs[i]? = some b) : idAt bs i = b.id := by unfold idAt; rw [h]; rfl
def lbN (bs : List KB) (id : Int) : Nat := searchN (fun i => decide (id ≤ idAt bs i)) bs.length 0
theorem lb_next {bs : List KB} {id : Int} {t h : Nat} {x : KB} (ho : ordB bs) (hx : bs[h]? = some x) (hlt : x.id < id) (ht : t < h + 1) : idAt bs t < id := by
 obtain ⟨c, hc⟩ : ∃ c, bs[t]? = some c := ⟨_, List.getElem?_eq_getElem (by have := (List.getElem?_eq_some_iff.1 hx).1; omega)⟩
 rw [idAt_eq hc]
 by_cases e : t = h
 ·subst e; rw [hx] at hc; injection hc with hc; rw [← hc]; exact hlt
 exact Int.lt_trans (ho.lt (by omega) hc hx) hlt
theorem lb_eq {bs : List KB} {id : Int} {k : Nat} (h1 : k ≤ bs.length) (h2 : ∀ t, t < k → idAt bs t < id) (h3 : k < bs.length → id ≤ idAt bs k) : lbN bs id = k :=
 searchN_eq (by omega) (by omega) (fun j _ b => decide_eq_false (by have := h2 j b; omega)) (fun h => decide_eq_true (h3 (by omega)))
theorem findB_iff {bs : List KB} {id : Int} : (findB bs id).isSome = true ↔ ∃ b ∈ bs, b.id = id := by
 unfold findB
 rw [List.find?_isSome]
 simp
theorem lb_found {bs : List KB} {id : Int} {k : Nat} {x : KB} (ho : ordB bs) (h2 : ∀ t, t < k → idAt bs t < id) (hx : bs[k]? = some x) (hle : id ≤ x.id) : (x.id = id) ↔ (findB bs id).isSome = true := by
 rw [findB_iff]
 constructor
 ·exact fun h => ⟨x, List.mem_of_getElem? hx, h⟩
 rintro ⟨b, hb, e⟩
 obtain ⟨i, hi⟩ := List.getElem?_of_mem hb
 by_cases c : i < k
 ·have := h2 i c; rw [idAt_eq hi] at this; omega
 by_cases c2 : i = k
 ·subst c2; rw [hx] at hi; injection hi with hi; rw [hi]; exact e
 have := ho.lt (i := k) (j := i) (by omega) hx hi; omega
theorem lb_none {bs : List KB} {id : Int} {k : Nat} (hk : bs.length ≤ k) (h2 : ∀ t, t < k → idAt bs t < id) : (findB bs id).isSome = false := by
 cases h : (findB bs id).isSome with
 | false => rfl
 | true =>
  obtain ⟨b, hb, e⟩ := findB_iff.1 h
  obtain ⟨i, hi⟩ := List.getElem?_of_mem hb
  have := (List.getElem?_eq_some_iff.1 hi).1
  have := h2 i (by omega)
  rw [idAt_eq hi] at this; omega
/-- the body found, by its index -/
theorem idx_body {bs : List KB} {i : Int} {o : KB} (h : findB bs i = some o) : ∃ k : Nat, idxI (fun b : KB => decide (b.id = i)) bs = k ∧ bs[k]? = some o := by
 unfold findB at h
 obtain ⟨hp, k, hk, e, hno⟩ := List.find?_eq_some_iff_getElem.1 h
 refine ⟨k, idx_found (x := o) (by rw [List.getElem?_eq_getElem hk, e]) (by simpa using hp) fun y hy => ?_, by rw [List.getElem?_eq_getElem hk, e]⟩
 obtain ⟨j, hj, rfl⟩ := List.mem_take_iff_getElem.1 hy
 have := hno j (by omega)
 simpa using this
/-- island.Valid, body by body -/
theorem okS_next {bs : List KB} {k : Nat} {x : KB} (hx : bs[k]? = some x) (h : ∀ b ∈ bs.take k, okB b) (hok : okB x) : ∀ b ∈ bs.take (k + 1), okB b := by
 rw [List.take_add_one, hx]
 intro z hz
 rcases List.mem_append.1 hz with hz | hz
 ·exact h z hz
 simp at hz; rw [hz]; exact hok
theorem ord_next {bs : List KB} {k : Nat} {x : KB} (hx : bs[k]? = some x) (h : ∀ i a b, i + 1 < k → bs[i]? = some a → bs[i + 1]? = some b → a.id < b.id) (hok : 0 < k → ∀ y, bs[k - 1]? = some y → y.id < x.id) :
  ∀ i a b, i + 1 < k + 1 → bs[i]? = some a → bs[i + 1]? = some b → a.id < b.id := fun i a b hi ha hb => by
 by_cases e : i + 1 = k
 ·subst e; rw [hx] at hb; injection hb with hb; rw [← hb]; exact hok (by omega) a (by simpa using ha)
 exact h i a b (by omega) ha hb
theorem ord_all {bs : List KB} {k : Nat} (hk : bs.length ≤ k) (h : ∀ i a b, i + 1 < k → bs[i]? = some a → bs[i + 1]? = some b → a.id < b.id) : ordB bs := fun i a b ha hb =>
 h i a b (by have := (List.getElem?_eq_some_iff.1 hb).1; omega) ha hb
theorem ok_all {bs : List KB} {k : Nat} (hk : bs.length ≤ k) (h : ∀ b ∈ bs.take k, okB b) : ∀ b ∈ bs, okB b := by rwa [List.take_of_length_le hk] at h
instance (bs : List KB) (r : KR) : Decidable (okR bs r) := by unfold okR; infer_instance
section
variable {rs : List KR} {B : List KB} {k : Nat} {id : Int} {y : Bool} {q : KB × List KS × Int × Int} {C C2 : KB} {S T : List KS} {vx vy n s : Int} {m : Nat} {u : Nat × Int}
end
theorem speed_bd (b : KB) (gx gy : Int) : (-4096 ≤ speedX b gx gy ∧ speedX b gx gy ≤ 4096) ∧ (-4096 ≤ speedY b gx gy ∧ speedY b gx gy ≤ 4096) := by
 unfold speedX speedY clampS
 constructor <;> split <;> omega
theorem nil_empty {α : Type} {R : Rp α} {h : PHeap} {a : Option Addr} {xs : List α} (he : Elems R h a xs) (hn : a.isNone = true) : xs = [] := by
 cases xs with
 | nil => rfl
 | cons x xs => rw [(he 0 x rfl).1] at hn; cases hn
end Go.Stp
namespace Go.Stp
open Go.Sl
structure KF where
 x : Int
 y : Int
 vx : Int
 vy : Int
 w : UInt8
 h : UInt8
 round : Bool
 fixed : Bool
/-- bodies as Made makes them: the IDs 1, 3, 5 .. -/
def madeL (bs : List KB) : Prop := (∀ i b, bs[i]? = some b → b.id = ((1 + 2 * i : Nat) : Int)) ∧ (∀ b ∈ bs, okB b) ∧ ∀ b ∈ bs, (-1000 ≤ b.x ∧ b.x ≤ 1000) ∧ (-1000 ≤ b.y ∧ b.y ≤ 1000) ∧ (-128 ≤ b.vx ∧ b.vx ≤ 128) ∧ -128 ≤ b.vy ∧ b.vy ≤ 128
/-- what Made makes -/
structure MadeP (bs : List KB) (rs : List KR) (gx gy : Int) : Prop where
 ok : okS bs rs gx gy
 bodies : madeL bs
 few : bs.length ≤ 16
 ropes : rs.length ≤ 6
/-! What a step keeps. -/
end Go.Stp
namespace Go.Proofs
open Go Go.Sl Go.Stp
theorem k_ptI {β : Base} {L : List Res} {b T : Nat} {fr : Nat × Nat} {xs : List Int} (i : Nat) (hi : L[i]? = some (pt b (.cells (xs.map fun x => Ix x).toArray T fr))) : Knows β L (fun h => Elems IntR h (some ⟨b, 0, none⟩) xs) := k_ptE (enc := fun x : Int => Ix x) i hi
theorem ua0 : Tryz.prog.underlying 28 = some (.slice 3) := by kernel_rfl
theorem ua1 : slB Tryz.prog 28 3 1 = true := by kernel_rfl
theorem ua2 : tyB Tryz.prog 3 false 1 = true := by kernel_rfl
theorem ua3 : fldB Tryz.prog 33 0 0 1 false = true := by kernel_rfl
theorem ua4 : (Tryz.prog.info? 3).bind (·.zero) = some (.int .i64 (0)) := by kernel_rfl
theorem ua5 : cfB Tryz.prog 65 = true := by kernel_rfl
theorem ua6 : fldB Tryz.prog 33 1 1 2 true = true := by kernel_rfl
theorem ua7 : fldB Tryz.prog 25 0 0 1 false = true := by kernel_rfl
theorem ua8 : fldB Tryz.prog 25 1 1 1 false = true := by kernel_rfl
theorem ua9 : fldB Tryz.prog 33 2 3 2 true = true := by kernel_rfl
theorem ua10 : fldB Tryz.prog 33 3 5 1 false = true := by kernel_rfl
theorem ua11 : fldB Tryz.prog 33 4 6 1 false = true := by kernel_rfl
theorem ua12 : fldB Tryz.prog 33 5 7 1 false = true := by kernel_rfl
theorem ua13 : tyB Tryz.prog 4 false 1 = true := by kernel_rfl
theorem ua14 : fldB Tryz.prog 33 6 8 1 false = true := by kernel_rfl
theorem ua15 : tyB Tryz.prog 25 true 2 = true := by kernel_rfl
theorem ua16 : stB Tryz.prog 25 [(0, 1), (1, 1)] = true := by kernel_rfl
theorem ua17 : (Tryz.prog.info? 25).bind (·.zero) = some (.agg #[.int .i64 (0), .int .i64 (0)]) := by kernel_rfl
theorem ua18 : lay Tryz.prog 10000 25 = some [.int .i64, .int .i64] := by kernel_rfl
theorem ua19 : isAggT Tryz.prog 25 = true := by kernel_rfl
theorem ua20 : Tryz.prog.eqGuardType Tryz.prog.depth 25 = false := by kernel_rfl
theorem ua22 : tyB Tryz.prog 33 true 9 = true := by kernel_rfl
theorem ua24 : cfB Tryz.prog 30 = true := by kernel_rfl
set_option maxHeartbeats 4000000 in
theorem between_ok (β : Base) (w : World) (hw : St β [] w) (lo hi : Int) (v : Value) (xs : List Int) (hs : Sl IntR β.heap v xs) : Calls Tryz.prog 65 #[Ix lo, Ix hi, v] w fun r w' => r = .returned (.bool (decide (∀ z ∈ xs, lo ≤ z ∧ z ≤ hi))) ∧ St β [] w' := by
 obtain ⟨va, vc, rfl, vl, vm, ve⟩ := hs.get
 refine enter (n := 24) Tryz.func65 rfl Tryz.ntmps65 rfl ?_ hw
 refine csr ?_
 refine l_val (v := .bool false) rfl rfl rfl e_assign ?_
 refine lnf ?_
 refine cs2 ?_
 refine c_region ?_
 refine lv (v := sB va xs (vc)) e_move ?_
 refine lv (v := Nx (xs.length)) (e_len (a := va) (n := xs.length) (c := vc) rfl ua0) ?_
 refine lv (v := .int .i64 (0)) e_move ?_
 refine lnf ?_
 refine c_block ?_
 refine c_loop (fun (k : Nat) (f : Fm) (L : List Res) => (f 0 = Ix (lo) ∧ f 1 = Ix (hi) ∧ f 9 = sB va xs (vc) ∧ f 10 = Nx (xs.length) ∧ f 11 = Nx (k)) ∧ L = [] ∧ (k ≤ xs.length ∧ ∀ z ∈ xs.take k, lo ≤ z ∧ z ≤ hi)) (fun (k : Nat) => xs.length - k) 0 ?_ ?_
 ·exact ⟨⟨rfl, rfl, rfl, rfl, rfl⟩, rfl, ⟨by omega, fun z hz => by simp at hz⟩⟩
 rintro k f0 L0 ⟨⟨hs0, hs1, hs9, hs10, hs11⟩, hL, ⟨hk, hp⟩⟩
 subst L0
 refine rebase (d := 0) hs0 ?_
 refine rebase (d := 1) hs1 ?_
 refine rebase (d := 9) hs9 ?_
 refine rebase (d := 10) hs10 ?_
 refine rebase (d := 11) hs11 ?_
 clear hs0 hs1 hs9 hs10 hs11
 refine csr ?_
 refine lv (e_lss (a := ((k : Nat) : Int)) (b := ((xs.length : Nat) : Int)) rfl rfl) ?_
 refine lnf ?_
 refine c_seq ?_
 refine c_if (((k : Nat) : Int) < ((xs.length : Nat) : Int)) rfl (fun hc1 => ?_) (fun hc1 => ?_)
 ·refine csk ?_
  refine c_seq ?_
  refine c_block ?_
  refine csr ?_
  obtain ⟨x2, hx3⟩ : ∃ x_, (xs)[k]? = some x_ := ⟨_, List.getElem?_eq_getElem (by omega)⟩
  obtain ⟨ha4, cs5, hc6, rfl⟩ := ve _ _ hx3
  refine lv (v := .pointer (some ((ba va).add (k * 1)))) (e_indexAddr (k := k) (len := xs.length) (cap := vc) (a := va) rfl rfl ua1 (by omega) ha4) ?_
  refine lv (v := Ix (x2)) (e_load1 ua2 rfl (kB hc6)) ?_
  refine lv (v := Ix (x2)) e_assign ?_
  refine lnc ?_
  refine lv (v := Ix (x2)) e_move ?_
  refine lv (v := Ix (lo)) e_move ?_
  refine lv (e_lss (a := (x2)) (b := (lo)) rfl rfl) ?_
  refine lv (v := .bool (decide ((x2) < (lo)))) e_move ?_
  refine l_split (s := 18) (p := (x2) < (lo)) rfl (fun hg8 => ?_) (fun hg8 => ?_)
  ·refine l_skip rfl rfl rfl rfl rfl rfl ?_
   refine l_skip rfl rfl rfl rfl rfl rfl ?_
   refine l_skip rfl rfl rfl rfl rfl rfl ?_
   refine lv (v := .bool true) (e_pick_t rfl) ?_
   refine lnf ?_
   refine c_yes rfl ?_
   refine csr ?_
   refine l_val (v := .bool false) rfl rfl rfl e_assign ?_
   refine lnf ?_
   refine c_ret ?_
   refine f_block_ret ?_
   refine f_then_ret ?_
   refine f_then_ret ?_
   refine f_block_ret ?_
   refine f_then_ret ?_
   refine ret1 Tryz.results65 (v := .bool false) rfl ?_
   intro w hw
   exact ⟨congrArg (fun b : Bool => Ending.returned (.bool b)) (all_ite hx3 (by omega)).symm, st_mask [] rfl hw⟩
  refine g_val (v := Ix (x2)) rfl rfl rfl rfl rfl e_move ?_
  refine g_val (v := Ix (hi)) rfl rfl rfl rfl rfl e_move ?_
  refine g_val rfl rfl rfl rfl rfl (e_gtr (a := (x2)) (b := (hi)) rfl rfl) ?_
  refine lv (v := .bool (decide ((hi) < (x2)))) (e_pick_f rfl) ?_
  refine lnf ?_
  refine c_if ((hi) < (x2)) rfl (fun hc9 => ?_) (fun hc9 => ?_)
  ·refine csr ?_
   refine l_val (v := .bool false) rfl rfl rfl e_assign ?_
   refine lnf ?_
   refine c_ret ?_
   refine f_block_ret ?_
   refine f_then_ret ?_
   refine f_then_ret ?_
   refine f_block_ret ?_
   refine f_then_ret ?_
   refine ret1 Tryz.results65 (v := .bool false) rfl ?_
   intro w hw
   exact ⟨congrArg (fun b : Bool => Ending.returned (.bool b)) (all_ite hx3 (by omega)).symm, st_mask [] rfl hw⟩
  refine c_skip ?_
  refine f_block ?_
  refine f_then ?_
  refine c_region ?_
  refine lv (v := Nx (k + 1)) (e_add (a := ((k : Nat) : Int)) (b := (1 : Int)) rfl rfl (i64n (by omega) (by omega))) ?_
  refine lv (v := Nx (k + 1)) e_move ?_
  refine l_nil ?_
  exact f_cut ⟨k + 1, ⟨⟨rfl, rfl, rfl, rfl, rfl⟩, rfl, ⟨by omega, all_next hx3 hp ⟨by omega, by omega⟩⟩⟩, (show xs.length - (k + 1) < xs.length - k from by omega)⟩
 refine c_exit ?_
 refine f_then_exit ?_
 refine f_then_exit ?_
 refine f_exit ?_
 refine ftc ?_
 refine lv (v := .bool true) e_assign ?_
 refine lnf ?_
 refine c_ret ?_
 refine ret1 Tryz.results65 (v := .bool true) rfl ?_
 intro w hw
 exact ⟨congrArg (fun b : Bool => Ending.returned (.bool b)) (all_end (by omega) hp).symm, st_mask [] rfl hw⟩
theorem between1_ok (β : Base) (w : World) (hw : St β [] w) (lo hi : Int) (v : Value) (x : Int) (hs : Sl IntR β.heap v [x]) : Calls Tryz.prog 65 #[Ix lo, Ix hi, v] w fun r w' => r = .returned (.bool (decide ((lo ≤ x ∧ x ≤ hi)))) ∧ St β [] w' := by
 refine (between_ok β w hw lo hi v _ hs).mono ?_
 rintro r w' ⟨rfl, hw'⟩
 exact ⟨congrArg (fun b : Bool => Ending.returned (.bool b)) (decide_eq_decide.2 (by simp)), hw'⟩
theorem between2_ok (β : Base) (w : World) (hw : St β [] w) (lo hi : Int) (v : Value) (x y : Int) (hs : Sl IntR β.heap v [x, y]) : Calls Tryz.prog 65 #[Ix lo, Ix hi, v] w fun r w' => r = .returned (.bool (decide ((lo ≤ x ∧ x ≤ hi) ∧ (lo ≤ y ∧ y ≤ hi)))) ∧ St β [] w' := by
 refine (between_ok β w hw lo hi v _ hs).mono ?_
 rintro r w' ⟨rfl, hw'⟩
 exact ⟨congrArg (fun b : Bool => Ending.returned (.bool b)) (decide_eq_decide.2 (by simp)), hw'⟩
set_option maxHeartbeats 4000000 in
theorem valid_ok (β : Base) (w : World) (hw : St β [] w) (b : KB) : Calls Tryz.prog 30 #[.agg (bC b)] w fun r w' => r = .returned (.bool (decide (okB b))) ∧ St β [] w' := by
 refine enter (n := 60) Tryz.func30 rfl Tryz.ntmps30 rfl ?_ hw
 refine csr ?_
 refine l_mv rfl rfl rfl (m_box (v := .agg (bC b)) rfl) ?_
 rintro _ _ ⟨b1, rfl, rfl⟩
 refine lv (v := .bool false) e_assign ?_
 refine lnf ?_
 refine cs2 ?_
 refine c_region ?_
 refine lv (v := pp b1 0) (e_fieldPt rfl ua3) ?_
 refine lv (v := Ix (b.id)) (e_load1 ua2 rfl (k_pt 0 rfl rfl)) ?_
 refine l_mv rfl rfl rfl (m_slices ua1 ua4 (cells := #[Ix (b.id)]) rfl rfl rfl rfl) ?_
 rintro _ _ ⟨b2, rfl, rfl⟩
 refine lcf (cl0 (vs := [.int .i64 (0), .int .i64 (65536), .slice (some ⟨b2, 0, none⟩) 1 1]) ua5 rfl rfl) rfl fun w β1 sb kn hw1 back => (between1_ok β1 w hw1 (0) (65536) _ b.id (⟨⟨_, _, rfl, by simp, by simp, kn _ (k_ptI 0 (xs := [b.id]) rfl)⟩⟩ : Sl IntR _ _ [b.id])).mono ?_
 rintro e w' ⟨rfl, hw'⟩
 refine ⟨_, rfl, _, back _ _ hw', ?_⟩
 clear hw1 hw' back kn sb
 refine lv (v := .bool (decide (¬ (((0 : Int) ≤ b.id ∧ b.id ≤ 65536))))) (e_not_p (p := ((0 : Int) ≤ b.id ∧ b.id ≤ 65536)) rfl) ?_
 refine lv (v := .bool (decide (¬ (((0 : Int) ≤ b.id ∧ b.id ≤ 65536))))) e_move ?_
 refine l_split (s := 8) (p := ¬ (((0 : Int) ≤ b.id ∧ b.id ≤ 65536))) rfl (fun hg3 => ?_) (fun hg3 => ?_)
 ·refine l_skip rfl rfl rfl rfl rfl rfl ?_
  refine l_skip rfl rfl rfl rfl rfl rfl ?_
  refine l_skip rfl rfl rfl rfl rfl rfl ?_
  refine l_skip rfl rfl rfl rfl rfl rfl ?_
  refine l_skip rfl rfl rfl rfl rfl rfl ?_
  refine l_skip rfl rfl rfl rfl rfl rfl ?_
  refine l_skip rfl rfl rfl rfl rfl rfl ?_
  refine l_skip rfl rfl rfl rfl rfl rfl ?_
  refine l_skip rfl rfl rfl rfl rfl rfl ?_
  refine lv (v := .bool true) (e_pick_t rfl) ?_
  refine lv (v := .bool true) e_move ?_
  refine l_skip rfl rfl rfl rfl rfl rfl ?_
  refine l_skip rfl rfl rfl rfl rfl rfl ?_
  refine l_skip rfl rfl rfl rfl rfl rfl ?_
  refine l_skip rfl rfl rfl rfl rfl rfl ?_
  refine l_skip rfl rfl rfl rfl rfl rfl ?_
  refine l_skip rfl rfl rfl rfl rfl rfl ?_
  refine l_skip rfl rfl rfl rfl rfl rfl ?_
  refine l_skip rfl rfl rfl rfl rfl rfl ?_
  refine l_skip rfl rfl rfl rfl rfl rfl ?_
  refine lv (v := .bool true) (e_pick_t rfl) ?_
  refine lv (v := .bool true) e_move ?_
  refine l_skip rfl rfl rfl rfl rfl rfl ?_
  refine l_skip rfl rfl rfl rfl rfl rfl ?_
  refine l_skip rfl rfl rfl rfl rfl rfl ?_
  refine l_skip rfl rfl rfl rfl rfl rfl ?_
  refine l_skip rfl rfl rfl rfl rfl rfl ?_
  refine l_skip rfl rfl rfl rfl rfl rfl ?_
  refine l_skip rfl rfl rfl rfl rfl rfl ?_
  refine lv (v := .bool true) (e_pick_t rfl) ?_
  refine lnf ?_
  refine c_yes rfl ?_
  refine csr ?_
  refine l_val (v := .bool false) rfl rfl rfl e_assign ?_
  refine lnf ?_
  refine c_ret ?_
  refine f_then_ret ?_
  refine ret1 Tryz.results30 (v := .bool false) rfl ?_
  intro w hw
  exact ⟨congrArg (fun b : Bool => Ending.returned (.bool b)) (show false = decide (okB b) by first | (rw [eq_comm, decide_eq_false_iff_not]; intro hok; obtain ⟨h1, h2, h3, h4, h5, h6, h7, h8, h9⟩ := hok; simp_all) | (simp only [okB]; simp_all)), st_mask [false, false] rfl hw⟩
 refine g_val (v := pp b1 1) rfl rfl rfl rfl rfl (e_fieldPt rfl ua6) ?_
 refine g_val (v := pp b1 1) rfl rfl rfl rfl rfl (e_fieldPt rfl ua7) ?_
 refine g_val (v := Ix (b.x)) rfl rfl rfl rfl rfl (e_load1 ua2 rfl (k_pt 1 rfl rfl)) ?_
 refine g_val (v := pp b1 1) rfl rfl rfl rfl rfl (e_fieldPt rfl ua6) ?_
 refine g_val (v := pp b1 2) rfl rfl rfl rfl rfl (e_fieldPt rfl ua8) ?_
 refine g_val (v := Ix (b.y)) rfl rfl rfl rfl rfl (e_load1 ua2 rfl (k_pt 1 rfl rfl)) ?_
 refine g_mv rfl rfl rfl rfl rfl (m_slices ua1 ua4 (cells := #[Ix (b.x), Ix (b.y)]) rfl rfl rfl rfl) ?_
 rintro _ _ ⟨b4, rfl, rfl⟩
 refine g_call rfl rfl rfl rfl rfl (cl0 (vs := [.int .i64 (-1048576), .int .i64 (1048576), .slice (some ⟨b4, 0, none⟩) 2 2]) ua5 rfl rfl) ?_
 intro w hw
 obtain ⟨β1, sb, kn, hw1, back⟩ := St.frame_all hw
 refine (between2_ok β1 w hw1 (-1048576) (1048576) _ b.x b.y (⟨⟨_, _, rfl, by simp, by simp, kn _ (k_ptI 0 (xs := [b.x, b.y]) rfl)⟩⟩ : Sl IntR _ _ [b.x, b.y])).mono ?_
 rintro e w' ⟨rfl, hw'⟩
 refine ⟨_, rfl, _, back _ _ hw', ?_⟩
 clear hw hw1 hw' back kn sb
 refine g_val (v := .bool (decide (¬ (((-1048576 : Int) ≤ b.x ∧ b.x ≤ 1048576) ∧ ((-1048576 : Int) ≤ b.y ∧ b.y ≤ 1048576))))) rfl rfl rfl rfl rfl (e_not_p (p := ((-1048576 : Int) ≤ b.x ∧ b.x ≤ 1048576) ∧ ((-1048576 : Int) ≤ b.y ∧ b.y ≤ 1048576)) rfl) ?_
 refine lv (v := .bool (decide (¬ (((-1048576 : Int) ≤ b.x ∧ b.x ≤ 1048576) ∧ ((-1048576 : Int) ≤ b.y ∧ b.y ≤ 1048576))))) (e_pick_f rfl) ?_
 refine lv (v := .bool (decide (¬ (((-1048576 : Int) ≤ b.x ∧ b.x ≤ 1048576) ∧ ((-1048576 : Int) ≤ b.y ∧ b.y ≤ 1048576))))) e_move ?_
 refine l_split (s := 19) (p := ¬ (((-1048576 : Int) ≤ b.x ∧ b.x ≤ 1048576) ∧ ((-1048576 : Int) ≤ b.y ∧ b.y ≤ 1048576))) rfl (fun hg5 => ?_) (fun hg5 => ?_)
 ·refine l_skip rfl rfl rfl rfl rfl rfl ?_
  refine l_skip rfl rfl rfl rfl rfl rfl ?_
  refine l_skip rfl rfl rfl rfl rfl rfl ?_
  refine l_skip rfl rfl rfl rfl rfl rfl ?_
  refine l_skip rfl rfl rfl rfl rfl rfl ?_
  refine l_skip rfl rfl rfl rfl rfl rfl ?_
  refine l_skip rfl rfl rfl rfl rfl rfl ?_
  refine l_skip rfl rfl rfl rfl rfl rfl ?_
  refine l_skip rfl rfl rfl rfl rfl rfl ?_
  refine lv (v := .bool true) (e_pick_t rfl) ?_
  refine lv (v := .bool true) e_move ?_
  refine l_skip rfl rfl rfl rfl rfl rfl ?_
  refine l_skip rfl rfl rfl rfl rfl rfl ?_
  refine l_skip rfl rfl rfl rfl rfl rfl ?_
  refine l_skip rfl rfl rfl rfl rfl rfl ?_
  refine l_skip rfl rfl rfl rfl rfl rfl ?_
  refine l_skip rfl rfl rfl rfl rfl rfl ?_
  refine l_skip rfl rfl rfl rfl rfl rfl ?_
  refine lv (v := .bool true) (e_pick_t rfl) ?_
  refine lnf ?_
  refine c_yes rfl ?_
  refine csr ?_
  refine l_val (v := .bool false) rfl rfl rfl e_assign ?_
  refine lnf ?_
  refine c_ret ?_
  refine f_then_ret ?_
  refine ret1 Tryz.results30 (v := .bool false) rfl ?_
  intro w hw
  exact ⟨congrArg (fun b : Bool => Ending.returned (.bool b)) (show false = decide (okB b) by first | (rw [eq_comm, decide_eq_false_iff_not]; intro hok; obtain ⟨h1, h2, h3, h4, h5, h6, h7, h8, h9⟩ := hok; simp_all) | (simp only [okB]; simp_all)), st_mask [false, false, false] rfl hw⟩
 refine g_val (v := pp b1 3) rfl rfl rfl rfl rfl (e_fieldPt rfl ua9) ?_
 refine g_val (v := pp b1 3) rfl rfl rfl rfl rfl (e_fieldPt rfl ua7) ?_
 refine g_val (v := Ix (b.vx)) rfl rfl rfl rfl rfl (e_load1 ua2 rfl (k_pt 2 rfl rfl)) ?_
 refine g_val (v := pp b1 3) rfl rfl rfl rfl rfl (e_fieldPt rfl ua9) ?_
 refine g_val (v := pp b1 4) rfl rfl rfl rfl rfl (e_fieldPt rfl ua8) ?_
 refine g_val (v := Ix (b.vy)) rfl rfl rfl rfl rfl (e_load1 ua2 rfl (k_pt 2 rfl rfl)) ?_
 refine g_mv rfl rfl rfl rfl rfl (m_slices ua1 ua4 (cells := #[Ix (b.vx), Ix (b.vy)]) rfl rfl rfl rfl) ?_
 rintro _ _ ⟨b6, rfl, rfl⟩
 refine g_call rfl rfl rfl rfl rfl (cl0 (vs := [.int .i64 (-4096), .int .i64 (4096), .slice (some ⟨b6, 0, none⟩) 2 2]) ua5 rfl rfl) ?_
 intro w hw
 obtain ⟨β1, sb, kn, hw1, back⟩ := St.frame_all hw
 refine (between2_ok β1 w hw1 (-4096) (4096) _ b.vx b.vy (⟨⟨_, _, rfl, by simp, by simp, kn _ (k_ptI 0 (xs := [b.vx, b.vy]) rfl)⟩⟩ : Sl IntR _ _ [b.vx, b.vy])).mono ?_
 rintro e w' ⟨rfl, hw'⟩
 refine ⟨_, rfl, _, back _ _ hw', ?_⟩
 clear hw hw1 hw' back kn sb
 refine g_val (v := .bool (decide (¬ (((-4096 : Int) ≤ b.vx ∧ b.vx ≤ 4096) ∧ ((-4096 : Int) ≤ b.vy ∧ b.vy ≤ 4096))))) rfl rfl rfl rfl rfl (e_not_p (p := ((-4096 : Int) ≤ b.vx ∧ b.vx ≤ 4096) ∧ ((-4096 : Int) ≤ b.vy ∧ b.vy ≤ 4096)) rfl) ?_
 refine lv (v := .bool (decide (¬ (((-4096 : Int) ≤ b.vx ∧ b.vx ≤ 4096) ∧ ((-4096 : Int) ≤ b.vy ∧ b.vy ≤ 4096))))) (e_pick_f rfl) ?_
 refine lv (v := .bool (decide (¬ (((-4096 : Int) ≤ b.vx ∧ b.vx ≤ 4096) ∧ ((-4096 : Int) ≤ b.vy ∧ b.vy ≤ 4096))))) e_move ?_
 refine l_split (s := 30) (p := ¬ (((-4096 : Int) ≤ b.vx ∧ b.vx ≤ 4096) ∧ ((-4096 : Int) ≤ b.vy ∧ b.vy ≤ 4096))) rfl (fun hg7 => ?_) (fun hg7 => ?_)
 ·refine l_skip rfl rfl rfl rfl rfl rfl ?_
  refine l_skip rfl rfl rfl rfl rfl rfl ?_
  refine l_skip rfl rfl rfl rfl rfl rfl ?_
  refine l_skip rfl rfl rfl rfl rfl rfl ?_
  refine l_skip rfl rfl rfl rfl rfl rfl ?_
  refine l_skip rfl rfl rfl rfl rfl rfl ?_
  refine l_skip rfl rfl rfl rfl rfl rfl ?_
  refine lv (v := .bool true) (e_pick_t rfl) ?_
  refine lnf ?_
  refine c_yes rfl ?_
  refine csr ?_
  refine l_val (v := .bool false) rfl rfl rfl e_assign ?_
  refine lnf ?_
  refine c_ret ?_
  refine f_then_ret ?_
  refine ret1 Tryz.results30 (v := .bool false) rfl ?_
  intro w hw
  exact ⟨congrArg (fun b : Bool => Ending.returned (.bool b)) (show false = decide (okB b) by first | (rw [eq_comm, decide_eq_false_iff_not]; intro hok; obtain ⟨h1, h2, h3, h4, h5, h6, h7, h8, h9⟩ := hok; simp_all) | (simp only [okB]; simp_all)), st_mask [false, false, false, false] rfl hw⟩
 refine g_val (v := pp b1 5) rfl rfl rfl rfl rfl (e_fieldPt rfl ua10) ?_
 refine g_val (v := Ix (b.w)) rfl rfl rfl rfl rfl (e_load1 ua2 rfl (k_pt 3 rfl rfl)) ?_
 refine g_val (v := pp b1 6) rfl rfl rfl rfl rfl (e_fieldPt rfl ua11) ?_
 refine g_val (v := Ix (b.h)) rfl rfl rfl rfl rfl (e_load1 ua2 rfl (k_pt 3 rfl rfl)) ?_
 refine g_mv rfl rfl rfl rfl rfl (m_slices ua1 ua4 (cells := #[Ix (b.w), Ix (b.h)]) rfl rfl rfl rfl) ?_
 rintro _ _ ⟨b8, rfl, rfl⟩
 refine g_call rfl rfl rfl rfl rfl (cl0 (vs := [.int .i64 (1), .int .i64 (16384), .slice (some ⟨b8, 0, none⟩) 2 2]) ua5 rfl rfl) ?_
 intro w hw
 obtain ⟨β1, sb, kn, hw1, back⟩ := St.frame_all hw
 refine (between2_ok β1 w hw1 (1) (16384) _ b.w b.h (⟨⟨_, _, rfl, by simp, by simp, kn _ (k_ptI 0 (xs := [b.w, b.h]) rfl)⟩⟩ : Sl IntR _ _ [b.w, b.h])).mono ?_
 rintro e w' ⟨rfl, hw'⟩
 refine ⟨_, rfl, _, back _ _ hw', ?_⟩
 clear hw hw1 hw' back kn sb
 refine g_val (v := .bool (decide (¬ (((1 : Int) ≤ b.w ∧ b.w ≤ 16384) ∧ ((1 : Int) ≤ b.h ∧ b.h ≤ 16384))))) rfl rfl rfl rfl rfl (e_not_p (p := ((1 : Int) ≤ b.w ∧ b.w ≤ 16384) ∧ ((1 : Int) ≤ b.h ∧ b.h ≤ 16384)) rfl) ?_
 refine lv (v := .bool (decide (¬ (((1 : Int) ≤ b.w ∧ b.w ≤ 16384) ∧ ((1 : Int) ≤ b.h ∧ b.h ≤ 16384))))) (e_pick_f rfl) ?_
 refine lnf ?_
 refine c_if (¬ (((1 : Int) ≤ b.w ∧ b.w ≤ 16384) ∧ ((1 : Int) ≤ b.h ∧ b.h ≤ 16384))) rfl (fun hc9 => ?_) (fun hc9 => ?_)
 ·refine csr ?_
  refine l_val (v := .bool false) rfl rfl rfl e_assign ?_
  refine lnf ?_
  refine c_ret ?_
  refine f_then_ret ?_
  refine ret1 Tryz.results30 (v := .bool false) rfl ?_
  intro w hw
  exact ⟨congrArg (fun b : Bool => Ending.returned (.bool b)) (show false = decide (okB b) by first | (rw [eq_comm, decide_eq_false_iff_not]; intro hok; obtain ⟨h1, h2, h3, h4, h5, h6, h7, h8, h9⟩ := hok; simp_all) | (simp only [okB]; simp_all)), st_mask [false, false, false, false, false] rfl hw⟩
 refine csk ?_
 refine csr ?_
 refine lv (v := pp b1 7) (e_fieldPt rfl ua12) ?_
 refine lv (v := .bool (b.round)) (e_load1 ua13 rfl (k_pt 4 rfl rfl)) ?_
 refine lv (v := .bool (!b.round)) (e_not rfl) ?_
 refine lv (v := .bool (!b.round)) e_move ?_
 refine l_splitb (s := 42) (b := !b.round) rfl (fun hg10 => ?_) (fun hg10 => ?_)
 ·refine l_skip rfl rfl rfl rfl rfl rfl ?_
  refine l_skip rfl rfl rfl rfl rfl rfl ?_
  refine l_skip rfl rfl rfl rfl rfl rfl ?_
  refine l_skip rfl rfl rfl rfl rfl rfl ?_
  refine l_skip rfl rfl rfl rfl rfl rfl ?_
  refine lv (v := .bool true) (e_pick_t rfl) ?_
  refine lv (v := .bool true) e_move ?_
  refine g_val (v := pp b1 8) rfl rfl rfl rfl rfl (e_fieldPt rfl ua14) ?_
  refine g_val (v := .bool (b.fixed)) rfl rfl rfl rfl rfl (e_load1 ua13 rfl (k_pt 4 rfl rfl)) ?_
  refine g_val (v := .bool (!b.fixed)) rfl rfl rfl rfl rfl (e_not rfl) ?_
  refine g_val (v := .bool (!b.fixed)) rfl rfl rfl rfl rfl e_move ?_
  refine l_splitb (s := 53) (b := !b.fixed) rfl (fun hg11 => ?_) (fun hg11 => ?_)
  ·refine l_skip rfl rfl rfl rfl rfl rfl ?_
   refine l_skip rfl rfl rfl rfl rfl rfl ?_
   refine l_skip rfl rfl rfl rfl rfl rfl ?_
   refine l_skip rfl rfl rfl rfl rfl rfl ?_
   refine g_val (v := .bool true) rfl rfl rfl rfl rfl (e_pick_t rfl) ?_
   refine lv (v := .bool true) (e_pick_t rfl) ?_
   refine lv (v := .bool true) e_assign ?_
   refine lnf ?_
   refine c_ret ?_
   refine ret1 Tryz.results30 (v := .bool true) rfl ?_
   intro w hw
   exact ⟨congrArg (fun b : Bool => Ending.returned (.bool b)) (show true = decide (okB b) by first | (rw [eq_comm, decide_eq_false_iff_not]; intro hok; obtain ⟨h1, h2, h3, h4, h5, h6, h7, h8, h9⟩ := hok; simp_all) | (simp only [okB]; simp_all)), st_mask [false, false, false, false, false] rfl hw⟩
  refine g_val (v := pp b1 3) rfl rfl rfl rfl rfl (e_fieldPt rfl ua9) ?_
  refine g_val (v := .agg #[Ix (b.vx), Ix (b.vy)]) rfl rfl rfl rfl rfl (e_load ua15 rfl (k_pt 4 rfl rfl) rfl) ?_
  refine g_val (v := .agg #[.int .i64 (0), .int .i64 (0)]) rfl rfl rfl rfl rfl (e_build ua17 ua16 (vs := []) (cells := #[.int .i64 (0), .int .i64 (0)]) rfl rfl) ?_
  refine g_val (v := .bool (decide ((b.vx) = (0 : Int) ∧ (b.vy) = (0 : Int)))) rfl rfl rfl rfl rfl (e_eql_t (xs := [Ix (b.vx), Ix (b.vy)]) (ys := [.int .i64 (0), .int .i64 (0)]) ua18 ua19 ua20 rfl rfl rfl rfl vec_eq) ?_
  refine g_val (v := .bool (decide ((b.vx) = (0 : Int) ∧ (b.vy) = (0 : Int)))) rfl rfl rfl rfl rfl (e_pick_f rfl) ?_
  refine lv (v := .bool (decide ((b.vx) = (0 : Int) ∧ (b.vy) = (0 : Int)))) (e_pick_t rfl) ?_
  refine lv (v := .bool (decide ((b.vx) = (0 : Int) ∧ (b.vy) = (0 : Int)))) e_assign ?_
  refine lnf ?_
  refine c_ret ?_
  refine ret1 Tryz.results30 (v := .bool (decide ((b.vx) = (0 : Int) ∧ (b.vy) = (0 : Int)))) rfl ?_
  intro w hw
  exact ⟨congrArg (fun b : Bool => Ending.returned (.bool b)) (show decide ((b.vx) = (0 : Int) ∧ (b.vy) = (0 : Int)) = decide (okB b) by first | (rw [eq_comm, decide_eq_false_iff_not]; intro hok; obtain ⟨h1, h2, h3, h4, h5, h6, h7, h8, h9⟩ := hok; simp_all) | (simp only [okB]; simp_all)), st_mask [false, false, false, false, false] rfl hw⟩
 refine g_val (v := pp b1 5) rfl rfl rfl rfl rfl (e_fieldPt rfl ua10) ?_
 refine g_val (v := Ix (b.w)) rfl rfl rfl rfl rfl (e_load1 ua2 rfl (k_pt 4 rfl rfl)) ?_
 refine g_val (v := pp b1 6) rfl rfl rfl rfl rfl (e_fieldPt rfl ua11) ?_
 refine g_val (v := Ix (b.h)) rfl rfl rfl rfl rfl (e_load1 ua2 rfl (k_pt 4 rfl rfl)) ?_
 refine g_val rfl rfl rfl rfl rfl (e_eql (a := (b.w)) (b := (b.h)) rfl rfl) ?_
 refine lv (v := .bool (decide ((b.w) = (b.h)))) (e_pick_f rfl) ?_
 refine lv (v := .bool (decide ((b.w) = (b.h)))) e_move ?_
 refine l_split (s := 49) (p := (b.w) = (b.h)) rfl (fun hg12 => ?_) (fun hg12 => ?_)
 ·refine g_val (v := pp b1 8) rfl rfl rfl rfl rfl (e_fieldPt rfl ua14) ?_
  refine g_val (v := .bool (b.fixed)) rfl rfl rfl rfl rfl (e_load1 ua13 rfl (k_pt 4 rfl rfl)) ?_
  refine g_val (v := .bool (!b.fixed)) rfl rfl rfl rfl rfl (e_not rfl) ?_
  refine g_val (v := .bool (!b.fixed)) rfl rfl rfl rfl rfl e_move ?_
  refine l_splitb (s := 53) (b := !b.fixed) rfl (fun hg13 => ?_) (fun hg13 => ?_)
  ·refine l_skip rfl rfl rfl rfl rfl rfl ?_
   refine l_skip rfl rfl rfl rfl rfl rfl ?_
   refine l_skip rfl rfl rfl rfl rfl rfl ?_
   refine l_skip rfl rfl rfl rfl rfl rfl ?_
   refine g_val (v := .bool true) rfl rfl rfl rfl rfl (e_pick_t rfl) ?_
   refine lv (v := .bool true) (e_pick_t rfl) ?_
   refine lv (v := .bool true) e_assign ?_
   refine lnf ?_
   refine c_ret ?_
   refine ret1 Tryz.results30 (v := .bool true) rfl ?_
   intro w hw
   exact ⟨congrArg (fun b : Bool => Ending.returned (.bool b)) (show true = decide (okB b) by first | (rw [eq_comm, decide_eq_false_iff_not]; intro hok; obtain ⟨h1, h2, h3, h4, h5, h6, h7, h8, h9⟩ := hok; simp_all) | (simp only [okB]; simp_all)), st_mask [false, false, false, false, false] rfl hw⟩
  refine g_val (v := pp b1 3) rfl rfl rfl rfl rfl (e_fieldPt rfl ua9) ?_
  refine g_val (v := .agg #[Ix (b.vx), Ix (b.vy)]) rfl rfl rfl rfl rfl (e_load ua15 rfl (k_pt 4 rfl rfl) rfl) ?_
  refine g_val (v := .agg #[.int .i64 (0), .int .i64 (0)]) rfl rfl rfl rfl rfl (e_build ua17 ua16 (vs := []) (cells := #[.int .i64 (0), .int .i64 (0)]) rfl rfl) ?_
  refine g_val (v := .bool (decide ((b.vx) = (0 : Int) ∧ (b.vy) = (0 : Int)))) rfl rfl rfl rfl rfl (e_eql_t (xs := [Ix (b.vx), Ix (b.vy)]) (ys := [.int .i64 (0), .int .i64 (0)]) ua18 ua19 ua20 rfl rfl rfl rfl vec_eq) ?_
  refine g_val (v := .bool (decide ((b.vx) = (0 : Int) ∧ (b.vy) = (0 : Int)))) rfl rfl rfl rfl rfl (e_pick_f rfl) ?_
  refine lv (v := .bool (decide ((b.vx) = (0 : Int) ∧ (b.vy) = (0 : Int)))) (e_pick_t rfl) ?_
  refine lv (v := .bool (decide ((b.vx) = (0 : Int) ∧ (b.vy) = (0 : Int)))) e_assign ?_
  refine lnf ?_
  refine c_ret ?_
  refine ret1 Tryz.results30 (v := .bool (decide ((b.vx) = (0 : Int) ∧ (b.vy) = (0 : Int)))) rfl ?_
  intro w hw
  exact ⟨congrArg (fun b : Bool => Ending.returned (.bool b)) (show decide ((b.vx) = (0 : Int) ∧ (b.vy) = (0 : Int)) = decide (okB b) by first | (rw [eq_comm, decide_eq_false_iff_not]; intro hok; obtain ⟨h1, h2, h3, h4, h5, h6, h7, h8, h9⟩ := hok; simp_all) | (simp only [okB]; simp_all)), st_mask [false, false, false, false, false] rfl hw⟩
 refine l_skip rfl rfl rfl rfl rfl rfl ?_
 refine l_skip rfl rfl rfl rfl rfl rfl ?_
 refine l_skip rfl rfl rfl rfl rfl rfl ?_
 refine l_skip rfl rfl rfl rfl rfl rfl ?_
 refine l_skip_u rfl rfl rfl rfl rfl ?_
 refine l_skip_u rfl rfl rfl rfl rfl ?_
 refine l_skip_u rfl rfl rfl rfl rfl ?_
 refine l_skip_u rfl rfl rfl rfl rfl ?_
 refine l_skip rfl rfl rfl rfl rfl rfl ?_
 refine lv (v := .bool false) (e_pick_f rfl) ?_
 refine lv (v := .bool false) e_assign ?_
 refine lnf ?_
 refine c_ret ?_
 refine ret1 Tryz.results30 (v := .bool false) rfl ?_
 intro w hw
 exact ⟨congrArg (fun b : Bool => Ending.returned (.bool b)) (show false = decide (okB b) by first | (rw [eq_comm, decide_eq_false_iff_not]; intro hok; obtain ⟨h1, h2, h3, h4, h5, h6, h7, h8, h9⟩ := hok; simp_all) | (simp only [okB]; simp_all)), st_mask [false, false, false, false, false] rfl hw⟩
end Go.Proofs
namespace Go.Proofs
open Go Go.Sl Go.Stp
theorem ua34 : cfB Tryz.prog 31 = true := by kernel_rfl
theorem ua35 : cfB Tryz.prog 32 = true := by kernel_rfl
theorem ua36 : cfB Tryz.prog 113 = true := by kernel_rfl
theorem ua37 : tyB Tryz.prog 75 false 1 = true := by kernel_rfl
theorem ua38 : cfB Tryz.prog 45 = true := by kernel_rfl
theorem ua39 : cfB Tryz.prog 75 = true := by kernel_rfl
theorem ua40 : Tryz.prog.underlying 22 = some (.slice 33) := by kernel_rfl
theorem ua41 : Tryz.prog.underlying 3 = some (.int .i64) := by kernel_rfl
theorem ua42 : Tryz.prog.underlying 128 = some (.int .u64) := by kernel_rfl
theorem ua43 : slB Tryz.prog 22 33 9 = true := by kernel_rfl
theorem ua44 : cfB Tryz.prog 73 = true := by kernel_rfl
theorem pull_ok (β : Base) (w : World) (hw : St β [] w) (x y : Int) (hx : -9223372036854775808 ≤ x ∧ x ≤ 9223372036854775807) (hy : -9223372036854775808 ≤ y ∧ y ≤ 9223372036854775807) : Calls Tryz.prog 31 #[.agg #[Ix x, Ix y]] w fun r w' => r = .returned (.bool (decide (okV x y))) ∧ St β [] w' := by
 refine enter (n := 23) Tryz.func31 rfl Tryz.ntmps31 rfl ?_ hw
 refine csr ?_
 refine l_mv rfl rfl rfl (m_box (v := .agg #[Ix (x), Ix (y)]) rfl) ?_
 rintro _ _ ⟨b1, rfl, rfl⟩
 refine lv (v := .bool false) e_assign ?_
 refine lnc ?_
 refine lv (v := pp b1 0) (e_fieldPt rfl ua7) ?_
 refine lv (v := Ix (x)) (e_load1 ua2 rfl (k_pt 0 rfl rfl)) ?_
 refine lv (v := pp b1 0) (e_fieldPt rfl ua7) ?_
 refine lv (v := Ix (x)) (e_load1 ua2 rfl (k_pt 0 rfl rfl)) ?_
 refine lv (v := Ix (wneg (x))) (e_neg (a := (x)) rfl rfl) ?_
 refine lv (v := pp b1 1) (e_fieldPt rfl ua8) ?_
 refine lv (v := Ix (y)) (e_load1 ua2 rfl (k_pt 0 rfl rfl)) ?_
 refine lv (v := pp b1 1) (e_fieldPt rfl ua8) ?_
 refine lv (v := Ix (y)) (e_load1 ua2 rfl (k_pt 0 rfl rfl)) ?_
 refine lv (v := Ix (wneg (y))) (e_neg (a := (y)) rfl rfl) ?_
 refine lv (v := Ix (max (max (max ((x)) (wneg (x))) (y)) (wneg (y)))) (e_max4 (a := (x)) (b := (wneg (x))) (c := (y)) (e := (wneg (y))) rfl rfl rfl rfl) ?_
 refine lv (e_leq (a := (max (max (max ((x)) (wneg (x))) (y)) (wneg (y)))) (b := (4096 : Int)) rfl rfl) ?_
 refine lv (v := .bool (decide ((max (max (max ((x)) (wneg (x))) (y)) (wneg (y))) ≤ (4096 : Int)))) e_move ?_
 refine l_split (s := 15) (p := (max (max (max ((x)) (wneg (x))) (y)) (wneg (y))) ≤ (4096 : Int)) rfl (fun hg2 => ?_) (fun hg2 => ?_)
 ·refine g_val (v := pp b1 0) rfl rfl rfl rfl rfl (e_fieldPt rfl ua7) ?_
  refine g_val (v := Ix (x)) rfl rfl rfl rfl rfl (e_load1 ua2 rfl (k_pt 0 rfl rfl)) ?_
  refine g_val (v := pp b1 1) rfl rfl rfl rfl rfl (e_fieldPt rfl ua8) ?_
  refine g_val (v := Ix (y)) rfl rfl rfl rfl rfl (e_load1 ua2 rfl (k_pt 0 rfl rfl)) ?_
  refine g_val (v := Ix (min (x) (y))) rfl rfl rfl rfl rfl (e_min (a := (x)) (b := (y)) rfl rfl) ?_
  refine g_val rfl rfl rfl rfl rfl (e_geq (a := (min (x) (y))) (b := (-4096 : Int)) rfl rfl) ?_
  refine lv (v := .bool (decide ((-4096 : Int) ≤ (min (x) (y))))) (e_pick_t rfl) ?_
  refine lv (v := .bool (decide ((-4096 : Int) ≤ (min (x) (y))))) e_assign ?_
  refine lnf ?_
  refine c_ret ?_
  refine ret1 Tryz.results31 (v := .bool (decide ((-4096 : Int) ≤ (min (x) (y))))) rfl ?_
  intro w hw
  exact ⟨congrArg (fun b : Bool => Ending.returned (.bool b)) (decide_eq_decide.2 ⟨fun h => (pull_iff hx hy).1 ⟨hg2, h⟩, fun h => ((pull_iff hx hy).2 h).2⟩), st_mask [false] rfl hw⟩
 refine l_skip rfl rfl rfl rfl rfl rfl ?_
 refine l_skip rfl rfl rfl rfl rfl rfl ?_
 refine l_skip rfl rfl rfl rfl rfl rfl ?_
 refine l_skip rfl rfl rfl rfl rfl rfl ?_
 refine l_skip rfl rfl rfl rfl rfl rfl ?_
 refine l_skip rfl rfl rfl rfl rfl rfl ?_
 refine lv (v := .bool false) (e_pick_f rfl) ?_
 refine lv (v := .bool false) e_assign ?_
 refine lnf ?_
 refine c_ret ?_
 refine ret1 Tryz.results31 (v := .bool false) rfl ?_
 intro w hw
 exact ⟨congrArg (fun b : Bool => Ending.returned (.bool b)) (decide_eq_false fun h => hg2 ((pull_iff hx hy).2 h).1).symm, st_mask [false] rfl hw⟩
theorem clamp_ok (β : Base) (w : World) (hw : St β [] w) (x : Int) : Calls Tryz.prog 32 #[Ix x] w fun r w' => r = .returned (Ix (clampS x)) ∧ St β [] w' := by
 refine enter (n := 6) Tryz.func32 rfl Tryz.ntmps32 rfl ?_ hw
 refine csr ?_
 refine l_val (v := .int .i64 (0)) rfl rfl rfl e_assign ?_
 refine lnc ?_
 refine lv (v := Ix (x)) e_move ?_
 refine lv (v := Ix (min (x) (4096 : Int))) (e_min (a := (x)) (b := (4096 : Int)) rfl rfl) ?_
 refine lv (v := Ix (max (min (x) (4096 : Int)) (-4096 : Int))) (e_max (a := (min (x) (4096 : Int))) (b := (-4096 : Int)) rfl rfl) ?_
 refine lv (v := Ix (max (min (x) (4096 : Int)) (-4096 : Int))) e_assign ?_
 refine lnf ?_
 refine c_ret ?_
 refine ret1 Tryz.results32 (v := Ix (max (min (x) (4096 : Int)) (-4096 : Int))) rfl ?_
 intro w hw
 exact ⟨rfl, st_mask [] rfl hw⟩
set_option maxHeartbeats 4000000 in
theorem speed_ok (β : Base) (w : World) (hw : St β [] w) (b : KB) (gx gy : Int) (hgx : -9223372036854775808 ≤ gx ∧ gx ≤ 9223372036854775807) (hgy : -9223372036854775808 ≤ gy ∧ gy ≤ 9223372036854775807) : Calls Tryz.prog 9 #[.agg (bC b), .agg #[Ix gx, Ix gy]] w fun r w' => r = .returned (.agg #[Ix (speedX b gx gy), Ix (speedY b gx gy)]) ∧ St β [] w' := by
 refine enter (n := 36) Tryz.func9 rfl Tryz.ntmps9 rfl ?_ hw
 refine csr ?_
 refine l_mv rfl rfl rfl (m_box (v := .agg (bC b)) rfl) ?_
 rintro _ _ ⟨b1, rfl, rfl⟩
 refine l_mv rfl rfl rfl (m_box (v := .agg #[Ix (gx), Ix (gy)]) rfl) ?_
 rintro _ _ ⟨b2, rfl, rfl⟩
 refine l_mv rfl rfl rfl (m_alloc ua17) ?_
 rintro _ _ ⟨b3, rfl, rfl⟩
 refine lnf ?_
 refine cs2 ?_
 refine c_region ?_
 refine lv (v := pp b1 8) (e_fieldPt rfl ua14) ?_
 refine lv (v := .bool (b.fixed)) (e_load1 ua13 rfl (k_pt 2 rfl rfl)) ?_
 refine lv (v := .bool (b.fixed)) e_move ?_
 refine l_splitb (s := 8) (b := b.fixed) rfl (fun hg4 => ?_) (fun hg4 => ?_)
 ·refine l_skip rfl rfl rfl rfl rfl rfl ?_
  refine l_skip rfl rfl rfl rfl rfl rfl ?_
  refine l_skip rfl rfl rfl rfl rfl rfl ?_
  refine lv (v := .bool true) (e_pick_t rfl) ?_
  refine lv (v := .bool true) e_move ?_
  refine l_skip rfl rfl rfl rfl rfl rfl ?_
  refine l_skip rfl rfl rfl rfl rfl rfl ?_
  refine l_skip rfl rfl rfl rfl rfl rfl ?_
  refine lv (v := .bool true) (e_pick_t rfl) ?_
  refine lnf ?_
  refine c_yes rfl ?_
  refine csr ?_
  refine lv (v := .agg #[.int .i64 (0), .int .i64 (0)]) (e_build ua17 ua16 (vs := []) (cells := #[.int .i64 (0), .int .i64 (0)]) rfl rfl) ?_
  refine lu (m_store 0 ua15 (cs' := #[.int .i64 (0), .int .i64 (0)]) rfl rfl rfl rfl rfl rfl rfl) ?_
  refine lnf ?_
  refine c_ret ?_
  refine f_then_ret ?_
  refine retG (m := [.agg #[.int .i64 (0), .int .i64 (0)]]) Tryz.results9 ⟨rd_cell ua15 rfl (k_pt 0 rfl rfl) rfl, trivial⟩ rfl ?_
  intro w hw
  exact ⟨by rw [show speedX b gx gy = 0 from if_pos (.inl hg4), show speedY b gx gy = 0 from if_pos (.inl hg4)] <;> rfl, st_mask [false, false, false] rfl hw⟩
 refine g_val (v := .agg (bC b)) rfl rfl rfl rfl rfl (e_load ua22 rfl (k_pt 2 rfl rfl) rfl) ?_
 refine g_call rfl rfl rfl rfl rfl (cl0 (vs := [.agg (bC b)]) ua24 rfl rfl) ?_
 intro w hw
 obtain ⟨β1, sb, kn, hw1, back⟩ := St.frame_all hw
 refine (valid_ok β1 w hw1 b).mono ?_
 rintro e w' ⟨rfl, hw'⟩
 refine ⟨_, rfl, _, back _ _ hw', ?_⟩
 clear hw hw1 hw' back kn sb
 refine g_val (v := .bool (decide (¬ (okB b)))) rfl rfl rfl rfl rfl (e_not_p (p := okB b) rfl) ?_
 refine lv (v := .bool (decide (¬ (okB b)))) (e_pick_f rfl) ?_
 refine lv (v := .bool (decide (¬ (okB b)))) e_move ?_
 refine l_split (s := 13) (p := ¬ (okB b)) rfl (fun hg5 => ?_) (fun hg5 => ?_)
 ·refine l_skip rfl rfl rfl rfl rfl rfl ?_
  refine l_skip rfl rfl rfl rfl rfl rfl ?_
  refine l_skip rfl rfl rfl rfl rfl rfl ?_
  refine lv (v := .bool true) (e_pick_t rfl) ?_
  refine lnf ?_
  refine c_yes rfl ?_
  refine csr ?_
  refine lv (v := .agg #[.int .i64 (0), .int .i64 (0)]) (e_build ua17 ua16 (vs := []) (cells := #[.int .i64 (0), .int .i64 (0)]) rfl rfl) ?_
  refine lu (m_store 0 ua15 (cs' := #[.int .i64 (0), .int .i64 (0)]) rfl rfl rfl rfl rfl rfl rfl) ?_
  refine lnf ?_
  refine c_ret ?_
  refine f_then_ret ?_
  refine retG (m := [.agg #[.int .i64 (0), .int .i64 (0)]]) Tryz.results9 ⟨rd_cell ua15 rfl (k_pt 0 rfl rfl) rfl, trivial⟩ rfl ?_
  intro w hw
  exact ⟨by rw [show speedX b gx gy = 0 from if_pos (.inr (.inl hg5)), show speedY b gx gy = 0 from if_pos (.inr (.inl hg5))] <;> rfl, st_mask [false, false, false] rfl hw⟩
 have hob := Decidable.not_not.1 hg5
 refine g_val (v := .agg #[Ix (gx), Ix (gy)]) rfl rfl rfl rfl rfl (e_load ua15 rfl (k_pt 1 rfl rfl) rfl) ?_
 refine g_call rfl rfl rfl rfl rfl (cl0 (vs := [.agg #[Ix (gx), Ix (gy)]]) ua34 rfl rfl) ?_
 intro w hw
 obtain ⟨β1, sb, kn, hw1, back⟩ := St.frame_all hw
 refine (pull_ok β1 w hw1 (gx) (gy) (by omega) (by omega)).mono ?_
 rintro e w' ⟨rfl, hw'⟩
 refine ⟨_, rfl, _, back _ _ hw', ?_⟩
 clear hw hw1 hw' back kn sb
 refine g_val (v := .bool (decide (¬ (okV (gx) (gy))))) rfl rfl rfl rfl rfl (e_not_p (p := okV (gx) (gy)) rfl) ?_
 refine lv (v := .bool (decide (¬ (okV (gx) (gy))))) (e_pick_f rfl) ?_
 refine lnf ?_
 refine c_if (¬ (okV (gx) (gy))) rfl (fun hc6 => ?_) (fun hc6 => ?_)
 ·refine csr ?_
  refine lv (v := .agg #[.int .i64 (0), .int .i64 (0)]) (e_build ua17 ua16 (vs := []) (cells := #[.int .i64 (0), .int .i64 (0)]) rfl rfl) ?_
  refine lu (m_store 0 ua15 (cs' := #[.int .i64 (0), .int .i64 (0)]) rfl rfl rfl rfl rfl rfl rfl) ?_
  refine lnf ?_
  refine c_ret ?_
  refine f_then_ret ?_
  refine retG (m := [.agg #[.int .i64 (0), .int .i64 (0)]]) Tryz.results9 ⟨rd_cell ua15 rfl (k_pt 0 rfl rfl) rfl, trivial⟩ rfl ?_
  intro w hw
  exact ⟨by rw [show speedX b gx gy = 0 from if_pos (.inr (.inr hc6)), show speedY b gx gy = 0 from if_pos (.inr (.inr hc6))] <;> rfl, st_mask [false, false, false] rfl hw⟩
 have hov := Decidable.not_not.1 hc6
 refine csk ?_
 refine csr ?_
 refine l_val (v := .func (.func 32) #[] #[]) rfl rfl rfl e_assign ?_
 refine lnf ?_
 refine c_seq ?_
 have v1 := hob.2.2.2.1
 have v2 := hob.2.2.2.2.1
 have v3 := hov.1
 have v4 := hov.2.1
 have v5 := hov.2.2.1
 have v6 := hov.2.2.2
 refine c_any [⟨[], [], [0], [19], fun f => f 19 = .func (.func 32) #[] #[]⟩, ⟨[], [], [1], [20], fun f => f 20 = pp b1 3⟩, ⟨[1], [1], [], [21], fun f => f 21 = pp b1 3⟩, ⟨[1, 2], [2], [], [22], fun f => f 22 = Ix (b.vx)⟩, ⟨[], [], [2], [23], fun f => f 23 = pp b2 0⟩, ⟨[4], [4], [], [24], fun f => f 24 = Ix (gx)⟩, ⟨[1, 2, 3, 4, 5], [3, 5], [], [25], fun f => f 25 = Ix ((b.vx) + (gx))⟩, ⟨(List.range 7), [0, 6], [], [26], fun f => f 26 = Ix (clampS ((b.vx) + (gx)))⟩, ⟨[], [], [0], [27], fun f => f 27 = .func (.func 32) #[] #[]⟩, ⟨[], [], [1], [28], fun f => f 28 = pp b1 3⟩, ⟨[9], [9], [], [29], fun f => f 29 = pp b1 4⟩, ⟨[9, 10], [10], [], [30], fun f => f 30 = Ix (b.vy)⟩, ⟨[], [], [2], [31], fun f => f 31 = pp b2 1⟩, ⟨[12], [12], [], [32], fun f => f 32 = Ix (gy)⟩, ⟨[9, 10, 11, 12, 13], [11, 13], [], [33], fun f => f 33 = Ix ((b.vy) + (gy))⟩, ⟨(List.range 15), [8, 14], [], [34], fun f => f 34 = Ix (clampS ((b.vy) + (gy)))⟩, ⟨(List.range 16), [7, 15], [], [35], fun f => f 35 = .agg #[Ix (clampS ((b.vx) + (gx))), Ix (clampS ((b.vy) + (gy)))]⟩, ⟨(List.range 17), [16], [3], [], fun _ => True⟩] [⟨none, (some 17), [17], [], fun _ => pt b3 (.cells #[.int .i64 (0), .int .i64 (0)] 25)⟩, ⟨none, none, [5, 13], [], fun _ => pt b2 (.cells #[Ix (gx), Ix (gy)] 25)⟩, ⟨none, none, [3, 11], [], fun _ => pt b1 (.cells (bC b) 33)⟩, ⟨(some 17), none, [], [], fun _ => pt b3 (.cells #[Ix (clampS ((b.vx) + (gx))), Ix (clampS ((b.vy) + (gy)))] 25)⟩] [(5, .func (.func 32) #[] #[]), (2, pp b1 0), (3, pp b2 0), (4, pp b3 0)] [3] [] (by kernel_rfl) (by kernel_rfl) (by kernel_rfl) (by kernel_rfl) rfl ⟨rfl, rfl, rfl, rfl, trivial⟩ ⟨?_, ?_, ?_, ?_, ?_, ?_, ?_, ?_, ?_, ?_, ?_, ?_, ?_, ?_, ?_, ?_, ?_, ?_, trivial⟩ ?_
 ·rintro f M - ⟨i0, -⟩
  exact ob0 (up_cons (d := 5) rfl i0) rfl e_move (.refl _)
 ·rintro f M - ⟨i0, -⟩
  exact ob0 (up_cons (d := 2) rfl i0) rfl (e_fieldPt rfl ua9) (.refl _)
 ·rintro f M ⟨k0, -⟩ -
  exact ob0 (up_cons (d := 20) rfl k0) rfl (e_fieldPt rfl ua7) (.refl _)
 ·rintro f M ⟨k0, -⟩ -
  exact obv (L' := pt b1 (.cells (bC b) 33) :: M) (up_cons (d := 21) rfl k0) rfl (e_load1 ua2 rfl (k_pt 0 rfl rfl)) (perm_front 0 rfl) (by rfl)
 ·rintro f M - ⟨i0, -⟩
  exact ob0 (up_cons (d := 3) rfl i0) rfl (e_fieldPt rfl ua7) (.refl _)
 ·rintro f M ⟨k0, -⟩ -
  exact obv (L' := pt b2 (.cells #[Ix (gx), Ix (gy)] 25) :: M) (up_cons (d := 23) rfl k0) rfl (e_load1 ua2 rfl (k_pt 0 rfl rfl)) (perm_front 0 rfl) (by rfl)
 ·rintro f M ⟨k0, k1, -⟩ -
  exact ob0 (up_cons (d := 24) (up_cons (d := 22) rfl k0) k1) rfl (e_add (a := (b.vx)) (b := (gx)) rfl rfl (i64w (by omega))) (.refl _)
 ·rintro f M ⟨k0, k1, -⟩ -
  refine ob_start (L' := M) (by rfl) (up_cons (d := 25) (up_cons (d := 19) rfl k0) k1) ?_
  refine lcf (cl0 (vs := [Ix ((b.vx) + (gx))]) ua35 rfl rfl) rfl fun w β1 sb kn hw1 back => (clamp_ok β1 w hw1 ((b.vx) + (gx))).mono ?_
  rintro e w' ⟨rfl, hw'⟩
  refine ⟨_, rfl, _, back _ _ hw', ?_⟩
  clear hw1 hw' back kn sb
  refine l_nil ?_
  exact f_owes_d (up_cons (d := 25) (up_cons (d := 19) rfl k0) k1) rfl (List.Perm.refl _)
 ·rintro f M - ⟨i0, -⟩
  exact ob0 (up_cons (d := 5) rfl i0) rfl e_move (.refl _)
 ·rintro f M - ⟨i0, -⟩
  exact ob0 (up_cons (d := 2) rfl i0) rfl (e_fieldPt rfl ua9) (.refl _)
 ·rintro f M ⟨k0, -⟩ -
  exact ob0 (up_cons (d := 28) rfl k0) rfl (e_fieldPt rfl ua8) (.refl _)
 ·rintro f M ⟨k0, -⟩ -
  exact obv (L' := pt b1 (.cells (bC b) 33) :: M) (up_cons (d := 29) rfl k0) rfl (e_load1 ua2 rfl (k_pt 0 rfl rfl)) (perm_front 0 rfl) (by rfl)
 ·rintro f M - ⟨i0, -⟩
  exact ob0 (up_cons (d := 3) rfl i0) rfl (e_fieldPt rfl ua8) (.refl _)
 ·rintro f M ⟨k0, -⟩ -
  exact obv (L' := pt b2 (.cells #[Ix (gx), Ix (gy)] 25) :: M) (up_cons (d := 31) rfl k0) rfl (e_load1 ua2 rfl (k_pt 0 rfl rfl)) (perm_front 0 rfl) (by rfl)
 ·rintro f M ⟨k0, k1, -⟩ -
  exact ob0 (up_cons (d := 32) (up_cons (d := 30) rfl k0) k1) rfl (e_add (a := (b.vy)) (b := (gy)) rfl rfl (i64w (by omega))) (.refl _)
 ·rintro f M ⟨k0, k1, -⟩ -
  refine ob_start (L' := M) (by rfl) (up_cons (d := 33) (up_cons (d := 27) rfl k0) k1) ?_
  refine lcf (cl0 (vs := [Ix ((b.vy) + (gy))]) ua35 rfl rfl) rfl fun w β1 sb kn hw1 back => (clamp_ok β1 w hw1 ((b.vy) + (gy))).mono ?_
  rintro e w' ⟨rfl, hw'⟩
  refine ⟨_, rfl, _, back _ _ hw', ?_⟩
  clear hw1 hw' back kn sb
  refine l_nil ?_
  exact f_owes_d (up_cons (d := 33) (up_cons (d := 27) rfl k0) k1) rfl (List.Perm.refl _)
 ·rintro f M ⟨k0, k1, -⟩ -
  exact ob0 (up_cons (d := 34) (up_cons (d := 26) rfl k0) k1) rfl (e_build ua17 ua16 (vs := [(0, Ix (clampS ((b.vx) + (gx)))), (1, Ix (clampS ((b.vy) + (gy))))]) (cells := #[Ix (clampS ((b.vx) + (gx))), Ix (clampS ((b.vy) + (gy)))]) rfl rfl) (.refl _)
 ·rintro f M ⟨k0, -⟩ ⟨i0, -⟩
  refine ob_start (L' := pt b3 (.cells #[.int .i64 (0), .int .i64 (0)] 25) :: M) (by rfl) (up_cons (d := 35) (up_cons (d := 4) rfl i0) k0) ?_
  refine lu (m_store 0 ua15 (cs' := #[Ix (clampS ((b.vx) + (gx))), Ix (clampS ((b.vy) + (gy)))]) rfl rfl rfl rfl rfl rfl rfl) ?_
  refine l_nil ?_
  exact f_owes_n (up_cons (d := 35) (up_cons (d := 4) rfl i0) k0) trivial (perm_front 0 rfl)
 rintro fa7 ⟨-, -, -, -, -, -, -, -, -, -, -, -, -, -, -, -, -, -, -⟩ ⟨j0, -⟩
 refine f_re (L' := [pt b2 (.cells #[Ix (gx), Ix (gy)] 25), pt b1 (.cells (bC b) 33), pt b3 (.cells #[Ix (clampS ((b.vx) + (gx))), Ix (clampS ((b.vy) + (gy)))] 25)]) (by rfl) ?_
 refine f_rebase (d := 4) j0 ?_
 refine ftr ?_
 refine retG (m := [.agg #[Ix (clampS ((b.vx) + (gx))), Ix (clampS ((b.vy) + (gy)))]]) Tryz.results9 ⟨rd_cell ua15 rfl (k_pt 2 rfl rfl) rfl, trivial⟩ rfl ?_
 intro w hw
 have hno : ¬ (b.fixed = true ∨ ¬ okB b ∨ ¬ okV gx gy) := fun h => h.elim (fun h => by rw [hg4] at h; cases h) fun h => h.elim (fun h => h hob) fun h => h hov
 exact ⟨by rw [show speedX b gx gy = clampS (b.vx + gx) from if_neg hno, show speedY b gx gy = clampS (b.vy + gy) from if_neg hno] <;> rfl, st_mask [false, false, false] rfl hw⟩
theorem number_ok (β : Base) (w : World) (hw : St β [] w) (b : KB) : Calls Tryz.prog 45 #[.agg (bC b)] w fun r w' => r = .returned (Ix b.id) ∧ St β [] w' := by
 refine enter (n := 5) Tryz.func45 rfl Tryz.ntmps45 rfl ?_ hw
 refine csr ?_
 refine l_mv rfl rfl rfl (m_box (v := .agg (bC b)) rfl) ?_
 rintro _ _ ⟨b1, rfl, rfl⟩
 refine lv (v := .int .i64 (0)) e_assign ?_
 refine lnc ?_
 refine lv (v := pp b1 0) (e_fieldPt rfl ua3) ?_
 refine lv (v := Ix (b.id)) (e_load1 ua2 rfl (k_pt 0 rfl rfl)) ?_
 refine lv (v := Ix (b.id)) e_assign ?_
 refine lnf ?_
 refine c_ret ?_
 refine ret1 Tryz.results45 (v := Ix (b.id)) rfl ?_
 intro w hw
 exact ⟨rfl, st_mask [false] rfl hw⟩
theorem isnanS_ok (β : Base) (w : World) (hw : St β [] w) (x : Int) : Calls Tryz.prog 113 #[Ix x] w fun r w' => r = .returned (.bool false) ∧ St β [] w' := by
 refine enter (n := 6) Tryz.func113 rfl Tryz.ntmps113 rfl ?_ hw
 refine csr ?_
 refine l_val (v := .bool false) rfl rfl rfl e_assign ?_
 refine lnc ?_
 refine lv (v := Ix (x)) e_move ?_
 refine lv (v := Ix (x)) e_move ?_
 refine lv (e_neq (a := (x)) (b := (x)) rfl rfl) ?_
 refine lv (v := .bool (decide ((x) ≠ (x)))) e_assign ?_
 refine lnf ?_
 refine c_ret ?_
 refine ret1 Tryz.results113 (v := .bool (decide ((x) ≠ (x)))) rfl ?_
 intro w hw
 exact ⟨congrArg Ending.returned (congrArg Value.bool (decide_eq_false (by simp))), st_mask [] rfl hw⟩
set_option maxHeartbeats 4000000 in
theorem cmpS_ok (β : Base) (w : World) (hw : St β [] w) (x y : Int) : Calls Tryz.prog 75 #[Ix x, Ix y] w fun r w' => r = .returned (Ix (cmpI x y)) ∧ St β [] w' := by
 refine enter (n := 20) Tryz.func75 rfl Tryz.ntmps75 rfl ?_ hw
 refine csr ?_
 refine l_val (v := .int .i64 (0)) rfl rfl rfl e_assign ?_
 refine lnc ?_
 refine lv (v := Ix (x)) e_move ?_
 refine lcf (cl0 (vs := [Ix (x)]) ua36 rfl rfl) rfl fun w β1 sb kn hw1 back => (isnanS_ok β1 w hw1 (x)).mono ?_
 rintro e w' ⟨rfl, hw'⟩
 refine ⟨_, rfl, _, back _ _ hw', ?_⟩
 clear hw1 hw' back kn sb
 refine lv (v := .bool false) e_assign ?_
 refine lnc ?_
 refine lv (v := Ix (y)) e_move ?_
 refine lcf (cl0 (vs := [Ix (y)]) ua36 rfl rfl) rfl fun w β1 sb kn hw1 back => (isnanS_ok β1 w hw1 (y)).mono ?_
 rintro e w' ⟨rfl, hw'⟩
 refine ⟨_, rfl, _, back _ _ hw', ?_⟩
 clear hw1 hw' back kn sb
 refine lv (v := .bool false) e_assign ?_
 refine lnf ?_
 refine cs2 ?_
 refine c_region ?_
 refine lv (v := .bool false) e_move ?_
 refine lnf ?_
 refine c_no rfl ?_
 refine csk ?_
 refine cs2 ?_
 refine c_region ?_
 refine lv (v := .bool false) e_move ?_
 refine lnf ?_
 refine c_no rfl ?_
 refine csk ?_
 refine cs2 ?_
 refine c_region ?_
 refine lv (v := Ix (x)) e_move ?_
 refine lv (v := Ix (y)) e_move ?_
 refine lv (e_lss (a := (x)) (b := (y)) rfl rfl) ?_
 refine lnf ?_
 refine c_if ((x) < (y)) rfl (fun hc1 => ?_) (fun hc1 => ?_)
 ·refine csr ?_
  refine l_val (v := .int .i64 (-1)) rfl rfl rfl e_assign ?_
  refine lnf ?_
  refine c_ret ?_
  refine f_then_ret ?_
  refine ret1 Tryz.results75 (v := .int .i64 (-1)) rfl ?_
  intro w hw
  exact ⟨congrArg Ending.returned (congrArg (Value.int .i64) (show (-1 : Int) = cmpI x y by unfold cmpI; split <;> (try split) <;> omega)), st_mask [] rfl hw⟩
 refine csk ?_
 refine cs2 ?_
 refine c_region ?_
 refine lv (v := Ix (x)) e_move ?_
 refine lv (v := Ix (y)) e_move ?_
 refine lv (e_gtr (a := (x)) (b := (y)) rfl rfl) ?_
 refine lnf ?_
 refine c_if ((y) < (x)) rfl (fun hc2 => ?_) (fun hc2 => ?_)
 ·refine csr ?_
  refine l_val (v := .int .i64 (1)) rfl rfl rfl e_assign ?_
  refine lnf ?_
  refine c_ret ?_
  refine f_then_ret ?_
  refine ret1 Tryz.results75 (v := .int .i64 (1)) rfl ?_
  intro w hw
  exact ⟨congrArg Ending.returned (congrArg (Value.int .i64) (show (1 : Int) = cmpI x y by unfold cmpI; split <;> (try split) <;> omega)), st_mask [] rfl hw⟩
 refine csk ?_
 refine csr ?_
 refine l_val (v := .int .i64 (0)) rfl rfl rfl e_assign ?_
 refine lnf ?_
 refine c_ret ?_
 refine ret1 Tryz.results75 (v := .int .i64 (0)) rfl ?_
 intro w hw
 exact ⟨congrArg Ending.returned (congrArg (Value.int .i64) (show (0 : Int) = cmpI x y by unfold cmpI; split <;> (try split) <;> omega)), st_mask [] rfl hw⟩
theorem find1_fn (β : Base) (c : Nat) (hc : Cs β.heap ⟨c, 0, none⟩ [.func (.func 45) #[] #[]]) : FnV Tryz.prog β (.func (.func 74) #[] #[pp c 0]) (fun z : KB × Int => [.agg (bC z.1), Ix z.2]) (fun _ => True) (fun z => Ix (cmpI z.1.id z.2)) := by
 refine ⟨74, [], [.pointer (some (⟨c, 0, none⟩))], rfl, by kernel_rfl, fun β₁ sb0 z_ hz_ w hw => ?_⟩
 have hc1 := Cs.mono _ _ _ _ sb0 hc
 obtain ⟨b, i⟩ := z_
 refine enter (n := 11) Tryz.func74 rfl Tryz.ntmps74 rfl ?_ hw
 refine csr ?_
 refine l_mv rfl rfl rfl (m_box (v := .agg (bC b)) rfl) ?_
 rintro _ _ ⟨b1, rfl, rfl⟩
 refine lv (v := .int .i64 (0)) e_assign ?_
 refine lnc ?_
 refine lv (v := .func (.func 45) #[] #[]) (e_load1 ua37 rfl (kB hc1)) ?_
 refine lv (v := .agg (bC b)) (e_load ua22 rfl (k_pt 0 rfl rfl) rfl) ?_
 refine lcf (cl0 (vs := [.agg (bC b)]) ua38 rfl rfl) rfl fun w β1 sb kn hw1 back => (number_ok β1 w hw1 b).mono ?_
 rintro e w' ⟨rfl, hw'⟩
 refine ⟨_, rfl, _, back _ _ hw', ?_⟩
 clear hw1 hw' back kn sb
 refine lv (v := Ix (i)) e_move ?_
 refine lcf (cl0 (vs := [Ix (b.id), Ix (i)]) ua39 rfl rfl) rfl fun w β1 sb kn hw1 back => (cmpS_ok β1 w hw1 (b.id) (i)).mono ?_
 rintro e w' ⟨rfl, hw'⟩
 refine ⟨_, rfl, _, back _ _ hw', ?_⟩
 clear hw1 hw' back kn sb
 refine lv (v := Ix (cmpI (b.id) (i))) e_assign ?_
 refine lnf ?_
 refine c_ret ?_
 refine ret1 Tryz.results74 (v := Ix (cmpI (b.id) (i))) rfl ?_
 intro w hw
 exact ⟨rfl, st_mask [false] rfl hw⟩
set_option maxHeartbeats 4000000 in
theorem bsearch_ok (β : Base) (w : World) (hw : St β [] w) (v fn : Value) (bs : List KB) (hs : Sl KBR β.heap v bs) (id : Int) (ho : ordB bs) (hn : bs.length ≤ 1048576) (hfn : FnV Tryz.prog β fn (fun z : KB × Int => [.agg (bC z.1), Ix z.2]) (fun _ => True) (fun z => Ix (cmpI z.1.id z.2))) : Calls Tryz.prog 73 #[v, Ix id, fn] w fun r w' => r = .returned (.tuple #[Nx (lbN bs id), .bool (findB bs id).isSome]) ∧ St β [] w' := by
 obtain ⟨va, vc, rfl, vl, vm, ve⟩ := hs.get
 obtain ⟨gg, fst, cap, rfl, hcf, hf⟩ := hfn
 refine enter (n := 49) Tryz.func73 rfl Tryz.ntmps73 rfl ?_ hw
 refine csr ?_
 refine l_val (v := .int .i64 (0)) rfl rfl rfl e_assign ?_
 refine lv (v := .bool false) e_assign ?_
 refine lnc ?_
 refine lv (v := sB va bs (vc)) e_move ?_
 refine lv (v := Nx (bs.length)) (e_len (a := va) (n := bs.length) (c := vc) rfl ua40) ?_
 refine lv (v := Nx (bs.length)) e_assign ?_
 refine lnc ?_
 refine lv (v := Nx (bs.length)) e_move ?_
 refine lv (v := .int .i64 (0)) e_assign ?_
 refine lv (v := Nx (bs.length)) e_assign ?_
 refine lnf ?_
 refine c_seq ?_
 refine c_block ?_
 refine c_loop (fun (x_ : Nat × Nat) (f : Fm) (L : List Res) => match x_ with | (i, j) => (f 0 = sB va bs (vc) ∧ f 1 = Ix (id) ∧ f 2 = .func (.func gg) fst.toArray cap.toArray ∧ f 8 = Nx (bs.length) ∧ f 9 = Nx (i) ∧ f 10 = Nx (j)) ∧ L = [] ∧ (i ≤ j ∧ j ≤ bs.length ∧ (∀ t, t < i → idAt bs t < id) ∧ (j < bs.length → id ≤ idAt bs j))) (fun (x_ : Nat × Nat) => match x_ with | (i, j) => j - i) (0, bs.length) ?_ ?_
 ·exact ⟨⟨rfl, rfl, rfl, rfl, rfl, rfl⟩, rfl, ⟨by omega, by omega, fun t ht => by omega, fun h => by omega⟩⟩
 rintro ⟨i, j⟩ f0 L0 ⟨⟨hs0, hs1, hs2, hs8, hs9, hs10⟩, hL, ⟨h1, h2, hp1, hp2⟩⟩
 subst L0
 refine rebase (d := 0) hs0 ?_
 refine rebase (d := 1) hs1 ?_
 refine rebase (d := 2) hs2 ?_
 refine rebase (d := 8) hs8 ?_
 refine rebase (d := 9) hs9 ?_
 refine rebase (d := 10) hs10 ?_
 clear hs0 hs1 hs2 hs8 hs9 hs10
 obtain ⟨h, hh⟩ : ∃ h, h = (U (((i + j : Nat)) : Int) >>> (1 : UInt64)).toNat := ⟨_, rfl⟩
 have hh2 := half_toNat (m := i + j) (by omega)
 refine cs2 ?_
 refine c_region ?_
 refine lv (v := Nx (i)) e_move ?_
 refine lv (v := Nx (j)) e_move ?_
 refine lv (e_lss (a := ((i : Nat) : Int)) (b := ((j : Nat) : Int)) rfl rfl) ?_
 refine lnf ?_
 refine c_if (((i : Nat) : Int) < ((j : Nat) : Int)) rfl (fun hc1 => ?_) (fun hc1 => ?_)
 ·refine csk ?_
  refine c_block ?_
  refine csr ?_
  refine lv (v := Nx (i)) e_move ?_
  refine lv (v := Nx (j)) e_move ?_
  refine lv (v := Nx (i + j)) (e_add (a := ((i : Nat) : Int)) (b := ((j : Nat) : Int)) rfl rfl (i64n (by omega) (by omega))) ?_
  refine lv (v := Ux (U ((i + j : Nat) : Int))) (e_conv (a := ((i + j : Nat) : Int)) rfl ⟨_, ua41⟩ ua42 (ux_of _)) ?_
  refine lv (v := Ux ((U ((i + j : Nat) : Int)) >>> (1 : UInt64))) (e_shr (a := ((U ((i + j : Nat) : Int)).toNat : Int)) (b := ((1 : Nat) : Int)) rfl rfl (by decide) (ux_shr _ 1 (by decide))) ?_
  refine lv (v := Nx (h)) (e_conv (a := (((U ((i + j : Nat) : Int)) >>> (1 : UInt64)).toNat : Int)) rfl ⟨_, ua42⟩ ua41 (i64n (by rw [hh]) (by omega))) ?_
  refine lv (v := Nx (h)) e_assign ?_
  refine lnc ?_
  refine lv (v := .func (.func gg) fst.toArray cap.toArray) e_move ?_
  refine lv (v := sB va bs (vc)) e_move ?_
  refine lv (v := Nx (h)) e_move ?_
  obtain ⟨x2, hx3⟩ : ∃ x_, (bs)[h]? = some x_ := ⟨_, List.getElem?_eq_getElem (by omega)⟩
  obtain ⟨ha4, cs5, hc6, rfl⟩ := ve _ _ hx3
  refine lv (v := .pointer (some ((ba va).add (h * 9)))) (e_indexAddr (k := h) (len := bs.length) (cap := vc) (a := va) rfl rfl ua43 (by omega) ha4) ?_
  refine lv (v := .agg (bC x2)) (e_load ua22 rfl (kB hc6) rfl) ?_
  refine lv (v := Ix (id)) e_move ?_
  refine l_call rfl rfl rfl (cl_value (fst := fst) (cap := cap) (vs := [.agg (bC x2), Ix (id)]) (all := fst ++ [.agg (bC x2), Ix (id)] ++ cap) hcf rfl rfl rfl) ?_
  intro w hw
  obtain ⟨β1, sb, kn, hw1, back⟩ := St.frame_all hw
  refine (hf β1 sb (x2, (id)) trivial w hw1).mono ?_
  rintro e w' ⟨rfl, hw'⟩
  refine ⟨_, rfl, _, back _ _ hw', ?_⟩
  clear hw hw1 hw' back kn sb
  refine lv (e_lss (a := (cmpI x2.id (id))) (b := (0 : Int)) rfl rfl) ?_
  refine lnf ?_
  refine c_if ((cmpI x2.id (id)) < (0 : Int)) rfl (fun hc8 => ?_) (fun hc8 => ?_)
  ·refine c_region ?_
   refine lv (v := Nx (h)) e_move ?_
   refine lv (v := Nx (h + 1)) (e_add (a := ((h : Nat) : Int)) (b := (1 : Int)) rfl rfl (i64n (by omega) (by omega))) ?_
   refine lv (v := Nx (h + 1)) e_assign ?_
   refine l_nil ?_
   refine f_block ?_
   exact f_cut ⟨(h + 1, j), ⟨⟨rfl, rfl, rfl, rfl, rfl, rfl⟩, rfl, ⟨by omega, by omega, fun t ht => lb_next ho hx3 (by have q := hc8; unfold cmpI at q; split at q <;> (try split at q) <;> omega) ht, hp2⟩⟩, (show j - (h + 1) < j - i from by omega)⟩
  refine c_region ?_
  refine lv (v := Nx (h)) e_move ?_
  refine lv (v := Nx (h)) e_assign ?_
  refine l_nil ?_
  refine f_block ?_
  exact f_cut ⟨(i, h), ⟨⟨rfl, rfl, rfl, rfl, rfl, rfl⟩, rfl, ⟨by omega, by omega, hp1, fun _ => by rw [idAt_eq hx3]; have q := hc8; unfold cmpI at q; split at q <;> (try split at q) <;> omega⟩⟩, (show h - i < j - i from by omega)⟩
 refine c_exit ?_
 refine f_then_exit ?_
 refine f_then_exit ?_
 refine f_exit ?_
 refine fts ?_
 have hij : i = j := by omega
 subst hij
 have hp2' := hp2
 refine c_region ?_
 refine lv (v := Nx (i)) e_move ?_
 refine lv (v := Nx (i)) e_move ?_
 refine lv (v := Nx (bs.length)) e_move ?_
 refine lv (e_lss (a := ((i : Nat) : Int)) (b := ((bs.length : Nat) : Int)) rfl rfl) ?_
 refine lv (v := .bool (decide (((i : Nat) : Int) < ((bs.length : Nat) : Int)))) e_move ?_
 refine l_split (s := 39) (p := ((i : Nat) : Int) < ((bs.length : Nat) : Int)) rfl (fun hg9 => ?_) (fun hg9 => ?_)
 ·refine g_val (v := .func (.func gg) fst.toArray cap.toArray) rfl rfl rfl rfl rfl e_move ?_
  refine g_val (v := sB va bs (vc)) rfl rfl rfl rfl rfl e_move ?_
  refine g_val (v := Nx (i)) rfl rfl rfl rfl rfl e_move ?_
  obtain ⟨x10, hx11⟩ : ∃ x_, (bs)[i]? = some x_ := ⟨_, List.getElem?_eq_getElem (by omega)⟩
  obtain ⟨ha12, cs13, hc14, rfl⟩ := ve _ _ hx11
  refine g_val (v := .pointer (some ((ba va).add (i * 9)))) rfl rfl rfl rfl rfl (e_indexAddr (k := i) (len := bs.length) (cap := vc) (a := va) rfl rfl ua43 (by omega) ha12) ?_
  refine g_val (v := .agg (bC x10)) rfl rfl rfl rfl rfl (e_load ua22 rfl (kB hc14) rfl) ?_
  refine g_val (v := Ix (id)) rfl rfl rfl rfl rfl e_move ?_
  refine g_call rfl rfl rfl rfl rfl (cl_value (fst := fst) (cap := cap) (vs := [.agg (bC x10), Ix (id)]) (all := fst ++ [.agg (bC x10), Ix (id)] ++ cap) hcf rfl rfl rfl) ?_
  intro w hw
  obtain ⟨β1, sb, kn, hw1, back⟩ := St.frame_all hw
  refine (hf β1 sb (x10, (id)) trivial w hw1).mono ?_
  rintro e w' ⟨rfl, hw'⟩
  refine ⟨_, rfl, _, back _ _ hw', ?_⟩
  clear hw hw1 hw' back kn sb
  refine g_val rfl rfl rfl rfl rfl (e_eql (a := (cmpI x10.id (id))) (b := (0 : Int)) rfl rfl) ?_
  refine lv (v := .bool (decide ((cmpI x10.id (id)) = (0 : Int)))) (e_pick_t rfl) ?_
  refine lv (v := Nx (i)) e_assign ?_
  refine lv (v := .bool (decide ((cmpI x10.id (id)) = (0 : Int)))) e_assign ?_
  refine lnf ?_
  refine c_ret ?_
  refine ret2 (v := Nx (i)) (v' := .bool (decide ((cmpI x10.id (id)) = (0 : Int)))) Tryz.results73 rfl rfl ?_
  intro w hw
  exact ⟨by rw [lb_eq (by omega) hp1 (fun _ => by rw [idAt_eq hx11]; have := hp2 (by omega); rwa [idAt_eq hx11] at this), show decide ((cmpI x10.id (id)) = (0 : Int)) = (findB bs id).isSome from (by have hle := hp2 (by omega); rw [idAt_eq hx11] at hle; have q := lb_found ho hp1 hx11 hle; rw [Bool.eq_iff_iff, decide_eq_true_iff, ← q]; unfold cmpI; split <;> (try split) <;> omega)], st_mask [] rfl hw⟩
 refine l_skip rfl rfl rfl rfl rfl rfl ?_
 refine l_skip rfl rfl rfl rfl rfl rfl ?_
 refine l_skip rfl rfl rfl rfl rfl rfl ?_
 refine l_skip rfl rfl rfl rfl rfl rfl ?_
 refine l_skip rfl rfl rfl rfl rfl rfl ?_
 refine l_skip rfl rfl rfl rfl rfl rfl ?_
 refine l_skip rfl rfl rfl rfl rfl rfl ?_
 refine l_skip rfl rfl rfl rfl rfl rfl ?_
 refine lv (v := .bool false) (e_pick_f rfl) ?_
 refine lv (v := Nx (i)) e_assign ?_
 refine lv (v := .bool false) e_assign ?_
 refine lnf ?_
 refine c_ret ?_
 refine ret2 (v := Nx (i)) (v' := .bool false) Tryz.results73 rfl rfl ?_
 intro w hw
 exact ⟨by rw [lb_eq (by omega) hp1 hp2', lb_none (by omega) hp1], st_mask [] rfl hw⟩
theorem find_ok (β : Base) (w : World) (hw : St β [] w) (v : Value) (bs : List KB) (hs : Sl KBR β.heap v bs) (id : Int) (ho : ordB bs) (hn : bs.length ≤ 1048576) : Calls Tryz.prog 44 #[v, Ix id, .func (.func 45) #[] #[]] w fun r w' => r = .returned (.tuple #[Nx (lbN bs id), .bool (findB bs id).isSome]) ∧ St β [] w' := by
 refine enter (n := 14) Tryz.func44 rfl Tryz.ntmps44 rfl ?_ hw
 refine csr ?_
 refine l_mv rfl rfl rfl (m_box (v := .func (.func 45) #[] #[]) rfl) ?_
 rintro _ _ ⟨b1, rfl, rfl⟩
 refine lv (v := .int .i64 (0)) e_assign ?_
 refine lv (v := .bool false) e_assign ?_
 refine lnc ?_
 refine lv (v := v) e_move ?_
 refine lv (v := Ix (id)) e_move ?_
 refine lv (v := .func (.func 74) #[] #[pp b1 0]) (e_func (u := []) (v := [pp b1 0]) rfl rfl) ?_
 refine lcf (cl0 (vs := [v, Ix (id), .func (.func 74) #[] #[pp b1 0]]) ua44 rfl rfl) rfl fun w β1 sb kn hw1 back => (bsearch_ok β1 w hw1 _ _ bs (Sl.mono _ _ _ _ _ sb hs) (id) ho (by omega) (find1_fn β1 b1 (kn _ (k_pt 0 (o := 0) rfl rfl)))).mono ?_
 rintro e w' ⟨rfl, hw'⟩
 refine ⟨_, rfl, _, back _ _ hw', ?_⟩
 clear hw1 hw' back kn sb
 refine lv (v := Nx (lbN bs (id))) (e_extract (vs := #[Nx (lbN bs (id)), .bool ((findB bs (id)).isSome)]) rfl rfl) ?_
 refine lv (v := .bool ((findB bs (id)).isSome)) (e_extract (vs := #[Nx (lbN bs (id)), .bool ((findB bs (id)).isSome)]) rfl rfl) ?_
 refine lv (v := Nx (lbN bs (id))) e_assign ?_
 refine lv (v := .bool ((findB bs (id)).isSome)) e_assign ?_
 refine lnf ?_
 refine c_ret ?_
 refine ret2 (v := Nx (lbN bs (id))) (v' := .bool ((findB bs (id)).isSome)) Tryz.results44 rfl rfl ?_
 intro w hw
 exact ⟨rfl, st_mask [false] rfl hw⟩
end Go.Proofs
namespace Go.Proofs
open Go Go.Sl Go.Stp
noncomputable instance (bs : List KB) (rs : List KR) (gx gy : Int) : Decidable (okS bs rs gx gy) := Classical.propDecidable _
theorem valid_end {bs : List KB} {rs : List KR} {gx gy : Int} (h1 : bs.length ≤ 64) (h2 : rs.length ≤ 32) (h3 : okV gx gy) (h4 : ∀ b ∈ bs, okB b) (h5 : ordB bs) : (!(rs.any fun z => decide (¬ okR bs z))) = decide (okS bs rs gx gy) := by
 rw [Bool.eq_iff_iff, decide_eq_true_iff]
 simp only [sB, rB, Bool.not_eq_true', List.any_eq_false, decide_eq_true_eq, Decidable.not_not]
 exact ⟨fun h => ⟨h1, h2, h3, h4, h5, h⟩, fun h => h.2.2.2.2.2⟩
theorem ua45 : Tryz.prog.underlying 23 = some (.slice 42) := by kernel_rfl
theorem ua46 : slB Tryz.prog 23 42 3 = true := by kernel_rfl
theorem ua47 : tyB Tryz.prog 42 true 3 = true := by kernel_rfl
theorem ua48 : cfB Tryz.prog 82 = true := by kernel_rfl
theorem ua49 : fldB Tryz.prog 27 0 0 1 false = true := by kernel_rfl
theorem ua50 : tyB Tryz.prog 22 false 1 = true := by kernel_rfl
theorem ua51 : fldB Tryz.prog 42 0 0 1 false = true := by kernel_rfl
theorem ua52 : cfB Tryz.prog 44 = true := by kernel_rfl
theorem ua53 : fldB Tryz.prog 42 1 1 1 false = true := by kernel_rfl
theorem ua54 : fldB Tryz.prog 42 2 2 1 false = true := by kernel_rfl
theorem ua55 : fldB Tryz.prog 27 1 1 1 false = true := by kernel_rfl
theorem ua56 : tyB Tryz.prog 23 false 1 = true := by kernel_rfl
theorem ua57 : fldB Tryz.prog 27 2 2 2 true = true := by kernel_rfl
theorem ua58 : (Tryz.prog.info? 33).bind (·.zero) = some (.agg #[.int .i64 (0), .int .i64 (0), .int .i64 (0), .int .i64 (0), .int .i64 (0), .int .i64 (0), .int .i64 (0), .bool false, .bool false]) := by kernel_rfl
theorem ua59 : cfB Tryz.prog 54 = true := by kernel_rfl
set_option maxHeartbeats 4000000 in
theorem indexR_ok (β : Base) (w : World) (hw : St β [] w) (v fn : Value) (xs : List KR) (hs : Sl KRR β.heap v xs) (p : KR → Bool) (hfn : FnV Tryz.prog β fn (fun z : KR => [.agg #[Ix (z.a), Ix (z.b), Ix (z.len)]]) (· ∈ xs) (fun z => .bool (p z))) : Calls Tryz.prog 82 #[v, fn] w fun r w' => r = .returned (Ix (idxI p xs)) ∧ St β [] w' := by
 obtain ⟨va, vc, rfl, vl, vm, ve⟩ := hs.get
 obtain ⟨gg, fst, cap, rfl, hcf, hf⟩ := hfn
 refine enter (n := 19) Tryz.func82 rfl Tryz.ntmps82 rfl ?_ hw
 refine csr ?_
 refine l_val (v := .int .i64 (0)) rfl rfl rfl e_assign ?_
 refine lnf ?_
 refine cs2 ?_
 refine c_region ?_
 refine lv (v := sB va xs (vc)) e_move ?_
 refine lv (v := Nx (xs.length)) (e_len (a := va) (n := xs.length) (c := vc) rfl ua45) ?_
 refine lv (v := .int .i64 (0)) e_move ?_
 refine lnf ?_
 refine c_block ?_
 refine c_loop (fun (k : Nat) (f : Fm) (L : List Res) => (f 0 = sB va xs (vc) ∧ f 1 = .func (.func gg) fst.toArray cap.toArray ∧ f 7 = Nx (xs.length) ∧ f 8 = Nx (k)) ∧ L = [] ∧ (k ≤ xs.length ∧ ∀ y ∈ xs.take k, p y = false)) (fun (k : Nat) => xs.length - k) 0 ?_ ?_
 ·exact ⟨⟨rfl, rfl, rfl, rfl⟩, rfl, ⟨by omega, fun y hy => by simp at hy⟩⟩
 rintro k f0 L0 ⟨⟨hs0, hs1, hs7, hs8⟩, hL, ⟨hk, hp⟩⟩
 subst L0
 refine rebase (d := 0) hs0 ?_
 refine rebase (d := 1) hs1 ?_
 refine rebase (d := 7) hs7 ?_
 refine rebase (d := 8) hs8 ?_
 clear hs0 hs1 hs7 hs8
 refine csr ?_
 refine lv (e_lss (a := ((k : Nat) : Int)) (b := ((xs.length : Nat) : Int)) rfl rfl) ?_
 refine lnf ?_
 refine c_seq ?_
 refine c_if (((k : Nat) : Int) < ((xs.length : Nat) : Int)) rfl (fun hc1 => ?_) (fun hc1 => ?_)
 ·refine csk ?_
  refine c_seq ?_
  refine c_block ?_
  refine csr ?_
  refine lv (v := Nx (k)) e_move ?_
  refine lv (v := Nx (k)) e_assign ?_
  refine lnc ?_
  refine lv (v := .func (.func gg) fst.toArray cap.toArray) e_move ?_
  refine lv (v := sB va xs (vc)) e_move ?_
  refine lv (v := Nx (k)) e_move ?_
  obtain ⟨x2, hx2⟩ : ∃ x_, (xs)[k]? = some x_ := ⟨_, List.getElem?_eq_getElem (by omega)⟩
  obtain ⟨ha4, cs5, hc6, rfl⟩ := ve _ _ hx2
  refine lv (v := .pointer (some ((ba va).add (k * 3)))) (e_indexAddr (k := k) (len := xs.length) (cap := vc) (a := va) rfl rfl ua46 (by omega) ha4) ?_
  refine lv (v := .agg #[Ix (x2.a), Ix (x2.b), Ix (x2.len)]) (e_load ua47 rfl (kB hc6) rfl) ?_
  refine l_call rfl rfl rfl (cl_value (fst := fst) (cap := cap) (vs := [.agg #[Ix (x2.a), Ix (x2.b), Ix (x2.len)]]) (all := fst ++ [.agg #[Ix (x2.a), Ix (x2.b), Ix (x2.len)]] ++ cap) hcf rfl rfl rfl) ?_
  intro w hw
  obtain ⟨β1, sb, kn, hw1, back⟩ := St.frame_all hw
  refine (hf β1 sb x2 (List.mem_of_getElem? hx2) w hw1).mono ?_
  rintro e w' ⟨rfl, hw'⟩
  refine ⟨_, rfl, _, back _ _ hw', ?_⟩
  clear hw hw1 hw' back kn sb
  refine lnf ?_
  refine c_ifb (p x2) rfl (fun hc8 => ?_) (fun hc8 => ?_)
  ·refine csr ?_
   refine lv (v := Nx (k)) e_move ?_
   refine lv (v := Nx (k)) e_assign ?_
   refine lnf ?_
   refine c_ret ?_
   refine f_block_ret ?_
   refine f_then_ret ?_
   refine f_then_ret ?_
   refine f_block_ret ?_
   refine f_then_ret ?_
   refine ret1 Tryz.results82 (v := Nx (k)) rfl ?_
   intro w hw
   exact ⟨congrArg (fun z : Int => Ending.returned (Ix z)) (idx_found hx2 hc8 hp).symm, st_mask [] rfl hw⟩
  refine c_skip ?_
  refine f_block ?_
  refine f_then ?_
  refine c_region ?_
  refine lv (v := Nx (k + 1)) (e_add (a := ((k : Nat) : Int)) (b := (1 : Int)) rfl rfl (i64n (by omega) (by omega))) ?_
  refine lv (v := Nx (k + 1)) e_move ?_
  refine l_nil ?_
  exact f_cut ⟨k + 1, ⟨⟨rfl, rfl, rfl, rfl⟩, rfl, ⟨by omega, idx_next hx2 hc8 hp⟩⟩, (show xs.length - (k + 1) < xs.length - k from by omega)⟩
 refine c_exit ?_
 refine f_then_exit ?_
 refine f_then_exit ?_
 refine f_exit ?_
 refine ftc ?_
 refine lv (v := .int .i64 (-1)) e_assign ?_
 refine lnf ?_
 refine c_ret ?_
 refine ret1 Tryz.results82 (v := .int .i64 (-1)) rfl ?_
 intro w hw
 exact ⟨congrArg (fun z : Int => Ending.returned (Ix z)) (idx_none (by omega) hp).symm, st_mask [] rfl hw⟩
set_option maxHeartbeats 4000000 in
theorem indexB_ok (β : Base) (w : World) (hw : St β [] w) (v fn : Value) (xs : List KB) (hs : Sl KBR β.heap v xs) (p : KB → Bool) (hfn : FnV Tryz.prog β fn (fun z : KB => [.agg (bC z)]) (· ∈ xs) (fun z => .bool (p z))) : Calls Tryz.prog 68 #[v, fn] w fun r w' => r = .returned (Ix (idxI p xs)) ∧ St β [] w' := by
 obtain ⟨va, vc, rfl, vl, vm, ve⟩ := hs.get
 obtain ⟨gg, fst, cap, rfl, hcf, hf⟩ := hfn
 refine enter (n := 19) Tryz.func68 rfl Tryz.ntmps68 rfl ?_ hw
 refine csr ?_
 refine l_val (v := .int .i64 (0)) rfl rfl rfl e_assign ?_
 refine lnf ?_
 refine cs2 ?_
 refine c_region ?_
 refine lv (v := sB va xs (vc)) e_move ?_
 refine lv (v := Nx (xs.length)) (e_len (a := va) (n := xs.length) (c := vc) rfl ua40) ?_
 refine lv (v := .int .i64 (0)) e_move ?_
 refine lnf ?_
 refine c_block ?_
 refine c_loop (fun (k : Nat) (f : Fm) (L : List Res) => (f 0 = sB va xs (vc) ∧ f 1 = .func (.func gg) fst.toArray cap.toArray ∧ f 7 = Nx (xs.length) ∧ f 8 = Nx (k)) ∧ L = [] ∧ (k ≤ xs.length ∧ ∀ y ∈ xs.take k, p y = false)) (fun (k : Nat) => xs.length - k) 0 ?_ ?_
 ·exact ⟨⟨rfl, rfl, rfl, rfl⟩, rfl, ⟨by omega, fun y hy => by simp at hy⟩⟩
 rintro k f0 L0 ⟨⟨hs0, hs1, hs7, hs8⟩, hL, ⟨hk, hp⟩⟩
 subst L0
 refine rebase (d := 0) hs0 ?_
 refine rebase (d := 1) hs1 ?_
 refine rebase (d := 7) hs7 ?_
 refine rebase (d := 8) hs8 ?_
 clear hs0 hs1 hs7 hs8
 refine csr ?_
 refine lv (e_lss (a := ((k : Nat) : Int)) (b := ((xs.length : Nat) : Int)) rfl rfl) ?_
 refine lnf ?_
 refine c_seq ?_
 refine c_if (((k : Nat) : Int) < ((xs.length : Nat) : Int)) rfl (fun hc1 => ?_) (fun hc1 => ?_)
 ·refine csk ?_
  refine c_seq ?_
  refine c_block ?_
  refine csr ?_
  refine lv (v := Nx (k)) e_move ?_
  refine lv (v := Nx (k)) e_assign ?_
  refine lnc ?_
  refine lv (v := .func (.func gg) fst.toArray cap.toArray) e_move ?_
  refine lv (v := sB va xs (vc)) e_move ?_
  refine lv (v := Nx (k)) e_move ?_
  obtain ⟨x2, hx2⟩ : ∃ x_, (xs)[k]? = some x_ := ⟨_, List.getElem?_eq_getElem (by omega)⟩
  obtain ⟨ha4, cs5, hc6, rfl⟩ := ve _ _ hx2
  refine lv (v := .pointer (some ((ba va).add (k * 9)))) (e_indexAddr (k := k) (len := xs.length) (cap := vc) (a := va) rfl rfl ua43 (by omega) ha4) ?_
  refine lv (v := .agg (bC x2)) (e_load ua22 rfl (kB hc6) rfl) ?_
  refine l_call rfl rfl rfl (cl_value (fst := fst) (cap := cap) (vs := [.agg (bC x2)]) (all := fst ++ [.agg (bC x2)] ++ cap) hcf rfl rfl rfl) ?_
  intro w hw
  obtain ⟨β1, sb, kn, hw1, back⟩ := St.frame_all hw
  refine (hf β1 sb x2 (List.mem_of_getElem? hx2) w hw1).mono ?_
  rintro e w' ⟨rfl, hw'⟩
  refine ⟨_, rfl, _, back _ _ hw', ?_⟩
  clear hw hw1 hw' back kn sb
  refine lnf ?_
  refine c_ifb (p x2) rfl (fun hc8 => ?_) (fun hc8 => ?_)
  ·refine csr ?_
   refine lv (v := Nx (k)) e_move ?_
   refine lv (v := Nx (k)) e_assign ?_
   refine lnf ?_
   refine c_ret ?_
   refine f_block_ret ?_
   refine f_then_ret ?_
   refine f_then_ret ?_
   refine f_block_ret ?_
   refine f_then_ret ?_
   refine ret1 Tryz.results68 (v := Nx (k)) rfl ?_
   intro w hw
   exact ⟨congrArg (fun z : Int => Ending.returned (Ix z)) (idx_found hx2 hc8 hp).symm, st_mask [] rfl hw⟩
  refine c_skip ?_
  refine f_block ?_
  refine f_then ?_
  refine c_region ?_
  refine lv (v := Nx (k + 1)) (e_add (a := ((k : Nat) : Int)) (b := (1 : Int)) rfl rfl (i64n (by omega) (by omega))) ?_
  refine lv (v := Nx (k + 1)) e_move ?_
  refine l_nil ?_
  exact f_cut ⟨k + 1, ⟨⟨rfl, rfl, rfl, rfl⟩, rfl, ⟨by omega, idx_next hx2 hc8 hp⟩⟩, (show xs.length - (k + 1) < xs.length - k from by omega)⟩
 refine c_exit ?_
 refine f_then_exit ?_
 refine f_then_exit ?_
 refine f_exit ?_
 refine ftc ?_
 refine lv (v := .int .i64 (-1)) e_assign ?_
 refine lnf ?_
 refine c_ret ?_
 refine ret1 Tryz.results68 (v := .int .i64 (-1)) rfl ?_
 intro w hw
 exact ⟨congrArg (fun z : Int => Ending.returned (Ix z)) (idx_none (by omega) hp).symm, st_mask [] rfl hw⟩
theorem containsR_ok (β : Base) (w : World) (hw : St β [] w) (v fn : Value) (xs : List KR) (hs : Sl KRR β.heap v xs) (p : KR → Bool) (hfn : FnV Tryz.prog β fn (fun z : KR => [.agg #[Ix (z.a), Ix (z.b), Ix (z.len)]]) (· ∈ xs) (fun z => .bool (p z))) : Calls Tryz.prog 54 #[v, fn] w fun r w' => r = .returned (.bool (xs.any p)) ∧ St β [] w' := by
 refine enter (n := 9) Tryz.func54 rfl Tryz.ntmps54 rfl ?_ hw
 refine csr ?_
 refine l_val (v := .bool false) rfl rfl rfl e_assign ?_
 refine lnc ?_
 refine lv (v := v) e_move ?_
 refine lv (v := fn) e_move ?_
 refine lcf (cl0 (vs := [v, fn]) ua48 rfl rfl) rfl fun w β1 sb kn hw1 back => (indexR_ok β1 w hw1 _ _ xs (Sl.mono _ _ _ _ _ sb hs) p (hfn.mono sb)).mono ?_
 rintro e w' ⟨rfl, hw'⟩
 refine ⟨_, rfl, _, back _ _ hw', ?_⟩
 clear hw1 hw' back kn sb
 refine lv (e_geq (a := (idxI p xs)) (b := (0 : Int)) rfl rfl) ?_
 refine lv (v := .bool (decide ((0 : Int) ≤ (idxI p xs)))) e_assign ?_
 refine lnf ?_
 refine c_ret ?_
 refine ret1 Tryz.results54 (v := .bool (decide ((0 : Int) ≤ (idxI p xs)))) rfl ?_
 intro w hw
 exact ⟨congrArg Ending.returned (congrArg Value.bool (idx_any p xs)), st_mask [] rfl hw⟩
theorem valid1_fn (β : Base) (c : Nat) (v rv : Value) (gx gy : Int) (bs : List KB) (hc : Cs β.heap ⟨c, 0, none⟩ [v, rv, Ix gx, Ix gy]) (hs : Sl KBR β.heap v bs) (ho : ordB bs) (hn : bs.length ≤ 1048576) : FnV Tryz.prog β (.func (.func 55) #[] #[pp c 0]) (fun z : KR => [.agg #[Ix (z.a), Ix (z.b), Ix (z.len)]]) (fun _ => True) (fun z => .bool (decide (¬ okR bs z))) := by
 refine ⟨55, [], [.pointer (some (⟨c, 0, none⟩))], rfl, by kernel_rfl, fun β₁ sb0 z_ hz_ w hw => ?_⟩
 have hc1 := Cs.mono _ _ _ _ sb0 hc
 have hs1 := Sl.mono _ _ _ _ _ sb0 hs
 obtain ⟨r, hr⟩ : ∃ r, r = z_ := ⟨_, rfl⟩
 subst hr
 refine enter (n := 47) Tryz.func55 rfl Tryz.ntmps55 rfl ?_ hw
 refine csr ?_
 refine l_mv rfl rfl rfl (m_box (v := .agg #[Ix (r.a), Ix (r.b), Ix (r.len)]) rfl) ?_
 rintro _ _ ⟨b1, rfl, rfl⟩
 refine lv (v := .bool false) e_assign ?_
 refine lnc ?_
 refine lv (v := .pointer (some ((⟨c, 0, none⟩ : Addr).add 0))) (e_fieldAddr (a := ⟨c, 0, none⟩) rfl ua49) ?_
 refine lv (v := v) (e_load1 ua50 rfl (Knows.imp (kB hc1) (fun _ h => Cs.sub (vs := [v]) 0 h rfl))) ?_
 refine lv (v := pp b1 0) (e_fieldPt rfl ua51) ?_
 refine lv (v := Ix (r.a)) (e_load1 ua2 rfl (k_pt 0 rfl rfl)) ?_
 refine lcf (cl0 (vs := [v, Ix (r.a), .func (.func 45) #[] #[]]) ua52 rfl rfl) rfl fun w β1 sb kn hw1 back => (find_ok β1 w hw1 _ bs (Sl.mono _ _ _ _ _ sb hs1) (r.a) ho (by omega)).mono ?_
 rintro e w' ⟨rfl, hw'⟩
 refine ⟨_, rfl, _, back _ _ hw', ?_⟩
 clear hw1 hw' back kn sb
 refine lv (v := .tuple #[Nx (lbN bs (r.a)), .bool ((findB bs (r.a)).isSome)]) e_move ?_
 refine lv (v := Nx (lbN bs (r.a))) (e_extract (vs := #[Nx (lbN bs (r.a)), .bool ((findB bs (r.a)).isSome)]) rfl rfl) ?_
 refine lv (v := .bool ((findB bs (r.a)).isSome)) (e_extract (vs := #[Nx (lbN bs (r.a)), .bool ((findB bs (r.a)).isSome)]) rfl rfl) ?_
 refine lv (v := Nx (lbN bs (r.a))) e_assign ?_
 refine lv (v := .bool ((findB bs (r.a)).isSome)) e_assign ?_
 refine lnc ?_
 refine lv (v := .pointer (some ((⟨c, 0, none⟩ : Addr).add 0))) (e_fieldAddr (a := ⟨c, 0, none⟩) rfl ua49) ?_
 refine lv (v := v) (e_load1 ua50 rfl (Knows.imp (kB hc1) (fun _ h => Cs.sub (vs := [v]) 0 h rfl))) ?_
 refine lv (v := pp b1 1) (e_fieldPt rfl ua53) ?_
 refine lv (v := Ix (r.b)) (e_load1 ua2 rfl (k_pt 0 rfl rfl)) ?_
 refine lcf (cl0 (vs := [v, Ix (r.b), .func (.func 45) #[] #[]]) ua52 rfl rfl) rfl fun w β1 sb kn hw1 back => (find_ok β1 w hw1 _ bs (Sl.mono _ _ _ _ _ sb hs1) (r.b) ho (by omega)).mono ?_
 rintro e w' ⟨rfl, hw'⟩
 refine ⟨_, rfl, _, back _ _ hw', ?_⟩
 clear hw1 hw' back kn sb
 refine lv (v := .tuple #[Nx (lbN bs (r.b)), .bool ((findB bs (r.b)).isSome)]) e_move ?_
 refine lv (v := Nx (lbN bs (r.b))) (e_extract (vs := #[Nx (lbN bs (r.b)), .bool ((findB bs (r.b)).isSome)]) rfl rfl) ?_
 refine lv (v := .bool ((findB bs (r.b)).isSome)) (e_extract (vs := #[Nx (lbN bs (r.b)), .bool ((findB bs (r.b)).isSome)]) rfl rfl) ?_
 refine lv (v := Nx (lbN bs (r.b))) e_assign ?_
 refine lv (v := .bool ((findB bs (r.b)).isSome)) e_assign ?_
 refine lnc ?_
 refine lv (v := .bool ((findB bs (r.a)).isSome)) e_move ?_
 refine lv (v := .bool (!((findB bs (r.a)).isSome))) (e_not rfl) ?_
 refine lv (v := .bool (!((findB bs (r.a)).isSome))) e_move ?_
 refine l_splitb (s := 26) (b := !((findB bs (r.a)).isSome)) rfl (fun hg2 => ?_) (fun hg2 => ?_)
 ·refine l_skip rfl rfl rfl rfl rfl rfl ?_
  refine l_skip rfl rfl rfl rfl rfl rfl ?_
  refine lv (v := .bool true) (e_pick_t rfl) ?_
  refine lv (v := .bool true) e_move ?_
  refine l_skip rfl rfl rfl rfl rfl rfl ?_
  refine l_skip rfl rfl rfl rfl rfl rfl ?_
  refine l_skip rfl rfl rfl rfl rfl rfl ?_
  refine l_skip rfl rfl rfl rfl rfl rfl ?_
  refine l_skip rfl rfl rfl rfl rfl rfl ?_
  refine lv (v := .bool true) (e_pick_t rfl) ?_
  refine lv (v := .bool true) e_move ?_
  refine l_skip rfl rfl rfl rfl rfl rfl ?_
  refine l_skip rfl rfl rfl rfl rfl rfl ?_
  refine l_skip rfl rfl rfl rfl rfl rfl ?_
  refine lv (v := .bool true) (e_pick_t rfl) ?_
  refine lv (v := .bool true) e_move ?_
  refine l_skip rfl rfl rfl rfl rfl rfl ?_
  refine l_skip rfl rfl rfl rfl rfl rfl ?_
  refine l_skip rfl rfl rfl rfl rfl rfl ?_
  refine lv (v := .bool true) (e_pick_t rfl) ?_
  refine lv (v := .bool true) e_assign ?_
  refine lnf ?_
  refine c_ret ?_
  refine ret1 Tryz.results55 (v := .bool true) rfl ?_
  intro w hw
  exact ⟨congrArg (fun b : Bool => Ending.returned (.bool b)) (show true = decide (¬ okR bs r) by unfold okR; simp_all <;> omega), st_mask [false] rfl hw⟩
 refine g_val (v := .bool ((findB bs (r.b)).isSome)) rfl rfl rfl rfl rfl e_move ?_
 refine g_val (v := .bool (!((findB bs (r.b)).isSome))) rfl rfl rfl rfl rfl (e_not rfl) ?_
 refine lv (v := .bool (!((findB bs (r.b)).isSome))) (e_pick_f rfl) ?_
 refine lv (v := .bool (!((findB bs (r.b)).isSome))) e_move ?_
 refine l_splitb (s := 30) (b := !((findB bs (r.b)).isSome)) rfl (fun hg3 => ?_) (fun hg3 => ?_)
 ·refine l_skip rfl rfl rfl rfl rfl rfl ?_
  refine l_skip rfl rfl rfl rfl rfl rfl ?_
  refine l_skip rfl rfl rfl rfl rfl rfl ?_
  refine l_skip rfl rfl rfl rfl rfl rfl ?_
  refine l_skip rfl rfl rfl rfl rfl rfl ?_
  refine lv (v := .bool true) (e_pick_t rfl) ?_
  refine lv (v := .bool true) e_move ?_
  refine l_skip rfl rfl rfl rfl rfl rfl ?_
  refine l_skip rfl rfl rfl rfl rfl rfl ?_
  refine l_skip rfl rfl rfl rfl rfl rfl ?_
  refine lv (v := .bool true) (e_pick_t rfl) ?_
  refine lv (v := .bool true) e_move ?_
  refine l_skip rfl rfl rfl rfl rfl rfl ?_
  refine l_skip rfl rfl rfl rfl rfl rfl ?_
  refine l_skip rfl rfl rfl rfl rfl rfl ?_
  refine lv (v := .bool true) (e_pick_t rfl) ?_
  refine lv (v := .bool true) e_assign ?_
  refine lnf ?_
  refine c_ret ?_
  refine ret1 Tryz.results55 (v := .bool true) rfl ?_
  intro w hw
  exact ⟨congrArg (fun b : Bool => Ending.returned (.bool b)) (show true = decide (¬ okR bs r) by unfold okR; simp_all <;> omega), st_mask [false] rfl hw⟩
 refine g_val (v := pp b1 0) rfl rfl rfl rfl rfl (e_fieldPt rfl ua51) ?_
 refine g_val (v := Ix (r.a)) rfl rfl rfl rfl rfl (e_load1 ua2 rfl (k_pt 0 rfl rfl)) ?_
 refine g_val (v := pp b1 1) rfl rfl rfl rfl rfl (e_fieldPt rfl ua53) ?_
 refine g_val (v := Ix (r.b)) rfl rfl rfl rfl rfl (e_load1 ua2 rfl (k_pt 0 rfl rfl)) ?_
 refine g_val rfl rfl rfl rfl rfl (e_geq (a := (r.a)) (b := (r.b)) rfl rfl) ?_
 refine lv (v := .bool (decide ((r.b) ≤ (r.a)))) (e_pick_f rfl) ?_
 refine lv (v := .bool (decide ((r.b) ≤ (r.a)))) e_move ?_
 refine l_split (s := 37) (p := (r.b) ≤ (r.a)) rfl (fun hg4 => ?_) (fun hg4 => ?_)
 ·refine l_skip rfl rfl rfl rfl rfl rfl ?_
  refine l_skip rfl rfl rfl rfl rfl rfl ?_
  refine l_skip rfl rfl rfl rfl rfl rfl ?_
  refine lv (v := .bool true) (e_pick_t rfl) ?_
  refine lv (v := .bool true) e_move ?_
  refine l_skip rfl rfl rfl rfl rfl rfl ?_
  refine l_skip rfl rfl rfl rfl rfl rfl ?_
  refine l_skip rfl rfl rfl rfl rfl rfl ?_
  refine lv (v := .bool true) (e_pick_t rfl) ?_
  refine lv (v := .bool true) e_assign ?_
  refine lnf ?_
  refine c_ret ?_
  refine ret1 Tryz.results55 (v := .bool true) rfl ?_
  intro w hw
  exact ⟨congrArg (fun b : Bool => Ending.returned (.bool b)) (show true = decide (¬ okR bs r) by unfold okR; simp_all <;> omega), st_mask [false] rfl hw⟩
 refine g_val (v := pp b1 2) rfl rfl rfl rfl rfl (e_fieldPt rfl ua54) ?_
 refine g_val (v := Ix (r.len)) rfl rfl rfl rfl rfl (e_load1 ua2 rfl (k_pt 0 rfl rfl)) ?_
 refine g_val rfl rfl rfl rfl rfl (e_lss (a := (r.len)) (b := (0 : Int)) rfl rfl) ?_
 refine lv (v := .bool (decide ((r.len) < (0 : Int)))) (e_pick_f rfl) ?_
 refine lv (v := .bool (decide ((r.len) < (0 : Int)))) e_move ?_
 refine l_split (s := 42) (p := (r.len) < (0 : Int)) rfl (fun hg5 => ?_) (fun hg5 => ?_)
 ·refine l_skip rfl rfl rfl rfl rfl rfl ?_
  refine l_skip rfl rfl rfl rfl rfl rfl ?_
  refine l_skip rfl rfl rfl rfl rfl rfl ?_
  refine lv (v := .bool true) (e_pick_t rfl) ?_
  refine lv (v := .bool true) e_assign ?_
  refine lnf ?_
  refine c_ret ?_
  refine ret1 Tryz.results55 (v := .bool true) rfl ?_
  intro w hw
  exact ⟨congrArg (fun b : Bool => Ending.returned (.bool b)) (show true = decide (¬ okR bs r) by unfold okR; simp_all <;> omega), st_mask [false] rfl hw⟩
 refine g_val (v := pp b1 2) rfl rfl rfl rfl rfl (e_fieldPt rfl ua54) ?_
 refine g_val (v := Ix (r.len)) rfl rfl rfl rfl rfl (e_load1 ua2 rfl (k_pt 0 rfl rfl)) ?_
 refine g_val rfl rfl rfl rfl rfl (e_gtr (a := (r.len)) (b := (2097152 : Int)) rfl rfl) ?_
 refine lv (v := .bool (decide ((2097152 : Int) < (r.len)))) (e_pick_f rfl) ?_
 refine lv (v := .bool (decide ((2097152 : Int) < (r.len)))) e_assign ?_
 refine lnf ?_
 refine c_ret ?_
 refine ret1 Tryz.results55 (v := .bool (decide ((2097152 : Int) < (r.len)))) rfl ?_
 intro w hw
 exact ⟨congrArg (fun b : Bool => Ending.returned (.bool b)) (show decide ((2097152 : Int) < (r.len)) = decide (¬ okR bs r) by unfold okR; simp_all <;> omega), st_mask [false] rfl hw⟩
set_option maxHeartbeats 4000000 in
theorem ivalid_ok (β : Base) (w : World) (hw : St β [] w) (v rv : Value) (gx gy : Int) (bs : List KB) (rs : List KR) (hs : Sl KBR β.heap v bs) (hr : Sl KRR β.heap rv rs) (hgx : -9223372036854775808 ≤ gx ∧ gx ≤ 9223372036854775807) (hgy : -9223372036854775808 ≤ gy ∧ gy ≤ 9223372036854775807) : Calls Tryz.prog 21 #[.agg #[v, rv, Ix gx, Ix gy]] w fun r w' => r = .returned (.bool (decide (okS bs rs gx gy))) ∧ St β [] w' := by
 obtain ⟨va, vc, rfl, vl, vm, ve⟩ := hs.get
 obtain ⟨rva, rvc, rfl, rvl, rvm, rve⟩ := hr.get
 refine enter (n := 54) Tryz.func21 rfl Tryz.ntmps21 rfl ?_ hw
 refine csr ?_
 refine l_mv rfl rfl rfl (m_box (v := .agg #[sB va bs (vc), sB rva rs (rvc), Ix (gx), Ix (gy)]) rfl) ?_
 rintro _ _ ⟨b1, rfl, rfl⟩
 refine lv (v := .bool false) e_assign ?_
 refine lnf ?_
 refine cs2 ?_
 refine c_region ?_
 refine lv (v := pp b1 0) (e_fieldPt rfl ua49) ?_
 refine lv (v := sB va bs (vc)) (e_load1 ua50 rfl (k_pt 0 rfl rfl)) ?_
 refine lv (v := Nx (bs.length)) (e_len (a := va) (n := bs.length) (c := vc) rfl ua40) ?_
 refine lv (e_gtr (a := ((bs.length : Nat) : Int)) (b := (64 : Int)) rfl rfl) ?_
 refine lv (v := .bool (decide ((64 : Int) < ((bs.length : Nat) : Int)))) e_move ?_
 refine l_split (s := 9) (p := (64 : Int) < ((bs.length : Nat) : Int)) rfl (fun hg2 => ?_) (fun hg2 => ?_)
 ·refine l_skip rfl rfl rfl rfl rfl rfl ?_
  refine l_skip rfl rfl rfl rfl rfl rfl ?_
  refine l_skip rfl rfl rfl rfl rfl rfl ?_
  refine l_skip rfl rfl rfl rfl rfl rfl ?_
  refine lv (v := .bool true) (e_pick_t rfl) ?_
  refine lv (v := .bool true) e_move ?_
  refine l_skip rfl rfl rfl rfl rfl rfl ?_
  refine l_skip rfl rfl rfl rfl rfl rfl ?_
  refine l_skip rfl rfl rfl rfl rfl rfl ?_
  refine l_skip rfl rfl rfl rfl rfl rfl ?_
  refine lv (v := .bool true) (e_pick_t rfl) ?_
  refine lnf ?_
  refine c_yes rfl ?_
  refine csr ?_
  refine l_val (v := .bool false) rfl rfl rfl e_assign ?_
  refine lnf ?_
  refine c_ret ?_
  refine f_then_ret ?_
  refine ret1 Tryz.results21 (v := .bool false) rfl ?_
  intro w hw
  exact ⟨congrArg (fun b : Bool => Ending.returned (.bool b)) (decide_eq_false fun h => by have q1 := h.1; have q2 := h.2.1; omega).symm, st_mask [false] rfl hw⟩
 refine g_val (v := pp b1 1) rfl rfl rfl rfl rfl (e_fieldPt rfl ua55) ?_
 refine g_val (v := sB rva rs (rvc)) rfl rfl rfl rfl rfl (e_load1 ua56 rfl (k_pt 0 rfl rfl)) ?_
 refine g_val (v := Nx (rs.length)) rfl rfl rfl rfl rfl (e_len (a := rva) (n := rs.length) (c := rvc) rfl ua45) ?_
 refine g_val rfl rfl rfl rfl rfl (e_gtr (a := ((rs.length : Nat) : Int)) (b := (32 : Int)) rfl rfl) ?_
 refine lv (v := .bool (decide ((32 : Int) < ((rs.length : Nat) : Int)))) (e_pick_f rfl) ?_
 refine lv (v := .bool (decide ((32 : Int) < ((rs.length : Nat) : Int)))) e_move ?_
 refine l_split (s := 15) (p := (32 : Int) < ((rs.length : Nat) : Int)) rfl (fun hg3 => ?_) (fun hg3 => ?_)
 ·refine l_skip rfl rfl rfl rfl rfl rfl ?_
  refine l_skip rfl rfl rfl rfl rfl rfl ?_
  refine l_skip rfl rfl rfl rfl rfl rfl ?_
  refine l_skip rfl rfl rfl rfl rfl rfl ?_
  refine lv (v := .bool true) (e_pick_t rfl) ?_
  refine lnf ?_
  refine c_yes rfl ?_
  refine csr ?_
  refine l_val (v := .bool false) rfl rfl rfl e_assign ?_
  refine lnf ?_
  refine c_ret ?_
  refine f_then_ret ?_
  refine ret1 Tryz.results21 (v := .bool false) rfl ?_
  intro w hw
  exact ⟨congrArg (fun b : Bool => Ending.returned (.bool b)) (decide_eq_false fun h => by have q1 := h.1; have q2 := h.2.1; omega).symm, st_mask [false] rfl hw⟩
 refine g_val (v := pp b1 2) rfl rfl rfl rfl rfl (e_fieldPt rfl ua57) ?_
 refine g_val (v := .agg #[Ix (gx), Ix (gy)]) rfl rfl rfl rfl rfl (e_load ua15 rfl (k_pt 0 rfl rfl) rfl) ?_
 refine g_call rfl rfl rfl rfl rfl (cl0 (vs := [.agg #[Ix (gx), Ix (gy)]]) ua34 rfl rfl) ?_
 intro w hw
 obtain ⟨β1, sb, kn, hw1, back⟩ := St.frame_all hw
 refine (pull_ok β1 w hw1 (gx) (gy) (by omega) (by omega)).mono ?_
 rintro e w' ⟨rfl, hw'⟩
 refine ⟨_, rfl, _, back _ _ hw', ?_⟩
 clear hw hw1 hw' back kn sb
 refine g_val (v := .bool (decide (¬ (okV (gx) (gy))))) rfl rfl rfl rfl rfl (e_not_p (p := okV (gx) (gy)) rfl) ?_
 refine lv (v := .bool (decide (¬ (okV (gx) (gy))))) (e_pick_f rfl) ?_
 refine lnf ?_
 refine c_if (¬ (okV (gx) (gy))) rfl (fun hc4 => ?_) (fun hc4 => ?_)
 ·refine csr ?_
  refine l_val (v := .bool false) rfl rfl rfl e_assign ?_
  refine lnf ?_
  refine c_ret ?_
  refine f_then_ret ?_
  refine ret1 Tryz.results21 (v := .bool false) rfl ?_
  intro w hw
  exact ⟨congrArg (fun b : Bool => Ending.returned (.bool b)) (decide_eq_false fun h => by have q1 := h.1; have q2 := h.2.1; exact hc4 h.2.2.1).symm, st_mask [false] rfl hw⟩
 refine csk ?_
 refine cs2 ?_
 have hov := Decidable.not_not.1 hc4
 refine c_region ?_
 refine lv (v := pp b1 0) (e_fieldPt rfl ua49) ?_
 refine lv (v := sB va bs (vc)) (e_load1 ua50 rfl (k_pt 0 rfl rfl)) ?_
 refine lv (v := Nx (bs.length)) (e_len (a := va) (n := bs.length) (c := vc) rfl ua40) ?_
 refine lv (v := .int .i64 (0)) e_move ?_
 refine lnf ?_
 refine c_block ?_
 refine c_mask [true] rfl ?_
 refine c_loop (fun (k : Nat) (f : Fm) (L : List Res) => (f 1 = pp b1 0 ∧ f 22 = sB va bs (vc) ∧ f 23 = Nx (bs.length) ∧ f 24 = Nx (k)) ∧ L = [pt b1 (.cells #[sB va bs (vc), sB rva rs (rvc), Ix (gx), Ix (gy)] 27)] ∧ (k ≤ bs.length ∧ (∀ b ∈ bs.take k, okB b) ∧ ∀ i a b, i + 1 < k → bs[i]? = some a → bs[i + 1]? = some b → a.id < b.id)) (fun (k : Nat) => bs.length - k) 0 ?_ ?_
 ·exact ⟨⟨rfl, rfl, rfl, rfl⟩, rfl, ⟨by omega, fun y hy => by simp at hy, fun i a b h => by omega⟩⟩
 rintro k f0 L0 ⟨⟨hs1, hs22, hs23, hs24⟩, hL, ⟨hk, hp1, hp2⟩⟩
 subst L0
 refine rebase (d := 1) hs1 ?_
 refine rebase (d := 22) hs22 ?_
 refine rebase (d := 23) hs23 ?_
 refine rebase (d := 24) hs24 ?_
 clear hs1 hs22 hs23 hs24
 refine csr ?_
 refine lv (e_lss (a := ((k : Nat) : Int)) (b := ((bs.length : Nat) : Int)) rfl rfl) ?_
 refine lnf ?_
 refine c_seq ?_
 refine c_if (((k : Nat) : Int) < ((bs.length : Nat) : Int)) rfl (fun hc5 => ?_) (fun hc5 => ?_)
 ·refine csk ?_
  refine c_seq ?_
  refine c_block ?_
  refine csr ?_
  refine lv (v := Nx (k)) e_move ?_
  obtain ⟨x6, hx7⟩ : ∃ x_, (bs)[k]? = some x_ := ⟨_, List.getElem?_eq_getElem (by omega)⟩
  obtain ⟨ha8, cs9, hc10, rfl⟩ := ve _ _ hx7
  refine lv (v := .pointer (some ((ba va).add (k * 9)))) (e_indexAddr (k := k) (len := bs.length) (cap := vc) (a := va) rfl rfl ua43 (by omega) ha8) ?_
  refine lv (v := .agg (bC x6)) (e_load ua22 rfl (kB hc10) rfl) ?_
  refine l_mv rfl rfl rfl (m_alloc ua58) ?_
  rintro _ _ ⟨b12, rfl, rfl⟩
  refine lv (v := Nx (k)) e_assign ?_
  refine lu (m_store 0 ua22 (cs' := (bC x6)) rfl rfl rfl rfl rfl rfl rfl) ?_
  refine lnf ?_
  refine c_seq ?_
  refine c_quiet (by kernel_rfl) (by kernel_rfl) ?_
  refine q_val (v := .agg (bC x6)) rfl rfl rfl (e_load ua22 rfl (k_pt 0 rfl rfl) rfl) ?_
  refine q_call (v := .bool (decide (okB x6))) rfl rfl rfl (cl0 (vs := [.agg (bC x6)]) ua24 rfl rfl) (fun w hw => ?_) ?_
  ·obtain ⟨β1, sb, kn, hw1, back⟩ := St.frame_all hw
   exact (valid_ok β1 w hw1 x6).mono (fun e w' ⟨he, hw'⟩ => ⟨he, st_mask [true, true] rfl (back _ _ hw')⟩)
  refine q_val (v := .bool (decide (¬ (okB x6)))) rfl rfl rfl (e_not_p (p := okB x6) rfl) ?_
  refine q_val (v := .bool (decide (¬ (okB x6)))) rfl rfl rfl e_move ?_
  refine q_split (s := 32) (p := ¬ (okB x6)) rfl (fun hg13 => ?_) (fun hg13 => ?_)
  ·refine q_skip rfl rfl rfl rfl rfl rfl ?_
   refine q_skip rfl rfl rfl rfl rfl rfl ?_
   refine q_skip rfl rfl rfl rfl rfl rfl ?_
   refine q_skip_u rfl rfl rfl rfl rfl ?_
   refine q_skip_u rfl rfl rfl rfl rfl ?_
   refine q_skip_u rfl rfl rfl rfl rfl ?_
   refine q_skip_u rfl rfl rfl rfl rfl ?_
   refine q_skip_u rfl rfl rfl rfl rfl ?_
   refine q_skip_u rfl rfl rfl rfl rfl ?_
   refine q_skip_u rfl rfl rfl rfl rfl ?_
   refine q_skip_u rfl rfl rfl rfl rfl ?_
   refine q_skip_u rfl rfl rfl rfl rfl ?_
   refine q_skip_u rfl rfl rfl rfl rfl ?_
   refine q_skip rfl rfl rfl rfl rfl rfl ?_
   refine q_val (v := .bool true) rfl rfl rfl (e_pick_t rfl) ?_
   refine q_nil ?_
   refine f_then ?_
   refine c_yes rfl ?_
   refine csr ?_
   refine l_val (v := .bool false) rfl rfl rfl e_assign ?_
   refine lnf ?_
   refine c_ret ?_
   refine f_block_ret ?_
   refine f_then_ret ?_
   refine f_then_ret ?_
   refine f_block_ret ?_
   refine f_then_ret ?_
   refine ret1 Tryz.results21 (v := .bool false) rfl ?_
   intro w hw
   exact ⟨congrArg (fun b : Bool => Ending.returned (.bool b)) (decide_eq_false fun h => hg13 (h.2.2.2.1 _ (List.mem_of_getElem? hx7))).symm, st_mask [false, false] rfl hw⟩
  have hok := Decidable.not_not.1 hg13
  refine qg_val (v := Nx (k)) rfl rfl rfl rfl rfl e_move ?_
  refine qg_val rfl rfl rfl rfl rfl (e_gtr (a := ((k : Nat) : Int)) (b := (0 : Int)) rfl rfl) ?_
  refine qg_val (v := .bool (decide ((0 : Int) < ((k : Nat) : Int)))) rfl rfl rfl rfl rfl e_move ?_
  refine q_split (s := 35) (p := (0 : Int) < ((k : Nat) : Int)) rfl (fun hg14 => ?_) (fun hg14 => ?_)
  ·have hk0 : 0 < k := by omega
   refine qg_val (v := pp b12 0) rfl rfl rfl rfl rfl (e_fieldPt rfl ua3) ?_
   refine qg_val (v := Ix (x6.id)) rfl rfl rfl rfl rfl (e_load1 ua2 rfl (k_pt 0 rfl rfl)) ?_
   refine qg_val (v := pp b1 0) rfl rfl rfl rfl rfl (e_fieldPt rfl ua49) ?_
   refine qg_val (v := sB va bs (vc)) rfl rfl rfl rfl rfl (e_load1 ua50 rfl (k_pt 1 rfl rfl)) ?_
   refine qg_val (v := Nx (k)) rfl rfl rfl rfl rfl e_move ?_
   refine qg_val (v := Nx (k - 1)) rfl rfl rfl rfl rfl (ev_eq (congrArg (Value.int .i64) (by omega)) (e_sub (a := ((k : Nat) : Int)) (b := (1 : Int)) rfl rfl (i64w (by omega)))) ?_
   obtain ⟨x15, hx16⟩ : ∃ x_, (bs)[k - 1]? = some x_ := ⟨_, List.getElem?_eq_getElem (by omega)⟩
   obtain ⟨ha17, cs18, hc19, rfl⟩ := ve _ _ hx16
   refine qg_val (v := .pointer (some ((ba va).add ((k - 1) * 9)))) rfl rfl rfl rfl rfl (e_indexAddr (k := k - 1) (len := bs.length) (cap := vc) (a := va) rfl rfl ua43 (by omega) ha17) ?_
   refine qg_val (v := .pointer (some (((ba va).add ((k - 1) * 9) : Addr).add 0))) rfl rfl rfl rfl rfl (e_fieldAddr (a := (ba va).add ((k - 1) * 9)) rfl ua3) ?_
   refine qg_val (v := Ix (x15.id)) rfl rfl rfl rfl rfl (e_load1 ua2 rfl (Knows.imp (kB hc19) (fun _ h => Cs.sub (vs := [Ix (x15.id)]) 0 h rfl))) ?_
   refine qg_val rfl rfl rfl rfl rfl (e_leq (a := (x6.id)) (b := (x15.id)) rfl rfl) ?_
   refine qg_val (v := .bool (decide ((x6.id) ≤ (x15.id)))) rfl rfl rfl rfl rfl (e_pick_t rfl) ?_
   refine q_val (v := .bool (decide ((x6.id) ≤ (x15.id)))) rfl rfl rfl (e_pick_f rfl) ?_
   refine q_nil ?_
   refine f_then ?_
   refine c_if ((x6.id) ≤ (x15.id)) rfl (fun hc21 => ?_) (fun hc21 => ?_)
   ·refine csr ?_
    refine l_val (v := .bool false) rfl rfl rfl e_assign ?_
    refine lnf ?_
    refine c_ret ?_
    refine f_block_ret ?_
    refine f_then_ret ?_
    refine f_then_ret ?_
    refine f_block_ret ?_
    refine f_then_ret ?_
    refine ret1 Tryz.results21 (v := .bool false) rfl ?_
    intro w hw
    exact ⟨congrArg (fun b : Bool => Ending.returned (.bool b)) (decide_eq_false fun h => absurd (h.2.2.2.2.1 (k - 1) x15 x6 hx16 (by rw [show k - 1 + 1 = k by omega]; exact hx7)) (by omega)).symm, st_mask [false, false] rfl hw⟩
   refine c_skip ?_
   refine f_block ?_
   refine f_then ?_
   refine c_region ?_
   refine lv (v := Nx (k + 1)) (e_add (a := ((k : Nat) : Int)) (b := (1 : Int)) rfl rfl (i64n (by omega) (by omega))) ?_
   refine lv (v := Nx (k + 1)) e_move ?_
   refine l_nil ?_
   refine f_mask (L' := [pt b1 (.cells #[sB va bs (vc), sB rva rs (rvc), Ix (gx), Ix (gy)] 27)]) [false, true] rfl ?_
   exact f_cut ⟨k + 1, ⟨⟨rfl, rfl, rfl, rfl⟩, rfl, ⟨by omega, okS_next hx7 hp1 hok, ord_next hx7 hp2 (fun _ z hz => by rw [hx16] at hz; injection hz with hz; rw [← hz]; omega)⟩⟩, (show bs.length - (k + 1) < bs.length - k from by omega)⟩
  refine q_skip rfl rfl rfl rfl rfl rfl ?_
  refine q_skip rfl rfl rfl rfl rfl rfl ?_
  refine q_skip rfl rfl rfl rfl rfl rfl ?_
  refine q_skip rfl rfl rfl rfl rfl rfl ?_
  refine q_skip rfl rfl rfl rfl rfl rfl ?_
  refine q_skip rfl rfl rfl rfl rfl rfl ?_
  refine q_skip rfl rfl rfl rfl rfl rfl ?_
  refine q_skip rfl rfl rfl rfl rfl rfl ?_
  refine q_skip rfl rfl rfl rfl rfl rfl ?_
  refine q_skip rfl rfl rfl rfl rfl rfl ?_
  refine qg_val (v := .bool false) rfl rfl rfl rfl rfl (e_pick_f rfl) ?_
  refine q_val (v := .bool false) rfl rfl rfl (e_pick_f rfl) ?_
  refine q_nil ?_
  refine f_then ?_
  refine c_no rfl ?_
  refine c_skip ?_
  refine f_block ?_
  refine f_then ?_
  refine c_region ?_
  refine lv (v := Nx (k + 1)) (e_add (a := ((k : Nat) : Int)) (b := (1 : Int)) rfl rfl (i64n (by omega) (by omega))) ?_
  refine lv (v := Nx (k + 1)) e_move ?_
  refine l_nil ?_
  refine f_mask (L' := [pt b1 (.cells #[sB va bs (vc), sB rva rs (rvc), Ix (gx), Ix (gy)] 27)]) [false, true] rfl ?_
  exact f_cut ⟨k + 1, ⟨⟨rfl, rfl, rfl, rfl⟩, rfl, ⟨by omega, okS_next hx7 hp1 hok, ord_next hx7 hp2 (fun hk' => absurd hk' (by omega))⟩⟩, (show bs.length - (k + 1) < bs.length - k from by omega)⟩
 refine c_exit ?_
 refine f_then_exit ?_
 refine f_then_exit ?_
 refine f_exit ?_
 refine ftc ?_
 refine lv (v := pp b1 1) (e_fieldPt rfl ua55) ?_
 refine lv (v := sB rva rs (rvc)) (e_load1 ua56 rfl (k_pt 0 rfl rfl)) ?_
 refine lv (v := .func (.func 55) #[] #[pp b1 0]) (e_func (u := []) (v := [pp b1 0]) rfl rfl) ?_
 refine lcf (cl0 (vs := [sB rva rs (rvc), .func (.func 55) #[] #[pp b1 0]]) ua59 rfl rfl) rfl fun w β1 sb kn hw1 back => (containsR_ok β1 w hw1 _ _ rs (Sl.mono _ _ _ _ _ sb (⟨⟨_, _, rfl, rvl, rvm, rve⟩⟩ : Sl KRR _ _ rs)) (fun z => decide (¬ okR bs z)) (fnv_all (valid1_fn β1 b1 _ _ gx gy bs (kn _ (k_pt 0 (o := 0) rfl rfl)) (Sl.mono _ _ _ _ _ sb (⟨⟨_, _, rfl, vl, vm, ve⟩⟩ : Sl KBR _ _ bs)) (ord_all (by omega) hp2) (by omega)))).mono ?_
 rintro e w' ⟨rfl, hw'⟩
 refine ⟨_, rfl, _, back _ _ hw', ?_⟩
 clear hw1 hw' back kn sb
 refine lv (v := .bool (!(rs.any fun z => decide (¬ okR bs z)))) (e_not rfl) ?_
 refine lv (v := .bool (!(rs.any fun z => decide (¬ okR bs z)))) e_assign ?_
 refine lnf ?_
 refine c_ret ?_
 refine ret1 Tryz.results21 (v := .bool (!(rs.any fun z => decide (¬ okR bs z)))) rfl ?_
 intro w hw
 exact ⟨congrArg (fun b : Bool => Ending.returned (.bool b)) (valid_end (by omega) (by omega) hov (ok_all (by omega) hp1) (ord_all (by omega) hp2)), st_mask [false] rfl hw⟩
end Go.Proofs
namespace Go.Proofs
open Go Go.Sl Go.Stp
end Go.Proofs
namespace Go.Proofs
open Go Go.Sl Go.Stp
theorem ua77 : (Tryz.prog.info? 42).bind (·.zero) = some (.agg #[.int .i64 (0), .int .i64 (0), .int .i64 (0)]) := by kernel_rfl
end Go.Proofs
namespace Go.Proofs
open Go Go.Sl Go.Stp
end Go.Proofs
namespace Go.Proofs
open Go Go.Sl Go.Stp
theorem ua83 : elB Tryz.prog 33 9 64 = true := by kernel_rfl
theorem ua84 : elB Tryz.prog 42 3 24 = true := by kernel_rfl
theorem ua85 : (Tryz.prog.info? 27).bind (·.zero) = some (.agg #[.slice none 0 0, .slice none 0 0, .int .i64 (0), .int .i64 (0)]) := by kernel_rfl
theorem ua86 : tyB Tryz.prog 27 true 4 = true := by kernel_rfl
theorem cloneB_ok (β : Base) (w : World) (hw : St β [] w) (v : Value) (xs : List KB) (hs : Sl KBR β.heap v xs) (hn : xs.length ≤ 1048576) : Calls Tryz.prog 40 #[v] w fun r w' => ∃ p c, r = .returned (sB p xs c) ∧ St β [rowF BodyF 33 p c xs] w' := by
 obtain ⟨va, vc, rfl, vl, vm, ve⟩ := hs.get
 refine enter (n := 8) Tryz.func40 rfl Tryz.ntmps40 rfl ?_ hw
 refine csr ?_
 refine l_val (v := .slice none 0 0) rfl rfl rfl e_assign ?_
 refine lnf ?_
 refine cs2 ?_
 refine c_region ?_
 refine lv (v := sB va xs (vc)) e_move ?_
 refine lv (v := .bool (va.isNone)) (e_eql_snil (a := va) rfl rfl ua40) ?_
 refine lnf ?_
 refine c_ifb (va.isNone) rfl (fun hc1 => ?_) (fun hc1 => ?_)
 ·refine csr ?_
  refine l_val (v := .slice none 0 0) rfl rfl rfl e_assign ?_
  refine lnf ?_
  refine c_ret ?_
  refine f_then_ret ?_
  refine ret1 Tryz.results40 (v := .slice none 0 0) rfl ?_
  intro w hw
  obtain rfl := nil_empty ve hc1
  exact ⟨none, 0, rfl, (st_mask [] rfl hw).emp (row_nil _ _ _)⟩
 refine csk ?_
 refine csr ?_
 refine l_mv rfl rfl rfl (m_slice0 ua43) ?_
 rintro _ _ ⟨b2, rfl, rfl⟩
 refine lv (v := sB va xs (vc)) e_move ?_
 refine l_conseq 0 (r' := rowF BodyF 33 (some ⟨b2, 0, none⟩) 0 []) rfl (fun a h => pt_row (m := 0) (by decide) rfl a h) ?_
 refine l_mv rfl rfl rfl (m_appendFlN (F := BodyF) 0 ua43 ua83 (p := (some ⟨b2, 0, none⟩)) (m := 0) (xs := []) (ys := xs) (ao := va) (k := xs.length) (c := vc) rfl rfl rfl rfl rfl (Knows.of_base (Elems.mono _ _ _) ve) (by first | omega | simp only [List.length_nil, List.length_cons, List.length_append, List.length_set]; omega) (by first | omega | simp only [List.length_nil, List.length_cons, List.length_append, List.length_set]; omega)) ?_
 rintro _ _ ⟨rp3, rc4, rfl, rfl⟩
 refine lv (v := sB rp3 xs rc4) e_assign ?_
 refine lnf ?_
 refine c_ret ?_
 refine ret1 Tryz.results40 (v := sB rp3 xs rc4) rfl ?_
 intro w hw
 exact ⟨_, _, rfl, st_mask (L' := [rowF BodyF 33 rp3 rc4 xs]) [true] rfl hw⟩
end Go.Proofs
namespace Go.Stp
abbrev f0 : List KB := [⟨1, 40, 0, 0, 0, 10, 10, false, false⟩, ⟨2, 60, 0, 0, 0, 10, 10, false, true⟩]
end Go.Stp
namespace Go.Proofs
open Go Go.Sl Go.Stp
theorem ua102 : stB Tryz.prog 33 [(0, 1), (1, 2), (3, 2), (5, 1), (6, 1), (7, 1), (8, 1)] = true := by kernel_rfl
end Go.Proofs
namespace Go.Proofs
open Go Go.Sl Go.Stp
theorem ua110 : stB Tryz.prog 42 [(0, 1), (1, 1), (2, 1)] = true := by kernel_rfl
end Go.Proofs
namespace Go.Proofs
open Go Go.Sl Go.Stp
end Go.Proofs
namespace Go.Proofs
open Go Go.Sl Go.Stp
set_option maxHeartbeats 4000000 in
theorem bounds_ok (β : Base) (w : World) (hw : St β [] w) (b : KB) (ok_b : okB b) : Calls Tryz.prog 36 #[.agg (bC b)] w fun r w' => r = .returned (.tuple #[.agg #[Ix (b.x - b.w), Ix (b.y - b.h)], .agg #[Ix (b.x + b.w), Ix (b.y + b.h)]]) ∧ St β [] w' := by
 have kp1 := ok_b.2.1
 have kp2 := ok_b.2.2.1
 have kp3 := ok_b.2.2.2.2.2.1
 have kp4 := ok_b.2.2.2.2.2.2.1
 refine enter (n := 35) Tryz.func36 rfl Tryz.ntmps36 rfl ?_ hw
 refine csr ?_
 refine l_mv rfl rfl rfl (m_box (v := .agg (bC b)) rfl) ?_
 rintro _ _ ⟨b1, rfl, rfl⟩
 refine l_mv rfl rfl rfl (m_alloc ua17) ?_
 rintro _ _ ⟨b2, rfl, rfl⟩
 refine l_mv rfl rfl rfl (m_alloc ua17) ?_
 rintro _ _ ⟨b3, rfl, rfl⟩
 refine lnf ?_
 refine cs2 ?_
 refine c_region ?_
 refine lv (v := .agg (bC b)) (e_load ua22 rfl (k_pt 2 rfl rfl) rfl) ?_
 refine lcf (cl0 (vs := [.agg (bC b)]) ua24 rfl rfl) rfl fun w β1 sb kn hw1 back => (valid_ok β1 w hw1 b).mono ?_
 rintro e w' ⟨rfl, hw'⟩
 refine ⟨_, rfl, _, back _ _ hw', ?_⟩
 clear hw1 hw' back kn sb
 refine lv (v := .bool (decide (¬ (okB b)))) (e_not_p (p := okB b) rfl) ?_
 refine lnf ?_
 refine c_if (¬ (okB b)) rfl (fun hc4 => ?_) (fun hc4 => ?_)
 ·exact absurd hc4 (fun h => h ok_b)
 refine csk ?_
 refine c_seq ?_
 refine c_any [⟨[], [], [0], [9], fun f => f 9 = pp b1 1⟩, ⟨[0], [0], [], [10], fun f => f 10 = pp b1 1⟩, ⟨[0, 1], [1], [], [11], fun f => f 11 = Ix (b.x)⟩, ⟨[], [], [0], [12], fun f => f 12 = pp b1 5⟩, ⟨[3], [3], [], [13], fun f => f 13 = Ix (b.w)⟩, ⟨[0, 1, 2, 3, 4], [2, 4], [], [14], fun f => f 14 = Ix ((b.x) - (b.w))⟩, ⟨[], [], [0], [15], fun f => f 15 = pp b1 1⟩, ⟨[6], [6], [], [16], fun f => f 16 = pp b1 2⟩, ⟨[6, 7], [7], [], [17], fun f => f 17 = Ix (b.y)⟩, ⟨[], [], [0], [18], fun f => f 18 = pp b1 6⟩, ⟨[9], [9], [], [19], fun f => f 19 = Ix (b.h)⟩, ⟨[6, 7, 8, 9, 10], [8, 10], [], [20], fun f => f 20 = Ix ((b.y) - (b.h))⟩, ⟨(List.range 12), [5, 11], [], [21], fun f => f 21 = .agg #[Ix ((b.x) - (b.w)), Ix ((b.y) - (b.h))]⟩, ⟨[], [], [0], [22], fun f => f 22 = pp b1 1⟩, ⟨[13], [13], [], [23], fun f => f 23 = pp b1 1⟩, ⟨[13, 14], [14], [], [24], fun f => f 24 = Ix (b.x)⟩, ⟨[], [], [0], [25], fun f => f 25 = pp b1 5⟩, ⟨[16], [16], [], [26], fun f => f 26 = Ix (b.w)⟩, ⟨[13, 14, 15, 16, 17], [15, 17], [], [27], fun f => f 27 = Ix ((b.x) + (b.w))⟩, ⟨[], [], [0], [28], fun f => f 28 = pp b1 1⟩, ⟨[19], [19], [], [29], fun f => f 29 = pp b1 2⟩, ⟨[19, 20], [20], [], [30], fun f => f 30 = Ix (b.y)⟩, ⟨[], [], [0], [31], fun f => f 31 = pp b1 6⟩, ⟨[22], [22], [], [32], fun f => f 32 = Ix (b.h)⟩, ⟨[19, 20, 21, 22, 23], [21, 23], [], [33], fun f => f 33 = Ix ((b.y) + (b.h))⟩, ⟨[13, 14, 15, 16, 17, 18, 19, 20, 21, 22, 23, 24], [18, 24], [], [34], fun f => f 34 = .agg #[Ix ((b.x) + (b.w)), Ix ((b.y) + (b.h))]⟩, ⟨(List.range 13), [12], [1], [], fun _ => True⟩, ⟨(List.range 27), [25], [2], [], fun _ => True⟩] [⟨none, (some 27), [27], [], fun _ => pt b3 (.cells #[.int .i64 (0), .int .i64 (0)] 25)⟩, ⟨none, (some 26), [26], [], fun _ => pt b2 (.cells #[.int .i64 (0), .int .i64 (0)] 25)⟩, ⟨none, none, [2, 4, 8, 10, 15, 17, 21, 23], [], fun _ => pt b1 (.cells (bC b) 33)⟩, ⟨(some 26), none, [], [], fun _ => pt b2 (.cells #[Ix ((b.x) - (b.w)), Ix ((b.y) - (b.h))] 25)⟩, ⟨(some 27), none, [], [], fun _ => pt b3 (.cells #[Ix ((b.x) + (b.w)), Ix ((b.y) + (b.h))] 25)⟩] [(1, pp b1 0), (2, pp b2 0), (3, pp b3 0)] [1, 2] [] (by kernel_rfl) (by kernel_rfl) (by kernel_rfl) (by kernel_rfl) rfl ⟨rfl, rfl, rfl, trivial⟩ ⟨?_, ?_, ?_, ?_, ?_, ?_, ?_, ?_, ?_, ?_, ?_, ?_, ?_, ?_, ?_, ?_, ?_, ?_, ?_, ?_, ?_, ?_, ?_, ?_, ?_, ?_, ?_, ?_, trivial⟩ ?_
 ·rintro f M - ⟨i0, -⟩
  exact ob0 (up_cons (d := 1) rfl i0) rfl (e_fieldPt rfl ua6) (.refl _)
 ·rintro f M ⟨k0, -⟩ -
  exact ob0 (up_cons (d := 9) rfl k0) rfl (e_fieldPt rfl ua7) (.refl _)
 ·rintro f M ⟨k0, -⟩ -
  exact obv (L' := pt b1 (.cells (bC b) 33) :: M) (up_cons (d := 10) rfl k0) rfl (e_load1 ua2 rfl (k_pt 0 rfl rfl)) (perm_front 0 rfl) (by rfl)
 ·rintro f M - ⟨i0, -⟩
  exact ob0 (up_cons (d := 1) rfl i0) rfl (e_fieldPt rfl ua10) (.refl _)
 ·rintro f M ⟨k0, -⟩ -
  exact obv (L' := pt b1 (.cells (bC b) 33) :: M) (up_cons (d := 12) rfl k0) rfl (e_load1 ua2 rfl (k_pt 0 rfl rfl)) (perm_front 0 rfl) (by rfl)
 ·rintro f M ⟨k0, k1, -⟩ -
  exact ob0 (up_cons (d := 13) (up_cons (d := 11) rfl k0) k1) rfl (e_sub (a := (b.x)) (b := (b.w)) rfl rfl (i64w (by omega))) (.refl _)
 ·rintro f M - ⟨i0, -⟩
  exact ob0 (up_cons (d := 1) rfl i0) rfl (e_fieldPt rfl ua6) (.refl _)
 ·rintro f M ⟨k0, -⟩ -
  exact ob0 (up_cons (d := 15) rfl k0) rfl (e_fieldPt rfl ua8) (.refl _)
 ·rintro f M ⟨k0, -⟩ -
  exact obv (L' := pt b1 (.cells (bC b) 33) :: M) (up_cons (d := 16) rfl k0) rfl (e_load1 ua2 rfl (k_pt 0 rfl rfl)) (perm_front 0 rfl) (by rfl)
 ·rintro f M - ⟨i0, -⟩
  exact ob0 (up_cons (d := 1) rfl i0) rfl (e_fieldPt rfl ua11) (.refl _)
 ·rintro f M ⟨k0, -⟩ -
  exact obv (L' := pt b1 (.cells (bC b) 33) :: M) (up_cons (d := 18) rfl k0) rfl (e_load1 ua2 rfl (k_pt 0 rfl rfl)) (perm_front 0 rfl) (by rfl)
 ·rintro f M ⟨k0, k1, -⟩ -
  exact ob0 (up_cons (d := 19) (up_cons (d := 17) rfl k0) k1) rfl (e_sub (a := (b.y)) (b := (b.h)) rfl rfl (i64w (by omega))) (.refl _)
 ·rintro f M ⟨k0, k1, -⟩ -
  exact ob0 (up_cons (d := 20) (up_cons (d := 14) rfl k0) k1) rfl (e_build ua17 ua16 (vs := [(0, Ix ((b.x) - (b.w))), (1, Ix ((b.y) - (b.h)))]) (cells := #[Ix ((b.x) - (b.w)), Ix ((b.y) - (b.h))]) rfl rfl) (.refl _)
 ·rintro f M - ⟨i0, -⟩
  exact ob0 (up_cons (d := 1) rfl i0) rfl (e_fieldPt rfl ua6) (.refl _)
 ·rintro f M ⟨k0, -⟩ -
  exact ob0 (up_cons (d := 22) rfl k0) rfl (e_fieldPt rfl ua7) (.refl _)
 ·rintro f M ⟨k0, -⟩ -
  exact obv (L' := pt b1 (.cells (bC b) 33) :: M) (up_cons (d := 23) rfl k0) rfl (e_load1 ua2 rfl (k_pt 0 rfl rfl)) (perm_front 0 rfl) (by rfl)
 ·rintro f M - ⟨i0, -⟩
  exact ob0 (up_cons (d := 1) rfl i0) rfl (e_fieldPt rfl ua10) (.refl _)
 ·rintro f M ⟨k0, -⟩ -
  exact obv (L' := pt b1 (.cells (bC b) 33) :: M) (up_cons (d := 25) rfl k0) rfl (e_load1 ua2 rfl (k_pt 0 rfl rfl)) (perm_front 0 rfl) (by rfl)
 ·rintro f M ⟨k0, k1, -⟩ -
  exact ob0 (up_cons (d := 26) (up_cons (d := 24) rfl k0) k1) rfl (e_add (a := (b.x)) (b := (b.w)) rfl rfl (i64w (by omega))) (.refl _)
 ·rintro f M - ⟨i0, -⟩
  exact ob0 (up_cons (d := 1) rfl i0) rfl (e_fieldPt rfl ua6) (.refl _)
 ·rintro f M ⟨k0, -⟩ -
  exact ob0 (up_cons (d := 28) rfl k0) rfl (e_fieldPt rfl ua8) (.refl _)
 ·rintro f M ⟨k0, -⟩ -
  exact obv (L' := pt b1 (.cells (bC b) 33) :: M) (up_cons (d := 29) rfl k0) rfl (e_load1 ua2 rfl (k_pt 0 rfl rfl)) (perm_front 0 rfl) (by rfl)
 ·rintro f M - ⟨i0, -⟩
  exact ob0 (up_cons (d := 1) rfl i0) rfl (e_fieldPt rfl ua11) (.refl _)
 ·rintro f M ⟨k0, -⟩ -
  exact obv (L' := pt b1 (.cells (bC b) 33) :: M) (up_cons (d := 31) rfl k0) rfl (e_load1 ua2 rfl (k_pt 0 rfl rfl)) (perm_front 0 rfl) (by rfl)
 ·rintro f M ⟨k0, k1, -⟩ -
  exact ob0 (up_cons (d := 32) (up_cons (d := 30) rfl k0) k1) rfl (e_add (a := (b.y)) (b := (b.h)) rfl rfl (i64w (by omega))) (.refl _)
 ·rintro f M ⟨k0, k1, -⟩ -
  exact ob0 (up_cons (d := 33) (up_cons (d := 27) rfl k0) k1) rfl (e_build ua17 ua16 (vs := [(0, Ix ((b.x) + (b.w))), (1, Ix ((b.y) + (b.h)))]) (cells := #[Ix ((b.x) + (b.w)), Ix ((b.y) + (b.h))]) rfl rfl) (.refl _)
 ·rintro f M ⟨k0, -⟩ ⟨i0, -⟩
  refine ob_start (L' := pt b2 (.cells #[.int .i64 (0), .int .i64 (0)] 25) :: M) (by rfl) (up_cons (d := 21) (up_cons (d := 2) rfl i0) k0) ?_
  refine lu (m_store 0 ua15 (cs' := #[Ix ((b.x) - (b.w)), Ix ((b.y) - (b.h))]) rfl rfl rfl rfl rfl rfl rfl) ?_
  refine l_nil ?_
  exact f_owes_n (up_cons (d := 21) (up_cons (d := 2) rfl i0) k0) trivial (perm_front 0 rfl)
 ·rintro f M ⟨k0, -⟩ ⟨i0, -⟩
  refine ob_start (L' := pt b3 (.cells #[.int .i64 (0), .int .i64 (0)] 25) :: M) (by rfl) (up_cons (d := 34) (up_cons (d := 3) rfl i0) k0) ?_
  refine lu (m_store 0 ua15 (cs' := #[Ix ((b.x) + (b.w)), Ix ((b.y) + (b.h))]) rfl rfl rfl rfl rfl rfl rfl) ?_
  refine l_nil ?_
  exact f_owes_n (up_cons (d := 34) (up_cons (d := 3) rfl i0) k0) trivial (perm_front 0 rfl)
 rintro fa5 ⟨-, -, -, -, -, -, -, -, -, -, -, -, -, -, -, -, -, -, -, -, -, -, -, -, -, -, -, -, -⟩ ⟨j0, j1, -⟩
 refine f_re (L' := [pt b1 (.cells (bC b) 33), pt b2 (.cells #[Ix ((b.x) - (b.w)), Ix ((b.y) - (b.h))] 25), pt b3 (.cells #[Ix ((b.x) + (b.w)), Ix ((b.y) + (b.h))] 25)]) (by rfl) ?_
 refine f_rebase (d := 2) j0 ?_
 refine f_rebase (d := 3) j1 ?_
 refine ftr ?_
 refine retG (m := [.agg #[Ix ((b.x) - (b.w)), Ix ((b.y) - (b.h))], .agg #[Ix ((b.x) + (b.w)), Ix ((b.y) + (b.h))]]) Tryz.results36 ⟨rd_cell ua15 rfl (k_pt 1 rfl rfl) rfl, rd_cell ua15 rfl (k_pt 2 rfl rfl) rfl, trivial⟩ rfl ?_
 intro w hw
 exact ⟨rfl, st_mask [false, false, false] rfl hw⟩
end Go.Proofs
