/-
  Bodies, scenes that are valid, what Made makes: chapter 8's walks under chapter 7's numbers (trans.py). Own work.
-/
import Derived.Test.YtoijanalppaplaaSlFam
import Derived.Test.YtoijanalppaplaaSlMap
import Derived.Test.YtoijanalppaplaaSlAny
import Derived.Test.YtoijanalppaplaaSlEq
import Derived.Test.YtoijanalppaplaaSlJb
import Derived.Test.YtoijanalppaplaaSlTail
import Derived.Test.YtoijanalppaplaaSlFlat
import Derived.Test.YtoijanalppaplaaProg
import Derived.Test.YtoijanalppaplaaSlFn
namespace Go.Stp
structure KB where
  id : Int
  x : Int
  y : Int
  vx : Int
  vy : Int
  w : Int
  h : Int
  round : Bool
  fixed : Bool
  deriving DecidableEq
structure KR where
  a : Int
  b : Int
  len : Int
  deriving DecidableEq
def okB (b : KB) : Prop := (0 ≤ b.id ∧ b.id ≤ 65536) ∧ (-1048576 ≤ b.x ∧ b.x ≤ 1048576) ∧ (-1048576 ≤ b.y ∧ b.y ≤ 1048576) ∧ (-4096 ≤ b.vx ∧ b.vx ≤ 4096) ∧ (-4096 ≤ b.vy ∧ b.vy ≤ 4096) ∧ (1 ≤ b.w ∧ b.w ≤ 16384) ∧ (1 ≤ b.h ∧ b.h ≤ 16384) ∧
  (b.round = true → b.w = b.h) ∧ (b.fixed = true → b.vx = 0 ∧ b.vy = 0)
instance (b : KB) : Decidable (okB b) := by unfold okB; infer_instance
/-- the room of two shapes whose middles are dx and dy apart -/
def room (a b : KB) (dx dy : Int) : Int :=
  if a.round then (if b.round then dx * dx + dy * dy - (a.w + b.w) * (a.w + b.w) else max (dx - b.w) 0 * max (dx - b.w) 0 + max (dy - b.h) 0 * max (dy - b.h) 0 - a.w * a.w)
  else (if b.round then max (dx - a.w) 0 * max (dx - a.w) 0 + max (dy - a.h) 0 * max (dy - a.h) 0 - b.w * b.w else max (dx - a.w - b.w) (dy - a.h - b.h))
def abs (x : Int) : Int := max x (-x)
def far (a b : KB) : Int := room a b (abs (a.x - b.x)) (abs (a.y - b.y))
def over (a b : KB) : Prop := okB a ∧ okB b ∧ far a b < 0
instance (a b : KB) : Decidable (over a b) := by unfold over; infer_instance
end Go.Stp
namespace Go.Stp
def inside (b : KB) : Prop := -1048576 ≤ b.x ∧ b.x ≤ 1048576 ∧ -1048576 ≤ b.y ∧ b.y ≤ 1048576
instance (b : KB) : Decidable (inside b) := by unfold inside; infer_instance
def findB (bs : List KB) (i : Int) : Option KB := bs.find? (fun o => o.id == i)
/-- a stop: of whom, along which axis, by whom -/
structure KS where
  id : Int
  along : UInt8
  by_ : Int
  deriving DecidableEq
def clampS (x : Int) : Int := max (min x 4096) (-4096)
def okV (gx gy : Int) : Prop := -4096 ≤ gx ∧ gx ≤ 4096 ∧ -4096 ≤ gy ∧ gy ≤ 4096
instance (gx gy : Int) : Decidable (okV gx gy) := by unfold okV; infer_instance
def speedX (b : KB) (gx gy : Int) : Int := if b.fixed = true ∨ ¬ okB b ∨ ¬ okV gx gy then 0 else clampS (b.vx + gx)
def speedY (b : KB) (gx gy : Int) : Int := if b.fixed = true ∨ ¬ okB b ∨ ¬ okV gx gy then 0 else clampS (b.vy + gy)
/-- a scene that is valid -/
def okR (bs : List KB) (r : KR) : Prop := (findB bs r.a).isSome ∧ (findB bs r.b).isSome ∧ r.a < r.b ∧ 0 ≤ r.len ∧ r.len ≤ 2097152
def okS (bs : List KB) (rs : List KR) (gx gy : Int) : Prop := bs.length ≤ 64 ∧ rs.length ≤ 32 ∧ okV gx gy ∧ (∀ b ∈ bs, okB b) ∧ (∀ i a b, bs[i]? = some a → bs[i + 1]? = some b → a.id < b.id) ∧ ∀ r ∈ rs, okR bs r
end Go.Stp
namespace Go.Stp
section
variable (y : Bool) (b : KB) (s : Int) (most : Nat)
variable {y b s most}
variable (y b s most)
variable {y b s most}
end
end Go.Stp
namespace Go.Stp
def SameIds (B C : List KB) : Prop := B.map (·.id) = C.map (·.id)
theorem SameIds.len {B C : List KB} (h : SameIds B C) : B.length = C.length := by have := congrArg List.length h; simpa using this
end Go.Stp
namespace Go.Sl
open Go.Stp
section
variable {P : Program} {ro : Option Nat} {n : Nat} {ds : List Deferred} {β : Base} {Q : Exit → Act → World → Prop} {f : Fm} {L : List Res} {ops : Array Oper} {rest : List Oper}
variable {d : Option Tmp} {ty : TypeId} {ps : String} {af : Array Edge} {g : Option (Nat × Bool)}
theorem e_max4 {x y z u : Operand} {k : IntKind} {a b c e : Int} {ts : Array TypeId} (hx : ev f x = .int k a) (hy : ev f y = .int k b) (hz : ev f z = .int k c) (hu : ev f u = .int k e) :
    EV P β L f ⟨d, .call ⟨.builtin .max, #[x, y, z, u], ts⟩, ty, ps, af, g⟩ (.int k (max (max (max a b) c) e)) := fun w _ => by
  simp [execOp, resolve, invoke, builtin, hx, hy, hz, hu, Builtin.max_, Builtin.max2]
  repeat' split
  all_goals omega
end
/-- the least number below n at which p holds; n if there is none -/
def searchN (p : Nat → Bool) : Nat → Nat → Nat
  | 0, i => i
  | k + 1, i => if p i then i else searchN p k (i + 1)
theorem searchN_eq {p : Nat → Bool} : ∀ {n i k : Nat}, i ≤ k → k ≤ i + n → (∀ j, i ≤ j → j < k → p j = false) → (k < i + n → p k = true) → searchN p n i = k
  | 0, i, k, h1, h2, _, _ => by unfold searchN; omega
  | n + 1, i, k, h1, h2, h3, h4 => by
    unfold searchN
    by_cases h : k = i
    · rw [if_pos (h ▸ h4 (by omega)), h]
    · rw [h3 i (Nat.le_refl _) (by omega), if_neg (by simp)]
      exact searchN_eq (by omega) (by omega) (fun j a b => h3 j (by omega) b) (fun a => h4 (by omega))
end Go.Sl
namespace Go.Stp
open Go.Sl
abbrev bC (b : KB) : Array Value := #[Ix b.id, Ix b.x, Ix b.y, Ix b.vx, Ix b.vy, Ix b.w, Ix b.h, .bool b.round, .bool b.fixed]
abbrev bodyE (b : KB) : List Value := [Ix b.id, Ix b.x, Ix b.y, Ix b.vx, Ix b.vy, Ix b.w, Ix b.h, .bool b.round, .bool b.fixed]
def KBR : Rp KB := Rp.flat 9 bodyE (fun _ => rfl)
abbrev ropeE (r : KR) : List Value := [Ix r.a, Ix r.b, Ix r.len]
def KRR : Rp KR := Rp.flat 3 ropeE (fun _ => rfl)
theorem vec_eq {a b c e : Int} : [Ix a, Ix b] = [Ix c, Ix e] ↔ a = c ∧ b = e := by simp
abbrev BodyF : Fl KB := ⟨9, bodyE, fun _ => rfl, fun _ => rfl, by decide⟩
abbrev RopeF : Fl KR := ⟨3, ropeE, fun _ => rfl, fun _ => rfl, by decide⟩
/-- the negative, as the machine has it -/
def wneg (x : Int) : Int := IntKind.i64.wrap (0 - x)
theorem wneg_eq {x : Int} (h : -9223372036854775808 ≤ x ∧ x ≤ 9223372036854775807) : wneg x = if x = -9223372036854775808 then x else -x := by
  unfold wneg
  split
  · rename_i e; subst e; decide
  · rw [i64w (by omega)]; omega
theorem pull_iff {x y : Int} (hx : -9223372036854775808 ≤ x ∧ x ≤ 9223372036854775807) (hy : -9223372036854775808 ≤ y ∧ y ≤ 9223372036854775807) :
    (max (max (max x (wneg x)) y) (wneg y) ≤ 4096 ∧ (-4096 : Int) ≤ min x y) ↔ okV x y := by
  unfold okV
  rw [wneg_eq hx, wneg_eq hy]
  split <;> split <;> omega
/-- the variable 'rooms' -/
theorem all_ite {xs : List Int} {lo hi : Int} {k : Nat} {x : Int} (hx : xs[k]? = some x) (h : ¬ (lo ≤ x ∧ x ≤ hi)) : decide (∀ z ∈ xs, lo ≤ z ∧ z ≤ hi) = false :=
  decide_eq_false fun a => h (a x (List.mem_of_getElem? hx))
theorem all_end {xs : List Int} {lo hi : Int} {k : Nat} (hk : xs.length ≤ k) (h : ∀ z ∈ xs.take k, lo ≤ z ∧ z ≤ hi) : decide (∀ z ∈ xs, lo ≤ z ∧ z ≤ hi) = true :=
  decide_eq_true (by rwa [List.take_of_length_le hk] at h)
theorem all_next {xs : List Int} {lo hi : Int} {k : Nat} {x : Int} (hx : xs[k]? = some x) (h : ∀ z ∈ xs.take k, lo ≤ z ∧ z ≤ hi) (h2 : lo ≤ x ∧ x ≤ hi) : ∀ z ∈ xs.take (k + 1), lo ≤ z ∧ z ≤ hi := by
  rw [List.take_add_one, hx]
  intro z hz
  rcases List.mem_append.1 hz with hz | hz
  · exact h z hz
  · simp at hz; rw [hz]; exact h2
theorem U_toNat {n : Nat} (h : n < 18446744073709551616) : (U (n : Int)).toNat = n := by
  have h1 := ux_of (n : Int)
  rw [u64w] at h1
  omega
theorem half_toNat {m : Nat} (h : m < 9223372036854775808) : (U ((m : Nat) : Int) >>> (1 : UInt64)).toNat = m / 2 := by
  rw [UInt64.toNat_shiftRight, U_toNat (by omega), show (1 : UInt64).toNat % 64 = 1 from rfl, Nat.shiftRight_succ, Nat.shiftRight_zero]
/-- bodies in the order of their IDs -/
def ordB (bs : List KB) : Prop := ∀ i a b, bs[i]? = some a → bs[i + 1]? = some b → a.id < b.id
theorem ordB.lt {bs : List KB} (h : ordB bs) : ∀ {j i : Nat} {a b : KB}, i < j → bs[i]? = some a → bs[j]? = some b → a.id < b.id
  | 0, i, _, _, hij, _, _ => by omega
  | j + 1, i, a, b, hij, ha, hb => by
    by_cases e : i = j
    · subst e; exact h i a b ha hb
    · obtain ⟨c, hc⟩ : ∃ c, bs[j]? = some c := ⟨_, List.getElem?_eq_getElem (by have := (List.getElem?_eq_some_iff.1 hb).1; omega)⟩
      exact Int.lt_trans (ordB.lt h (by omega) ha hc) (h j c b hc hb)
def idAt (bs : List KB) (i : Nat) : Int := ((bs[i]?).map (·.id)).getD 0
theorem idAt_eq {bs : List KB} {i : Nat} {b : KB} (h : bs[i]? = some b) : idAt bs i = b.id := by unfold idAt; rw [h]; rfl
def lbN (bs : List KB) (id : Int) : Nat := searchN (fun i => decide (id ≤ idAt bs i)) bs.length 0
theorem lb_next {bs : List KB} {id : Int} {t h : Nat} {x : KB} (ho : ordB bs) (hx : bs[h]? = some x) (hlt : x.id < id) (ht : t < h + 1) : idAt bs t < id := by
  obtain ⟨c, hc⟩ : ∃ c, bs[t]? = some c := ⟨_, List.getElem?_eq_getElem (by have := (List.getElem?_eq_some_iff.1 hx).1; omega)⟩
  rw [idAt_eq hc]
  by_cases e : t = h
  · subst e; rw [hx] at hc; injection hc with hc; rw [← hc]; exact hlt
  · exact Int.lt_trans (ho.lt (by omega) hc hx) hlt
theorem lb_eq {bs : List KB} {id : Int} {k : Nat} (h1 : k ≤ bs.length) (h2 : ∀ t, t < k → idAt bs t < id) (h3 : k < bs.length → id ≤ idAt bs k) : lbN bs id = k :=
  searchN_eq (by omega) (by omega) (fun j _ b => decide_eq_false (by have := h2 j b; omega)) (fun h => decide_eq_true (h3 (by omega)))
theorem findB_iff {bs : List KB} {id : Int} : (findB bs id).isSome = true ↔ ∃ b ∈ bs, b.id = id := by
  unfold findB
  rw [List.find?_isSome]
  simp
theorem lb_found {bs : List KB} {id : Int} {k : Nat} {x : KB} (ho : ordB bs) (h2 : ∀ t, t < k → idAt bs t < id) (hx : bs[k]? = some x) (hle : id ≤ x.id) : (x.id = id) ↔ (findB bs id).isSome = true := by
  rw [findB_iff]
  constructor
  · exact fun h => ⟨x, List.mem_of_getElem? hx, h⟩
  · rintro ⟨b, hb, e⟩
    obtain ⟨i, hi⟩ := List.getElem?_of_mem hb
    by_cases c : i < k
    · have := h2 i c; rw [idAt_eq hi] at this; omega
    · by_cases c2 : i = k
      · subst c2; rw [hx] at hi; injection hi with hi; rw [hi]; exact e
      · have := ho.lt (i := k) (j := i) (by omega) hx hi; omega
theorem lb_none {bs : List KB} {id : Int} {k : Nat} (hk : bs.length ≤ k) (h2 : ∀ t, t < k → idAt bs t < id) : (findB bs id).isSome = false := by
  cases h : (findB bs id).isSome with
  | false => rfl
  | true =>
    obtain ⟨b, hb, e⟩ := findB_iff.1 h
    obtain ⟨i, hi⟩ := List.getElem?_of_mem hb
    have := (List.getElem?_eq_some_iff.1 hi).1
    have := h2 i (by omega)
    rw [idAt_eq hi] at this; omega
/-- island.Valid, body by body -/
theorem okS_next {bs : List KB} {k : Nat} {x : KB} (hx : bs[k]? = some x) (h : ∀ b ∈ bs.take k, okB b) (hok : okB x) : ∀ b ∈ bs.take (k + 1), okB b := by
  rw [List.take_add_one, hx]
  intro z hz
  rcases List.mem_append.1 hz with hz | hz
  · exact h z hz
  · simp at hz; rw [hz]; exact hok
theorem ord_next {bs : List KB} {k : Nat} {x : KB} (hx : bs[k]? = some x) (h : ∀ i a b, i + 1 < k → bs[i]? = some a → bs[i + 1]? = some b → a.id < b.id) (hok : 0 < k → ∀ y, bs[k - 1]? = some y → y.id < x.id) :
    ∀ i a b, i + 1 < k + 1 → bs[i]? = some a → bs[i + 1]? = some b → a.id < b.id := fun i a b hi ha hb => by
  by_cases e : i + 1 = k
  · subst e; rw [hx] at hb; injection hb with hb; rw [← hb]; exact hok (by omega) a (by simpa using ha)
  · exact h i a b (by omega) ha hb
theorem ord_all {bs : List KB} {k : Nat} (hk : bs.length ≤ k) (h : ∀ i a b, i + 1 < k → bs[i]? = some a → bs[i + 1]? = some b → a.id < b.id) : ordB bs := fun i a b ha hb =>
  h i a b (by have := (List.getElem?_eq_some_iff.1 hb).1; omega) ha hb
theorem ok_all {bs : List KB} {k : Nat} (hk : bs.length ≤ k) (h : ∀ b ∈ bs.take k, okB b) : ∀ b ∈ bs, okB b := by rwa [List.take_of_length_le hk] at h
instance (bs : List KB) (r : KR) : Decidable (okR bs r) := by unfold okR; infer_instance
section
variable {rs : List KR} {B : List KB} {k : Nat} {id : Int} {y : Bool} {q : KB × List KS × Int × Int} {C C2 : KB} {S T : List KS} {vx vy n s : Int} {m : Nat} {u : Nat × Int}
end
theorem speed_bd (b : KB) (gx gy : Int) : (-4096 ≤ speedX b gx gy ∧ speedX b gx gy ≤ 4096) ∧ (-4096 ≤ speedY b gx gy ∧ speedY b gx gy ≤ 4096) := by
  unfold speedX speedY clampS
  constructor <;> split <;> omega
theorem nil_empty {α : Type} {R : Rp α} {h : PHeap} {a : Option Addr} {xs : List α} (he : Elems R h a xs) (hn : a.isNone = true) : xs = [] := by
  cases xs with
  | nil => rfl
  | cons x xs => rw [(he 0 x rfl).1] at hn; cases hn
end Go.Stp
namespace Go.Stp
open Go.Sl
structure KF where
  x : Int
  y : Int
  vx : Int
  vy : Int
  w : UInt8
  h : UInt8
  round : Bool
  fixed : Bool
def okF (f : KF) : Prop := (-128 ≤ f.x ∧ f.x ≤ 127) ∧ (-128 ≤ f.y ∧ f.y ≤ 127) ∧ (-128 ≤ f.vx ∧ f.vx ≤ 127) ∧ (-128 ≤ f.vy ∧ f.vy ≤ 127)
abbrev I8x (x : Int) : Value := .int .i8 x
abbrev formE (f : KF) : List Value := [I8x f.x, I8x f.y, I8x f.vx, I8x f.vy, Bx f.w, Bx f.h, .bool f.round, .bool f.fixed]
def FormR : Rp KF := ⟨8, fun _ cs f => cs = formE f ∧ okF f, fun _ _ _ h => by rw [h.1]; rfl, fun _ _ _ _ _ h => h⟩
def madeB (f : KF) (i : Nat) : KB :=
  ⟨((1 + 2 * i : Nat) : Int), 3 * f.x, 3 * f.y, if f.fixed then 0 else f.vx, if f.fixed then 0 else f.vy, ((1 + f.w.toNat % 40 : Nat) : Int), if f.round then ((1 + f.w.toNat % 40 : Nat) : Int) else ((1 + f.h.toNat % 40 : Nat) : Int), f.round, f.fixed⟩
theorem madeB_ok {f : KF} (h : okF f) {i : Nat} (hi : i < 16) : okB (madeB f i) := by
  obtain ⟨h1, h2, h3, h4⟩ := h
  unfold madeB okB
  simp only
  refine ⟨by omega, by omega, by omega, ?_, ?_, by omega, ?_, ?_, ?_⟩
  · split <;> omega
  · split <;> omega
  · split <;> omega
  · intro h; rw [if_pos h]
  · intro h; rw [if_pos h, if_pos h]; exact ⟨rfl, rfl⟩
theorem madeB_x {f : KF} (h : okF f) (i : Nat) : (-1000 ≤ (madeB f i).x ∧ (madeB f i).x ≤ 1000) ∧ (-1000 ≤ (madeB f i).y ∧ (madeB f i).y ≤ 1000) ∧ (-128 ≤ (madeB f i).vx ∧ (madeB f i).vx ≤ 128) ∧ -128 ≤ (madeB f i).vy ∧ (madeB f i).vy ≤ 128 := by
  obtain ⟨h1, h2, h3, h4⟩ := h
  show (-1000 ≤ 3 * f.x ∧ 3 * f.x ≤ 1000) ∧ (-1000 ≤ 3 * f.y ∧ 3 * f.y ≤ 1000) ∧ (-128 ≤ (if f.fixed then 0 else f.vx) ∧ (if f.fixed then 0 else f.vx) ≤ 128) ∧ -128 ≤ (if f.fixed then 0 else f.vy) ∧ (if f.fixed then 0 else f.vy) ≤ 128
  refine ⟨by omega, by omega, ?_, ?_⟩
  · split <;> omega
  · split <;> omega
/-- bodies as Made makes them: the IDs 1, 3, 5 .. -/
def madeL (bs : List KB) : Prop := (∀ i b, bs[i]? = some b → b.id = ((1 + 2 * i : Nat) : Int)) ∧ (∀ b ∈ bs, okB b) ∧ ∀ b ∈ bs, (-1000 ≤ b.x ∧ b.x ≤ 1000) ∧ (-1000 ≤ b.y ∧ b.y ≤ 1000) ∧ (-128 ≤ b.vx ∧ b.vx ≤ 128) ∧ -128 ≤ b.vy ∧ b.vy ≤ 128
theorem madeL_nil : madeL [] := ⟨(fun i b h => by simp at h), (fun b h => (List.not_mem_nil h).elim), (fun b h => (List.not_mem_nil h).elim)⟩
theorem madeL_snoc {bs : List KB} (h : madeL bs) {b : KB} (hid : b.id = ((1 + 2 * bs.length : Nat) : Int)) (hb : okB b) (hx : (-1000 ≤ b.x ∧ b.x ≤ 1000) ∧ (-1000 ≤ b.y ∧ b.y ≤ 1000) ∧ (-128 ≤ b.vx ∧ b.vx ≤ 128) ∧ -128 ≤ b.vy ∧ b.vy ≤ 128) : madeL (bs ++ [b]) := by
  refine ⟨fun i z hz => ?_, fun z hz => ?_, fun z hz => (List.mem_append.1 hz).elim (h.2.2 z) fun e => by rw [List.mem_singleton.1 e]; exact hx⟩
  · by_cases hi : i < bs.length
    · rw [List.getElem?_append_left hi] at hz; exact h.1 i z hz
    · have hl := (List.getElem?_eq_some_iff.1 hz).1
      have : i = bs.length := by simp at hl; omega
      subst this
      simp at hz; rw [← hz]; exact hid
  · rcases List.mem_append.1 hz with hz | hz
    · exact h.2.1 z hz
    · rw [List.mem_singleton.1 hz]; exact hb
theorem madeL_ord {bs : List KB} (h : madeL bs) : ordB bs := fun i a b ha hb => by rw [h.1 i a ha, h.1 (i + 1) b hb]; omega
/-- a rope between two of n bodies -/
def madeR (n : Nat) (r : KR) : Prop := ∃ a b : Nat, a < b ∧ b < n ∧ r.a = ((1 + 2 * a : Nat) : Int) ∧ r.b = ((1 + 2 * b : Nat) : Int) ∧ 200 ≤ r.len ∧ r.len ≤ 455
theorem madeR_ok {bs : List KB} (h : madeL bs) {r : KR} (hr : madeR bs.length r) : okR bs r := by
  obtain ⟨a, b, hab, hb, ea, eb, h1, h2⟩ := hr
  have key : ∀ i : Nat, i < bs.length → (findB bs ((1 + 2 * i : Nat) : Int)).isSome := fun i hi => by
    rw [findB_iff]; exact ⟨bs[i], List.getElem_mem hi, h.1 i _ (List.getElem?_eq_getElem hi)⟩
  exact ⟨by rw [ea]; exact key a (by omega), by rw [eb]; exact key b hb, by rw [ea, eb]; omega, by omega, by omega⟩
/-- what Made makes -/
structure MadeP (bs : List KB) (rs : List KR) (gx gy : Int) : Prop where
  ok : okS bs rs gx gy
  bodies : madeL bs
  few : bs.length ≤ 16
  ropes : rs.length ≤ 6
theorem madeP_mk {bs : List KB} {rs : List KR} {gx gy : Int} (h : madeL bs) (hr : ∀ r ∈ rs, madeR bs.length r) (h1 : bs.length ≤ 16) (h2 : rs.length ≤ 6) (hx : -31 ≤ gx ∧ gx ≤ 31) (hy : -31 ≤ gy ∧ gy ≤ 31) : MadeP bs rs gx gy :=
  ⟨⟨by omega, by omega, ⟨by omega, by omega, by omega, by omega⟩, h.2.1, madeL_ord h, fun r hr' => madeR_ok h (hr r hr')⟩, h, h1, h2⟩
theorem tmod_bd (x : Int) : -31 ≤ x.tmod 32 ∧ x.tmod 32 ≤ 31 := by
  have h1 := Int.tmod_lt_of_pos x (b := 32) (by decide)
  have h2 := Int.lt_tmod_of_pos x (b := 32) (by decide)
  omega
/-! What a step keeps. -/
end Go.Stp
namespace Go.Proofs
open Go Go.Sl Go.Stp
theorem k_ptI {β : Base} {L : List Res} {b T : Nat} {fr : Nat × Nat} {xs : List Int} (i : Nat) (hi : L[i]? = some (pt b (.cells (xs.map fun x => Ix x).toArray T fr))) : Knows β L (fun h => Elems IntR h (some ⟨b, 0, none⟩) xs) := k_ptE (enc := fun x : Int => Ix x) i hi
theorem ua0 : Try.prog.underlying 41 = some (.slice 3) := by kernel_rfl
theorem ua1 : slB Try.prog 41 3 1 = true := by kernel_rfl
theorem ua2 : tyB Try.prog 3 false 1 = true := by kernel_rfl
theorem ua3 : fldB Try.prog 39 0 0 1 false = true := by kernel_rfl
theorem ua4 : (Try.prog.info? 3).bind (·.zero) = some (.int .i64 (0)) := by kernel_rfl
theorem ua5 : cfB Try.prog 54 = true := by kernel_rfl
theorem ua6 : fldB Try.prog 39 1 1 2 true = true := by kernel_rfl
theorem ua7 : fldB Try.prog 30 0 0 1 false = true := by kernel_rfl
theorem ua8 : fldB Try.prog 30 1 1 1 false = true := by kernel_rfl
theorem ua9 : fldB Try.prog 39 2 3 2 true = true := by kernel_rfl
theorem ua10 : fldB Try.prog 39 3 5 1 false = true := by kernel_rfl
theorem ua11 : fldB Try.prog 39 4 6 1 false = true := by kernel_rfl
theorem ua12 : fldB Try.prog 39 5 7 1 false = true := by kernel_rfl
theorem ua13 : tyB Try.prog 4 false 1 = true := by kernel_rfl
theorem ua14 : fldB Try.prog 39 6 8 1 false = true := by kernel_rfl
theorem ua15 : tyB Try.prog 30 true 2 = true := by kernel_rfl
theorem ua16 : stB Try.prog 30 [(0, 1), (1, 1)] = true := by kernel_rfl
theorem ua17 : (Try.prog.info? 30).bind (·.zero) = some (.agg #[.int .i64 (0), .int .i64 (0)]) := by kernel_rfl
theorem ua18 : lay Try.prog 10000 30 = some [.int .i64, .int .i64] := by kernel_rfl
theorem ua19 : isAggT Try.prog 30 = true := by kernel_rfl
theorem ua20 : Try.prog.eqGuardType Try.prog.depth 30 = false := by kernel_rfl
theorem ua22 : tyB Try.prog 39 true 9 = true := by kernel_rfl
theorem ua24 : cfB Try.prog 35 = true := by kernel_rfl
set_option maxHeartbeats 4000000 in
theorem between_ok (β : Base) (w : World) (hw : St β [] w) (lo hi : Int) (v : Value) (xs : List Int) (hs : Sl IntR β.heap v xs) : Calls Try.prog 54 #[Ix lo, Ix hi, v] w fun r w' => r = .returned (.bool (decide (∀ z ∈ xs, lo ≤ z ∧ z ≤ hi))) ∧ St β [] w' := by
  obtain ⟨va, vc, rfl, vl, vm, ve⟩ := hs.get
  refine enter (n := 24) Try.func54 rfl Try.ntmps54 rfl ?_ hw
  refine c_seq ?_
  refine c_region ?_
  refine l_val (v := .bool false) rfl rfl rfl (e_assign) ?_
  refine l_nil ?_
  refine f_then ?_
  refine c_seq ?_
  refine c_seq ?_
  refine c_region ?_
  refine l_val (v := .slice va (xs.length) (vc)) rfl rfl rfl (e_move) ?_
  refine l_val (v := Nx (xs.length)) rfl rfl rfl (e_len (a := va) (n := xs.length) (c := vc) rfl ua0) ?_
  refine l_val (v := .int .i64 (0)) rfl rfl rfl (e_move) ?_
  refine l_nil ?_
  refine f_then ?_
  refine c_block ?_
  refine c_loop (fun (k : Nat) (f : Fm) (L : List Res) => (f 0 = Ix (lo) ∧ f 1 = Ix (hi) ∧ f 9 = .slice va (xs.length) (vc) ∧ f 10 = Nx (xs.length) ∧ f 11 = Nx (k)) ∧ L = [] ∧ (k ≤ xs.length ∧ ∀ z ∈ xs.take k, lo ≤ z ∧ z ≤ hi)) (fun (k : Nat) => xs.length - k) 0 ?_ ?_
  · exact ⟨⟨rfl, rfl, rfl, rfl, rfl⟩, rfl, ⟨by omega, fun z hz => by simp at hz⟩⟩
  rintro k f0 L0 ⟨⟨hs0, hs1, hs9, hs10, hs11⟩, hL, ⟨hk, hp⟩⟩
  subst L0
  refine rebase (d := 0) hs0 ?_
  refine rebase (d := 1) hs1 ?_
  refine rebase (d := 9) hs9 ?_
  refine rebase (d := 10) hs10 ?_
  refine rebase (d := 11) hs11 ?_
  clear hs0 hs1 hs9 hs10 hs11
  refine c_seq ?_
  refine c_region ?_
  refine l_val (v := .bool (decide (((k : Nat) : Int) < ((xs.length : Nat) : Int)))) rfl rfl rfl (e_lss (a := ((k : Nat) : Int)) (b := ((xs.length : Nat) : Int)) rfl rfl) ?_
  refine l_nil ?_
  refine f_then ?_
  refine c_seq ?_
  refine c_if (((k : Nat) : Int) < ((xs.length : Nat) : Int)) rfl (fun hc1 => ?_) (fun hc1 => ?_)
  ·
    refine c_skip ?_
    refine f_then ?_
    refine c_seq ?_
    refine c_block ?_
    refine c_seq ?_
    refine c_region ?_
    obtain ⟨x2, hx3⟩ : ∃ x_, (xs)[k]? = some x_ := ⟨_, List.getElem?_eq_getElem (by omega)⟩
    obtain ⟨ha4, cs5, hc6, rfl⟩ := ve _ _ hx3
    refine l_val (v := .pointer (some ((ba va).add (k * 1)))) rfl rfl rfl (e_indexAddr (k := k) (len := xs.length) (cap := vc) (a := va) rfl rfl ua1 (by omega) ha4) ?_
    refine l_val (v := Ix (x2)) rfl rfl rfl (e_load1 ua2 (v := Ix (x2)) rfl (Knows.of_base (Cs.mono _ _) hc6)) ?_
    refine l_val (v := Ix (x2)) rfl rfl rfl (e_assign) ?_
    refine l_nil ?_
    refine f_then ?_
    refine c_seq ?_
    refine c_region ?_
    refine l_val (v := Ix (x2)) rfl rfl rfl (e_move) ?_
    refine l_val (v := Ix (lo)) rfl rfl rfl (e_move) ?_
    refine l_val (v := .bool (decide ((x2) < (lo)))) rfl rfl rfl (e_lss (a := (x2)) (b := (lo)) rfl rfl) ?_
    refine l_val (v := .bool (decide ((x2) < (lo)))) rfl rfl rfl (e_move) ?_
    refine l_split (s := 18) (p := (x2) < (lo)) rfl (fun hg8 => ?_) (fun hg8 => ?_)
    ·
      refine l_skip rfl rfl rfl rfl rfl rfl ?_
      refine l_skip rfl rfl rfl rfl rfl rfl ?_
      refine l_skip rfl rfl rfl rfl rfl rfl ?_
      refine l_val (v := .bool true) rfl rfl rfl (e_pick_t rfl) ?_
      refine l_nil ?_
      refine f_then ?_
      refine c_yes rfl ?_
      refine c_seq ?_
      refine c_region ?_
      refine l_val (v := .bool false) rfl rfl rfl (e_assign) ?_
      refine l_nil ?_
      refine f_then ?_
      refine c_ret ?_
      refine f_block_ret ?_
      refine f_then_ret ?_
      refine f_then_ret ?_
      refine f_block_ret ?_
      refine f_then_ret ?_
      refine ret1 Try.results54 (v := .bool false) rfl ?_
      intro w hw
      exact ⟨congrArg (fun b : Bool => Ending.returned (.bool b)) (all_ite hx3 (by omega)).symm, st_mask [] rfl hw⟩
    ·
      refine g_val (v := Ix (x2)) rfl rfl rfl rfl rfl (e_move) ?_
      refine g_val (v := Ix (hi)) rfl rfl rfl rfl rfl (e_move) ?_
      refine g_val (v := .bool (decide ((hi) < (x2)))) rfl rfl rfl rfl rfl (e_gtr (a := (x2)) (b := (hi)) rfl rfl) ?_
      refine l_val (v := .bool (decide ((hi) < (x2)))) rfl rfl rfl (e_pick_f rfl) ?_
      refine l_nil ?_
      refine f_then ?_
      refine c_if ((hi) < (x2)) rfl (fun hc9 => ?_) (fun hc9 => ?_)
      ·
        refine c_seq ?_
        refine c_region ?_
        refine l_val (v := .bool false) rfl rfl rfl (e_assign) ?_
        refine l_nil ?_
        refine f_then ?_
        refine c_ret ?_
        refine f_block_ret ?_
        refine f_then_ret ?_
        refine f_then_ret ?_
        refine f_block_ret ?_
        refine f_then_ret ?_
        refine ret1 Try.results54 (v := .bool false) rfl ?_
        intro w hw
        exact ⟨congrArg (fun b : Bool => Ending.returned (.bool b)) (all_ite hx3 (by omega)).symm, st_mask [] rfl hw⟩
      ·
        refine c_skip ?_
        refine f_block ?_
        refine f_then ?_
        refine c_region ?_
        refine l_val (v := Nx (k + 1)) rfl rfl rfl (e_add (a := ((k : Nat) : Int)) (b := (1 : Int)) rfl rfl (i64n (by omega) (by omega))) ?_
        refine l_val (v := Nx (k + 1)) rfl rfl rfl (e_move) ?_
        refine l_nil ?_
        exact f_cut ⟨k + 1, ⟨⟨rfl, rfl, rfl, rfl, rfl⟩, rfl, ⟨by omega, all_next hx3 hp ⟨by omega, by omega⟩⟩⟩, (show xs.length - (k + 1) < xs.length - k from by omega)⟩
  ·
    refine c_exit ?_
    refine f_then_exit ?_
    refine f_then_exit ?_
    refine f_exit ?_
    refine f_then ?_
    refine c_seq ?_
    refine c_region ?_
    refine l_val (v := .bool true) rfl rfl rfl (e_assign) ?_
    refine l_nil ?_
    refine f_then ?_
    refine c_ret ?_
    refine ret1 Try.results54 (v := .bool true) rfl ?_
    intro w hw
    exact ⟨congrArg (fun b : Bool => Ending.returned (.bool b)) (all_end (by omega) hp).symm, st_mask [] rfl hw⟩
theorem between1_ok (β : Base) (w : World) (hw : St β [] w) (lo hi : Int) (v : Value) (x : Int) (hs : Sl IntR β.heap v [x]) : Calls Try.prog 54 #[Ix lo, Ix hi, v] w fun r w' => r = .returned (.bool (decide ((lo ≤ x ∧ x ≤ hi)))) ∧ St β [] w' := by
  refine (between_ok β w hw lo hi v _ hs).mono ?_
  rintro r w' ⟨rfl, hw'⟩
  exact ⟨congrArg (fun b : Bool => Ending.returned (.bool b)) (decide_eq_decide.2 (by simp)), hw'⟩
theorem between2_ok (β : Base) (w : World) (hw : St β [] w) (lo hi : Int) (v : Value) (x y : Int) (hs : Sl IntR β.heap v [x, y]) : Calls Try.prog 54 #[Ix lo, Ix hi, v] w fun r w' => r = .returned (.bool (decide ((lo ≤ x ∧ x ≤ hi) ∧ (lo ≤ y ∧ y ≤ hi)))) ∧ St β [] w' := by
  refine (between_ok β w hw lo hi v _ hs).mono ?_
  rintro r w' ⟨rfl, hw'⟩
  exact ⟨congrArg (fun b : Bool => Ending.returned (.bool b)) (decide_eq_decide.2 (by simp)), hw'⟩
set_option maxHeartbeats 4000000 in
theorem valid_ok (β : Base) (w : World) (hw : St β [] w) (b : KB) : Calls Try.prog 35 #[.agg (bC b)] w fun r w' => r = .returned (.bool (decide (okB b))) ∧ St β [] w' := by
  refine enter (n := 60) Try.func35 rfl Try.ntmps35 rfl ?_ hw
  refine c_seq ?_
  refine c_region ?_
  refine l_mv rfl rfl rfl (m_box (v := .agg (bC b)) rfl) ?_
  rintro _ _ ⟨b1, rfl, rfl⟩
  refine l_val (v := .bool false) rfl rfl rfl (e_assign) ?_
  refine l_nil ?_
  refine f_then ?_
  refine c_seq ?_
  refine c_seq ?_
  refine c_region ?_
  refine l_val (v := .pointer (some ⟨b1, 0, none⟩)) rfl rfl rfl (e_fieldPt (b := b1) (o := 0) rfl ua3) ?_
  refine l_val (v := Ix (b.id)) rfl rfl rfl (e_load1 ua2 (v := Ix (b.id)) rfl (k_pt 0 (cs := (bC b)) (vs := [Ix (b.id)]) rfl rfl)) ?_
  refine l_mv rfl rfl rfl (m_slices ua1 ua4 (vs := [(0, Ix (b.id))]) (cells := #[Ix (b.id)]) rfl rfl rfl rfl) ?_
  rintro _ _ ⟨b2, rfl, rfl⟩
  refine l_call rfl rfl rfl (cl_value (fst := []) (cap := []) (vs := [.int .i64 (0), .int .i64 (65536), .slice (some ⟨b2, 0, none⟩) 1 1]) (all := [.int .i64 (0), .int .i64 (65536), .slice (some ⟨b2, 0, none⟩) 1 1]) ua5 rfl rfl rfl) ?_
  intro w hw
  obtain ⟨β1, sb, kn, hw1, back⟩ := St.frame_all hw
  refine (between1_ok β1 w hw1 (0) (65536) _ b.id (⟨⟨_, _, rfl, by simp, by simp, kn _ (k_ptI 0 (xs := [b.id]) rfl)⟩⟩ : Sl IntR _ _ [b.id])).mono ?_
  rintro e w' ⟨rfl, hw'⟩
  refine ⟨_, rfl, _, back _ _ hw', ?_⟩
  clear hw hw1 hw' back kn sb
  refine l_val (v := .bool (decide (¬ (((0 : Int) ≤ b.id ∧ b.id ≤ 65536))))) rfl rfl rfl (e_not_p (p := ((0 : Int) ≤ b.id ∧ b.id ≤ 65536)) rfl) ?_
  refine l_val (v := .bool (decide (¬ (((0 : Int) ≤ b.id ∧ b.id ≤ 65536))))) rfl rfl rfl (e_move) ?_
  refine l_split (s := 8) (p := ¬ (((0 : Int) ≤ b.id ∧ b.id ≤ 65536))) rfl (fun hg3 => ?_) (fun hg3 => ?_)
  ·
    refine l_skip rfl rfl rfl rfl rfl rfl ?_
    refine l_skip rfl rfl rfl rfl rfl rfl ?_
    refine l_skip rfl rfl rfl rfl rfl rfl ?_
    refine l_skip rfl rfl rfl rfl rfl rfl ?_
    refine l_skip rfl rfl rfl rfl rfl rfl ?_
    refine l_skip rfl rfl rfl rfl rfl rfl ?_
    refine l_skip rfl rfl rfl rfl rfl rfl ?_
    refine l_skip rfl rfl rfl rfl rfl rfl ?_
    refine l_skip rfl rfl rfl rfl rfl rfl ?_
    refine l_val (v := .bool true) rfl rfl rfl (e_pick_t rfl) ?_
    refine l_val (v := .bool true) rfl rfl rfl (e_move) ?_
    refine l_skip rfl rfl rfl rfl rfl rfl ?_
    refine l_skip rfl rfl rfl rfl rfl rfl ?_
    refine l_skip rfl rfl rfl rfl rfl rfl ?_
    refine l_skip rfl rfl rfl rfl rfl rfl ?_
    refine l_skip rfl rfl rfl rfl rfl rfl ?_
    refine l_skip rfl rfl rfl rfl rfl rfl ?_
    refine l_skip rfl rfl rfl rfl rfl rfl ?_
    refine l_skip rfl rfl rfl rfl rfl rfl ?_
    refine l_skip rfl rfl rfl rfl rfl rfl ?_
    refine l_val (v := .bool true) rfl rfl rfl (e_pick_t rfl) ?_
    refine l_val (v := .bool true) rfl rfl rfl (e_move) ?_
    refine l_skip rfl rfl rfl rfl rfl rfl ?_
    refine l_skip rfl rfl rfl rfl rfl rfl ?_
    refine l_skip rfl rfl rfl rfl rfl rfl ?_
    refine l_skip rfl rfl rfl rfl rfl rfl ?_
    refine l_skip rfl rfl rfl rfl rfl rfl ?_
    refine l_skip rfl rfl rfl rfl rfl rfl ?_
    refine l_skip rfl rfl rfl rfl rfl rfl ?_
    refine l_val (v := .bool true) rfl rfl rfl (e_pick_t rfl) ?_
    refine l_nil ?_
    refine f_then ?_
    refine c_yes rfl ?_
    refine c_seq ?_
    refine c_region ?_
    refine l_val (v := .bool false) rfl rfl rfl (e_assign) ?_
    refine l_nil ?_
    refine f_then ?_
    refine c_ret ?_
    refine f_then_ret ?_
    refine ret1 Try.results35 (v := .bool false) rfl ?_
    intro w hw
    exact ⟨congrArg (fun b : Bool => Ending.returned (.bool b)) (show false = decide (okB b) by first | (rw [eq_comm, decide_eq_false_iff_not]; intro hok; obtain ⟨h1, h2, h3, h4, h5, h6, h7, h8, h9⟩ := hok; simp_all) | (simp only [okB]; simp_all)), st_mask [false, false] rfl hw⟩
  ·
    refine g_val (v := .pointer (some ⟨b1, 1, none⟩)) rfl rfl rfl rfl rfl (e_fieldPt (b := b1) (o := 0) rfl ua6) ?_
    refine g_val (v := .pointer (some ⟨b1, 1, none⟩)) rfl rfl rfl rfl rfl (e_fieldPt (b := b1) (o := 1) rfl ua7) ?_
    refine g_val (v := Ix (b.x)) rfl rfl rfl rfl rfl (e_load1 ua2 (v := Ix (b.x)) rfl (k_pt 1 (cs := (bC b)) (vs := [Ix (b.x)]) rfl rfl)) ?_
    refine g_val (v := .pointer (some ⟨b1, 1, none⟩)) rfl rfl rfl rfl rfl (e_fieldPt (b := b1) (o := 0) rfl ua6) ?_
    refine g_val (v := .pointer (some ⟨b1, 2, none⟩)) rfl rfl rfl rfl rfl (e_fieldPt (b := b1) (o := 1) rfl ua8) ?_
    refine g_val (v := Ix (b.y)) rfl rfl rfl rfl rfl (e_load1 ua2 (v := Ix (b.y)) rfl (k_pt 1 (cs := (bC b)) (vs := [Ix (b.y)]) rfl rfl)) ?_
    refine g_mv rfl rfl rfl rfl rfl (m_slices ua1 ua4 (vs := [(0, Ix (b.x)), (1, Ix (b.y))]) (cells := #[Ix (b.x), Ix (b.y)]) rfl rfl rfl rfl) ?_
    rintro _ _ ⟨b4, rfl, rfl⟩
    refine g_call rfl rfl rfl rfl rfl (cl_value (fst := []) (cap := []) (vs := [.int .i64 (-1048576), .int .i64 (1048576), .slice (some ⟨b4, 0, none⟩) 2 2]) (all := [.int .i64 (-1048576), .int .i64 (1048576), .slice (some ⟨b4, 0, none⟩) 2 2]) ua5 rfl rfl rfl) ?_
    intro w hw
    obtain ⟨β1, sb, kn, hw1, back⟩ := St.frame_all hw
    refine (between2_ok β1 w hw1 (-1048576) (1048576) _ b.x b.y (⟨⟨_, _, rfl, by simp, by simp, kn _ (k_ptI 0 (xs := [b.x, b.y]) rfl)⟩⟩ : Sl IntR _ _ [b.x, b.y])).mono ?_
    rintro e w' ⟨rfl, hw'⟩
    refine ⟨_, rfl, _, back _ _ hw', ?_⟩
    clear hw hw1 hw' back kn sb
    refine g_val (v := .bool (decide (¬ (((-1048576 : Int) ≤ b.x ∧ b.x ≤ 1048576) ∧ ((-1048576 : Int) ≤ b.y ∧ b.y ≤ 1048576))))) rfl rfl rfl rfl rfl (e_not_p (p := ((-1048576 : Int) ≤ b.x ∧ b.x ≤ 1048576) ∧ ((-1048576 : Int) ≤ b.y ∧ b.y ≤ 1048576)) rfl) ?_
    refine l_val (v := .bool (decide (¬ (((-1048576 : Int) ≤ b.x ∧ b.x ≤ 1048576) ∧ ((-1048576 : Int) ≤ b.y ∧ b.y ≤ 1048576))))) rfl rfl rfl (e_pick_f rfl) ?_
    refine l_val (v := .bool (decide (¬ (((-1048576 : Int) ≤ b.x ∧ b.x ≤ 1048576) ∧ ((-1048576 : Int) ≤ b.y ∧ b.y ≤ 1048576))))) rfl rfl rfl (e_move) ?_
    refine l_split (s := 19) (p := ¬ (((-1048576 : Int) ≤ b.x ∧ b.x ≤ 1048576) ∧ ((-1048576 : Int) ≤ b.y ∧ b.y ≤ 1048576))) rfl (fun hg5 => ?_) (fun hg5 => ?_)
    ·
      refine l_skip rfl rfl rfl rfl rfl rfl ?_
      refine l_skip rfl rfl rfl rfl rfl rfl ?_
      refine l_skip rfl rfl rfl rfl rfl rfl ?_
      refine l_skip rfl rfl rfl rfl rfl rfl ?_
      refine l_skip rfl rfl rfl rfl rfl rfl ?_
      refine l_skip rfl rfl rfl rfl rfl rfl ?_
      refine l_skip rfl rfl rfl rfl rfl rfl ?_
      refine l_skip rfl rfl rfl rfl rfl rfl ?_
      refine l_skip rfl rfl rfl rfl rfl rfl ?_
      refine l_val (v := .bool true) rfl rfl rfl (e_pick_t rfl) ?_
      refine l_val (v := .bool true) rfl rfl rfl (e_move) ?_
      refine l_skip rfl rfl rfl rfl rfl rfl ?_
      refine l_skip rfl rfl rfl rfl rfl rfl ?_
      refine l_skip rfl rfl rfl rfl rfl rfl ?_
      refine l_skip rfl rfl rfl rfl rfl rfl ?_
      refine l_skip rfl rfl rfl rfl rfl rfl ?_
      refine l_skip rfl rfl rfl rfl rfl rfl ?_
      refine l_skip rfl rfl rfl rfl rfl rfl ?_
      refine l_val (v := .bool true) rfl rfl rfl (e_pick_t rfl) ?_
      refine l_nil ?_
      refine f_then ?_
      refine c_yes rfl ?_
      refine c_seq ?_
      refine c_region ?_
      refine l_val (v := .bool false) rfl rfl rfl (e_assign) ?_
      refine l_nil ?_
      refine f_then ?_
      refine c_ret ?_
      refine f_then_ret ?_
      refine ret1 Try.results35 (v := .bool false) rfl ?_
      intro w hw
      exact ⟨congrArg (fun b : Bool => Ending.returned (.bool b)) (show false = decide (okB b) by first | (rw [eq_comm, decide_eq_false_iff_not]; intro hok; obtain ⟨h1, h2, h3, h4, h5, h6, h7, h8, h9⟩ := hok; simp_all) | (simp only [okB]; simp_all)), st_mask [false, false, false] rfl hw⟩
    ·
      refine g_val (v := .pointer (some ⟨b1, 3, none⟩)) rfl rfl rfl rfl rfl (e_fieldPt (b := b1) (o := 0) rfl ua9) ?_
      refine g_val (v := .pointer (some ⟨b1, 3, none⟩)) rfl rfl rfl rfl rfl (e_fieldPt (b := b1) (o := 3) rfl ua7) ?_
      refine g_val (v := Ix (b.vx)) rfl rfl rfl rfl rfl (e_load1 ua2 (v := Ix (b.vx)) rfl (k_pt 2 (cs := (bC b)) (vs := [Ix (b.vx)]) rfl rfl)) ?_
      refine g_val (v := .pointer (some ⟨b1, 3, none⟩)) rfl rfl rfl rfl rfl (e_fieldPt (b := b1) (o := 0) rfl ua9) ?_
      refine g_val (v := .pointer (some ⟨b1, 4, none⟩)) rfl rfl rfl rfl rfl (e_fieldPt (b := b1) (o := 3) rfl ua8) ?_
      refine g_val (v := Ix (b.vy)) rfl rfl rfl rfl rfl (e_load1 ua2 (v := Ix (b.vy)) rfl (k_pt 2 (cs := (bC b)) (vs := [Ix (b.vy)]) rfl rfl)) ?_
      refine g_mv rfl rfl rfl rfl rfl (m_slices ua1 ua4 (vs := [(0, Ix (b.vx)), (1, Ix (b.vy))]) (cells := #[Ix (b.vx), Ix (b.vy)]) rfl rfl rfl rfl) ?_
      rintro _ _ ⟨b6, rfl, rfl⟩
      refine g_call rfl rfl rfl rfl rfl (cl_value (fst := []) (cap := []) (vs := [.int .i64 (-4096), .int .i64 (4096), .slice (some ⟨b6, 0, none⟩) 2 2]) (all := [.int .i64 (-4096), .int .i64 (4096), .slice (some ⟨b6, 0, none⟩) 2 2]) ua5 rfl rfl rfl) ?_
      intro w hw
      obtain ⟨β1, sb, kn, hw1, back⟩ := St.frame_all hw
      refine (between2_ok β1 w hw1 (-4096) (4096) _ b.vx b.vy (⟨⟨_, _, rfl, by simp, by simp, kn _ (k_ptI 0 (xs := [b.vx, b.vy]) rfl)⟩⟩ : Sl IntR _ _ [b.vx, b.vy])).mono ?_
      rintro e w' ⟨rfl, hw'⟩
      refine ⟨_, rfl, _, back _ _ hw', ?_⟩
      clear hw hw1 hw' back kn sb
      refine g_val (v := .bool (decide (¬ (((-4096 : Int) ≤ b.vx ∧ b.vx ≤ 4096) ∧ ((-4096 : Int) ≤ b.vy ∧ b.vy ≤ 4096))))) rfl rfl rfl rfl rfl (e_not_p (p := ((-4096 : Int) ≤ b.vx ∧ b.vx ≤ 4096) ∧ ((-4096 : Int) ≤ b.vy ∧ b.vy ≤ 4096)) rfl) ?_
      refine l_val (v := .bool (decide (¬ (((-4096 : Int) ≤ b.vx ∧ b.vx ≤ 4096) ∧ ((-4096 : Int) ≤ b.vy ∧ b.vy ≤ 4096))))) rfl rfl rfl (e_pick_f rfl) ?_
      refine l_val (v := .bool (decide (¬ (((-4096 : Int) ≤ b.vx ∧ b.vx ≤ 4096) ∧ ((-4096 : Int) ≤ b.vy ∧ b.vy ≤ 4096))))) rfl rfl rfl (e_move) ?_
      refine l_split (s := 30) (p := ¬ (((-4096 : Int) ≤ b.vx ∧ b.vx ≤ 4096) ∧ ((-4096 : Int) ≤ b.vy ∧ b.vy ≤ 4096))) rfl (fun hg7 => ?_) (fun hg7 => ?_)
      ·
        refine l_skip rfl rfl rfl rfl rfl rfl ?_
        refine l_skip rfl rfl rfl rfl rfl rfl ?_
        refine l_skip rfl rfl rfl rfl rfl rfl ?_
        refine l_skip rfl rfl rfl rfl rfl rfl ?_
        refine l_skip rfl rfl rfl rfl rfl rfl ?_
        refine l_skip rfl rfl rfl rfl rfl rfl ?_
        refine l_skip rfl rfl rfl rfl rfl rfl ?_
        refine l_val (v := .bool true) rfl rfl rfl (e_pick_t rfl) ?_
        refine l_nil ?_
        refine f_then ?_
        refine c_yes rfl ?_
        refine c_seq ?_
        refine c_region ?_
        refine l_val (v := .bool false) rfl rfl rfl (e_assign) ?_
        refine l_nil ?_
        refine f_then ?_
        refine c_ret ?_
        refine f_then_ret ?_
        refine ret1 Try.results35 (v := .bool false) rfl ?_
        intro w hw
        exact ⟨congrArg (fun b : Bool => Ending.returned (.bool b)) (show false = decide (okB b) by first | (rw [eq_comm, decide_eq_false_iff_not]; intro hok; obtain ⟨h1, h2, h3, h4, h5, h6, h7, h8, h9⟩ := hok; simp_all) | (simp only [okB]; simp_all)), st_mask [false, false, false, false] rfl hw⟩
      ·
        refine g_val (v := .pointer (some ⟨b1, 5, none⟩)) rfl rfl rfl rfl rfl (e_fieldPt (b := b1) (o := 0) rfl ua10) ?_
        refine g_val (v := Ix (b.w)) rfl rfl rfl rfl rfl (e_load1 ua2 (v := Ix (b.w)) rfl (k_pt 3 (cs := (bC b)) (vs := [Ix (b.w)]) rfl rfl)) ?_
        refine g_val (v := .pointer (some ⟨b1, 6, none⟩)) rfl rfl rfl rfl rfl (e_fieldPt (b := b1) (o := 0) rfl ua11) ?_
        refine g_val (v := Ix (b.h)) rfl rfl rfl rfl rfl (e_load1 ua2 (v := Ix (b.h)) rfl (k_pt 3 (cs := (bC b)) (vs := [Ix (b.h)]) rfl rfl)) ?_
        refine g_mv rfl rfl rfl rfl rfl (m_slices ua1 ua4 (vs := [(0, Ix (b.w)), (1, Ix (b.h))]) (cells := #[Ix (b.w), Ix (b.h)]) rfl rfl rfl rfl) ?_
        rintro _ _ ⟨b8, rfl, rfl⟩
        refine g_call rfl rfl rfl rfl rfl (cl_value (fst := []) (cap := []) (vs := [.int .i64 (1), .int .i64 (16384), .slice (some ⟨b8, 0, none⟩) 2 2]) (all := [.int .i64 (1), .int .i64 (16384), .slice (some ⟨b8, 0, none⟩) 2 2]) ua5 rfl rfl rfl) ?_
        intro w hw
        obtain ⟨β1, sb, kn, hw1, back⟩ := St.frame_all hw
        refine (between2_ok β1 w hw1 (1) (16384) _ b.w b.h (⟨⟨_, _, rfl, by simp, by simp, kn _ (k_ptI 0 (xs := [b.w, b.h]) rfl)⟩⟩ : Sl IntR _ _ [b.w, b.h])).mono ?_
        rintro e w' ⟨rfl, hw'⟩
        refine ⟨_, rfl, _, back _ _ hw', ?_⟩
        clear hw hw1 hw' back kn sb
        refine g_val (v := .bool (decide (¬ (((1 : Int) ≤ b.w ∧ b.w ≤ 16384) ∧ ((1 : Int) ≤ b.h ∧ b.h ≤ 16384))))) rfl rfl rfl rfl rfl (e_not_p (p := ((1 : Int) ≤ b.w ∧ b.w ≤ 16384) ∧ ((1 : Int) ≤ b.h ∧ b.h ≤ 16384)) rfl) ?_
        refine l_val (v := .bool (decide (¬ (((1 : Int) ≤ b.w ∧ b.w ≤ 16384) ∧ ((1 : Int) ≤ b.h ∧ b.h ≤ 16384))))) rfl rfl rfl (e_pick_f rfl) ?_
        refine l_nil ?_
        refine f_then ?_
        refine c_if (¬ (((1 : Int) ≤ b.w ∧ b.w ≤ 16384) ∧ ((1 : Int) ≤ b.h ∧ b.h ≤ 16384))) rfl (fun hc9 => ?_) (fun hc9 => ?_)
        ·
          refine c_seq ?_
          refine c_region ?_
          refine l_val (v := .bool false) rfl rfl rfl (e_assign) ?_
          refine l_nil ?_
          refine f_then ?_
          refine c_ret ?_
          refine f_then_ret ?_
          refine ret1 Try.results35 (v := .bool false) rfl ?_
          intro w hw
          exact ⟨congrArg (fun b : Bool => Ending.returned (.bool b)) (show false = decide (okB b) by first | (rw [eq_comm, decide_eq_false_iff_not]; intro hok; obtain ⟨h1, h2, h3, h4, h5, h6, h7, h8, h9⟩ := hok; simp_all) | (simp only [okB]; simp_all)), st_mask [false, false, false, false, false] rfl hw⟩
        ·
          refine c_skip ?_
          refine f_then ?_
          refine c_seq ?_
          refine c_region ?_
          refine l_val (v := .pointer (some ⟨b1, 7, none⟩)) rfl rfl rfl (e_fieldPt (b := b1) (o := 0) rfl ua12) ?_
          refine l_val (v := .bool (b.round)) rfl rfl rfl (e_load1 ua13 (v := .bool (b.round)) rfl (k_pt 4 (cs := (bC b)) (vs := [.bool (b.round)]) rfl rfl)) ?_
          refine l_val (v := .bool (!b.round)) rfl rfl rfl (e_not rfl) ?_
          refine l_val (v := .bool (!b.round)) rfl rfl rfl (e_move) ?_
          refine l_splitb (s := 42) (b := !b.round) rfl (fun hg10 => ?_) (fun hg10 => ?_)
          ·
            refine l_skip rfl rfl rfl rfl rfl rfl ?_
            refine l_skip rfl rfl rfl rfl rfl rfl ?_
            refine l_skip rfl rfl rfl rfl rfl rfl ?_
            refine l_skip rfl rfl rfl rfl rfl rfl ?_
            refine l_skip rfl rfl rfl rfl rfl rfl ?_
            refine l_val (v := .bool true) rfl rfl rfl (e_pick_t rfl) ?_
            refine l_val (v := .bool true) rfl rfl rfl (e_move) ?_
            refine g_val (v := .pointer (some ⟨b1, 8, none⟩)) rfl rfl rfl rfl rfl (e_fieldPt (b := b1) (o := 0) rfl ua14) ?_
            refine g_val (v := .bool (b.fixed)) rfl rfl rfl rfl rfl (e_load1 ua13 (v := .bool (b.fixed)) rfl (k_pt 4 (cs := (bC b)) (vs := [.bool (b.fixed)]) rfl rfl)) ?_
            refine g_val (v := .bool (!b.fixed)) rfl rfl rfl rfl rfl (e_not rfl) ?_
            refine g_val (v := .bool (!b.fixed)) rfl rfl rfl rfl rfl (e_move) ?_
            refine l_splitb (s := 53) (b := !b.fixed) rfl (fun hg11 => ?_) (fun hg11 => ?_)
            ·
              refine l_skip rfl rfl rfl rfl rfl rfl ?_
              refine l_skip rfl rfl rfl rfl rfl rfl ?_
              refine l_skip rfl rfl rfl rfl rfl rfl ?_
              refine l_skip rfl rfl rfl rfl rfl rfl ?_
              refine g_val (v := .bool true) rfl rfl rfl rfl rfl (e_pick_t rfl) ?_
              refine l_val (v := .bool true) rfl rfl rfl (e_pick_t rfl) ?_
              refine l_val (v := .bool true) rfl rfl rfl (e_assign) ?_
              refine l_nil ?_
              refine f_then ?_
              refine c_ret ?_
              refine ret1 Try.results35 (v := .bool true) rfl ?_
              intro w hw
              exact ⟨congrArg (fun b : Bool => Ending.returned (.bool b)) (show true = decide (okB b) by first | (rw [eq_comm, decide_eq_false_iff_not]; intro hok; obtain ⟨h1, h2, h3, h4, h5, h6, h7, h8, h9⟩ := hok; simp_all) | (simp only [okB]; simp_all)), st_mask [false, false, false, false, false] rfl hw⟩
            ·
              refine g_val (v := .pointer (some ⟨b1, 3, none⟩)) rfl rfl rfl rfl rfl (e_fieldPt (b := b1) (o := 0) rfl ua9) ?_
              refine g_val (v := .agg #[Ix (b.vx), Ix (b.vy)]) rfl rfl rfl rfl rfl (e_load ua15 (cs := [Ix (b.vx), Ix (b.vy)]) rfl (k_pt 4 (cs := (bC b)) (vs := [Ix (b.vx), Ix (b.vy)]) rfl rfl) rfl) ?_
              refine g_val (v := .agg #[.int .i64 (0), .int .i64 (0)]) rfl rfl rfl rfl rfl (e_build ua17 ua16 (vs := []) (cells := #[.int .i64 (0), .int .i64 (0)]) rfl rfl) ?_
              refine g_val (v := .bool (decide ((b.vx) = (0 : Int) ∧ (b.vy) = (0 : Int)))) rfl rfl rfl rfl rfl (e_eql_t (xs := [Ix (b.vx), Ix (b.vy)]) (ys := [.int .i64 (0), .int .i64 (0)]) ua18 ua19 ua20 rfl rfl rfl rfl vec_eq) ?_
              refine g_val (v := .bool (decide ((b.vx) = (0 : Int) ∧ (b.vy) = (0 : Int)))) rfl rfl rfl rfl rfl (e_pick_f rfl) ?_
              refine l_val (v := .bool (decide ((b.vx) = (0 : Int) ∧ (b.vy) = (0 : Int)))) rfl rfl rfl (e_pick_t rfl) ?_
              refine l_val (v := .bool (decide ((b.vx) = (0 : Int) ∧ (b.vy) = (0 : Int)))) rfl rfl rfl (e_assign) ?_
              refine l_nil ?_
              refine f_then ?_
              refine c_ret ?_
              refine ret1 Try.results35 (v := .bool (decide ((b.vx) = (0 : Int) ∧ (b.vy) = (0 : Int)))) rfl ?_
              intro w hw
              exact ⟨congrArg (fun b : Bool => Ending.returned (.bool b)) (show decide ((b.vx) = (0 : Int) ∧ (b.vy) = (0 : Int)) = decide (okB b) by first | (rw [eq_comm, decide_eq_false_iff_not]; intro hok; obtain ⟨h1, h2, h3, h4, h5, h6, h7, h8, h9⟩ := hok; simp_all) | (simp only [okB]; simp_all)), st_mask [false, false, false, false, false] rfl hw⟩
          ·
            refine g_val (v := .pointer (some ⟨b1, 5, none⟩)) rfl rfl rfl rfl rfl (e_fieldPt (b := b1) (o := 0) rfl ua10) ?_
            refine g_val (v := Ix (b.w)) rfl rfl rfl rfl rfl (e_load1 ua2 (v := Ix (b.w)) rfl (k_pt 4 (cs := (bC b)) (vs := [Ix (b.w)]) rfl rfl)) ?_
            refine g_val (v := .pointer (some ⟨b1, 6, none⟩)) rfl rfl rfl rfl rfl (e_fieldPt (b := b1) (o := 0) rfl ua11) ?_
            refine g_val (v := Ix (b.h)) rfl rfl rfl rfl rfl (e_load1 ua2 (v := Ix (b.h)) rfl (k_pt 4 (cs := (bC b)) (vs := [Ix (b.h)]) rfl rfl)) ?_
            refine g_val (v := .bool (decide ((b.w) = (b.h)))) rfl rfl rfl rfl rfl (e_eql (a := (b.w)) (b := (b.h)) rfl rfl) ?_
            refine l_val (v := .bool (decide ((b.w) = (b.h)))) rfl rfl rfl (e_pick_f rfl) ?_
            refine l_val (v := .bool (decide ((b.w) = (b.h)))) rfl rfl rfl (e_move) ?_
            refine l_split (s := 49) (p := (b.w) = (b.h)) rfl (fun hg12 => ?_) (fun hg12 => ?_)
            ·
              refine g_val (v := .pointer (some ⟨b1, 8, none⟩)) rfl rfl rfl rfl rfl (e_fieldPt (b := b1) (o := 0) rfl ua14) ?_
              refine g_val (v := .bool (b.fixed)) rfl rfl rfl rfl rfl (e_load1 ua13 (v := .bool (b.fixed)) rfl (k_pt 4 (cs := (bC b)) (vs := [.bool (b.fixed)]) rfl rfl)) ?_
              refine g_val (v := .bool (!b.fixed)) rfl rfl rfl rfl rfl (e_not rfl) ?_
              refine g_val (v := .bool (!b.fixed)) rfl rfl rfl rfl rfl (e_move) ?_
              refine l_splitb (s := 53) (b := !b.fixed) rfl (fun hg13 => ?_) (fun hg13 => ?_)
              ·
                refine l_skip rfl rfl rfl rfl rfl rfl ?_
                refine l_skip rfl rfl rfl rfl rfl rfl ?_
                refine l_skip rfl rfl rfl rfl rfl rfl ?_
                refine l_skip rfl rfl rfl rfl rfl rfl ?_
                refine g_val (v := .bool true) rfl rfl rfl rfl rfl (e_pick_t rfl) ?_
                refine l_val (v := .bool true) rfl rfl rfl (e_pick_t rfl) ?_
                refine l_val (v := .bool true) rfl rfl rfl (e_assign) ?_
                refine l_nil ?_
                refine f_then ?_
                refine c_ret ?_
                refine ret1 Try.results35 (v := .bool true) rfl ?_
                intro w hw
                exact ⟨congrArg (fun b : Bool => Ending.returned (.bool b)) (show true = decide (okB b) by first | (rw [eq_comm, decide_eq_false_iff_not]; intro hok; obtain ⟨h1, h2, h3, h4, h5, h6, h7, h8, h9⟩ := hok; simp_all) | (simp only [okB]; simp_all)), st_mask [false, false, false, false, false] rfl hw⟩
              ·
                refine g_val (v := .pointer (some ⟨b1, 3, none⟩)) rfl rfl rfl rfl rfl (e_fieldPt (b := b1) (o := 0) rfl ua9) ?_
                refine g_val (v := .agg #[Ix (b.vx), Ix (b.vy)]) rfl rfl rfl rfl rfl (e_load ua15 (cs := [Ix (b.vx), Ix (b.vy)]) rfl (k_pt 4 (cs := (bC b)) (vs := [Ix (b.vx), Ix (b.vy)]) rfl rfl) rfl) ?_
                refine g_val (v := .agg #[.int .i64 (0), .int .i64 (0)]) rfl rfl rfl rfl rfl (e_build ua17 ua16 (vs := []) (cells := #[.int .i64 (0), .int .i64 (0)]) rfl rfl) ?_
                refine g_val (v := .bool (decide ((b.vx) = (0 : Int) ∧ (b.vy) = (0 : Int)))) rfl rfl rfl rfl rfl (e_eql_t (xs := [Ix (b.vx), Ix (b.vy)]) (ys := [.int .i64 (0), .int .i64 (0)]) ua18 ua19 ua20 rfl rfl rfl rfl vec_eq) ?_
                refine g_val (v := .bool (decide ((b.vx) = (0 : Int) ∧ (b.vy) = (0 : Int)))) rfl rfl rfl rfl rfl (e_pick_f rfl) ?_
                refine l_val (v := .bool (decide ((b.vx) = (0 : Int) ∧ (b.vy) = (0 : Int)))) rfl rfl rfl (e_pick_t rfl) ?_
                refine l_val (v := .bool (decide ((b.vx) = (0 : Int) ∧ (b.vy) = (0 : Int)))) rfl rfl rfl (e_assign) ?_
                refine l_nil ?_
                refine f_then ?_
                refine c_ret ?_
                refine ret1 Try.results35 (v := .bool (decide ((b.vx) = (0 : Int) ∧ (b.vy) = (0 : Int)))) rfl ?_
                intro w hw
                exact ⟨congrArg (fun b : Bool => Ending.returned (.bool b)) (show decide ((b.vx) = (0 : Int) ∧ (b.vy) = (0 : Int)) = decide (okB b) by first | (rw [eq_comm, decide_eq_false_iff_not]; intro hok; obtain ⟨h1, h2, h3, h4, h5, h6, h7, h8, h9⟩ := hok; simp_all) | (simp only [okB]; simp_all)), st_mask [false, false, false, false, false] rfl hw⟩
            ·
              refine l_skip rfl rfl rfl rfl rfl rfl ?_
              refine l_skip rfl rfl rfl rfl rfl rfl ?_
              refine l_skip rfl rfl rfl rfl rfl rfl ?_
              refine l_skip rfl rfl rfl rfl rfl rfl ?_
              refine l_skip_u rfl rfl rfl rfl rfl ?_
              refine l_skip_u rfl rfl rfl rfl rfl ?_
              refine l_skip_u rfl rfl rfl rfl rfl ?_
              refine l_skip_u rfl rfl rfl rfl rfl ?_
              refine l_skip rfl rfl rfl rfl rfl rfl ?_
              refine l_val (v := .bool false) rfl rfl rfl (e_pick_f rfl) ?_
              refine l_val (v := .bool false) rfl rfl rfl (e_assign) ?_
              refine l_nil ?_
              refine f_then ?_
              refine c_ret ?_
              refine ret1 Try.results35 (v := .bool false) rfl ?_
              intro w hw
              exact ⟨congrArg (fun b : Bool => Ending.returned (.bool b)) (show false = decide (okB b) by first | (rw [eq_comm, decide_eq_false_iff_not]; intro hok; obtain ⟨h1, h2, h3, h4, h5, h6, h7, h8, h9⟩ := hok; simp_all) | (simp only [okB]; simp_all)), st_mask [false, false, false, false, false] rfl hw⟩
end Go.Proofs
namespace Go.Proofs
open Go Go.Sl Go.Stp
theorem ua34 : cfB Try.prog 36 = true := by kernel_rfl
theorem ua35 : cfB Try.prog 37 = true := by kernel_rfl
theorem ua36 : cfB Try.prog 66 = true := by kernel_rfl
theorem ua37 : tyB Try.prog 80 false 1 = true := by kernel_rfl
theorem ua38 : cfB Try.prog 32 = true := by kernel_rfl
theorem ua39 : cfB Try.prog 51 = true := by kernel_rfl
theorem ua40 : Try.prog.underlying 27 = some (.slice 39) := by kernel_rfl
theorem ua41 : Try.prog.underlying 3 = some (.int .i64) := by kernel_rfl
theorem ua42 : Try.prog.underlying 105 = some (.int .u64) := by kernel_rfl
theorem ua43 : slB Try.prog 27 39 9 = true := by kernel_rfl
theorem ua44 : cfB Try.prog 49 = true := by kernel_rfl
theorem pull_ok (β : Base) (w : World) (hw : St β [] w) (x y : Int) (hx : -9223372036854775808 ≤ x ∧ x ≤ 9223372036854775807) (hy : -9223372036854775808 ≤ y ∧ y ≤ 9223372036854775807) : Calls Try.prog 36 #[.agg #[Ix x, Ix y]] w fun r w' => r = .returned (.bool (decide (okV x y))) ∧ St β [] w' := by
  refine enter (n := 23) Try.func36 rfl Try.ntmps36 rfl ?_ hw
  refine c_seq ?_
  refine c_region ?_
  refine l_mv rfl rfl rfl (m_box (v := .agg #[Ix (x), Ix (y)]) rfl) ?_
  rintro _ _ ⟨b1, rfl, rfl⟩
  refine l_val (v := .bool false) rfl rfl rfl (e_assign) ?_
  refine l_nil ?_
  refine f_then ?_
  refine c_seq ?_
  refine c_region ?_
  refine l_val (v := .pointer (some ⟨b1, 0, none⟩)) rfl rfl rfl (e_fieldPt (b := b1) (o := 0) rfl ua7) ?_
  refine l_val (v := Ix (x)) rfl rfl rfl (e_load1 ua2 (v := Ix (x)) rfl (k_pt 0 (cs := #[Ix (x), Ix (y)]) (vs := [Ix (x)]) rfl rfl)) ?_
  refine l_val (v := .pointer (some ⟨b1, 0, none⟩)) rfl rfl rfl (e_fieldPt (b := b1) (o := 0) rfl ua7) ?_
  refine l_val (v := Ix (x)) rfl rfl rfl (e_load1 ua2 (v := Ix (x)) rfl (k_pt 0 (cs := #[Ix (x), Ix (y)]) (vs := [Ix (x)]) rfl rfl)) ?_
  refine l_val (v := Ix (wneg (x))) rfl rfl rfl (e_neg (a := (x)) rfl rfl) ?_
  refine l_val (v := .pointer (some ⟨b1, 1, none⟩)) rfl rfl rfl (e_fieldPt (b := b1) (o := 0) rfl ua8) ?_
  refine l_val (v := Ix (y)) rfl rfl rfl (e_load1 ua2 (v := Ix (y)) rfl (k_pt 0 (cs := #[Ix (x), Ix (y)]) (vs := [Ix (y)]) rfl rfl)) ?_
  refine l_val (v := .pointer (some ⟨b1, 1, none⟩)) rfl rfl rfl (e_fieldPt (b := b1) (o := 0) rfl ua8) ?_
  refine l_val (v := Ix (y)) rfl rfl rfl (e_load1 ua2 (v := Ix (y)) rfl (k_pt 0 (cs := #[Ix (x), Ix (y)]) (vs := [Ix (y)]) rfl rfl)) ?_
  refine l_val (v := Ix (wneg (y))) rfl rfl rfl (e_neg (a := (y)) rfl rfl) ?_
  refine l_val (v := Ix (max (max (max ((x)) (wneg (x))) (y)) (wneg (y)))) rfl rfl rfl (e_max4 (a := (x)) (b := (wneg (x))) (c := (y)) (e := (wneg (y))) rfl rfl rfl rfl) ?_
  refine l_val (v := .bool (decide ((max (max (max ((x)) (wneg (x))) (y)) (wneg (y))) ≤ (4096 : Int)))) rfl rfl rfl (e_leq (a := (max (max (max ((x)) (wneg (x))) (y)) (wneg (y)))) (b := (4096 : Int)) rfl rfl) ?_
  refine l_val (v := .bool (decide ((max (max (max ((x)) (wneg (x))) (y)) (wneg (y))) ≤ (4096 : Int)))) rfl rfl rfl (e_move) ?_
  refine l_split (s := 15) (p := (max (max (max ((x)) (wneg (x))) (y)) (wneg (y))) ≤ (4096 : Int)) rfl (fun hg2 => ?_) (fun hg2 => ?_)
  ·
    refine g_val (v := .pointer (some ⟨b1, 0, none⟩)) rfl rfl rfl rfl rfl (e_fieldPt (b := b1) (o := 0) rfl ua7) ?_
    refine g_val (v := Ix (x)) rfl rfl rfl rfl rfl (e_load1 ua2 (v := Ix (x)) rfl (k_pt 0 (cs := #[Ix (x), Ix (y)]) (vs := [Ix (x)]) rfl rfl)) ?_
    refine g_val (v := .pointer (some ⟨b1, 1, none⟩)) rfl rfl rfl rfl rfl (e_fieldPt (b := b1) (o := 0) rfl ua8) ?_
    refine g_val (v := Ix (y)) rfl rfl rfl rfl rfl (e_load1 ua2 (v := Ix (y)) rfl (k_pt 0 (cs := #[Ix (x), Ix (y)]) (vs := [Ix (y)]) rfl rfl)) ?_
    refine g_val (v := Ix (min (x) (y))) rfl rfl rfl rfl rfl (e_min (a := (x)) (b := (y)) rfl rfl) ?_
    refine g_val (v := .bool (decide ((-4096 : Int) ≤ (min (x) (y))))) rfl rfl rfl rfl rfl (e_geq (a := (min (x) (y))) (b := (-4096 : Int)) rfl rfl) ?_
    refine l_val (v := .bool (decide ((-4096 : Int) ≤ (min (x) (y))))) rfl rfl rfl (e_pick_t rfl) ?_
    refine l_val (v := .bool (decide ((-4096 : Int) ≤ (min (x) (y))))) rfl rfl rfl (e_assign) ?_
    refine l_nil ?_
    refine f_then ?_
    refine c_ret ?_
    refine ret1 Try.results36 (v := .bool (decide ((-4096 : Int) ≤ (min (x) (y))))) rfl ?_
    intro w hw
    exact ⟨congrArg (fun b : Bool => Ending.returned (.bool b)) (decide_eq_decide.2 ⟨fun h => (pull_iff hx hy).1 ⟨hg2, h⟩, fun h => ((pull_iff hx hy).2 h).2⟩), st_mask [false] rfl hw⟩
  ·
    refine l_skip rfl rfl rfl rfl rfl rfl ?_
    refine l_skip rfl rfl rfl rfl rfl rfl ?_
    refine l_skip rfl rfl rfl rfl rfl rfl ?_
    refine l_skip rfl rfl rfl rfl rfl rfl ?_
    refine l_skip rfl rfl rfl rfl rfl rfl ?_
    refine l_skip rfl rfl rfl rfl rfl rfl ?_
    refine l_val (v := .bool false) rfl rfl rfl (e_pick_f rfl) ?_
    refine l_val (v := .bool false) rfl rfl rfl (e_assign) ?_
    refine l_nil ?_
    refine f_then ?_
    refine c_ret ?_
    refine ret1 Try.results36 (v := .bool false) rfl ?_
    intro w hw
    exact ⟨congrArg (fun b : Bool => Ending.returned (.bool b)) (decide_eq_false fun h => hg2 ((pull_iff hx hy).2 h).1).symm, st_mask [false] rfl hw⟩
theorem clamp_ok (β : Base) (w : World) (hw : St β [] w) (x : Int) : Calls Try.prog 37 #[Ix x] w fun r w' => r = .returned (Ix (clampS x)) ∧ St β [] w' := by
  refine enter (n := 6) Try.func37 rfl Try.ntmps37 rfl ?_ hw
  refine c_seq ?_
  refine c_region ?_
  refine l_val (v := .int .i64 (0)) rfl rfl rfl (e_assign) ?_
  refine l_nil ?_
  refine f_then ?_
  refine c_seq ?_
  refine c_region ?_
  refine l_val (v := Ix (x)) rfl rfl rfl (e_move) ?_
  refine l_val (v := Ix (min (x) (4096 : Int))) rfl rfl rfl (e_min (a := (x)) (b := (4096 : Int)) rfl rfl) ?_
  refine l_val (v := Ix (max (min (x) (4096 : Int)) (-4096 : Int))) rfl rfl rfl (e_max (a := (min (x) (4096 : Int))) (b := (-4096 : Int)) rfl rfl) ?_
  refine l_val (v := Ix (max (min (x) (4096 : Int)) (-4096 : Int))) rfl rfl rfl (e_assign) ?_
  refine l_nil ?_
  refine f_then ?_
  refine c_ret ?_
  refine ret1 Try.results37 (v := Ix (max (min (x) (4096 : Int)) (-4096 : Int))) rfl ?_
  intro w hw
  exact ⟨rfl, st_mask [] rfl hw⟩
set_option maxHeartbeats 4000000 in
theorem speed_ok (β : Base) (w : World) (hw : St β [] w) (b : KB) (gx gy : Int) (hgx : -9223372036854775808 ≤ gx ∧ gx ≤ 9223372036854775807) (hgy : -9223372036854775808 ≤ gy ∧ gy ≤ 9223372036854775807) : Calls Try.prog 16 #[.agg (bC b), .agg #[Ix gx, Ix gy]] w fun r w' => r = .returned (.agg #[Ix (speedX b gx gy), Ix (speedY b gx gy)]) ∧ St β [] w' := by
  refine enter (n := 36) Try.func16 rfl Try.ntmps16 rfl ?_ hw
  refine c_seq ?_
  refine c_region ?_
  refine l_mv rfl rfl rfl (m_box (v := .agg (bC b)) rfl) ?_
  rintro _ _ ⟨b1, rfl, rfl⟩
  refine l_mv rfl rfl rfl (m_box (v := .agg #[Ix (gx), Ix (gy)]) rfl) ?_
  rintro _ _ ⟨b2, rfl, rfl⟩
  refine l_mv rfl rfl rfl (m_alloc ua17) ?_
  rintro _ _ ⟨b3, rfl, rfl⟩
  refine l_nil ?_
  refine f_then ?_
  refine c_seq ?_
  refine c_seq ?_
  refine c_region ?_
  refine l_val (v := .pointer (some ⟨b1, 8, none⟩)) rfl rfl rfl (e_fieldPt (b := b1) (o := 0) rfl ua14) ?_
  refine l_val (v := .bool (b.fixed)) rfl rfl rfl (e_load1 ua13 (v := .bool (b.fixed)) rfl (k_pt 2 (cs := (bC b)) (vs := [.bool (b.fixed)]) rfl rfl)) ?_
  refine l_val (v := .bool (b.fixed)) rfl rfl rfl (e_move) ?_
  refine l_splitb (s := 8) (b := b.fixed) rfl (fun hg4 => ?_) (fun hg4 => ?_)
  ·
    refine l_skip rfl rfl rfl rfl rfl rfl ?_
    refine l_skip rfl rfl rfl rfl rfl rfl ?_
    refine l_skip rfl rfl rfl rfl rfl rfl ?_
    refine l_val (v := .bool true) rfl rfl rfl (e_pick_t rfl) ?_
    refine l_val (v := .bool true) rfl rfl rfl (e_move) ?_
    refine l_skip rfl rfl rfl rfl rfl rfl ?_
    refine l_skip rfl rfl rfl rfl rfl rfl ?_
    refine l_skip rfl rfl rfl rfl rfl rfl ?_
    refine l_val (v := .bool true) rfl rfl rfl (e_pick_t rfl) ?_
    refine l_nil ?_
    refine f_then ?_
    refine c_yes rfl ?_
    refine c_seq ?_
    refine c_region ?_
    refine l_val (v := .agg #[.int .i64 (0), .int .i64 (0)]) rfl rfl rfl (e_build ua17 ua16 (vs := []) (cells := #[.int .i64 (0), .int .i64 (0)]) rfl rfl) ?_
    refine l_mu rfl rfl (m_store 0 ua15 (b := b3) (o := 0) (T := 30) (cs := #[.int .i64 (0), .int .i64 (0)]) (cs' := #[.int .i64 (0), .int .i64 (0)]) (v := .agg #[.int .i64 (0), .int .i64 (0)]) rfl rfl rfl rfl rfl rfl rfl) ?_
    refine l_nil ?_
    refine f_then ?_
    refine c_ret ?_
    refine f_then_ret ?_
    refine retG (l := [.cell 4 30]) (m := [.agg #[.int .i64 (0), .int .i64 (0)]]) (v := .agg #[.int .i64 (0), .int .i64 (0)]) Try.results16 ⟨rd_cell ua15 (cs := [.int .i64 (0), .int .i64 (0)]) rfl (k_pt 0 (cs := #[.int .i64 (0), .int .i64 (0)]) (vs := [.int .i64 (0), .int .i64 (0)]) rfl rfl) rfl, trivial⟩ rfl ?_
    intro w hw
    exact ⟨by rw [show speedX b gx gy = 0 from if_pos (.inl hg4), show speedY b gx gy = 0 from if_pos (.inl hg4)], st_mask [false, false, false] rfl hw⟩
  ·
    refine g_val (v := .agg (bC b)) rfl rfl rfl rfl rfl (e_load ua22 (cs := (bodyE b)) rfl (k_pt 2 (cs := (bC b)) (vs := (bodyE b)) rfl rfl) rfl) ?_
    refine g_call rfl rfl rfl rfl rfl (cl_value (fst := []) (cap := []) (vs := [.agg (bC b)]) (all := [.agg (bC b)]) ua24 rfl rfl rfl) ?_
    intro w hw
    obtain ⟨β1, sb, kn, hw1, back⟩ := St.frame_all hw
    refine (valid_ok β1 w hw1 b).mono ?_
    rintro e w' ⟨rfl, hw'⟩
    refine ⟨_, rfl, _, back _ _ hw', ?_⟩
    clear hw hw1 hw' back kn sb
    refine g_val (v := .bool (decide (¬ (okB b)))) rfl rfl rfl rfl rfl (e_not_p (p := okB b) rfl) ?_
    refine l_val (v := .bool (decide (¬ (okB b)))) rfl rfl rfl (e_pick_f rfl) ?_
    refine l_val (v := .bool (decide (¬ (okB b)))) rfl rfl rfl (e_move) ?_
    refine l_split (s := 13) (p := ¬ (okB b)) rfl (fun hg5 => ?_) (fun hg5 => ?_)
    ·
      refine l_skip rfl rfl rfl rfl rfl rfl ?_
      refine l_skip rfl rfl rfl rfl rfl rfl ?_
      refine l_skip rfl rfl rfl rfl rfl rfl ?_
      refine l_val (v := .bool true) rfl rfl rfl (e_pick_t rfl) ?_
      refine l_nil ?_
      refine f_then ?_
      refine c_yes rfl ?_
      refine c_seq ?_
      refine c_region ?_
      refine l_val (v := .agg #[.int .i64 (0), .int .i64 (0)]) rfl rfl rfl (e_build ua17 ua16 (vs := []) (cells := #[.int .i64 (0), .int .i64 (0)]) rfl rfl) ?_
      refine l_mu rfl rfl (m_store 0 ua15 (b := b3) (o := 0) (T := 30) (cs := #[.int .i64 (0), .int .i64 (0)]) (cs' := #[.int .i64 (0), .int .i64 (0)]) (v := .agg #[.int .i64 (0), .int .i64 (0)]) rfl rfl rfl rfl rfl rfl rfl) ?_
      refine l_nil ?_
      refine f_then ?_
      refine c_ret ?_
      refine f_then_ret ?_
      refine retG (l := [.cell 4 30]) (m := [.agg #[.int .i64 (0), .int .i64 (0)]]) (v := .agg #[.int .i64 (0), .int .i64 (0)]) Try.results16 ⟨rd_cell ua15 (cs := [.int .i64 (0), .int .i64 (0)]) rfl (k_pt 0 (cs := #[.int .i64 (0), .int .i64 (0)]) (vs := [.int .i64 (0), .int .i64 (0)]) rfl rfl) rfl, trivial⟩ rfl ?_
      intro w hw
      exact ⟨by rw [show speedX b gx gy = 0 from if_pos (.inr (.inl hg5)), show speedY b gx gy = 0 from if_pos (.inr (.inl hg5))], st_mask [false, false, false] rfl hw⟩
    ·
      have hob := Decidable.not_not.1 hg5
      refine g_val (v := .agg #[Ix (gx), Ix (gy)]) rfl rfl rfl rfl rfl (e_load ua15 (cs := [Ix (gx), Ix (gy)]) rfl (k_pt 1 (cs := #[Ix (gx), Ix (gy)]) (vs := [Ix (gx), Ix (gy)]) rfl rfl) rfl) ?_
      refine g_call rfl rfl rfl rfl rfl (cl_value (fst := []) (cap := []) (vs := [.agg #[Ix (gx), Ix (gy)]]) (all := [.agg #[Ix (gx), Ix (gy)]]) ua34 rfl rfl rfl) ?_
      intro w hw
      obtain ⟨β1, sb, kn, hw1, back⟩ := St.frame_all hw
      refine (pull_ok β1 w hw1 (gx) (gy) (by omega) (by omega)).mono ?_
      rintro e w' ⟨rfl, hw'⟩
      refine ⟨_, rfl, _, back _ _ hw', ?_⟩
      clear hw hw1 hw' back kn sb
      refine g_val (v := .bool (decide (¬ (okV (gx) (gy))))) rfl rfl rfl rfl rfl (e_not_p (p := okV (gx) (gy)) rfl) ?_
      refine l_val (v := .bool (decide (¬ (okV (gx) (gy))))) rfl rfl rfl (e_pick_f rfl) ?_
      refine l_nil ?_
      refine f_then ?_
      refine c_if (¬ (okV (gx) (gy))) rfl (fun hc6 => ?_) (fun hc6 => ?_)
      ·
        refine c_seq ?_
        refine c_region ?_
        refine l_val (v := .agg #[.int .i64 (0), .int .i64 (0)]) rfl rfl rfl (e_build ua17 ua16 (vs := []) (cells := #[.int .i64 (0), .int .i64 (0)]) rfl rfl) ?_
        refine l_mu rfl rfl (m_store 0 ua15 (b := b3) (o := 0) (T := 30) (cs := #[.int .i64 (0), .int .i64 (0)]) (cs' := #[.int .i64 (0), .int .i64 (0)]) (v := .agg #[.int .i64 (0), .int .i64 (0)]) rfl rfl rfl rfl rfl rfl rfl) ?_
        refine l_nil ?_
        refine f_then ?_
        refine c_ret ?_
        refine f_then_ret ?_
        refine retG (l := [.cell 4 30]) (m := [.agg #[.int .i64 (0), .int .i64 (0)]]) (v := .agg #[.int .i64 (0), .int .i64 (0)]) Try.results16 ⟨rd_cell ua15 (cs := [.int .i64 (0), .int .i64 (0)]) rfl (k_pt 0 (cs := #[.int .i64 (0), .int .i64 (0)]) (vs := [.int .i64 (0), .int .i64 (0)]) rfl rfl) rfl, trivial⟩ rfl ?_
        intro w hw
        exact ⟨by rw [show speedX b gx gy = 0 from if_pos (.inr (.inr hc6)), show speedY b gx gy = 0 from if_pos (.inr (.inr hc6))], st_mask [false, false, false] rfl hw⟩
      ·
        have hov := Decidable.not_not.1 hc6
        refine c_skip ?_
        refine f_then ?_
        refine c_seq ?_
        refine c_region ?_
        refine l_val (v := .func (.func 37) #[] #[]) rfl rfl rfl (e_assign) ?_
        refine l_nil ?_
        refine f_then ?_
        refine c_seq ?_
        have v1 := hob.2.2.2.1
        have v2 := hob.2.2.2.2.1
        have v3 := hov.1
        have v4 := hov.2.1
        have v5 := hov.2.2.1
        have v6 := hov.2.2.2
        refine c_any [⟨[], [], [0], [19], fun f => f 19 = .func (.func 37) #[] #[]⟩, ⟨[], [], [1], [20], fun f => f 20 = .pointer (some ⟨b1, 3, none⟩)⟩, ⟨[1], [1], [], [21], fun f => f 21 = .pointer (some ⟨b1, 3, none⟩)⟩, ⟨[1, 2], [2], [], [22], fun f => f 22 = Ix (b.vx)⟩, ⟨[], [], [2], [23], fun f => f 23 = .pointer (some ⟨b2, 0, none⟩)⟩, ⟨[4], [4], [], [24], fun f => f 24 = Ix (gx)⟩, ⟨[1, 2, 3, 4, 5], [3, 5], [], [25], fun f => f 25 = Ix ((b.vx) + (gx))⟩, ⟨[0, 1, 2, 3, 4, 5, 6], [0, 6], [], [26], fun f => f 26 = Ix (clampS ((b.vx) + (gx)))⟩, ⟨[], [], [0], [27], fun f => f 27 = .func (.func 37) #[] #[]⟩, ⟨[], [], [1], [28], fun f => f 28 = .pointer (some ⟨b1, 3, none⟩)⟩, ⟨[9], [9], [], [29], fun f => f 29 = .pointer (some ⟨b1, 4, none⟩)⟩, ⟨[9, 10], [10], [], [30], fun f => f 30 = Ix (b.vy)⟩, ⟨[], [], [2], [31], fun f => f 31 = .pointer (some ⟨b2, 1, none⟩)⟩, ⟨[12], [12], [], [32], fun f => f 32 = Ix (gy)⟩, ⟨[9, 10, 11, 12, 13], [11, 13], [], [33], fun f => f 33 = Ix ((b.vy) + (gy))⟩, ⟨[0, 1, 2, 3, 4, 5, 6, 7, 8, 9, 10, 11, 12, 13, 14], [8, 14], [], [34], fun f => f 34 = Ix (clampS ((b.vy) + (gy)))⟩, ⟨[0, 1, 2, 3, 4, 5, 6, 7, 8, 9, 10, 11, 12, 13, 14, 15], [7, 15], [], [35], fun f => f 35 = .agg #[Ix (clampS ((b.vx) + (gx))), Ix (clampS ((b.vy) + (gy)))]⟩, ⟨[0, 1, 2, 3, 4, 5, 6, 7, 8, 9, 10, 11, 12, 13, 14, 15, 16], [16], [3], [], fun _ => True⟩] [⟨none, (some 17), [17], [], fun _ => pt b3 (.cells #[.int .i64 (0), .int .i64 (0)] 30)⟩, ⟨none, none, [5, 13], [], fun _ => pt b2 (.cells #[Ix (gx), Ix (gy)] 30)⟩, ⟨none, none, [3, 11], [], fun _ => pt b1 (.cells (bC b) 39)⟩, ⟨(some 17), none, [], [], fun _ => pt b3 (.cells #[Ix (clampS ((b.vx) + (gx))), Ix (clampS ((b.vy) + (gy)))] 30)⟩] [(5, .func (.func 37) #[] #[]), (2, .pointer (some ⟨b1, 0, none⟩)), (3, .pointer (some ⟨b2, 0, none⟩)), (4, .pointer (some ⟨b3, 0, none⟩))] [3] [] (by kernel_rfl) (by kernel_rfl) (by kernel_rfl) (by kernel_rfl) rfl ⟨rfl, rfl, rfl, rfl, trivial⟩ ⟨?_, ?_, ?_, ?_, ?_, ?_, ?_, ?_, ?_, ?_, ?_, ?_, ?_, ?_, ?_, ?_, ?_, ?_, trivial⟩ ?_
        · rintro f M - ⟨i0, -⟩
          have hs5 : f 5 = .func (.func 37) #[] #[] := i0
          refine ob_start (L' := M) (by rfl) (up_cons rfl hs5) ?_
          refine l_val (v := .func (.func 37) #[] #[]) rfl rfl rfl (e_move) ?_
          refine l_nil ?_
          exact f_owes_d (up_cons rfl hs5) rfl (List.Perm.refl _)
        · rintro f M - ⟨i0, -⟩
          have hs2 : f 2 = .pointer (some ⟨b1, 0, none⟩) := i0
          refine ob_start (L' := M) (by rfl) (up_cons rfl hs2) ?_
          refine l_val (v := .pointer (some ⟨b1, 3, none⟩)) rfl rfl rfl (e_fieldPt (b := b1) (o := 0) rfl ua9) ?_
          refine l_nil ?_
          exact f_owes_d (up_cons rfl hs2) rfl (List.Perm.refl _)
        · rintro f M ⟨k0, -⟩ -
          have hs20 : f 20 = .pointer (some ⟨b1, 3, none⟩) := k0
          refine ob_start (L' := M) (by rfl) (up_cons rfl hs20) ?_
          refine l_val (v := .pointer (some ⟨b1, 3, none⟩)) rfl rfl rfl (e_fieldPt (b := b1) (o := 3) rfl ua7) ?_
          refine l_nil ?_
          exact f_owes_d (up_cons rfl hs20) rfl (List.Perm.refl _)
        · rintro f M ⟨k0, -⟩ -
          have hs21 : f 21 = .pointer (some ⟨b1, 3, none⟩) := k0
          refine ob_start (L' := pt b1 (.cells (bC b) 39) :: M) (by rfl) (up_cons rfl hs21) ?_
          refine l_val (v := Ix (b.vx)) rfl rfl rfl (e_load1 ua2 (v := Ix (b.vx)) rfl (k_pt 0 (cs := (bC b)) (vs := [Ix (b.vx)]) rfl rfl)) ?_
          refine l_nil ?_
          exact f_owes_d (up_cons rfl hs21) rfl (perm_front 0 rfl)
        · rintro f M - ⟨i0, -⟩
          have hs3 : f 3 = .pointer (some ⟨b2, 0, none⟩) := i0
          refine ob_start (L' := M) (by rfl) (up_cons rfl hs3) ?_
          refine l_val (v := .pointer (some ⟨b2, 0, none⟩)) rfl rfl rfl (e_fieldPt (b := b2) (o := 0) rfl ua7) ?_
          refine l_nil ?_
          exact f_owes_d (up_cons rfl hs3) rfl (List.Perm.refl _)
        · rintro f M ⟨k0, -⟩ -
          have hs23 : f 23 = .pointer (some ⟨b2, 0, none⟩) := k0
          refine ob_start (L' := pt b2 (.cells #[Ix (gx), Ix (gy)] 30) :: M) (by rfl) (up_cons rfl hs23) ?_
          refine l_val (v := Ix (gx)) rfl rfl rfl (e_load1 ua2 (v := Ix (gx)) rfl (k_pt 0 (cs := #[Ix (gx), Ix (gy)]) (vs := [Ix (gx)]) rfl rfl)) ?_
          refine l_nil ?_
          exact f_owes_d (up_cons rfl hs23) rfl (perm_front 0 rfl)
        · rintro f M ⟨k0, k1, -⟩ -
          have hs22 : f 22 = Ix (b.vx) := k0
          have hs24 : f 24 = Ix (gx) := k1
          refine ob_start (L' := M) (by rfl) (up_cons (up_cons rfl hs22) hs24) ?_
          refine l_val (v := Ix ((b.vx) + (gx))) rfl rfl rfl (e_add (a := (b.vx)) (b := (gx)) rfl rfl (i64w (by omega))) ?_
          refine l_nil ?_
          exact f_owes_d (up_cons (up_cons rfl hs22) hs24) rfl (List.Perm.refl _)
        · rintro f M ⟨k0, k1, -⟩ -
          have hs19 : f 19 = .func (.func 37) #[] #[] := k0
          have hs25 : f 25 = Ix ((b.vx) + (gx)) := k1
          refine ob_start (L' := M) (by rfl) (up_cons (up_cons rfl hs19) hs25) ?_
          refine l_call rfl rfl rfl (cl_value (fst := []) (cap := []) (vs := [Ix ((b.vx) + (gx))]) (all := [Ix ((b.vx) + (gx))]) ua35 rfl rfl rfl) ?_
          intro w hw
          obtain ⟨β1, sb, kn, hw1, back⟩ := St.frame_all hw
          refine (clamp_ok β1 w hw1 ((b.vx) + (gx))).mono ?_
          rintro e w' ⟨rfl, hw'⟩
          refine ⟨_, rfl, _, back _ _ hw', ?_⟩
          clear hw hw1 hw' back kn sb
          refine l_nil ?_
          exact f_owes_d (up_cons (up_cons rfl hs19) hs25) rfl (List.Perm.refl _)
        · rintro f M - ⟨i0, -⟩
          have hs5 : f 5 = .func (.func 37) #[] #[] := i0
          refine ob_start (L' := M) (by rfl) (up_cons rfl hs5) ?_
          refine l_val (v := .func (.func 37) #[] #[]) rfl rfl rfl (e_move) ?_
          refine l_nil ?_
          exact f_owes_d (up_cons rfl hs5) rfl (List.Perm.refl _)
        · rintro f M - ⟨i0, -⟩
          have hs2 : f 2 = .pointer (some ⟨b1, 0, none⟩) := i0
          refine ob_start (L' := M) (by rfl) (up_cons rfl hs2) ?_
          refine l_val (v := .pointer (some ⟨b1, 3, none⟩)) rfl rfl rfl (e_fieldPt (b := b1) (o := 0) rfl ua9) ?_
          refine l_nil ?_
          exact f_owes_d (up_cons rfl hs2) rfl (List.Perm.refl _)
        · rintro f M ⟨k0, -⟩ -
          have hs28 : f 28 = .pointer (some ⟨b1, 3, none⟩) := k0
          refine ob_start (L' := M) (by rfl) (up_cons rfl hs28) ?_
          refine l_val (v := .pointer (some ⟨b1, 4, none⟩)) rfl rfl rfl (e_fieldPt (b := b1) (o := 3) rfl ua8) ?_
          refine l_nil ?_
          exact f_owes_d (up_cons rfl hs28) rfl (List.Perm.refl _)
        · rintro f M ⟨k0, -⟩ -
          have hs29 : f 29 = .pointer (some ⟨b1, 4, none⟩) := k0
          refine ob_start (L' := pt b1 (.cells (bC b) 39) :: M) (by rfl) (up_cons rfl hs29) ?_
          refine l_val (v := Ix (b.vy)) rfl rfl rfl (e_load1 ua2 (v := Ix (b.vy)) rfl (k_pt 0 (cs := (bC b)) (vs := [Ix (b.vy)]) rfl rfl)) ?_
          refine l_nil ?_
          exact f_owes_d (up_cons rfl hs29) rfl (perm_front 0 rfl)
        · rintro f M - ⟨i0, -⟩
          have hs3 : f 3 = .pointer (some ⟨b2, 0, none⟩) := i0
          refine ob_start (L' := M) (by rfl) (up_cons rfl hs3) ?_
          refine l_val (v := .pointer (some ⟨b2, 1, none⟩)) rfl rfl rfl (e_fieldPt (b := b2) (o := 0) rfl ua8) ?_
          refine l_nil ?_
          exact f_owes_d (up_cons rfl hs3) rfl (List.Perm.refl _)
        · rintro f M ⟨k0, -⟩ -
          have hs31 : f 31 = .pointer (some ⟨b2, 1, none⟩) := k0
          refine ob_start (L' := pt b2 (.cells #[Ix (gx), Ix (gy)] 30) :: M) (by rfl) (up_cons rfl hs31) ?_
          refine l_val (v := Ix (gy)) rfl rfl rfl (e_load1 ua2 (v := Ix (gy)) rfl (k_pt 0 (cs := #[Ix (gx), Ix (gy)]) (vs := [Ix (gy)]) rfl rfl)) ?_
          refine l_nil ?_
          exact f_owes_d (up_cons rfl hs31) rfl (perm_front 0 rfl)
        · rintro f M ⟨k0, k1, -⟩ -
          have hs30 : f 30 = Ix (b.vy) := k0
          have hs32 : f 32 = Ix (gy) := k1
          refine ob_start (L' := M) (by rfl) (up_cons (up_cons rfl hs30) hs32) ?_
          refine l_val (v := Ix ((b.vy) + (gy))) rfl rfl rfl (e_add (a := (b.vy)) (b := (gy)) rfl rfl (i64w (by omega))) ?_
          refine l_nil ?_
          exact f_owes_d (up_cons (up_cons rfl hs30) hs32) rfl (List.Perm.refl _)
        · rintro f M ⟨k0, k1, -⟩ -
          have hs27 : f 27 = .func (.func 37) #[] #[] := k0
          have hs33 : f 33 = Ix ((b.vy) + (gy)) := k1
          refine ob_start (L' := M) (by rfl) (up_cons (up_cons rfl hs27) hs33) ?_
          refine l_call rfl rfl rfl (cl_value (fst := []) (cap := []) (vs := [Ix ((b.vy) + (gy))]) (all := [Ix ((b.vy) + (gy))]) ua35 rfl rfl rfl) ?_
          intro w hw
          obtain ⟨β1, sb, kn, hw1, back⟩ := St.frame_all hw
          refine (clamp_ok β1 w hw1 ((b.vy) + (gy))).mono ?_
          rintro e w' ⟨rfl, hw'⟩
          refine ⟨_, rfl, _, back _ _ hw', ?_⟩
          clear hw hw1 hw' back kn sb
          refine l_nil ?_
          exact f_owes_d (up_cons (up_cons rfl hs27) hs33) rfl (List.Perm.refl _)
        · rintro f M ⟨k0, k1, -⟩ -
          have hs26 : f 26 = Ix (clampS ((b.vx) + (gx))) := k0
          have hs34 : f 34 = Ix (clampS ((b.vy) + (gy))) := k1
          refine ob_start (L' := M) (by rfl) (up_cons (up_cons rfl hs26) hs34) ?_
          refine l_val (v := .agg #[Ix (clampS ((b.vx) + (gx))), Ix (clampS ((b.vy) + (gy)))]) rfl rfl rfl (e_build ua17 ua16 (vs := [(0, Ix (clampS ((b.vx) + (gx)))), (1, Ix (clampS ((b.vy) + (gy))))]) (cells := #[Ix (clampS ((b.vx) + (gx))), Ix (clampS ((b.vy) + (gy)))]) rfl rfl) ?_
          refine l_nil ?_
          exact f_owes_d (up_cons (up_cons rfl hs26) hs34) rfl (List.Perm.refl _)
        · rintro f M ⟨k0, -⟩ ⟨i0, -⟩
          have hs4 : f 4 = .pointer (some ⟨b3, 0, none⟩) := i0
          have hs35 : f 35 = .agg #[Ix (clampS ((b.vx) + (gx))), Ix (clampS ((b.vy) + (gy)))] := k0
          refine ob_start (L' := pt b3 (.cells #[.int .i64 (0), .int .i64 (0)] 30) :: M) (by rfl) (up_cons (up_cons rfl hs4) hs35) ?_
          refine l_mu rfl rfl (m_store 0 ua15 (b := b3) (o := 0) (T := 30) (cs := #[.int .i64 (0), .int .i64 (0)]) (cs' := #[Ix (clampS ((b.vx) + (gx))), Ix (clampS ((b.vy) + (gy)))]) (v := .agg #[Ix (clampS ((b.vx) + (gx))), Ix (clampS ((b.vy) + (gy)))]) rfl rfl rfl rfl rfl rfl rfl) ?_
          refine l_nil ?_
          exact f_owes_n (up_cons (up_cons rfl hs4) hs35) trivial (perm_front 0 rfl)
        rintro fa7 ⟨-, -, -, -, -, -, -, -, -, -, -, -, -, -, -, -, -, -, -⟩ ⟨j0, -⟩
        refine f_re (L' := [pt b2 (.cells #[Ix (gx), Ix (gy)] 30), pt b1 (.cells (bC b) 39), pt b3 (.cells #[Ix (clampS ((b.vx) + (gx))), Ix (clampS ((b.vy) + (gy)))] 30)]) (by rfl) ?_
        refine f_rebase (d := 4) (v := .pointer (some ⟨b3, 0, none⟩)) j0 ?_
        refine f_then ?_
        refine c_ret ?_
        refine retG (l := [.cell 4 30]) (m := [.agg #[Ix (clampS ((b.vx) + (gx))), Ix (clampS ((b.vy) + (gy)))]]) (v := .agg #[Ix (clampS ((b.vx) + (gx))), Ix (clampS ((b.vy) + (gy)))]) Try.results16 ⟨rd_cell ua15 (cs := [Ix (clampS ((b.vx) + (gx))), Ix (clampS ((b.vy) + (gy)))]) rfl (k_pt 2 (cs := #[Ix (clampS ((b.vx) + (gx))), Ix (clampS ((b.vy) + (gy)))]) (vs := [Ix (clampS ((b.vx) + (gx))), Ix (clampS ((b.vy) + (gy)))]) rfl rfl) rfl, trivial⟩ rfl ?_
        intro w hw
        have hno : ¬ (b.fixed = true ∨ ¬ okB b ∨ ¬ okV gx gy) := fun h => h.elim (fun h => by rw [hg4] at h; cases h) fun h => h.elim (fun h => h hob) fun h => h hov
        exact ⟨by rw [show speedX b gx gy = clampS (b.vx + gx) from if_neg hno, show speedY b gx gy = clampS (b.vy + gy) from if_neg hno], st_mask [false, false, false] rfl hw⟩
theorem number_ok (β : Base) (w : World) (hw : St β [] w) (b : KB) : Calls Try.prog 32 #[.agg (bC b)] w fun r w' => r = .returned (Ix b.id) ∧ St β [] w' := by
  refine enter (n := 5) Try.func32 rfl Try.ntmps32 rfl ?_ hw
  refine c_seq ?_
  refine c_region ?_
  refine l_mv rfl rfl rfl (m_box (v := .agg (bC b)) rfl) ?_
  rintro _ _ ⟨b1, rfl, rfl⟩
  refine l_val (v := .int .i64 (0)) rfl rfl rfl (e_assign) ?_
  refine l_nil ?_
  refine f_then ?_
  refine c_seq ?_
  refine c_region ?_
  refine l_val (v := .pointer (some ⟨b1, 0, none⟩)) rfl rfl rfl (e_fieldPt (b := b1) (o := 0) rfl ua3) ?_
  refine l_val (v := Ix (b.id)) rfl rfl rfl (e_load1 ua2 (v := Ix (b.id)) rfl (k_pt 0 (cs := (bC b)) (vs := [Ix (b.id)]) rfl rfl)) ?_
  refine l_val (v := Ix (b.id)) rfl rfl rfl (e_assign) ?_
  refine l_nil ?_
  refine f_then ?_
  refine c_ret ?_
  refine ret1 Try.results32 (v := Ix (b.id)) rfl ?_
  intro w hw
  exact ⟨rfl, st_mask [false] rfl hw⟩
theorem isnanS_ok (β : Base) (w : World) (hw : St β [] w) (x : Int) : Calls Try.prog 66 #[Ix x] w fun r w' => r = .returned (.bool false) ∧ St β [] w' := by
  refine enter (n := 6) Try.func66 rfl Try.ntmps66 rfl ?_ hw
  refine c_seq ?_
  refine c_region ?_
  refine l_val (v := .bool false) rfl rfl rfl (e_assign) ?_
  refine l_nil ?_
  refine f_then ?_
  refine c_seq ?_
  refine c_region ?_
  refine l_val (v := Ix (x)) rfl rfl rfl (e_move) ?_
  refine l_val (v := Ix (x)) rfl rfl rfl (e_move) ?_
  refine l_val (v := .bool (decide ((x) ≠ (x)))) rfl rfl rfl (e_neq (a := (x)) (b := (x)) rfl rfl) ?_
  refine l_val (v := .bool (decide ((x) ≠ (x)))) rfl rfl rfl (e_assign) ?_
  refine l_nil ?_
  refine f_then ?_
  refine c_ret ?_
  refine ret1 Try.results66 (v := .bool (decide ((x) ≠ (x)))) rfl ?_
  intro w hw
  exact ⟨congrArg Ending.returned (congrArg Value.bool (decide_eq_false (by simp))), st_mask [] rfl hw⟩
set_option maxHeartbeats 4000000 in
theorem cmpS_ok (β : Base) (w : World) (hw : St β [] w) (x y : Int) : Calls Try.prog 51 #[Ix x, Ix y] w fun r w' => r = .returned (Ix (cmpI x y)) ∧ St β [] w' := by
  refine enter (n := 20) Try.func51 rfl Try.ntmps51 rfl ?_ hw
  refine c_seq ?_
  refine c_region ?_
  refine l_val (v := .int .i64 (0)) rfl rfl rfl (e_assign) ?_
  refine l_nil ?_
  refine f_then ?_
  refine c_seq ?_
  refine c_region ?_
  refine l_val (v := Ix (x)) rfl rfl rfl (e_move) ?_
  refine l_call rfl rfl rfl (cl_value (fst := []) (cap := []) (vs := [Ix (x)]) (all := [Ix (x)]) ua36 rfl rfl rfl) ?_
  intro w hw
  obtain ⟨β1, sb, kn, hw1, back⟩ := St.frame_all hw
  refine (isnanS_ok β1 w hw1 (x)).mono ?_
  rintro e w' ⟨rfl, hw'⟩
  refine ⟨_, rfl, _, back _ _ hw', ?_⟩
  clear hw hw1 hw' back kn sb
  refine l_val (v := .bool false) rfl rfl rfl (e_assign) ?_
  refine l_nil ?_
  refine f_then ?_
  refine c_seq ?_
  refine c_region ?_
  refine l_val (v := Ix (y)) rfl rfl rfl (e_move) ?_
  refine l_call rfl rfl rfl (cl_value (fst := []) (cap := []) (vs := [Ix (y)]) (all := [Ix (y)]) ua36 rfl rfl rfl) ?_
  intro w hw
  obtain ⟨β1, sb, kn, hw1, back⟩ := St.frame_all hw
  refine (isnanS_ok β1 w hw1 (y)).mono ?_
  rintro e w' ⟨rfl, hw'⟩
  refine ⟨_, rfl, _, back _ _ hw', ?_⟩
  clear hw hw1 hw' back kn sb
  refine l_val (v := .bool false) rfl rfl rfl (e_assign) ?_
  refine l_nil ?_
  refine f_then ?_
  refine c_seq ?_
  refine c_seq ?_
  refine c_region ?_
  refine l_val (v := .bool false) rfl rfl rfl (e_move) ?_
  refine l_nil ?_
  refine f_then ?_
  refine c_no rfl ?_
  refine c_skip ?_
  refine f_then ?_
  refine c_seq ?_
  refine c_seq ?_
  refine c_region ?_
  refine l_val (v := .bool false) rfl rfl rfl (e_move) ?_
  refine l_nil ?_
  refine f_then ?_
  refine c_no rfl ?_
  refine c_skip ?_
  refine f_then ?_
  refine c_seq ?_
  refine c_seq ?_
  refine c_region ?_
  refine l_val (v := Ix (x)) rfl rfl rfl (e_move) ?_
  refine l_val (v := Ix (y)) rfl rfl rfl (e_move) ?_
  refine l_val (v := .bool (decide ((x) < (y)))) rfl rfl rfl (e_lss (a := (x)) (b := (y)) rfl rfl) ?_
  refine l_nil ?_
  refine f_then ?_
  refine c_if ((x) < (y)) rfl (fun hc1 => ?_) (fun hc1 => ?_)
  ·
    refine c_seq ?_
    refine c_region ?_
    refine l_val (v := .int .i64 (-1)) rfl rfl rfl (e_assign) ?_
    refine l_nil ?_
    refine f_then ?_
    refine c_ret ?_
    refine f_then_ret ?_
    refine ret1 Try.results51 (v := .int .i64 (-1)) rfl ?_
    intro w hw
    exact ⟨congrArg Ending.returned (congrArg (Value.int .i64) (show (-1 : Int) = cmpI x y by unfold cmpI; split <;> (try split) <;> omega)), st_mask [] rfl hw⟩
  ·
    refine c_skip ?_
    refine f_then ?_
    refine c_seq ?_
    refine c_seq ?_
    refine c_region ?_
    refine l_val (v := Ix (x)) rfl rfl rfl (e_move) ?_
    refine l_val (v := Ix (y)) rfl rfl rfl (e_move) ?_
    refine l_val (v := .bool (decide ((y) < (x)))) rfl rfl rfl (e_gtr (a := (x)) (b := (y)) rfl rfl) ?_
    refine l_nil ?_
    refine f_then ?_
    refine c_if ((y) < (x)) rfl (fun hc2 => ?_) (fun hc2 => ?_)
    ·
      refine c_seq ?_
      refine c_region ?_
      refine l_val (v := .int .i64 (1)) rfl rfl rfl (e_assign) ?_
      refine l_nil ?_
      refine f_then ?_
      refine c_ret ?_
      refine f_then_ret ?_
      refine ret1 Try.results51 (v := .int .i64 (1)) rfl ?_
      intro w hw
      exact ⟨congrArg Ending.returned (congrArg (Value.int .i64) (show (1 : Int) = cmpI x y by unfold cmpI; split <;> (try split) <;> omega)), st_mask [] rfl hw⟩
    ·
      refine c_skip ?_
      refine f_then ?_
      refine c_seq ?_
      refine c_region ?_
      refine l_val (v := .int .i64 (0)) rfl rfl rfl (e_assign) ?_
      refine l_nil ?_
      refine f_then ?_
      refine c_ret ?_
      refine ret1 Try.results51 (v := .int .i64 (0)) rfl ?_
      intro w hw
      exact ⟨congrArg Ending.returned (congrArg (Value.int .i64) (show (0 : Int) = cmpI x y by unfold cmpI; split <;> (try split) <;> omega)), st_mask [] rfl hw⟩
theorem find1_fn (β : Base) (c : Nat) (hc : Cs β.heap ⟨c, 0, none⟩ [.func (.func 32) #[] #[]]) : FnV Try.prog β (.func (.func 50) #[] #[.pointer (some ⟨c, 0, none⟩)]) (fun z : KB × Int => [.agg (bC z.1), Ix z.2]) (fun _ => True) (fun z => Ix (cmpI z.1.id z.2)) := by
  refine ⟨50, [], [.pointer (some (⟨c, 0, none⟩))], rfl, by kernel_rfl, fun β₁ sb0 z_ hz_ w hw => ?_⟩
  have hc1 := Cs.mono _ _ _ _ sb0 hc
  obtain ⟨b, i⟩ := z_
  refine enter (n := 11) Try.func50 rfl Try.ntmps50 rfl ?_ hw
  refine c_seq ?_
  refine c_region ?_
  refine l_mv rfl rfl rfl (m_box (v := .agg (bC b)) rfl) ?_
  rintro _ _ ⟨b1, rfl, rfl⟩
  refine l_val (v := .int .i64 (0)) rfl rfl rfl (e_assign) ?_
  refine l_nil ?_
  refine f_then ?_
  refine c_seq ?_
  refine c_region ?_
  refine l_val (v := .func (.func 32) #[] #[]) rfl rfl rfl (e_load1 ua37 (v := .func (.func 32) #[] #[]) rfl (Knows.of_base (Cs.mono _ _) hc1)) ?_
  refine l_val (v := .agg (bC b)) rfl rfl rfl (e_load ua22 (cs := (bodyE b)) rfl (k_pt 0 (cs := (bC b)) (vs := (bodyE b)) rfl rfl) rfl) ?_
  refine l_call rfl rfl rfl (cl_value (fst := []) (cap := []) (vs := [.agg (bC b)]) (all := [.agg (bC b)]) ua38 rfl rfl rfl) ?_
  intro w hw
  obtain ⟨β1, sb, kn, hw1, back⟩ := St.frame_all hw
  refine (number_ok β1 w hw1 b).mono ?_
  rintro e w' ⟨rfl, hw'⟩
  refine ⟨_, rfl, _, back _ _ hw', ?_⟩
  clear hw hw1 hw' back kn sb
  refine l_val (v := Ix (i)) rfl rfl rfl (e_move) ?_
  refine l_call rfl rfl rfl (cl_value (fst := []) (cap := []) (vs := [Ix (b.id), Ix (i)]) (all := [Ix (b.id), Ix (i)]) ua39 rfl rfl rfl) ?_
  intro w hw
  obtain ⟨β1, sb, kn, hw1, back⟩ := St.frame_all hw
  refine (cmpS_ok β1 w hw1 (b.id) (i)).mono ?_
  rintro e w' ⟨rfl, hw'⟩
  refine ⟨_, rfl, _, back _ _ hw', ?_⟩
  clear hw hw1 hw' back kn sb
  refine l_val (v := Ix (cmpI (b.id) (i))) rfl rfl rfl (e_assign) ?_
  refine l_nil ?_
  refine f_then ?_
  refine c_ret ?_
  refine ret1 Try.results50 (v := Ix (cmpI (b.id) (i))) rfl ?_
  intro w hw
  exact ⟨rfl, st_mask [false] rfl hw⟩
set_option maxHeartbeats 4000000 in
theorem bsearch_ok (β : Base) (w : World) (hw : St β [] w) (v fn : Value) (bs : List KB) (hs : Sl KBR β.heap v bs) (id : Int) (ho : ordB bs) (hn : bs.length ≤ 1048576) (hfn : FnV Try.prog β fn (fun z : KB × Int => [.agg (bC z.1), Ix z.2]) (fun _ => True) (fun z => Ix (cmpI z.1.id z.2))) : Calls Try.prog 49 #[v, Ix id, fn] w fun r w' => r = .returned (.tuple #[Nx (lbN bs id), .bool (findB bs id).isSome]) ∧ St β [] w' := by
  obtain ⟨va, vc, rfl, vl, vm, ve⟩ := hs.get
  obtain ⟨gg, fst, cap, rfl, hcf, hf⟩ := hfn
  refine enter (n := 49) Try.func49 rfl Try.ntmps49 rfl ?_ hw
  refine c_seq ?_
  refine c_region ?_
  refine l_val (v := .int .i64 (0)) rfl rfl rfl (e_assign) ?_
  refine l_val (v := .bool false) rfl rfl rfl (e_assign) ?_
  refine l_nil ?_
  refine f_then ?_
  refine c_seq ?_
  refine c_region ?_
  refine l_val (v := .slice va (bs.length) (vc)) rfl rfl rfl (e_move) ?_
  refine l_val (v := Nx (bs.length)) rfl rfl rfl (e_len (a := va) (n := bs.length) (c := vc) rfl ua40) ?_
  refine l_val (v := Nx (bs.length)) rfl rfl rfl (e_assign) ?_
  refine l_nil ?_
  refine f_then ?_
  refine c_seq ?_
  refine c_region ?_
  refine l_val (v := Nx (bs.length)) rfl rfl rfl (e_move) ?_
  refine l_val (v := .int .i64 (0)) rfl rfl rfl (e_assign) ?_
  refine l_val (v := Nx (bs.length)) rfl rfl rfl (e_assign) ?_
  refine l_nil ?_
  refine f_then ?_
  refine c_seq ?_
  refine c_block ?_
  refine c_loop (fun (x_ : Nat × Nat) (f : Fm) (L : List Res) => match x_ with | (i, j) => (f 0 = .slice va (bs.length) (vc) ∧ f 1 = Ix (id) ∧ f 2 = .func (.func gg) fst.toArray cap.toArray ∧ f 8 = Nx (bs.length) ∧ f 9 = Nx (i) ∧ f 10 = Nx (j)) ∧ L = [] ∧ (i ≤ j ∧ j ≤ bs.length ∧ (∀ t, t < i → idAt bs t < id) ∧ (j < bs.length → id ≤ idAt bs j))) (fun (x_ : Nat × Nat) => match x_ with | (i, j) => j - i) (0, bs.length) ?_ ?_
  · exact ⟨⟨rfl, rfl, rfl, rfl, rfl, rfl⟩, rfl, ⟨by omega, by omega, fun t ht => by omega, fun h => by omega⟩⟩
  rintro ⟨i, j⟩ f0 L0 ⟨⟨hs0, hs1, hs2, hs8, hs9, hs10⟩, hL, ⟨h1, h2, hp1, hp2⟩⟩
  subst L0
  refine rebase (d := 0) hs0 ?_
  refine rebase (d := 1) hs1 ?_
  refine rebase (d := 2) hs2 ?_
  refine rebase (d := 8) hs8 ?_
  refine rebase (d := 9) hs9 ?_
  refine rebase (d := 10) hs10 ?_
  clear hs0 hs1 hs2 hs8 hs9 hs10
  obtain ⟨h, hh⟩ : ∃ h, h = (U (((i + j : Nat)) : Int) >>> (1 : UInt64)).toNat := ⟨_, rfl⟩
  have hh2 := half_toNat (m := i + j) (by omega)
  refine c_seq ?_
  refine c_seq ?_
  refine c_region ?_
  refine l_val (v := Nx (i)) rfl rfl rfl (e_move) ?_
  refine l_val (v := Nx (j)) rfl rfl rfl (e_move) ?_
  refine l_val (v := .bool (decide (((i : Nat) : Int) < ((j : Nat) : Int)))) rfl rfl rfl (e_lss (a := ((i : Nat) : Int)) (b := ((j : Nat) : Int)) rfl rfl) ?_
  refine l_nil ?_
  refine f_then ?_
  refine c_if (((i : Nat) : Int) < ((j : Nat) : Int)) rfl (fun hc1 => ?_) (fun hc1 => ?_)
  ·
    refine c_skip ?_
    refine f_then ?_
    refine c_block ?_
    refine c_seq ?_
    refine c_region ?_
    refine l_val (v := Nx (i)) rfl rfl rfl (e_move) ?_
    refine l_val (v := Nx (j)) rfl rfl rfl (e_move) ?_
    refine l_val (v := Nx (i + j)) rfl rfl rfl (e_add (a := ((i : Nat) : Int)) (b := ((j : Nat) : Int)) rfl rfl (i64n (by omega) (by omega))) ?_
    refine l_val (v := Ux (U ((i + j : Nat) : Int))) rfl rfl rfl (e_conv (a := ((i + j : Nat) : Int)) rfl ⟨_, ua41⟩ ua42 (ux_of _)) ?_
    refine l_val (v := Ux ((U ((i + j : Nat) : Int)) >>> (1 : UInt64))) rfl rfl rfl (e_shr (a := ((U ((i + j : Nat) : Int)).toNat : Int)) (b := ((1 : Nat) : Int)) rfl rfl (by decide) (ux_shr _ 1 (by decide))) ?_
    refine l_val (v := Nx (h)) rfl rfl rfl (e_conv (a := (((U ((i + j : Nat) : Int)) >>> (1 : UInt64)).toNat : Int)) rfl ⟨_, ua42⟩ ua41 (i64n (by rw [hh]) (by omega))) ?_
    refine l_val (v := Nx (h)) rfl rfl rfl (e_assign) ?_
    refine l_nil ?_
    refine f_then ?_
    refine c_seq ?_
    refine c_region ?_
    refine l_val (v := .func (.func gg) fst.toArray cap.toArray) rfl rfl rfl (e_move) ?_
    refine l_val (v := .slice va (bs.length) (vc)) rfl rfl rfl (e_move) ?_
    refine l_val (v := Nx (h)) rfl rfl rfl (e_move) ?_
    obtain ⟨x2, hx3⟩ : ∃ x_, (bs)[h]? = some x_ := ⟨_, List.getElem?_eq_getElem (by omega)⟩
    obtain ⟨ha4, cs5, hc6, rfl⟩ := ve _ _ hx3
    refine l_val (v := .pointer (some ((ba va).add (h * 9)))) rfl rfl rfl (e_indexAddr (k := h) (len := bs.length) (cap := vc) (a := va) rfl rfl ua43 (by omega) ha4) ?_
    refine l_val (v := .agg (bC x2)) rfl rfl rfl (e_load ua22 (cs := (bodyE x2)) rfl (Knows.of_base (Cs.mono _ _) hc6) rfl) ?_
    refine l_val (v := Ix (id)) rfl rfl rfl (e_move) ?_
    refine l_call rfl rfl rfl (cl_value (fst := fst) (cap := cap) (vs := [.agg (bC x2), Ix (id)]) (all := fst ++ [.agg (bC x2), Ix (id)] ++ cap) hcf rfl rfl rfl) ?_
    intro w hw
    obtain ⟨β1, sb, kn, hw1, back⟩ := St.frame_all hw
    refine (hf β1 sb (x2, (id)) trivial w hw1).mono ?_
    rintro e w' ⟨rfl, hw'⟩
    refine ⟨_, rfl, _, back _ _ hw', ?_⟩
    clear hw hw1 hw' back kn sb
    refine l_val (v := .bool (decide ((cmpI x2.id (id)) < (0 : Int)))) rfl rfl rfl (e_lss (a := (cmpI x2.id (id))) (b := (0 : Int)) rfl rfl) ?_
    refine l_nil ?_
    refine f_then ?_
    refine c_if ((cmpI x2.id (id)) < (0 : Int)) rfl (fun hc8 => ?_) (fun hc8 => ?_)
    ·
      refine c_region ?_
      refine l_val (v := Nx (h)) rfl rfl rfl (e_move) ?_
      refine l_val (v := Nx (h + 1)) rfl rfl rfl (e_add (a := ((h : Nat) : Int)) (b := (1 : Int)) rfl rfl (i64n (by omega) (by omega))) ?_
      refine l_val (v := Nx (h + 1)) rfl rfl rfl (e_assign) ?_
      refine l_nil ?_
      refine f_block ?_
      exact f_cut ⟨(h + 1, j), ⟨⟨rfl, rfl, rfl, rfl, rfl, rfl⟩, rfl, ⟨by omega, by omega, fun t ht => lb_next ho hx3 (by have q := hc8; unfold cmpI at q; split at q <;> (try split at q) <;> omega) ht, hp2⟩⟩, (show j - (h + 1) < j - i from by omega)⟩
    ·
      refine c_region ?_
      refine l_val (v := Nx (h)) rfl rfl rfl (e_move) ?_
      refine l_val (v := Nx (h)) rfl rfl rfl (e_assign) ?_
      refine l_nil ?_
      refine f_block ?_
      exact f_cut ⟨(i, h), ⟨⟨rfl, rfl, rfl, rfl, rfl, rfl⟩, rfl, ⟨by omega, by omega, hp1, fun _ => by rw [idAt_eq hx3]; have q := hc8; unfold cmpI at q; split at q <;> (try split at q) <;> omega⟩⟩, (show h - i < j - i from by omega)⟩
  ·
    refine c_exit ?_
    refine f_then_exit ?_
    refine f_then_exit ?_
    refine f_exit ?_
    refine f_then ?_
    refine c_seq ?_
    have hij : i = j := by omega
    subst hij
    have hp2' := hp2
    refine c_region ?_
    refine l_val (v := Nx (i)) rfl rfl rfl (e_move) ?_
    refine l_val (v := Nx (i)) rfl rfl rfl (e_move) ?_
    refine l_val (v := Nx (bs.length)) rfl rfl rfl (e_move) ?_
    refine l_val (v := .bool (decide (((i : Nat) : Int) < ((bs.length : Nat) : Int)))) rfl rfl rfl (e_lss (a := ((i : Nat) : Int)) (b := ((bs.length : Nat) : Int)) rfl rfl) ?_
    refine l_val (v := .bool (decide (((i : Nat) : Int) < ((bs.length : Nat) : Int)))) rfl rfl rfl (e_move) ?_
    refine l_split (s := 39) (p := ((i : Nat) : Int) < ((bs.length : Nat) : Int)) rfl (fun hg9 => ?_) (fun hg9 => ?_)
    ·
      refine g_val (v := .func (.func gg) fst.toArray cap.toArray) rfl rfl rfl rfl rfl (e_move) ?_
      refine g_val (v := .slice va (bs.length) (vc)) rfl rfl rfl rfl rfl (e_move) ?_
      refine g_val (v := Nx (i)) rfl rfl rfl rfl rfl (e_move) ?_
      obtain ⟨x10, hx11⟩ : ∃ x_, (bs)[i]? = some x_ := ⟨_, List.getElem?_eq_getElem (by omega)⟩
      obtain ⟨ha12, cs13, hc14, rfl⟩ := ve _ _ hx11
      refine g_val (v := .pointer (some ((ba va).add (i * 9)))) rfl rfl rfl rfl rfl (e_indexAddr (k := i) (len := bs.length) (cap := vc) (a := va) rfl rfl ua43 (by omega) ha12) ?_
      refine g_val (v := .agg (bC x10)) rfl rfl rfl rfl rfl (e_load ua22 (cs := (bodyE x10)) rfl (Knows.of_base (Cs.mono _ _) hc14) rfl) ?_
      refine g_val (v := Ix (id)) rfl rfl rfl rfl rfl (e_move) ?_
      refine g_call rfl rfl rfl rfl rfl (cl_value (fst := fst) (cap := cap) (vs := [.agg (bC x10), Ix (id)]) (all := fst ++ [.agg (bC x10), Ix (id)] ++ cap) hcf rfl rfl rfl) ?_
      intro w hw
      obtain ⟨β1, sb, kn, hw1, back⟩ := St.frame_all hw
      refine (hf β1 sb (x10, (id)) trivial w hw1).mono ?_
      rintro e w' ⟨rfl, hw'⟩
      refine ⟨_, rfl, _, back _ _ hw', ?_⟩
      clear hw hw1 hw' back kn sb
      refine g_val (v := .bool (decide ((cmpI x10.id (id)) = (0 : Int)))) rfl rfl rfl rfl rfl (e_eql (a := (cmpI x10.id (id))) (b := (0 : Int)) rfl rfl) ?_
      refine l_val (v := .bool (decide ((cmpI x10.id (id)) = (0 : Int)))) rfl rfl rfl (e_pick_t rfl) ?_
      refine l_val (v := Nx (i)) rfl rfl rfl (e_assign) ?_
      refine l_val (v := .bool (decide ((cmpI x10.id (id)) = (0 : Int)))) rfl rfl rfl (e_assign) ?_
      refine l_nil ?_
      refine f_then ?_
      refine c_ret ?_
      refine ret2 (v := Nx (i)) (v' := .bool (decide ((cmpI x10.id (id)) = (0 : Int)))) Try.results49 rfl rfl ?_
      intro w hw
      exact ⟨by rw [lb_eq (by omega) hp1 (fun _ => by rw [idAt_eq hx11]; have := hp2 (by omega); rwa [idAt_eq hx11] at this), show decide ((cmpI x10.id (id)) = (0 : Int)) = (findB bs id).isSome from (by have hle := hp2 (by omega); rw [idAt_eq hx11] at hle; have q := lb_found ho hp1 hx11 hle; rw [Bool.eq_iff_iff, decide_eq_true_iff, ← q]; unfold cmpI; split <;> (try split) <;> omega)], st_mask [] rfl hw⟩
    ·
      refine l_skip rfl rfl rfl rfl rfl rfl ?_
      refine l_skip rfl rfl rfl rfl rfl rfl ?_
      refine l_skip rfl rfl rfl rfl rfl rfl ?_
      refine l_skip rfl rfl rfl rfl rfl rfl ?_
      refine l_skip rfl rfl rfl rfl rfl rfl ?_
      refine l_skip rfl rfl rfl rfl rfl rfl ?_
      refine l_skip rfl rfl rfl rfl rfl rfl ?_
      refine l_skip rfl rfl rfl rfl rfl rfl ?_
      refine l_val (v := .bool false) rfl rfl rfl (e_pick_f rfl) ?_
      refine l_val (v := Nx (i)) rfl rfl rfl (e_assign) ?_
      refine l_val (v := .bool false) rfl rfl rfl (e_assign) ?_
      refine l_nil ?_
      refine f_then ?_
      refine c_ret ?_
      refine ret2 (v := Nx (i)) (v' := .bool false) Try.results49 rfl rfl ?_
      intro w hw
      exact ⟨by rw [lb_eq (by omega) hp1 hp2', lb_none (by omega) hp1], st_mask [] rfl hw⟩
theorem find_ok (β : Base) (w : World) (hw : St β [] w) (v : Value) (bs : List KB) (hs : Sl KBR β.heap v bs) (id : Int) (ho : ordB bs) (hn : bs.length ≤ 1048576) : Calls Try.prog 31 #[v, Ix id, .func (.func 32) #[] #[]] w fun r w' => r = .returned (.tuple #[Nx (lbN bs id), .bool (findB bs id).isSome]) ∧ St β [] w' := by
  refine enter (n := 14) Try.func31 rfl Try.ntmps31 rfl ?_ hw
  refine c_seq ?_
  refine c_region ?_
  refine l_mv rfl rfl rfl (m_box (v := .func (.func 32) #[] #[]) rfl) ?_
  rintro _ _ ⟨b1, rfl, rfl⟩
  refine l_val (v := .int .i64 (0)) rfl rfl rfl (e_assign) ?_
  refine l_val (v := .bool false) rfl rfl rfl (e_assign) ?_
  refine l_nil ?_
  refine f_then ?_
  refine c_seq ?_
  refine c_region ?_
  refine l_val (v := v) rfl rfl rfl (e_move) ?_
  refine l_val (v := Ix (id)) rfl rfl rfl (e_move) ?_
  refine l_val (v := .func (.func 50) #[] #[.pointer (some ⟨b1, 0, none⟩)]) rfl rfl rfl (e_func (u := []) (v := [.pointer (some ⟨b1, 0, none⟩)]) rfl rfl) ?_
  refine l_call rfl rfl rfl (cl_value (fst := []) (cap := []) (vs := [v, Ix (id), .func (.func 50) #[] #[.pointer (some ⟨b1, 0, none⟩)]]) (all := [v, Ix (id), .func (.func 50) #[] #[.pointer (some ⟨b1, 0, none⟩)]]) ua44 rfl rfl rfl) ?_
  intro w hw
  obtain ⟨β1, sb, kn, hw1, back⟩ := St.frame_all hw
  refine (bsearch_ok β1 w hw1 _ _ bs (Sl.mono _ _ _ _ _ sb hs) (id) ho (by omega) (find1_fn β1 b1 (kn _ (k_pt 0 (o := 0) (cs := #[.func (.func 32) #[] #[]]) (vs := [.func (.func 32) #[] #[]]) rfl rfl)))).mono ?_
  rintro e w' ⟨rfl, hw'⟩
  refine ⟨_, rfl, _, back _ _ hw', ?_⟩
  clear hw hw1 hw' back kn sb
  refine l_val (v := Nx (lbN bs (id))) rfl rfl rfl (e_extract (vs := #[Nx (lbN bs (id)), .bool ((findB bs (id)).isSome)]) rfl rfl) ?_
  refine l_val (v := .bool ((findB bs (id)).isSome)) rfl rfl rfl (e_extract (vs := #[Nx (lbN bs (id)), .bool ((findB bs (id)).isSome)]) rfl rfl) ?_
  refine l_val (v := Nx (lbN bs (id))) rfl rfl rfl (e_assign) ?_
  refine l_val (v := .bool ((findB bs (id)).isSome)) rfl rfl rfl (e_assign) ?_
  refine l_nil ?_
  refine f_then ?_
  refine c_ret ?_
  refine ret2 (v := Nx (lbN bs (id))) (v' := .bool ((findB bs (id)).isSome)) Try.results31 rfl rfl ?_
  intro w hw
  exact ⟨rfl, st_mask [false] rfl hw⟩
end Go.Proofs
namespace Go.Proofs
open Go Go.Sl Go.Stp
noncomputable instance (bs : List KB) (rs : List KR) (gx gy : Int) : Decidable (okS bs rs gx gy) := Classical.propDecidable _
theorem valid_end {bs : List KB} {rs : List KR} {gx gy : Int} (h1 : bs.length ≤ 64) (h2 : rs.length ≤ 32) (h3 : okV gx gy) (h4 : ∀ b ∈ bs, okB b) (h5 : ordB bs) : (!(rs.any fun z => decide (¬ okR bs z))) = decide (okS bs rs gx gy) := by
  rw [Bool.eq_iff_iff, decide_eq_true_iff]
  simp only [Bool.not_eq_true', List.any_eq_false, decide_eq_true_eq, Decidable.not_not]
  exact ⟨fun h => ⟨h1, h2, h3, h4, h5, h⟩, fun h => h.2.2.2.2.2⟩
theorem ua45 : Try.prog.underlying 28 = some (.slice 49) := by kernel_rfl
theorem ua46 : slB Try.prog 28 49 3 = true := by kernel_rfl
theorem ua47 : tyB Try.prog 49 true 3 = true := by kernel_rfl
theorem ua48 : cfB Try.prog 56 = true := by kernel_rfl
theorem ua49 : fldB Try.prog 32 0 0 1 false = true := by kernel_rfl
theorem ua50 : tyB Try.prog 27 false 1 = true := by kernel_rfl
theorem ua51 : fldB Try.prog 49 0 0 1 false = true := by kernel_rfl
theorem ua52 : cfB Try.prog 31 = true := by kernel_rfl
theorem ua53 : fldB Try.prog 49 1 1 1 false = true := by kernel_rfl
theorem ua54 : fldB Try.prog 49 2 2 1 false = true := by kernel_rfl
theorem ua55 : fldB Try.prog 32 1 1 1 false = true := by kernel_rfl
theorem ua56 : tyB Try.prog 28 false 1 = true := by kernel_rfl
theorem ua57 : fldB Try.prog 32 2 2 2 true = true := by kernel_rfl
theorem ua58 : (Try.prog.info? 39).bind (·.zero) = some (.agg #[.int .i64 (0), .int .i64 (0), .int .i64 (0), .int .i64 (0), .int .i64 (0), .int .i64 (0), .int .i64 (0), .bool false, .bool false]) := by kernel_rfl
theorem ua59 : cfB Try.prog 40 = true := by kernel_rfl
set_option maxHeartbeats 4000000 in
theorem indexR_ok (β : Base) (w : World) (hw : St β [] w) (v fn : Value) (xs : List KR) (hs : Sl KRR β.heap v xs) (p : KR → Bool) (hfn : FnV Try.prog β fn (fun z : KR => [.agg #[Ix (z.a), Ix (z.b), Ix (z.len)]]) (· ∈ xs) (fun z => .bool (p z))) : Calls Try.prog 56 #[v, fn] w fun r w' => r = .returned (Ix (idxI p xs)) ∧ St β [] w' := by
  obtain ⟨va, vc, rfl, vl, vm, ve⟩ := hs.get
  obtain ⟨gg, fst, cap, rfl, hcf, hf⟩ := hfn
  refine enter (n := 19) Try.func56 rfl Try.ntmps56 rfl ?_ hw
  refine c_seq ?_
  refine c_region ?_
  refine l_val (v := .int .i64 (0)) rfl rfl rfl (e_assign) ?_
  refine l_nil ?_
  refine f_then ?_
  refine c_seq ?_
  refine c_seq ?_
  refine c_region ?_
  refine l_val (v := .slice va (xs.length) (vc)) rfl rfl rfl (e_move) ?_
  refine l_val (v := Nx (xs.length)) rfl rfl rfl (e_len (a := va) (n := xs.length) (c := vc) rfl ua45) ?_
  refine l_val (v := .int .i64 (0)) rfl rfl rfl (e_move) ?_
  refine l_nil ?_
  refine f_then ?_
  refine c_block ?_
  refine c_loop (fun (k : Nat) (f : Fm) (L : List Res) => (f 0 = .slice va (xs.length) (vc) ∧ f 1 = .func (.func gg) fst.toArray cap.toArray ∧ f 7 = Nx (xs.length) ∧ f 8 = Nx (k)) ∧ L = [] ∧ (k ≤ xs.length ∧ ∀ y ∈ xs.take k, p y = false)) (fun (k : Nat) => xs.length - k) 0 ?_ ?_
  · exact ⟨⟨rfl, rfl, rfl, rfl⟩, rfl, ⟨by omega, fun y hy => by simp at hy⟩⟩
  rintro k f0 L0 ⟨⟨hs0, hs1, hs7, hs8⟩, hL, ⟨hk, hp⟩⟩
  subst L0
  refine rebase (d := 0) hs0 ?_
  refine rebase (d := 1) hs1 ?_
  refine rebase (d := 7) hs7 ?_
  refine rebase (d := 8) hs8 ?_
  clear hs0 hs1 hs7 hs8
  refine c_seq ?_
  refine c_region ?_
  refine l_val (v := .bool (decide (((k : Nat) : Int) < ((xs.length : Nat) : Int)))) rfl rfl rfl (e_lss (a := ((k : Nat) : Int)) (b := ((xs.length : Nat) : Int)) rfl rfl) ?_
  refine l_nil ?_
  refine f_then ?_
  refine c_seq ?_
  refine c_if (((k : Nat) : Int) < ((xs.length : Nat) : Int)) rfl (fun hc1 => ?_) (fun hc1 => ?_)
  ·
    refine c_skip ?_
    refine f_then ?_
    refine c_seq ?_
    refine c_block ?_
    refine c_seq ?_
    refine c_region ?_
    refine l_val (v := Nx (k)) rfl rfl rfl (e_move) ?_
    refine l_val (v := Nx (k)) rfl rfl rfl (e_assign) ?_
    refine l_nil ?_
    refine f_then ?_
    refine c_seq ?_
    refine c_region ?_
    refine l_val (v := .func (.func gg) fst.toArray cap.toArray) rfl rfl rfl (e_move) ?_
    refine l_val (v := .slice va (xs.length) (vc)) rfl rfl rfl (e_move) ?_
    refine l_val (v := Nx (k)) rfl rfl rfl (e_move) ?_
    obtain ⟨x2, hx2⟩ : ∃ x_, (xs)[k]? = some x_ := ⟨_, List.getElem?_eq_getElem (by omega)⟩
    obtain ⟨ha4, cs5, hc6, rfl⟩ := ve _ _ hx2
    refine l_val (v := .pointer (some ((ba va).add (k * 3)))) rfl rfl rfl (e_indexAddr (k := k) (len := xs.length) (cap := vc) (a := va) rfl rfl ua46 (by omega) ha4) ?_
    refine l_val (v := .agg #[Ix (x2.a), Ix (x2.b), Ix (x2.len)]) rfl rfl rfl (e_load ua47 (cs := [Ix (x2.a), Ix (x2.b), Ix (x2.len)]) rfl (Knows.of_base (Cs.mono _ _) hc6) rfl) ?_
    refine l_call rfl rfl rfl (cl_value (fst := fst) (cap := cap) (vs := [.agg #[Ix (x2.a), Ix (x2.b), Ix (x2.len)]]) (all := fst ++ [.agg #[Ix (x2.a), Ix (x2.b), Ix (x2.len)]] ++ cap) hcf rfl rfl rfl) ?_
    intro w hw
    obtain ⟨β1, sb, kn, hw1, back⟩ := St.frame_all hw
    refine (hf β1 sb x2 (List.mem_of_getElem? hx2) w hw1).mono ?_
    rintro e w' ⟨rfl, hw'⟩
    refine ⟨_, rfl, _, back _ _ hw', ?_⟩
    clear hw hw1 hw' back kn sb
    refine l_nil ?_
    refine f_then ?_
    refine c_ifb (p x2) rfl (fun hc8 => ?_) (fun hc8 => ?_)
    ·
      refine c_seq ?_
      refine c_region ?_
      refine l_val (v := Nx (k)) rfl rfl rfl (e_move) ?_
      refine l_val (v := Nx (k)) rfl rfl rfl (e_assign) ?_
      refine l_nil ?_
      refine f_then ?_
      refine c_ret ?_
      refine f_block_ret ?_
      refine f_then_ret ?_
      refine f_then_ret ?_
      refine f_block_ret ?_
      refine f_then_ret ?_
      refine ret1 Try.results56 (v := Nx (k)) rfl ?_
      intro w hw
      exact ⟨congrArg (fun z : Int => Ending.returned (Ix z)) (idx_found hx2 hc8 hp).symm, st_mask [] rfl hw⟩
    ·
      refine c_skip ?_
      refine f_block ?_
      refine f_then ?_
      refine c_region ?_
      refine l_val (v := Nx (k + 1)) rfl rfl rfl (e_add (a := ((k : Nat) : Int)) (b := (1 : Int)) rfl rfl (i64n (by omega) (by omega))) ?_
      refine l_val (v := Nx (k + 1)) rfl rfl rfl (e_move) ?_
      refine l_nil ?_
      exact f_cut ⟨k + 1, ⟨⟨rfl, rfl, rfl, rfl⟩, rfl, ⟨by omega, idx_next hx2 hc8 hp⟩⟩, (show xs.length - (k + 1) < xs.length - k from by omega)⟩
  ·
    refine c_exit ?_
    refine f_then_exit ?_
    refine f_then_exit ?_
    refine f_exit ?_
    refine f_then ?_
    refine c_seq ?_
    refine c_region ?_
    refine l_val (v := .int .i64 (-1)) rfl rfl rfl (e_assign) ?_
    refine l_nil ?_
    refine f_then ?_
    refine c_ret ?_
    refine ret1 Try.results56 (v := .int .i64 (-1)) rfl ?_
    intro w hw
    exact ⟨congrArg (fun z : Int => Ending.returned (Ix z)) (idx_none (by omega) hp).symm, st_mask [] rfl hw⟩
set_option maxHeartbeats 4000000 in
theorem indexB_ok (β : Base) (w : World) (hw : St β [] w) (v fn : Value) (xs : List KB) (hs : Sl KBR β.heap v xs) (p : KB → Bool) (hfn : FnV Try.prog β fn (fun z : KB => [.agg (bC z)]) (· ∈ xs) (fun z => .bool (p z))) : Calls Try.prog 44 #[v, fn] w fun r w' => r = .returned (Ix (idxI p xs)) ∧ St β [] w' := by
  obtain ⟨va, vc, rfl, vl, vm, ve⟩ := hs.get
  obtain ⟨gg, fst, cap, rfl, hcf, hf⟩ := hfn
  refine enter (n := 19) Try.func44 rfl Try.ntmps44 rfl ?_ hw
  refine c_seq ?_
  refine c_region ?_
  refine l_val (v := .int .i64 (0)) rfl rfl rfl (e_assign) ?_
  refine l_nil ?_
  refine f_then ?_
  refine c_seq ?_
  refine c_seq ?_
  refine c_region ?_
  refine l_val (v := .slice va (xs.length) (vc)) rfl rfl rfl (e_move) ?_
  refine l_val (v := Nx (xs.length)) rfl rfl rfl (e_len (a := va) (n := xs.length) (c := vc) rfl ua40) ?_
  refine l_val (v := .int .i64 (0)) rfl rfl rfl (e_move) ?_
  refine l_nil ?_
  refine f_then ?_
  refine c_block ?_
  refine c_loop (fun (k : Nat) (f : Fm) (L : List Res) => (f 0 = .slice va (xs.length) (vc) ∧ f 1 = .func (.func gg) fst.toArray cap.toArray ∧ f 7 = Nx (xs.length) ∧ f 8 = Nx (k)) ∧ L = [] ∧ (k ≤ xs.length ∧ ∀ y ∈ xs.take k, p y = false)) (fun (k : Nat) => xs.length - k) 0 ?_ ?_
  · exact ⟨⟨rfl, rfl, rfl, rfl⟩, rfl, ⟨by omega, fun y hy => by simp at hy⟩⟩
  rintro k f0 L0 ⟨⟨hs0, hs1, hs7, hs8⟩, hL, ⟨hk, hp⟩⟩
  subst L0
  refine rebase (d := 0) hs0 ?_
  refine rebase (d := 1) hs1 ?_
  refine rebase (d := 7) hs7 ?_
  refine rebase (d := 8) hs8 ?_
  clear hs0 hs1 hs7 hs8
  refine c_seq ?_
  refine c_region ?_
  refine l_val (v := .bool (decide (((k : Nat) : Int) < ((xs.length : Nat) : Int)))) rfl rfl rfl (e_lss (a := ((k : Nat) : Int)) (b := ((xs.length : Nat) : Int)) rfl rfl) ?_
  refine l_nil ?_
  refine f_then ?_
  refine c_seq ?_
  refine c_if (((k : Nat) : Int) < ((xs.length : Nat) : Int)) rfl (fun hc1 => ?_) (fun hc1 => ?_)
  ·
    refine c_skip ?_
    refine f_then ?_
    refine c_seq ?_
    refine c_block ?_
    refine c_seq ?_
    refine c_region ?_
    refine l_val (v := Nx (k)) rfl rfl rfl (e_move) ?_
    refine l_val (v := Nx (k)) rfl rfl rfl (e_assign) ?_
    refine l_nil ?_
    refine f_then ?_
    refine c_seq ?_
    refine c_region ?_
    refine l_val (v := .func (.func gg) fst.toArray cap.toArray) rfl rfl rfl (e_move) ?_
    refine l_val (v := .slice va (xs.length) (vc)) rfl rfl rfl (e_move) ?_
    refine l_val (v := Nx (k)) rfl rfl rfl (e_move) ?_
    obtain ⟨x2, hx2⟩ : ∃ x_, (xs)[k]? = some x_ := ⟨_, List.getElem?_eq_getElem (by omega)⟩
    obtain ⟨ha4, cs5, hc6, rfl⟩ := ve _ _ hx2
    refine l_val (v := .pointer (some ((ba va).add (k * 9)))) rfl rfl rfl (e_indexAddr (k := k) (len := xs.length) (cap := vc) (a := va) rfl rfl ua43 (by omega) ha4) ?_
    refine l_val (v := .agg (bC x2)) rfl rfl rfl (e_load ua22 (cs := (bodyE x2)) rfl (Knows.of_base (Cs.mono _ _) hc6) rfl) ?_
    refine l_call rfl rfl rfl (cl_value (fst := fst) (cap := cap) (vs := [.agg (bC x2)]) (all := fst ++ [.agg (bC x2)] ++ cap) hcf rfl rfl rfl) ?_
    intro w hw
    obtain ⟨β1, sb, kn, hw1, back⟩ := St.frame_all hw
    refine (hf β1 sb x2 (List.mem_of_getElem? hx2) w hw1).mono ?_
    rintro e w' ⟨rfl, hw'⟩
    refine ⟨_, rfl, _, back _ _ hw', ?_⟩
    clear hw hw1 hw' back kn sb
    refine l_nil ?_
    refine f_then ?_
    refine c_ifb (p x2) rfl (fun hc8 => ?_) (fun hc8 => ?_)
    ·
      refine c_seq ?_
      refine c_region ?_
      refine l_val (v := Nx (k)) rfl rfl rfl (e_move) ?_
      refine l_val (v := Nx (k)) rfl rfl rfl (e_assign) ?_
      refine l_nil ?_
      refine f_then ?_
      refine c_ret ?_
      refine f_block_ret ?_
      refine f_then_ret ?_
      refine f_then_ret ?_
      refine f_block_ret ?_
      refine f_then_ret ?_
      refine ret1 Try.results44 (v := Nx (k)) rfl ?_
      intro w hw
      exact ⟨congrArg (fun z : Int => Ending.returned (Ix z)) (idx_found hx2 hc8 hp).symm, st_mask [] rfl hw⟩
    ·
      refine c_skip ?_
      refine f_block ?_
      refine f_then ?_
      refine c_region ?_
      refine l_val (v := Nx (k + 1)) rfl rfl rfl (e_add (a := ((k : Nat) : Int)) (b := (1 : Int)) rfl rfl (i64n (by omega) (by omega))) ?_
      refine l_val (v := Nx (k + 1)) rfl rfl rfl (e_move) ?_
      refine l_nil ?_
      exact f_cut ⟨k + 1, ⟨⟨rfl, rfl, rfl, rfl⟩, rfl, ⟨by omega, idx_next hx2 hc8 hp⟩⟩, (show xs.length - (k + 1) < xs.length - k from by omega)⟩
  ·
    refine c_exit ?_
    refine f_then_exit ?_
    refine f_then_exit ?_
    refine f_exit ?_
    refine f_then ?_
    refine c_seq ?_
    refine c_region ?_
    refine l_val (v := .int .i64 (-1)) rfl rfl rfl (e_assign) ?_
    refine l_nil ?_
    refine f_then ?_
    refine c_ret ?_
    refine ret1 Try.results44 (v := .int .i64 (-1)) rfl ?_
    intro w hw
    exact ⟨congrArg (fun z : Int => Ending.returned (Ix z)) (idx_none (by omega) hp).symm, st_mask [] rfl hw⟩
theorem containsR_ok (β : Base) (w : World) (hw : St β [] w) (v fn : Value) (xs : List KR) (hs : Sl KRR β.heap v xs) (p : KR → Bool) (hfn : FnV Try.prog β fn (fun z : KR => [.agg #[Ix (z.a), Ix (z.b), Ix (z.len)]]) (· ∈ xs) (fun z => .bool (p z))) : Calls Try.prog 40 #[v, fn] w fun r w' => r = .returned (.bool (xs.any p)) ∧ St β [] w' := by
  refine enter (n := 9) Try.func40 rfl Try.ntmps40 rfl ?_ hw
  refine c_seq ?_
  refine c_region ?_
  refine l_val (v := .bool false) rfl rfl rfl (e_assign) ?_
  refine l_nil ?_
  refine f_then ?_
  refine c_seq ?_
  refine c_region ?_
  refine l_val (v := v) rfl rfl rfl (e_move) ?_
  refine l_val (v := fn) rfl rfl rfl (e_move) ?_
  refine l_call rfl rfl rfl (cl_value (fst := []) (cap := []) (vs := [v, fn]) (all := [v, fn]) ua48 rfl rfl rfl) ?_
  intro w hw
  obtain ⟨β1, sb, kn, hw1, back⟩ := St.frame_all hw
  refine (indexR_ok β1 w hw1 _ _ xs (Sl.mono _ _ _ _ _ sb hs) p (hfn.mono sb)).mono ?_
  rintro e w' ⟨rfl, hw'⟩
  refine ⟨_, rfl, _, back _ _ hw', ?_⟩
  clear hw hw1 hw' back kn sb
  refine l_val (v := .bool (decide ((0 : Int) ≤ (idxI p xs)))) rfl rfl rfl (e_geq (a := (idxI p xs)) (b := (0 : Int)) rfl rfl) ?_
  refine l_val (v := .bool (decide ((0 : Int) ≤ (idxI p xs)))) rfl rfl rfl (e_assign) ?_
  refine l_nil ?_
  refine f_then ?_
  refine c_ret ?_
  refine ret1 Try.results40 (v := .bool (decide ((0 : Int) ≤ (idxI p xs)))) rfl ?_
  intro w hw
  exact ⟨congrArg Ending.returned (congrArg Value.bool (idx_any p xs)), st_mask [] rfl hw⟩
theorem valid1_fn (β : Base) (c : Nat) (v rv : Value) (gx gy : Int) (bs : List KB) (hc : Cs β.heap ⟨c, 0, none⟩ [v, rv, Ix gx, Ix gy]) (hs : Sl KBR β.heap v bs) (ho : ordB bs) (hn : bs.length ≤ 1048576) : FnV Try.prog β (.func (.func 41) #[] #[.pointer (some ⟨c, 0, none⟩)]) (fun z : KR => [.agg #[Ix (z.a), Ix (z.b), Ix (z.len)]]) (fun _ => True) (fun z => .bool (decide (¬ okR bs z))) := by
  refine ⟨41, [], [.pointer (some (⟨c, 0, none⟩))], rfl, by kernel_rfl, fun β₁ sb0 z_ hz_ w hw => ?_⟩
  have hc1 := Cs.mono _ _ _ _ sb0 hc
  have hs1 := Sl.mono _ _ _ _ _ sb0 hs
  obtain ⟨r, hr⟩ : ∃ r, r = z_ := ⟨_, rfl⟩
  subst hr
  refine enter (n := 47) Try.func41 rfl Try.ntmps41 rfl ?_ hw
  refine c_seq ?_
  refine c_region ?_
  refine l_mv rfl rfl rfl (m_box (v := .agg #[Ix (r.a), Ix (r.b), Ix (r.len)]) rfl) ?_
  rintro _ _ ⟨b1, rfl, rfl⟩
  refine l_val (v := .bool false) rfl rfl rfl (e_assign) ?_
  refine l_nil ?_
  refine f_then ?_
  refine c_seq ?_
  refine c_region ?_
  refine l_val (v := .pointer (some ((⟨c, 0, none⟩ : Addr).add 0))) rfl rfl rfl (e_fieldAddr (a := ⟨c, 0, none⟩) rfl ua49) ?_
  refine l_val (v := v) rfl rfl rfl (e_load1 ua50 (v := v) rfl (Knows.imp (Knows.of_base (Cs.mono _ _) hc1) (fun _ h => Cs.sub (vs := [v]) 0 h rfl))) ?_
  refine l_val (v := .pointer (some ⟨b1, 0, none⟩)) rfl rfl rfl (e_fieldPt (b := b1) (o := 0) rfl ua51) ?_
  refine l_val (v := Ix (r.a)) rfl rfl rfl (e_load1 ua2 (v := Ix (r.a)) rfl (k_pt 0 (cs := #[Ix (r.a), Ix (r.b), Ix (r.len)]) (vs := [Ix (r.a)]) rfl rfl)) ?_
  refine l_call rfl rfl rfl (cl_value (fst := []) (cap := []) (vs := [v, Ix (r.a), .func (.func 32) #[] #[]]) (all := [v, Ix (r.a), .func (.func 32) #[] #[]]) ua52 rfl rfl rfl) ?_
  intro w hw
  obtain ⟨β1, sb, kn, hw1, back⟩ := St.frame_all hw
  refine (find_ok β1 w hw1 _ bs (Sl.mono _ _ _ _ _ sb hs1) (r.a) ho (by omega)).mono ?_
  rintro e w' ⟨rfl, hw'⟩
  refine ⟨_, rfl, _, back _ _ hw', ?_⟩
  clear hw hw1 hw' back kn sb
  refine l_val (v := .tuple #[Nx (lbN bs (r.a)), .bool ((findB bs (r.a)).isSome)]) rfl rfl rfl (e_move) ?_
  refine l_val (v := Nx (lbN bs (r.a))) rfl rfl rfl (e_extract (vs := #[Nx (lbN bs (r.a)), .bool ((findB bs (r.a)).isSome)]) rfl rfl) ?_
  refine l_val (v := .bool ((findB bs (r.a)).isSome)) rfl rfl rfl (e_extract (vs := #[Nx (lbN bs (r.a)), .bool ((findB bs (r.a)).isSome)]) rfl rfl) ?_
  refine l_val (v := Nx (lbN bs (r.a))) rfl rfl rfl (e_assign) ?_
  refine l_val (v := .bool ((findB bs (r.a)).isSome)) rfl rfl rfl (e_assign) ?_
  refine l_nil ?_
  refine f_then ?_
  refine c_seq ?_
  refine c_region ?_
  refine l_val (v := .pointer (some ((⟨c, 0, none⟩ : Addr).add 0))) rfl rfl rfl (e_fieldAddr (a := ⟨c, 0, none⟩) rfl ua49) ?_
  refine l_val (v := v) rfl rfl rfl (e_load1 ua50 (v := v) rfl (Knows.imp (Knows.of_base (Cs.mono _ _) hc1) (fun _ h => Cs.sub (vs := [v]) 0 h rfl))) ?_
  refine l_val (v := .pointer (some ⟨b1, 1, none⟩)) rfl rfl rfl (e_fieldPt (b := b1) (o := 0) rfl ua53) ?_
  refine l_val (v := Ix (r.b)) rfl rfl rfl (e_load1 ua2 (v := Ix (r.b)) rfl (k_pt 0 (cs := #[Ix (r.a), Ix (r.b), Ix (r.len)]) (vs := [Ix (r.b)]) rfl rfl)) ?_
  refine l_call rfl rfl rfl (cl_value (fst := []) (cap := []) (vs := [v, Ix (r.b), .func (.func 32) #[] #[]]) (all := [v, Ix (r.b), .func (.func 32) #[] #[]]) ua52 rfl rfl rfl) ?_
  intro w hw
  obtain ⟨β1, sb, kn, hw1, back⟩ := St.frame_all hw
  refine (find_ok β1 w hw1 _ bs (Sl.mono _ _ _ _ _ sb hs1) (r.b) ho (by omega)).mono ?_
  rintro e w' ⟨rfl, hw'⟩
  refine ⟨_, rfl, _, back _ _ hw', ?_⟩
  clear hw hw1 hw' back kn sb
  refine l_val (v := .tuple #[Nx (lbN bs (r.b)), .bool ((findB bs (r.b)).isSome)]) rfl rfl rfl (e_move) ?_
  refine l_val (v := Nx (lbN bs (r.b))) rfl rfl rfl (e_extract (vs := #[Nx (lbN bs (r.b)), .bool ((findB bs (r.b)).isSome)]) rfl rfl) ?_
  refine l_val (v := .bool ((findB bs (r.b)).isSome)) rfl rfl rfl (e_extract (vs := #[Nx (lbN bs (r.b)), .bool ((findB bs (r.b)).isSome)]) rfl rfl) ?_
  refine l_val (v := Nx (lbN bs (r.b))) rfl rfl rfl (e_assign) ?_
  refine l_val (v := .bool ((findB bs (r.b)).isSome)) rfl rfl rfl (e_assign) ?_
  refine l_nil ?_
  refine f_then ?_
  refine c_seq ?_
  refine c_region ?_
  refine l_val (v := .bool ((findB bs (r.a)).isSome)) rfl rfl rfl (e_move) ?_
  refine l_val (v := .bool (!((findB bs (r.a)).isSome))) rfl rfl rfl (e_not rfl) ?_
  refine l_val (v := .bool (!((findB bs (r.a)).isSome))) rfl rfl rfl (e_move) ?_
  refine l_splitb (s := 26) (b := !((findB bs (r.a)).isSome)) rfl (fun hg2 => ?_) (fun hg2 => ?_)
  ·
    refine l_skip rfl rfl rfl rfl rfl rfl ?_
    refine l_skip rfl rfl rfl rfl rfl rfl ?_
    refine l_val (v := .bool true) rfl rfl rfl (e_pick_t rfl) ?_
    refine l_val (v := .bool true) rfl rfl rfl (e_move) ?_
    refine l_skip rfl rfl rfl rfl rfl rfl ?_
    refine l_skip rfl rfl rfl rfl rfl rfl ?_
    refine l_skip rfl rfl rfl rfl rfl rfl ?_
    refine l_skip rfl rfl rfl rfl rfl rfl ?_
    refine l_skip rfl rfl rfl rfl rfl rfl ?_
    refine l_val (v := .bool true) rfl rfl rfl (e_pick_t rfl) ?_
    refine l_val (v := .bool true) rfl rfl rfl (e_move) ?_
    refine l_skip rfl rfl rfl rfl rfl rfl ?_
    refine l_skip rfl rfl rfl rfl rfl rfl ?_
    refine l_skip rfl rfl rfl rfl rfl rfl ?_
    refine l_val (v := .bool true) rfl rfl rfl (e_pick_t rfl) ?_
    refine l_val (v := .bool true) rfl rfl rfl (e_move) ?_
    refine l_skip rfl rfl rfl rfl rfl rfl ?_
    refine l_skip rfl rfl rfl rfl rfl rfl ?_
    refine l_skip rfl rfl rfl rfl rfl rfl ?_
    refine l_val (v := .bool true) rfl rfl rfl (e_pick_t rfl) ?_
    refine l_val (v := .bool true) rfl rfl rfl (e_assign) ?_
    refine l_nil ?_
    refine f_then ?_
    refine c_ret ?_
    refine ret1 Try.results41 (v := .bool true) rfl ?_
    intro w hw
    exact ⟨congrArg (fun b : Bool => Ending.returned (.bool b)) (show true = decide (¬ okR bs r) by unfold okR; simp_all <;> omega), st_mask [false] rfl hw⟩
  ·
    refine g_val (v := .bool ((findB bs (r.b)).isSome)) rfl rfl rfl rfl rfl (e_move) ?_
    refine g_val (v := .bool (!((findB bs (r.b)).isSome))) rfl rfl rfl rfl rfl (e_not rfl) ?_
    refine l_val (v := .bool (!((findB bs (r.b)).isSome))) rfl rfl rfl (e_pick_f rfl) ?_
    refine l_val (v := .bool (!((findB bs (r.b)).isSome))) rfl rfl rfl (e_move) ?_
    refine l_splitb (s := 30) (b := !((findB bs (r.b)).isSome)) rfl (fun hg3 => ?_) (fun hg3 => ?_)
    ·
      refine l_skip rfl rfl rfl rfl rfl rfl ?_
      refine l_skip rfl rfl rfl rfl rfl rfl ?_
      refine l_skip rfl rfl rfl rfl rfl rfl ?_
      refine l_skip rfl rfl rfl rfl rfl rfl ?_
      refine l_skip rfl rfl rfl rfl rfl rfl ?_
      refine l_val (v := .bool true) rfl rfl rfl (e_pick_t rfl) ?_
      refine l_val (v := .bool true) rfl rfl rfl (e_move) ?_
      refine l_skip rfl rfl rfl rfl rfl rfl ?_
      refine l_skip rfl rfl rfl rfl rfl rfl ?_
      refine l_skip rfl rfl rfl rfl rfl rfl ?_
      refine l_val (v := .bool true) rfl rfl rfl (e_pick_t rfl) ?_
      refine l_val (v := .bool true) rfl rfl rfl (e_move) ?_
      refine l_skip rfl rfl rfl rfl rfl rfl ?_
      refine l_skip rfl rfl rfl rfl rfl rfl ?_
      refine l_skip rfl rfl rfl rfl rfl rfl ?_
      refine l_val (v := .bool true) rfl rfl rfl (e_pick_t rfl) ?_
      refine l_val (v := .bool true) rfl rfl rfl (e_assign) ?_
      refine l_nil ?_
      refine f_then ?_
      refine c_ret ?_
      refine ret1 Try.results41 (v := .bool true) rfl ?_
      intro w hw
      exact ⟨congrArg (fun b : Bool => Ending.returned (.bool b)) (show true = decide (¬ okR bs r) by unfold okR; simp_all <;> omega), st_mask [false] rfl hw⟩
    ·
      refine g_val (v := .pointer (some ⟨b1, 0, none⟩)) rfl rfl rfl rfl rfl (e_fieldPt (b := b1) (o := 0) rfl ua51) ?_
      refine g_val (v := Ix (r.a)) rfl rfl rfl rfl rfl (e_load1 ua2 (v := Ix (r.a)) rfl (k_pt 0 (cs := #[Ix (r.a), Ix (r.b), Ix (r.len)]) (vs := [Ix (r.a)]) rfl rfl)) ?_
      refine g_val (v := .pointer (some ⟨b1, 1, none⟩)) rfl rfl rfl rfl rfl (e_fieldPt (b := b1) (o := 0) rfl ua53) ?_
      refine g_val (v := Ix (r.b)) rfl rfl rfl rfl rfl (e_load1 ua2 (v := Ix (r.b)) rfl (k_pt 0 (cs := #[Ix (r.a), Ix (r.b), Ix (r.len)]) (vs := [Ix (r.b)]) rfl rfl)) ?_
      refine g_val (v := .bool (decide ((r.b) ≤ (r.a)))) rfl rfl rfl rfl rfl (e_geq (a := (r.a)) (b := (r.b)) rfl rfl) ?_
      refine l_val (v := .bool (decide ((r.b) ≤ (r.a)))) rfl rfl rfl (e_pick_f rfl) ?_
      refine l_val (v := .bool (decide ((r.b) ≤ (r.a)))) rfl rfl rfl (e_move) ?_
      refine l_split (s := 37) (p := (r.b) ≤ (r.a)) rfl (fun hg4 => ?_) (fun hg4 => ?_)
      ·
        refine l_skip rfl rfl rfl rfl rfl rfl ?_
        refine l_skip rfl rfl rfl rfl rfl rfl ?_
        refine l_skip rfl rfl rfl rfl rfl rfl ?_
        refine l_val (v := .bool true) rfl rfl rfl (e_pick_t rfl) ?_
        refine l_val (v := .bool true) rfl rfl rfl (e_move) ?_
        refine l_skip rfl rfl rfl rfl rfl rfl ?_
        refine l_skip rfl rfl rfl rfl rfl rfl ?_
        refine l_skip rfl rfl rfl rfl rfl rfl ?_
        refine l_val (v := .bool true) rfl rfl rfl (e_pick_t rfl) ?_
        refine l_val (v := .bool true) rfl rfl rfl (e_assign) ?_
        refine l_nil ?_
        refine f_then ?_
        refine c_ret ?_
        refine ret1 Try.results41 (v := .bool true) rfl ?_
        intro w hw
        exact ⟨congrArg (fun b : Bool => Ending.returned (.bool b)) (show true = decide (¬ okR bs r) by unfold okR; simp_all <;> omega), st_mask [false] rfl hw⟩
      ·
        refine g_val (v := .pointer (some ⟨b1, 2, none⟩)) rfl rfl rfl rfl rfl (e_fieldPt (b := b1) (o := 0) rfl ua54) ?_
        refine g_val (v := Ix (r.len)) rfl rfl rfl rfl rfl (e_load1 ua2 (v := Ix (r.len)) rfl (k_pt 0 (cs := #[Ix (r.a), Ix (r.b), Ix (r.len)]) (vs := [Ix (r.len)]) rfl rfl)) ?_
        refine g_val (v := .bool (decide ((r.len) < (0 : Int)))) rfl rfl rfl rfl rfl (e_lss (a := (r.len)) (b := (0 : Int)) rfl rfl) ?_
        refine l_val (v := .bool (decide ((r.len) < (0 : Int)))) rfl rfl rfl (e_pick_f rfl) ?_
        refine l_val (v := .bool (decide ((r.len) < (0 : Int)))) rfl rfl rfl (e_move) ?_
        refine l_split (s := 42) (p := (r.len) < (0 : Int)) rfl (fun hg5 => ?_) (fun hg5 => ?_)
        ·
          refine l_skip rfl rfl rfl rfl rfl rfl ?_
          refine l_skip rfl rfl rfl rfl rfl rfl ?_
          refine l_skip rfl rfl rfl rfl rfl rfl ?_
          refine l_val (v := .bool true) rfl rfl rfl (e_pick_t rfl) ?_
          refine l_val (v := .bool true) rfl rfl rfl (e_assign) ?_
          refine l_nil ?_
          refine f_then ?_
          refine c_ret ?_
          refine ret1 Try.results41 (v := .bool true) rfl ?_
          intro w hw
          exact ⟨congrArg (fun b : Bool => Ending.returned (.bool b)) (show true = decide (¬ okR bs r) by unfold okR; simp_all <;> omega), st_mask [false] rfl hw⟩
        ·
          refine g_val (v := .pointer (some ⟨b1, 2, none⟩)) rfl rfl rfl rfl rfl (e_fieldPt (b := b1) (o := 0) rfl ua54) ?_
          refine g_val (v := Ix (r.len)) rfl rfl rfl rfl rfl (e_load1 ua2 (v := Ix (r.len)) rfl (k_pt 0 (cs := #[Ix (r.a), Ix (r.b), Ix (r.len)]) (vs := [Ix (r.len)]) rfl rfl)) ?_
          refine g_val (v := .bool (decide ((2097152 : Int) < (r.len)))) rfl rfl rfl rfl rfl (e_gtr (a := (r.len)) (b := (2097152 : Int)) rfl rfl) ?_
          refine l_val (v := .bool (decide ((2097152 : Int) < (r.len)))) rfl rfl rfl (e_pick_f rfl) ?_
          refine l_val (v := .bool (decide ((2097152 : Int) < (r.len)))) rfl rfl rfl (e_assign) ?_
          refine l_nil ?_
          refine f_then ?_
          refine c_ret ?_
          refine ret1 Try.results41 (v := .bool (decide ((2097152 : Int) < (r.len)))) rfl ?_
          intro w hw
          exact ⟨congrArg (fun b : Bool => Ending.returned (.bool b)) (show decide ((2097152 : Int) < (r.len)) = decide (¬ okR bs r) by unfold okR; simp_all <;> omega), st_mask [false] rfl hw⟩
set_option maxHeartbeats 4000000 in
theorem ivalid_ok (β : Base) (w : World) (hw : St β [] w) (v rv : Value) (gx gy : Int) (bs : List KB) (rs : List KR) (hs : Sl KBR β.heap v bs) (hr : Sl KRR β.heap rv rs) (hgx : -9223372036854775808 ≤ gx ∧ gx ≤ 9223372036854775807) (hgy : -9223372036854775808 ≤ gy ∧ gy ≤ 9223372036854775807) : Calls Try.prog 21 #[.agg #[v, rv, Ix gx, Ix gy]] w fun r w' => r = .returned (.bool (decide (okS bs rs gx gy))) ∧ St β [] w' := by
  obtain ⟨va, vc, rfl, vl, vm, ve⟩ := hs.get
  obtain ⟨rva, rvc, rfl, rvl, rvm, rve⟩ := hr.get
  refine enter (n := 54) Try.func21 rfl Try.ntmps21 rfl ?_ hw
  refine c_seq ?_
  refine c_region ?_
  refine l_mv rfl rfl rfl (m_box (v := .agg #[.slice va (bs.length) (vc), .slice rva (rs.length) (rvc), Ix (gx), Ix (gy)]) rfl) ?_
  rintro _ _ ⟨b1, rfl, rfl⟩
  refine l_val (v := .bool false) rfl rfl rfl (e_assign) ?_
  refine l_nil ?_
  refine f_then ?_
  refine c_seq ?_
  refine c_seq ?_
  refine c_region ?_
  refine l_val (v := .pointer (some ⟨b1, 0, none⟩)) rfl rfl rfl (e_fieldPt (b := b1) (o := 0) rfl ua49) ?_
  refine l_val (v := .slice va (bs.length) (vc)) rfl rfl rfl (e_load1 ua50 (v := .slice va (bs.length) (vc)) rfl (k_pt 0 (cs := #[.slice va (bs.length) (vc), .slice rva (rs.length) (rvc), Ix (gx), Ix (gy)]) (vs := [.slice va (bs.length) (vc)]) rfl rfl)) ?_
  refine l_val (v := Nx (bs.length)) rfl rfl rfl (e_len (a := va) (n := bs.length) (c := vc) rfl ua40) ?_
  refine l_val (v := .bool (decide ((64 : Int) < ((bs.length : Nat) : Int)))) rfl rfl rfl (e_gtr (a := ((bs.length : Nat) : Int)) (b := (64 : Int)) rfl rfl) ?_
  refine l_val (v := .bool (decide ((64 : Int) < ((bs.length : Nat) : Int)))) rfl rfl rfl (e_move) ?_
  refine l_split (s := 9) (p := (64 : Int) < ((bs.length : Nat) : Int)) rfl (fun hg2 => ?_) (fun hg2 => ?_)
  ·
    refine l_skip rfl rfl rfl rfl rfl rfl ?_
    refine l_skip rfl rfl rfl rfl rfl rfl ?_
    refine l_skip rfl rfl rfl rfl rfl rfl ?_
    refine l_skip rfl rfl rfl rfl rfl rfl ?_
    refine l_val (v := .bool true) rfl rfl rfl (e_pick_t rfl) ?_
    refine l_val (v := .bool true) rfl rfl rfl (e_move) ?_
    refine l_skip rfl rfl rfl rfl rfl rfl ?_
    refine l_skip rfl rfl rfl rfl rfl rfl ?_
    refine l_skip rfl rfl rfl rfl rfl rfl ?_
    refine l_skip rfl rfl rfl rfl rfl rfl ?_
    refine l_val (v := .bool true) rfl rfl rfl (e_pick_t rfl) ?_
    refine l_nil ?_
    refine f_then ?_
    refine c_yes rfl ?_
    refine c_seq ?_
    refine c_region ?_
    refine l_val (v := .bool false) rfl rfl rfl (e_assign) ?_
    refine l_nil ?_
    refine f_then ?_
    refine c_ret ?_
    refine f_then_ret ?_
    refine ret1 Try.results21 (v := .bool false) rfl ?_
    intro w hw
    exact ⟨congrArg (fun b : Bool => Ending.returned (.bool b)) (decide_eq_false fun h => by have q1 := h.1; have q2 := h.2.1; omega).symm, st_mask [false] rfl hw⟩
  ·
    refine g_val (v := .pointer (some ⟨b1, 1, none⟩)) rfl rfl rfl rfl rfl (e_fieldPt (b := b1) (o := 0) rfl ua55) ?_
    refine g_val (v := .slice rva (rs.length) (rvc)) rfl rfl rfl rfl rfl (e_load1 ua56 (v := .slice rva (rs.length) (rvc)) rfl (k_pt 0 (cs := #[.slice va (bs.length) (vc), .slice rva (rs.length) (rvc), Ix (gx), Ix (gy)]) (vs := [.slice rva (rs.length) (rvc)]) rfl rfl)) ?_
    refine g_val (v := Nx (rs.length)) rfl rfl rfl rfl rfl (e_len (a := rva) (n := rs.length) (c := rvc) rfl ua45) ?_
    refine g_val (v := .bool (decide ((32 : Int) < ((rs.length : Nat) : Int)))) rfl rfl rfl rfl rfl (e_gtr (a := ((rs.length : Nat) : Int)) (b := (32 : Int)) rfl rfl) ?_
    refine l_val (v := .bool (decide ((32 : Int) < ((rs.length : Nat) : Int)))) rfl rfl rfl (e_pick_f rfl) ?_
    refine l_val (v := .bool (decide ((32 : Int) < ((rs.length : Nat) : Int)))) rfl rfl rfl (e_move) ?_
    refine l_split (s := 15) (p := (32 : Int) < ((rs.length : Nat) : Int)) rfl (fun hg3 => ?_) (fun hg3 => ?_)
    ·
      refine l_skip rfl rfl rfl rfl rfl rfl ?_
      refine l_skip rfl rfl rfl rfl rfl rfl ?_
      refine l_skip rfl rfl rfl rfl rfl rfl ?_
      refine l_skip rfl rfl rfl rfl rfl rfl ?_
      refine l_val (v := .bool true) rfl rfl rfl (e_pick_t rfl) ?_
      refine l_nil ?_
      refine f_then ?_
      refine c_yes rfl ?_
      refine c_seq ?_
      refine c_region ?_
      refine l_val (v := .bool false) rfl rfl rfl (e_assign) ?_
      refine l_nil ?_
      refine f_then ?_
      refine c_ret ?_
      refine f_then_ret ?_
      refine ret1 Try.results21 (v := .bool false) rfl ?_
      intro w hw
      exact ⟨congrArg (fun b : Bool => Ending.returned (.bool b)) (decide_eq_false fun h => by have q1 := h.1; have q2 := h.2.1; omega).symm, st_mask [false] rfl hw⟩
    ·
      refine g_val (v := .pointer (some ⟨b1, 2, none⟩)) rfl rfl rfl rfl rfl (e_fieldPt (b := b1) (o := 0) rfl ua57) ?_
      refine g_val (v := .agg #[Ix (gx), Ix (gy)]) rfl rfl rfl rfl rfl (e_load ua15 (cs := [Ix (gx), Ix (gy)]) rfl (k_pt 0 (cs := #[.slice va (bs.length) (vc), .slice rva (rs.length) (rvc), Ix (gx), Ix (gy)]) (vs := [Ix (gx), Ix (gy)]) rfl rfl) rfl) ?_
      refine g_call rfl rfl rfl rfl rfl (cl_value (fst := []) (cap := []) (vs := [.agg #[Ix (gx), Ix (gy)]]) (all := [.agg #[Ix (gx), Ix (gy)]]) ua34 rfl rfl rfl) ?_
      intro w hw
      obtain ⟨β1, sb, kn, hw1, back⟩ := St.frame_all hw
      refine (pull_ok β1 w hw1 (gx) (gy) (by omega) (by omega)).mono ?_
      rintro e w' ⟨rfl, hw'⟩
      refine ⟨_, rfl, _, back _ _ hw', ?_⟩
      clear hw hw1 hw' back kn sb
      refine g_val (v := .bool (decide (¬ (okV (gx) (gy))))) rfl rfl rfl rfl rfl (e_not_p (p := okV (gx) (gy)) rfl) ?_
      refine l_val (v := .bool (decide (¬ (okV (gx) (gy))))) rfl rfl rfl (e_pick_f rfl) ?_
      refine l_nil ?_
      refine f_then ?_
      refine c_if (¬ (okV (gx) (gy))) rfl (fun hc4 => ?_) (fun hc4 => ?_)
      ·
        refine c_seq ?_
        refine c_region ?_
        refine l_val (v := .bool false) rfl rfl rfl (e_assign) ?_
        refine l_nil ?_
        refine f_then ?_
        refine c_ret ?_
        refine f_then_ret ?_
        refine ret1 Try.results21 (v := .bool false) rfl ?_
        intro w hw
        exact ⟨congrArg (fun b : Bool => Ending.returned (.bool b)) (decide_eq_false fun h => by have q1 := h.1; have q2 := h.2.1; exact hc4 h.2.2.1).symm, st_mask [false] rfl hw⟩
      ·
        refine c_skip ?_
        refine f_then ?_
        refine c_seq ?_
        refine c_seq ?_
        have hov := Decidable.not_not.1 hc4
        refine c_region ?_
        refine l_val (v := .pointer (some ⟨b1, 0, none⟩)) rfl rfl rfl (e_fieldPt (b := b1) (o := 0) rfl ua49) ?_
        refine l_val (v := .slice va (bs.length) (vc)) rfl rfl rfl (e_load1 ua50 (v := .slice va (bs.length) (vc)) rfl (k_pt 0 (cs := #[.slice va (bs.length) (vc), .slice rva (rs.length) (rvc), Ix (gx), Ix (gy)]) (vs := [.slice va (bs.length) (vc)]) rfl rfl)) ?_
        refine l_val (v := Nx (bs.length)) rfl rfl rfl (e_len (a := va) (n := bs.length) (c := vc) rfl ua40) ?_
        refine l_val (v := .int .i64 (0)) rfl rfl rfl (e_move) ?_
        refine l_nil ?_
        refine f_then ?_
        refine c_block ?_
        refine c_mask [true] rfl ?_
        refine c_loop (fun (k : Nat) (f : Fm) (L : List Res) => (f 1 = .pointer (some ⟨b1, 0, none⟩) ∧ f 22 = .slice va (bs.length) (vc) ∧ f 23 = Nx (bs.length) ∧ f 24 = Nx (k)) ∧ L = [pt b1 (.cells #[.slice va (bs.length) (vc), .slice rva (rs.length) (rvc), Ix (gx), Ix (gy)] 32)] ∧ (k ≤ bs.length ∧ (∀ b ∈ bs.take k, okB b) ∧ ∀ i a b, i + 1 < k → bs[i]? = some a → bs[i + 1]? = some b → a.id < b.id)) (fun (k : Nat) => bs.length - k) 0 ?_ ?_
        · exact ⟨⟨rfl, rfl, rfl, rfl⟩, rfl, ⟨by omega, fun y hy => by simp at hy, fun i a b h => by omega⟩⟩
        rintro k f0 L0 ⟨⟨hs1, hs22, hs23, hs24⟩, hL, ⟨hk, hp1, hp2⟩⟩
        subst L0
        refine rebase (d := 1) hs1 ?_
        refine rebase (d := 22) hs22 ?_
        refine rebase (d := 23) hs23 ?_
        refine rebase (d := 24) hs24 ?_
        clear hs1 hs22 hs23 hs24
        refine c_seq ?_
        refine c_region ?_
        refine l_val (v := .bool (decide (((k : Nat) : Int) < ((bs.length : Nat) : Int)))) rfl rfl rfl (e_lss (a := ((k : Nat) : Int)) (b := ((bs.length : Nat) : Int)) rfl rfl) ?_
        refine l_nil ?_
        refine f_then ?_
        refine c_seq ?_
        refine c_if (((k : Nat) : Int) < ((bs.length : Nat) : Int)) rfl (fun hc5 => ?_) (fun hc5 => ?_)
        ·
          refine c_skip ?_
          refine f_then ?_
          refine c_seq ?_
          refine c_block ?_
          refine c_seq ?_
          refine c_region ?_
          refine l_val (v := Nx (k)) rfl rfl rfl (e_move) ?_
          obtain ⟨x6, hx7⟩ : ∃ x_, (bs)[k]? = some x_ := ⟨_, List.getElem?_eq_getElem (by omega)⟩
          obtain ⟨ha8, cs9, hc10, rfl⟩ := ve _ _ hx7
          refine l_val (v := .pointer (some ((ba va).add (k * 9)))) rfl rfl rfl (e_indexAddr (k := k) (len := bs.length) (cap := vc) (a := va) rfl rfl ua43 (by omega) ha8) ?_
          refine l_val (v := .agg (bC x6)) rfl rfl rfl (e_load ua22 (cs := (bodyE x6)) rfl (Knows.of_base (Cs.mono _ _) hc10) rfl) ?_
          refine l_mv rfl rfl rfl (m_alloc ua58) ?_
          rintro _ _ ⟨b12, rfl, rfl⟩
          refine l_val (v := Nx (k)) rfl rfl rfl (e_assign) ?_
          refine l_mu rfl rfl (m_store 0 ua22 (b := b12) (o := 0) (T := 39) (cs := #[.int .i64 (0), .int .i64 (0), .int .i64 (0), .int .i64 (0), .int .i64 (0), .int .i64 (0), .int .i64 (0), .bool false, .bool false]) (cs' := (bC x6)) (v := .agg (bC x6)) rfl rfl rfl rfl rfl rfl rfl) ?_
          refine l_nil ?_
          refine f_then ?_
          refine c_seq ?_
          refine c_quiet (by kernel_rfl) (by kernel_rfl) ?_
          refine q_val (v := .agg (bC x6)) rfl rfl rfl (e_load ua22 (cs := (bodyE x6)) rfl (k_pt 0 (cs := (bC x6)) (vs := (bodyE x6)) rfl rfl) rfl) ?_
          refine q_call (v := .bool (decide (okB x6))) rfl rfl rfl (cl_value (fst := []) (cap := []) (vs := [.agg (bC x6)]) (all := [.agg (bC x6)]) ua24 rfl rfl rfl) (fun w hw => ?_) ?_
          · obtain ⟨β1, sb, kn, hw1, back⟩ := St.frame_all hw
            exact (valid_ok β1 w hw1 x6).mono (fun e w' ⟨he, hw'⟩ => ⟨he, st_mask [true, true] rfl (back _ _ hw')⟩)
          refine q_val (v := .bool (decide (¬ (okB x6)))) rfl rfl rfl (e_not_p (p := okB x6) rfl) ?_
          refine q_val (v := .bool (decide (¬ (okB x6)))) rfl rfl rfl (e_move) ?_
          refine q_split (s := 32) (p := ¬ (okB x6)) rfl (fun hg13 => ?_) (fun hg13 => ?_)
          ·
            refine q_skip rfl rfl rfl rfl rfl rfl ?_
            refine q_skip rfl rfl rfl rfl rfl rfl ?_
            refine q_skip rfl rfl rfl rfl rfl rfl ?_
            refine q_skip_u rfl rfl rfl rfl rfl ?_
            refine q_skip_u rfl rfl rfl rfl rfl ?_
            refine q_skip_u rfl rfl rfl rfl rfl ?_
            refine q_skip_u rfl rfl rfl rfl rfl ?_
            refine q_skip_u rfl rfl rfl rfl rfl ?_
            refine q_skip_u rfl rfl rfl rfl rfl ?_
            refine q_skip_u rfl rfl rfl rfl rfl ?_
            refine q_skip_u rfl rfl rfl rfl rfl ?_
            refine q_skip_u rfl rfl rfl rfl rfl ?_
            refine q_skip_u rfl rfl rfl rfl rfl ?_
            refine q_skip rfl rfl rfl rfl rfl rfl ?_
            refine q_val (v := .bool true) rfl rfl rfl (e_pick_t rfl) ?_
            refine q_nil ?_
            refine f_then ?_
            refine c_yes rfl ?_
            refine c_seq ?_
            refine c_region ?_
            refine l_val (v := .bool false) rfl rfl rfl (e_assign) ?_
            refine l_nil ?_
            refine f_then ?_
            refine c_ret ?_
            refine f_block_ret ?_
            refine f_then_ret ?_
            refine f_then_ret ?_
            refine f_block_ret ?_
            refine f_then_ret ?_
            refine ret1 Try.results21 (v := .bool false) rfl ?_
            intro w hw
            exact ⟨congrArg (fun b : Bool => Ending.returned (.bool b)) (decide_eq_false fun h => hg13 (h.2.2.2.1 _ (List.mem_of_getElem? hx7))).symm, st_mask [false, false] rfl hw⟩
          ·
            have hok := Decidable.not_not.1 hg13
            refine qg_val (v := Nx (k)) rfl rfl rfl rfl rfl (e_move) ?_
            refine qg_val (v := .bool (decide ((0 : Int) < ((k : Nat) : Int)))) rfl rfl rfl rfl rfl (e_gtr (a := ((k : Nat) : Int)) (b := (0 : Int)) rfl rfl) ?_
            refine qg_val (v := .bool (decide ((0 : Int) < ((k : Nat) : Int)))) rfl rfl rfl rfl rfl (e_move) ?_
            refine q_split (s := 35) (p := (0 : Int) < ((k : Nat) : Int)) rfl (fun hg14 => ?_) (fun hg14 => ?_)
            ·
              have hk0 : 0 < k := by omega
              refine qg_val (v := .pointer (some ⟨b12, 0, none⟩)) rfl rfl rfl rfl rfl (e_fieldPt (b := b12) (o := 0) rfl ua3) ?_
              refine qg_val (v := Ix (x6.id)) rfl rfl rfl rfl rfl (e_load1 ua2 (v := Ix (x6.id)) rfl (k_pt 0 (cs := (bC x6)) (vs := [Ix (x6.id)]) rfl rfl)) ?_
              refine qg_val (v := .pointer (some ⟨b1, 0, none⟩)) rfl rfl rfl rfl rfl (e_fieldPt (b := b1) (o := 0) rfl ua49) ?_
              refine qg_val (v := .slice va (bs.length) (vc)) rfl rfl rfl rfl rfl (e_load1 ua50 (v := .slice va (bs.length) (vc)) rfl (k_pt 1 (cs := #[.slice va (bs.length) (vc), .slice rva (rs.length) (rvc), Ix (gx), Ix (gy)]) (vs := [.slice va (bs.length) (vc)]) rfl rfl)) ?_
              refine qg_val (v := Nx (k)) rfl rfl rfl rfl rfl (e_move) ?_
              refine qg_val (v := Nx (k - 1)) rfl rfl rfl rfl rfl (ev_eq (congrArg (Value.int .i64) (by omega)) (e_sub (a := ((k : Nat) : Int)) (b := (1 : Int)) rfl rfl (i64w (by omega)))) ?_
              obtain ⟨x15, hx16⟩ : ∃ x_, (bs)[k - 1]? = some x_ := ⟨_, List.getElem?_eq_getElem (by omega)⟩
              obtain ⟨ha17, cs18, hc19, rfl⟩ := ve _ _ hx16
              refine qg_val (v := .pointer (some ((ba va).add ((k - 1) * 9)))) rfl rfl rfl rfl rfl (e_indexAddr (k := k - 1) (len := bs.length) (cap := vc) (a := va) rfl rfl ua43 (by omega) ha17) ?_
              refine qg_val (v := .pointer (some (((ba va).add ((k - 1) * 9) : Addr).add 0))) rfl rfl rfl rfl rfl (e_fieldAddr (a := (ba va).add ((k - 1) * 9)) rfl ua3) ?_
              refine qg_val (v := Ix (x15.id)) rfl rfl rfl rfl rfl (e_load1 ua2 (v := Ix (x15.id)) rfl (Knows.imp (Knows.of_base (Cs.mono _ _) hc19) (fun _ h => Cs.sub (vs := [Ix (x15.id)]) 0 h rfl))) ?_
              refine qg_val (v := .bool (decide ((x6.id) ≤ (x15.id)))) rfl rfl rfl rfl rfl (e_leq (a := (x6.id)) (b := (x15.id)) rfl rfl) ?_
              refine qg_val (v := .bool (decide ((x6.id) ≤ (x15.id)))) rfl rfl rfl rfl rfl (e_pick_t rfl) ?_
              refine q_val (v := .bool (decide ((x6.id) ≤ (x15.id)))) rfl rfl rfl (e_pick_f rfl) ?_
              refine q_nil ?_
              refine f_then ?_
              refine c_if ((x6.id) ≤ (x15.id)) rfl (fun hc21 => ?_) (fun hc21 => ?_)
              ·
                refine c_seq ?_
                refine c_region ?_
                refine l_val (v := .bool false) rfl rfl rfl (e_assign) ?_
                refine l_nil ?_
                refine f_then ?_
                refine c_ret ?_
                refine f_block_ret ?_
                refine f_then_ret ?_
                refine f_then_ret ?_
                refine f_block_ret ?_
                refine f_then_ret ?_
                refine ret1 Try.results21 (v := .bool false) rfl ?_
                intro w hw
                exact ⟨congrArg (fun b : Bool => Ending.returned (.bool b)) (decide_eq_false fun h => absurd (h.2.2.2.2.1 (k - 1) x15 x6 hx16 (by rw [show k - 1 + 1 = k by omega]; exact hx7)) (by omega)).symm, st_mask [false, false] rfl hw⟩
              ·
                refine c_skip ?_
                refine f_block ?_
                refine f_then ?_
                refine c_region ?_
                refine l_val (v := Nx (k + 1)) rfl rfl rfl (e_add (a := ((k : Nat) : Int)) (b := (1 : Int)) rfl rfl (i64n (by omega) (by omega))) ?_
                refine l_val (v := Nx (k + 1)) rfl rfl rfl (e_move) ?_
                refine l_nil ?_
                refine f_mask (L' := [pt b1 (.cells #[.slice va (bs.length) (vc), .slice rva (rs.length) (rvc), Ix (gx), Ix (gy)] 32)]) [false, true] rfl ?_
                exact f_cut ⟨k + 1, ⟨⟨rfl, rfl, rfl, rfl⟩, rfl, ⟨by omega, okS_next hx7 hp1 hok, ord_next hx7 hp2 (fun _ z hz => by rw [hx16] at hz; injection hz with hz; rw [← hz]; omega)⟩⟩, (show bs.length - (k + 1) < bs.length - k from by omega)⟩
            ·
              refine q_skip rfl rfl rfl rfl rfl rfl ?_
              refine q_skip rfl rfl rfl rfl rfl rfl ?_
              refine q_skip rfl rfl rfl rfl rfl rfl ?_
              refine q_skip rfl rfl rfl rfl rfl rfl ?_
              refine q_skip rfl rfl rfl rfl rfl rfl ?_
              refine q_skip rfl rfl rfl rfl rfl rfl ?_
              refine q_skip rfl rfl rfl rfl rfl rfl ?_
              refine q_skip rfl rfl rfl rfl rfl rfl ?_
              refine q_skip rfl rfl rfl rfl rfl rfl ?_
              refine q_skip rfl rfl rfl rfl rfl rfl ?_
              refine qg_val (v := .bool false) rfl rfl rfl rfl rfl (e_pick_f rfl) ?_
              refine q_val (v := .bool false) rfl rfl rfl (e_pick_f rfl) ?_
              refine q_nil ?_
              refine f_then ?_
              refine c_no rfl ?_
              refine c_skip ?_
              refine f_block ?_
              refine f_then ?_
              refine c_region ?_
              refine l_val (v := Nx (k + 1)) rfl rfl rfl (e_add (a := ((k : Nat) : Int)) (b := (1 : Int)) rfl rfl (i64n (by omega) (by omega))) ?_
              refine l_val (v := Nx (k + 1)) rfl rfl rfl (e_move) ?_
              refine l_nil ?_
              refine f_mask (L' := [pt b1 (.cells #[.slice va (bs.length) (vc), .slice rva (rs.length) (rvc), Ix (gx), Ix (gy)] 32)]) [false, true] rfl ?_
              exact f_cut ⟨k + 1, ⟨⟨rfl, rfl, rfl, rfl⟩, rfl, ⟨by omega, okS_next hx7 hp1 hok, ord_next hx7 hp2 (fun hk' => absurd hk' (by omega))⟩⟩, (show bs.length - (k + 1) < bs.length - k from by omega)⟩
        ·
          refine c_exit ?_
          refine f_then_exit ?_
          refine f_then_exit ?_
          refine f_exit ?_
          refine f_then ?_
          refine c_seq ?_
          refine c_region ?_
          refine l_val (v := .pointer (some ⟨b1, 1, none⟩)) rfl rfl rfl (e_fieldPt (b := b1) (o := 0) rfl ua55) ?_
          refine l_val (v := .slice rva (rs.length) (rvc)) rfl rfl rfl (e_load1 ua56 (v := .slice rva (rs.length) (rvc)) rfl (k_pt 0 (cs := #[.slice va (bs.length) (vc), .slice rva (rs.length) (rvc), Ix (gx), Ix (gy)]) (vs := [.slice rva (rs.length) (rvc)]) rfl rfl)) ?_
          refine l_val (v := .func (.func 41) #[] #[.pointer (some ⟨b1, 0, none⟩)]) rfl rfl rfl (e_func (u := []) (v := [.pointer (some ⟨b1, 0, none⟩)]) rfl rfl) ?_
          refine l_call rfl rfl rfl (cl_value (fst := []) (cap := []) (vs := [.slice rva (rs.length) (rvc), .func (.func 41) #[] #[.pointer (some ⟨b1, 0, none⟩)]]) (all := [.slice rva (rs.length) (rvc), .func (.func 41) #[] #[.pointer (some ⟨b1, 0, none⟩)]]) ua59 rfl rfl rfl) ?_
          intro w hw
          obtain ⟨β1, sb, kn, hw1, back⟩ := St.frame_all hw
          refine (containsR_ok β1 w hw1 _ _ rs (Sl.mono _ _ _ _ _ sb (⟨⟨_, _, rfl, rvl, rvm, rve⟩⟩ : Sl KRR _ _ rs)) (fun z => decide (¬ okR bs z)) (fnv_all (valid1_fn β1 b1 _ _ gx gy bs (kn _ (k_pt 0 (o := 0) (cs := #[.slice va (bs.length) (vc), .slice rva (rs.length) (rvc), Ix (gx), Ix (gy)]) (vs := [.slice va (bs.length) (vc), .slice rva (rs.length) (rvc), Ix (gx), Ix (gy)]) rfl rfl)) (Sl.mono _ _ _ _ _ sb (⟨⟨_, _, rfl, vl, vm, ve⟩⟩ : Sl KBR _ _ bs)) (ord_all (by omega) hp2) (by omega)))).mono ?_
          rintro e w' ⟨rfl, hw'⟩
          refine ⟨_, rfl, _, back _ _ hw', ?_⟩
          clear hw hw1 hw' back kn sb
          refine l_val (v := .bool (!(rs.any fun z => decide (¬ okR bs z)))) rfl rfl rfl (e_not rfl) ?_
          refine l_val (v := .bool (!(rs.any fun z => decide (¬ okR bs z)))) rfl rfl rfl (e_assign) ?_
          refine l_nil ?_
          refine f_then ?_
          refine c_ret ?_
          refine ret1 Try.results21 (v := .bool (!(rs.any fun z => decide (¬ okR bs z)))) rfl ?_
          intro w hw
          exact ⟨congrArg (fun b : Bool => Ending.returned (.bool b)) (valid_end (by omega) (by omega) hov (ok_all (by omega) hp1) (ord_all (by omega) hp2)), st_mask [false] rfl hw⟩
end Go.Proofs
namespace Go.Proofs
open Go Go.Sl Go.Stp
end Go.Proofs
namespace Go.Proofs
open Go Go.Sl Go.Stp
theorem ua77 : (Try.prog.info? 49).bind (·.zero) = some (.agg #[.int .i64 (0), .int .i64 (0), .int .i64 (0)]) := by kernel_rfl
end Go.Proofs
namespace Go.Proofs
open Go Go.Sl Go.Stp
end Go.Proofs
namespace Go.Proofs
open Go Go.Sl Go.Stp
theorem ua83 : elB Try.prog 39 9 64 = true := by kernel_rfl
theorem ua84 : elB Try.prog 49 3 24 = true := by kernel_rfl
theorem ua85 : (Try.prog.info? 32).bind (·.zero) = some (.agg #[.slice none 0 0, .slice none 0 0, .int .i64 (0), .int .i64 (0)]) := by kernel_rfl
theorem ua86 : tyB Try.prog 32 true 4 = true := by kernel_rfl
theorem ua88 : stB Try.prog 32 [(0, 1), (1, 1), (2, 2)] = true := by kernel_rfl
theorem ua97 : tyB Try.prog 5 false 1 = true := by kernel_rfl
theorem cloneB_ok (β : Base) (w : World) (hw : St β [] w) (v : Value) (xs : List KB) (hs : Sl KBR β.heap v xs) (hn : xs.length ≤ 1048576) : Calls Try.prog 27 #[v] w fun r w' => ∃ p c, r = .returned (.slice p xs.length c) ∧ St β [rowF BodyF 39 p c xs] w' := by
  obtain ⟨va, vc, rfl, vl, vm, ve⟩ := hs.get
  refine enter (n := 8) Try.func27 rfl Try.ntmps27 rfl ?_ hw
  refine c_seq ?_
  refine c_region ?_
  refine l_val (v := .slice none 0 0) rfl rfl rfl (e_assign) ?_
  refine l_nil ?_
  refine f_then ?_
  refine c_seq ?_
  refine c_seq ?_
  refine c_region ?_
  refine l_val (v := .slice va (xs.length) (vc)) rfl rfl rfl (e_move) ?_
  refine l_val (v := .bool (va.isNone)) rfl rfl rfl (e_eql_snil (a := va) rfl rfl ua40) ?_
  refine l_nil ?_
  refine f_then ?_
  refine c_ifb (va.isNone) rfl (fun hc1 => ?_) (fun hc1 => ?_)
  ·
    refine c_seq ?_
    refine c_region ?_
    refine l_val (v := .slice none 0 0) rfl rfl rfl (e_assign) ?_
    refine l_nil ?_
    refine f_then ?_
    refine c_ret ?_
    refine f_then_ret ?_
    refine ret1 Try.results27 (v := .slice none 0 0) rfl ?_
    intro w hw
    obtain rfl := nil_empty ve hc1
    exact ⟨none, 0, rfl, (st_mask [] rfl hw).emp (row_nil _ _ _)⟩
  ·
    refine c_skip ?_
    refine f_then ?_
    refine c_seq ?_
    refine c_region ?_
    refine l_mv rfl rfl rfl (m_slice0 ua43) ?_
    rintro _ _ ⟨b2, rfl, rfl⟩
    refine l_val (v := .slice va (xs.length) (vc)) rfl rfl rfl (e_move) ?_
    refine l_conseq 0 (r' := rowF BodyF 39 (some ⟨b2, 0, none⟩) 0 []) rfl (fun a h => pt_row (m := 0) (by decide) rfl a h) ?_
    refine l_mv rfl rfl rfl (m_appendFlN (F := BodyF) 0 ua43 ua83 (p := (some ⟨b2, 0, none⟩)) (m := 0) (xs := []) (ys := xs) (ao := va) (k := xs.length) (c := vc) rfl rfl rfl rfl rfl (Knows.of_base (Elems.mono _ _ _) ve) (by first | omega | simp only [List.length_nil, List.length_cons, List.length_append, List.length_set]; omega) (by first | omega | simp only [List.length_nil, List.length_cons, List.length_append, List.length_set]; omega)) ?_
    rintro _ _ ⟨rp3, rc4, rfl, rfl⟩
    refine l_val (v := .slice rp3 (xs.length) rc4) rfl rfl rfl (e_assign) ?_
    refine l_nil ?_
    refine f_then ?_
    refine c_ret ?_
    refine ret1 Try.results27 (v := .slice rp3 (xs.length) rc4) rfl ?_
    intro w hw
    exact ⟨_, _, rfl, st_mask (L' := [rowF BodyF 39 rp3 rc4 xs]) [true] rfl hw⟩
end Go.Proofs
namespace Go.Stp
abbrev f0 : List KB := [⟨1, 40, 0, 0, 0, 10, 10, false, false⟩, ⟨2, 60, 0, 0, 0, 10, 10, false, true⟩]
end Go.Stp
namespace Go.Proofs
open Go Go.Sl Go.Stp
theorem ua102 : stB Try.prog 39 [(0, 1), (1, 2), (3, 2), (5, 1), (6, 1), (7, 1), (8, 1)] = true := by kernel_rfl
end Go.Proofs
namespace Go.Proofs
open Go Go.Sl Go.Stp
theorem ua110 : stB Try.prog 49 [(0, 1), (1, 1), (2, 1)] = true := by kernel_rfl
end Go.Proofs
namespace Go.Proofs
open Go Go.Sl Go.Stp
theorem ua114 : Try.prog.underlying 24 = some (.int .i8) := by kernel_rfl
theorem ua115 : Try.prog.underlying 22 = some (.slice 67) := by kernel_rfl
theorem ua116 : slB Try.prog 22 67 8 = true := by kernel_rfl
theorem ua117 : tyB Try.prog 67 true 8 = true := by kernel_rfl
theorem ua118 : (Try.prog.info? 67).bind (·.zero) = some (.agg #[.int .i8 (0), .int .i8 (0), .int .i8 (0), .int .i8 (0), .int .u8 (0), .int .u8 (0), .bool false, .bool false]) := by kernel_rfl
theorem ua119 : fldB Try.prog 67 0 0 1 false = true := by kernel_rfl
theorem ua120 : tyB Try.prog 24 false 1 = true := by kernel_rfl
theorem ua121 : fldB Try.prog 67 1 1 1 false = true := by kernel_rfl
theorem ua122 : fldB Try.prog 67 2 2 1 false = true := by kernel_rfl
theorem ua123 : fldB Try.prog 67 3 3 1 false = true := by kernel_rfl
theorem ua124 : fldB Try.prog 67 4 4 1 false = true := by kernel_rfl
theorem ua125 : Try.prog.underlying 5 = some (.int .u8) := by kernel_rfl
theorem ua126 : fldB Try.prog 67 5 5 1 false = true := by kernel_rfl
theorem ua127 : fldB Try.prog 67 6 6 1 false = true := by kernel_rfl
theorem ua128 : fldB Try.prog 67 7 7 1 false = true := by kernel_rfl
theorem ua129 : Try.prog.underlying 23 = some (.slice 5) := by kernel_rfl
theorem ua130 : slB Try.prog 23 5 1 = true := by kernel_rfl
set_option maxHeartbeats 4000000 in
theorem made7_ok (β : Base) (w : World) (hw : St β [] w) (v u : Value) (fs : List KF) (us : List UInt8) (hs : Sl FormR β.heap v fs) (hu : Sl U8R β.heap u us) (gx gy : Int) (hgx8 : -128 ≤ gx ∧ gx ≤ 127) (hgy8 : -128 ≤ gy ∧ gy ≤ 127) : Calls Try.prog 10 #[v, u, .int .i8 gx, .int .i8 gy] w fun r w' => ∃ bs R p c p2 c2, r = .returned (.agg #[.slice p bs.length c, .slice p2 R.length c2, Ix (Int.tmod gx 32), Ix (Int.tmod gy 32)]) ∧ MadeP bs R (Int.tmod gx 32) (Int.tmod gy 32) ∧ bs.length = min fs.length 16 ∧ 2 * R.length ≤ us.length ∧ St β [rowF BodyF 39 p c bs, rowF RopeF 49 p2 c2 R] w' := by
  obtain ⟨va, vc, rfl, vl, vm, ve⟩ := hs.get
  obtain ⟨ua, uc, rfl, ul, um, ue⟩ := hu.get
  refine enter (n := 145) Try.func10 rfl Try.ntmps10 rfl ?_ hw
  refine c_seq ?_
  refine c_region ?_
  refine l_mv rfl rfl rfl (m_alloc ua85) ?_
  rintro _ _ ⟨b1, rfl, rfl⟩
  refine l_nil ?_
  refine f_then ?_
  refine c_seq ?_
  refine c_region ?_
  refine l_val (v := .int .i8 (gx)) rfl rfl rfl (e_move) ?_
  refine l_val (v := Ix (gx)) rfl rfl rfl (e_conv (a := (gx)) rfl ⟨_, ua114⟩ ua41 (i64w (by omega))) ?_
  refine l_val (v := Ix (Int.tmod (gx) 32)) rfl rfl rfl (e_rem (a := (gx)) (b := (32 : Int)) rfl rfl (by decide) rfl) ?_
  refine l_val (v := .int .i8 (gy)) rfl rfl rfl (e_move) ?_
  refine l_val (v := Ix (gy)) rfl rfl rfl (e_conv (a := (gy)) rfl ⟨_, ua114⟩ ua41 (i64w (by omega))) ?_
  refine l_val (v := Ix (Int.tmod (gy) 32)) rfl rfl rfl (e_rem (a := (gy)) (b := (32 : Int)) rfl rfl (by decide) rfl) ?_
  refine l_val (v := .agg #[Ix (Int.tmod (gx) 32), Ix (Int.tmod (gy) 32)]) rfl rfl rfl (e_build ua17 ua16 (vs := [(0, Ix (Int.tmod (gx) 32)), (1, Ix (Int.tmod (gy) 32))]) (cells := #[Ix (Int.tmod (gx) 32), Ix (Int.tmod (gy) 32)]) rfl rfl) ?_
  refine l_val (v := .agg #[.slice none 0 0, .slice none 0 0, Ix (Int.tmod (gx) 32), Ix (Int.tmod (gy) 32)]) rfl rfl rfl (e_build ua85 ua88 (vs := [(2, .agg #[Ix (Int.tmod (gx) 32), Ix (Int.tmod (gy) 32)])]) (cells := #[.slice none 0 0, .slice none 0 0, Ix (Int.tmod (gx) 32), Ix (Int.tmod (gy) 32)]) rfl rfl) ?_
  refine l_mv rfl rfl rfl (m_alloc ua85) ?_
  rintro _ _ ⟨b2, rfl, rfl⟩
  refine l_mu rfl rfl (m_store 0 ua86 (b := b2) (o := 0) (T := 32) (cs := #[.slice none 0 0, .slice none 0 0, .int .i64 (0), .int .i64 (0)]) (cs' := #[.slice none 0 0, .slice none 0 0, Ix (Int.tmod (gx) 32), Ix (Int.tmod (gy) 32)]) (v := .agg #[.slice none 0 0, .slice none 0 0, Ix (Int.tmod (gx) 32), Ix (Int.tmod (gy) 32)]) rfl rfl rfl rfl rfl rfl rfl) ?_
  refine l_nil ?_
  refine f_then ?_
  refine c_emp (r := rowF BodyF 39 none 0 []) (row_nil _ _ _) ?_
  have hgx := tmod_bd gx
  have hgy := tmod_bd gy
  obtain ⟨gX, hgX⟩ : ∃ z, z = Int.tmod gx 32 := ⟨_, rfl⟩
  obtain ⟨gY, hgY⟩ : ∃ z, z = Int.tmod gy 32 := ⟨_, rfl⟩
  rw [← hgX] at hgx
  rw [← hgY] at hgy
  rw [← hgX, ← hgY]
  refine c_seq_cut (fun (f : Fm) (L : List Res) => ∃ (n : Nat) (bs : List KB) (p : Option Addr) (c : Nat), (f 1 = .slice ua (us.length) (uc) ∧ f 8 = .pointer (some ⟨b1, 0, none⟩) ∧ f 9 = .pointer (some ⟨b2, 0, none⟩)) ∧ L = [rowF BodyF 39 p c bs, pt b2 (.cells #[.slice p (bs.length) c, .slice none 0 0, Ix (gX), Ix (gY)] 32), pt b1 (.cells #[.slice none 0 0, .slice none 0 0, .int .i64 (0), .int .i64 (0)] 32)] ∧ (bs.length ≤ 16 ∧ madeL bs ∧ bs.length = min fs.length 16)) ?_ ?_
  ·
    refine c_seq ?_
    refine c_region ?_
    refine l_val (v := .int .i64 (0)) rfl rfl rfl (e_assign) ?_
    refine l_nil ?_
    refine f_then ?_
    refine c_block ?_
    refine c_mask [true, true, true] rfl ?_
    refine c_loop (fun (x_ : Nat × List KB × Option Addr × Nat) (f : Fm) (L : List Res) => match x_ with | (n, bs, p, c) => (f 0 = .slice va (fs.length) (vc) ∧ f 1 = .slice ua (us.length) (uc) ∧ f 8 = .pointer (some ⟨b1, 0, none⟩) ∧ f 9 = .pointer (some ⟨b2, 0, none⟩) ∧ f 10 = Nx (n)) ∧ L = [rowF BodyF 39 p c bs, pt b2 (.cells #[.slice p (bs.length) c, .slice none 0 0, Ix (gX), Ix (gY)] 32), pt b1 (.cells #[.slice none 0 0, .slice none 0 0, .int .i64 (0), .int .i64 (0)] 32)] ∧ (n = bs.length ∧ n ≤ 16 ∧ n ≤ fs.length ∧ madeL bs)) (fun (x_ : Nat × List KB × Option Addr × Nat) => match x_ with | (n, bs, p, c) => fs.length - n) (0, [], none, 0) ?_ ?_
    · exact ⟨⟨rfl, rfl, rfl, rfl, rfl⟩, rfl, ⟨rfl, by omega, by omega, madeL_nil⟩⟩
    rintro ⟨n, bs, p, c⟩ f0 L0 ⟨⟨hs0, hs1, hs8, hs9, hs10⟩, hL, ⟨hn1, hn2, hn3, hL⟩⟩
    subst L0
    refine rebase (d := 0) hs0 ?_
    refine rebase (d := 1) hs1 ?_
    refine rebase (d := 8) hs8 ?_
    refine rebase (d := 9) hs9 ?_
    refine rebase (d := 10) hs10 ?_
    clear hs0 hs1 hs8 hs9 hs10
    refine c_seq ?_
    refine c_seq ?_
    refine c_region ?_
    refine l_val (v := Nx (n)) rfl rfl rfl (e_move) ?_
    refine l_val (v := .slice va (fs.length) (vc)) rfl rfl rfl (e_move) ?_
    refine l_val (v := Nx (fs.length)) rfl rfl rfl (e_len (a := va) (n := fs.length) (c := vc) rfl ua115) ?_
    refine l_val (v := .bool (decide (((n : Nat) : Int) < ((fs.length : Nat) : Int)))) rfl rfl rfl (e_lss (a := ((n : Nat) : Int)) (b := ((fs.length : Nat) : Int)) rfl rfl) ?_
    refine l_val (v := .bool (decide (((n : Nat) : Int) < ((fs.length : Nat) : Int)))) rfl rfl rfl (e_move) ?_
    refine l_split (s := 29) (p := ((n : Nat) : Int) < ((fs.length : Nat) : Int)) rfl (fun hg3 => ?_) (fun hg3 => ?_)
    ·
      refine g_val (v := Nx (n)) rfl rfl rfl rfl rfl (e_move) ?_
      refine g_val (v := .bool (decide (((n : Nat) : Int) < (16 : Int)))) rfl rfl rfl rfl rfl (e_lss (a := ((n : Nat) : Int)) (b := (16 : Int)) rfl rfl) ?_
      refine l_val (v := .bool (decide (((n : Nat) : Int) < (16 : Int)))) rfl rfl rfl (e_pick_t rfl) ?_
      refine l_nil ?_
      refine f_then ?_
      refine c_if (((n : Nat) : Int) < (16 : Int)) rfl (fun hc4 => ?_) (fun hc4 => ?_)
      ·
        refine c_skip ?_
        refine f_then ?_
        refine c_seq ?_
        refine c_block ?_
        refine c_seq ?_
        refine c_region ?_
        refine l_val (v := .slice va (fs.length) (vc)) rfl rfl rfl (e_move) ?_
        refine l_val (v := Nx (n)) rfl rfl rfl (e_move) ?_
        obtain ⟨x5, hx6⟩ : ∃ x_, (fs)[n]? = some x_ := ⟨_, List.getElem?_eq_getElem (by omega)⟩
        obtain ⟨ha7, cs8, hc9, hr10⟩ := ve _ _ hx6
        obtain ⟨rfl, hFx5⟩ := hr10
        obtain ⟨hf1, hf2, hf3, hf4⟩ := hFx5
        refine l_val (v := .pointer (some ((ba va).add (n * 8)))) rfl rfl rfl (e_indexAddr (k := n) (len := fs.length) (cap := vc) (a := va) rfl rfl ua116 (by omega) ha7) ?_
        refine l_val (v := .agg #[.int .i8 (x5.x), .int .i8 (x5.y), .int .i8 (x5.vx), .int .i8 (x5.vy), Bx (x5.w), Bx (x5.h), .bool (x5.round), .bool (x5.fixed)]) rfl rfl rfl (e_load ua117 (cs := [.int .i8 (x5.x), .int .i8 (x5.y), .int .i8 (x5.vx), .int .i8 (x5.vy), Bx (x5.w), Bx (x5.h), .bool (x5.round), .bool (x5.fixed)]) rfl (Knows.of_base (Cs.mono _ _) hc9) rfl) ?_
        refine l_mv rfl rfl rfl (m_alloc ua118) ?_
        rintro _ _ ⟨b11, rfl, rfl⟩
        refine l_mu rfl rfl (m_store 0 ua117 (b := b11) (o := 0) (T := 67) (cs := #[.int .i8 (0), .int .i8 (0), .int .i8 (0), .int .i8 (0), .int .u8 (0), .int .u8 (0), .bool false, .bool false]) (cs' := #[.int .i8 (x5.x), .int .i8 (x5.y), .int .i8 (x5.vx), .int .i8 (x5.vy), Bx (x5.w), Bx (x5.h), .bool (x5.round), .bool (x5.fixed)]) (v := .agg #[.int .i8 (x5.x), .int .i8 (x5.y), .int .i8 (x5.vx), .int .i8 (x5.vy), Bx (x5.w), Bx (x5.h), .bool (x5.round), .bool (x5.fixed)]) rfl rfl rfl rfl rfl rfl rfl) ?_
        refine l_nil ?_
        refine f_then ?_
        refine c_seq ?_
        refine c_region ?_
        refine l_val (v := Nx (n)) rfl rfl rfl (e_move) ?_
        refine l_val (v := Nx (2 * n)) rfl rfl rfl (e_mul (a := (2 : Int)) (b := ((n : Nat) : Int)) rfl rfl (i64n (by omega) (by omega))) ?_
        refine l_val (v := Nx (1 + (2 * n))) rfl rfl rfl (e_add (a := (1 : Int)) (b := ((2 * n : Nat) : Int)) rfl rfl (i64n (by omega) (by omega))) ?_
        refine l_val (v := .pointer (some ⟨b11, 0, none⟩)) rfl rfl rfl (e_fieldPt (b := b11) (o := 0) rfl ua119) ?_
        refine l_val (v := .int .i8 (x5.x)) rfl rfl rfl (e_load1 ua120 (v := .int .i8 (x5.x)) rfl (k_pt 0 (cs := #[.int .i8 (x5.x), .int .i8 (x5.y), .int .i8 (x5.vx), .int .i8 (x5.vy), Bx (x5.w), Bx (x5.h), .bool (x5.round), .bool (x5.fixed)]) (vs := [.int .i8 (x5.x)]) rfl rfl)) ?_
        refine l_val (v := Ix (x5.x)) rfl rfl rfl (e_conv (a := (x5.x)) rfl ⟨_, ua114⟩ ua41 (i64w (by omega))) ?_
        refine l_val (v := Ix ((3 : Int) * (x5.x))) rfl rfl rfl (e_mul (a := (3 : Int)) (b := (x5.x)) rfl rfl (i64w (by omega))) ?_
        refine l_val (v := .pointer (some ⟨b11, 1, none⟩)) rfl rfl rfl (e_fieldPt (b := b11) (o := 0) rfl ua121) ?_
        refine l_val (v := .int .i8 (x5.y)) rfl rfl rfl (e_load1 ua120 (v := .int .i8 (x5.y)) rfl (k_pt 0 (cs := #[.int .i8 (x5.x), .int .i8 (x5.y), .int .i8 (x5.vx), .int .i8 (x5.vy), Bx (x5.w), Bx (x5.h), .bool (x5.round), .bool (x5.fixed)]) (vs := [.int .i8 (x5.y)]) rfl rfl)) ?_
        refine l_val (v := Ix (x5.y)) rfl rfl rfl (e_conv (a := (x5.y)) rfl ⟨_, ua114⟩ ua41 (i64w (by omega))) ?_
        refine l_val (v := Ix ((3 : Int) * (x5.y))) rfl rfl rfl (e_mul (a := (3 : Int)) (b := (x5.y)) rfl rfl (i64w (by omega))) ?_
        refine l_val (v := .agg #[Ix ((3 : Int) * (x5.x)), Ix ((3 : Int) * (x5.y))]) rfl rfl rfl (e_build ua17 ua16 (vs := [(0, Ix ((3 : Int) * (x5.x))), (1, Ix ((3 : Int) * (x5.y)))]) (cells := #[Ix ((3 : Int) * (x5.x)), Ix ((3 : Int) * (x5.y))]) rfl rfl) ?_
        refine l_val (v := .pointer (some ⟨b11, 2, none⟩)) rfl rfl rfl (e_fieldPt (b := b11) (o := 0) rfl ua122) ?_
        refine l_val (v := .int .i8 (x5.vx)) rfl rfl rfl (e_load1 ua120 (v := .int .i8 (x5.vx)) rfl (k_pt 0 (cs := #[.int .i8 (x5.x), .int .i8 (x5.y), .int .i8 (x5.vx), .int .i8 (x5.vy), Bx (x5.w), Bx (x5.h), .bool (x5.round), .bool (x5.fixed)]) (vs := [.int .i8 (x5.vx)]) rfl rfl)) ?_
        refine l_val (v := Ix (x5.vx)) rfl rfl rfl (e_conv (a := (x5.vx)) rfl ⟨_, ua114⟩ ua41 (i64w (by omega))) ?_
        refine l_val (v := .pointer (some ⟨b11, 3, none⟩)) rfl rfl rfl (e_fieldPt (b := b11) (o := 0) rfl ua123) ?_
        refine l_val (v := .int .i8 (x5.vy)) rfl rfl rfl (e_load1 ua120 (v := .int .i8 (x5.vy)) rfl (k_pt 0 (cs := #[.int .i8 (x5.x), .int .i8 (x5.y), .int .i8 (x5.vx), .int .i8 (x5.vy), Bx (x5.w), Bx (x5.h), .bool (x5.round), .bool (x5.fixed)]) (vs := [.int .i8 (x5.vy)]) rfl rfl)) ?_
        refine l_val (v := Ix (x5.vy)) rfl rfl rfl (e_conv (a := (x5.vy)) rfl ⟨_, ua114⟩ ua41 (i64w (by omega))) ?_
        refine l_val (v := .agg #[Ix (x5.vx), Ix (x5.vy)]) rfl rfl rfl (e_build ua17 ua16 (vs := [(0, Ix (x5.vx)), (1, Ix (x5.vy))]) (cells := #[Ix (x5.vx), Ix (x5.vy)]) rfl rfl) ?_
        refine l_val (v := .pointer (some ⟨b11, 4, none⟩)) rfl rfl rfl (e_fieldPt (b := b11) (o := 0) rfl ua124) ?_
        refine l_val (v := Bx (x5.w)) rfl rfl rfl (e_load1 ua97 (v := Bx (x5.w)) rfl (k_pt 0 (cs := #[.int .i8 (x5.x), .int .i8 (x5.y), .int .i8 (x5.vx), .int .i8 (x5.vy), Bx (x5.w), Bx (x5.h), .bool (x5.round), .bool (x5.fixed)]) (vs := [Bx (x5.w)]) rfl rfl)) ?_
        refine l_val (v := Nx (x5.w.toNat)) rfl rfl rfl (e_conv (a := ((x5.w).toNat : Int)) rfl ⟨_, ua125⟩ ua41 (i64n rfl (by have := (x5.w).toNat_lt; omega))) ?_
        refine l_val (v := Nx (x5.w.toNat % 40)) rfl rfl rfl (e_rem (a := ((x5.w.toNat : Nat) : Int)) (b := (40 : Int)) rfl rfl (by decide) (nat_tmod _ 40)) ?_
        refine l_val (v := Nx (1 + (x5.w.toNat % 40))) rfl rfl rfl (e_add (a := (1 : Int)) (b := ((x5.w.toNat % 40 : Nat) : Int)) rfl rfl (i64n (by omega) (by omega))) ?_
        refine l_val (v := .pointer (some ⟨b11, 5, none⟩)) rfl rfl rfl (e_fieldPt (b := b11) (o := 0) rfl ua126) ?_
        refine l_val (v := Bx (x5.h)) rfl rfl rfl (e_load1 ua97 (v := Bx (x5.h)) rfl (k_pt 0 (cs := #[.int .i8 (x5.x), .int .i8 (x5.y), .int .i8 (x5.vx), .int .i8 (x5.vy), Bx (x5.w), Bx (x5.h), .bool (x5.round), .bool (x5.fixed)]) (vs := [Bx (x5.h)]) rfl rfl)) ?_
        refine l_val (v := Nx (x5.h.toNat)) rfl rfl rfl (e_conv (a := ((x5.h).toNat : Int)) rfl ⟨_, ua125⟩ ua41 (i64n rfl (by have := (x5.h).toNat_lt; omega))) ?_
        refine l_val (v := Nx (x5.h.toNat % 40)) rfl rfl rfl (e_rem (a := ((x5.h.toNat : Nat) : Int)) (b := (40 : Int)) rfl rfl (by decide) (nat_tmod _ 40)) ?_
        refine l_val (v := Nx (1 + (x5.h.toNat % 40))) rfl rfl rfl (e_add (a := (1 : Int)) (b := ((x5.h.toNat % 40 : Nat) : Int)) rfl rfl (i64n (by omega) (by omega))) ?_
        refine l_val (v := .pointer (some ⟨b11, 6, none⟩)) rfl rfl rfl (e_fieldPt (b := b11) (o := 0) rfl ua127) ?_
        refine l_val (v := .bool (x5.round)) rfl rfl rfl (e_load1 ua13 (v := .bool (x5.round)) rfl (k_pt 0 (cs := #[.int .i8 (x5.x), .int .i8 (x5.y), .int .i8 (x5.vx), .int .i8 (x5.vy), Bx (x5.w), Bx (x5.h), .bool (x5.round), .bool (x5.fixed)]) (vs := [.bool (x5.round)]) rfl rfl)) ?_
        refine l_val (v := .pointer (some ⟨b11, 7, none⟩)) rfl rfl rfl (e_fieldPt (b := b11) (o := 0) rfl ua128) ?_
        refine l_val (v := .bool (x5.fixed)) rfl rfl rfl (e_load1 ua13 (v := .bool (x5.fixed)) rfl (k_pt 0 (cs := #[.int .i8 (x5.x), .int .i8 (x5.y), .int .i8 (x5.vx), .int .i8 (x5.vy), Bx (x5.w), Bx (x5.h), .bool (x5.round), .bool (x5.fixed)]) (vs := [.bool (x5.fixed)]) rfl rfl)) ?_
        refine l_val (v := .agg #[Nx (1 + (2 * n)), Ix ((3 : Int) * (x5.x)), Ix ((3 : Int) * (x5.y)), Ix (x5.vx), Ix (x5.vy), Nx (1 + (x5.w.toNat % 40)), Nx (1 + (x5.h.toNat % 40)), .bool (x5.round), .bool (x5.fixed)]) rfl rfl rfl (e_build ua58 ua102 (vs := [(0, Nx (1 + (2 * n))), (1, .agg #[Ix ((3 : Int) * (x5.x)), Ix ((3 : Int) * (x5.y))]), (2, .agg #[Ix (x5.vx), Ix (x5.vy)]), (3, Nx (1 + (x5.w.toNat % 40))), (4, Nx (1 + (x5.h.toNat % 40))), (5, .bool (x5.round)), (6, .bool (x5.fixed))]) (cells := #[Nx (1 + (2 * n)), Ix ((3 : Int) * (x5.x)), Ix ((3 : Int) * (x5.y)), Ix (x5.vx), Ix (x5.vy), Nx (1 + (x5.w.toNat % 40)), Nx (1 + (x5.h.toNat % 40)), .bool (x5.round), .bool (x5.fixed)]) rfl (by kernel_rfl)) ?_
        refine l_mv rfl rfl rfl (m_alloc ua58) ?_
        rintro _ _ ⟨b12, rfl, rfl⟩
        refine l_mu rfl rfl (m_store 0 ua22 (b := b12) (o := 0) (T := 39) (cs := #[.int .i64 (0), .int .i64 (0), .int .i64 (0), .int .i64 (0), .int .i64 (0), .int .i64 (0), .int .i64 (0), .bool false, .bool false]) (cs' := #[Nx (1 + (2 * n)), Ix ((3 : Int) * (x5.x)), Ix ((3 : Int) * (x5.y)), Ix (x5.vx), Ix (x5.vy), Nx (1 + (x5.w.toNat % 40)), Nx (1 + (x5.h.toNat % 40)), .bool (x5.round), .bool (x5.fixed)]) (v := .agg #[Nx (1 + (2 * n)), Ix ((3 : Int) * (x5.x)), Ix ((3 : Int) * (x5.y)), Ix (x5.vx), Ix (x5.vy), Nx (1 + (x5.w.toNat % 40)), Nx (1 + (x5.h.toNat % 40)), .bool (x5.round), .bool (x5.fixed)]) rfl rfl rfl rfl rfl rfl rfl) ?_
        refine l_nil ?_
        refine f_then ?_
        refine c_seq ?_
        refine c_seq ?_
        refine c_region ?_
        refine l_val (v := .pointer (some ⟨b12, 7, none⟩)) rfl rfl rfl (e_fieldPt (b := b12) (o := 0) rfl ua12) ?_
        refine l_val (v := .bool (x5.round)) rfl rfl rfl (e_load1 ua13 (v := .bool (x5.round)) rfl (k_pt 0 (cs := #[Nx (1 + (2 * n)), Ix ((3 : Int) * (x5.x)), Ix ((3 : Int) * (x5.y)), Ix (x5.vx), Ix (x5.vy), Nx (1 + (x5.w.toNat % 40)), Nx (1 + (x5.h.toNat % 40)), .bool (x5.round), .bool (x5.fixed)]) (vs := [.bool (x5.round)]) rfl rfl)) ?_
        refine l_nil ?_
        refine f_then ?_
        refine c_ifb (x5.round) rfl (fun hc13 => ?_) (fun hc13 => ?_)
        ·
          refine c_region ?_
          refine l_val (v := .pointer (some ⟨b12, 5, none⟩)) rfl rfl rfl (e_fieldPt (b := b12) (o := 0) rfl ua10) ?_
          refine l_val (v := Nx (1 + (x5.w.toNat % 40))) rfl rfl rfl (e_load1 ua2 (v := Nx (1 + (x5.w.toNat % 40))) rfl (k_pt 0 (cs := #[Nx (1 + (2 * n)), Ix ((3 : Int) * (x5.x)), Ix ((3 : Int) * (x5.y)), Ix (x5.vx), Ix (x5.vy), Nx (1 + (x5.w.toNat % 40)), Nx (1 + (x5.h.toNat % 40)), .bool (x5.round), .bool (x5.fixed)]) (vs := [Nx (1 + (x5.w.toNat % 40))]) rfl rfl)) ?_
          refine l_val (v := .pointer (some ⟨b12, 6, none⟩)) rfl rfl rfl (e_fieldPt (b := b12) (o := 0) rfl ua11) ?_
          refine l_mu rfl rfl (m_store 0 ua2 (b := b12) (o := 6) (T := 39) (cs := #[Nx (1 + (2 * n)), Ix ((3 : Int) * (x5.x)), Ix ((3 : Int) * (x5.y)), Ix (x5.vx), Ix (x5.vy), Nx (1 + (x5.w.toNat % 40)), Nx (1 + (x5.h.toNat % 40)), .bool (x5.round), .bool (x5.fixed)]) (cs' := #[Nx (1 + (2 * n)), Ix ((3 : Int) * (x5.x)), Ix ((3 : Int) * (x5.y)), Ix (x5.vx), Ix (x5.vy), Nx (1 + (x5.w.toNat % 40)), Nx (1 + (x5.w.toNat % 40)), .bool (x5.round), .bool (x5.fixed)]) (v := Nx (1 + (x5.w.toNat % 40))) rfl rfl rfl rfl rfl rfl rfl) ?_
          refine l_nil ?_
          refine f_then ?_
          refine c_seq ?_
          refine c_seq ?_
          refine c_region ?_
          refine l_val (v := .pointer (some ⟨b12, 8, none⟩)) rfl rfl rfl (e_fieldPt (b := b12) (o := 0) rfl ua14) ?_
          refine l_val (v := .bool (x5.fixed)) rfl rfl rfl (e_load1 ua13 (v := .bool (x5.fixed)) rfl (k_pt 0 (cs := #[Nx (1 + (2 * n)), Ix ((3 : Int) * (x5.x)), Ix ((3 : Int) * (x5.y)), Ix (x5.vx), Ix (x5.vy), Nx (1 + (x5.w.toNat % 40)), Nx (1 + (x5.w.toNat % 40)), .bool (x5.round), .bool (x5.fixed)]) (vs := [.bool (x5.fixed)]) rfl rfl)) ?_
          refine l_nil ?_
          refine f_then ?_
          refine c_ifb (x5.fixed) rfl (fun hc14 => ?_) (fun hc14 => ?_)
          ·
            refine c_region ?_
            refine l_val (v := .agg #[.int .i64 (0), .int .i64 (0)]) rfl rfl rfl (e_build ua17 ua16 (vs := []) (cells := #[.int .i64 (0), .int .i64 (0)]) rfl rfl) ?_
            refine l_val (v := .pointer (some ⟨b12, 3, none⟩)) rfl rfl rfl (e_fieldPt (b := b12) (o := 0) rfl ua9) ?_
            refine l_mu rfl rfl (m_store 0 ua15 (b := b12) (o := 3) (T := 39) (cs := #[Nx (1 + (2 * n)), Ix ((3 : Int) * (x5.x)), Ix ((3 : Int) * (x5.y)), Ix (x5.vx), Ix (x5.vy), Nx (1 + (x5.w.toNat % 40)), Nx (1 + (x5.w.toNat % 40)), .bool (x5.round), .bool (x5.fixed)]) (cs' := #[Nx (1 + (2 * n)), Ix ((3 : Int) * (x5.x)), Ix ((3 : Int) * (x5.y)), .int .i64 (0), .int .i64 (0), Nx (1 + (x5.w.toNat % 40)), Nx (1 + (x5.w.toNat % 40)), .bool (x5.round), .bool (x5.fixed)]) (v := .agg #[.int .i64 (0), .int .i64 (0)]) rfl rfl rfl rfl rfl rfl rfl) ?_
            refine l_nil ?_
            refine f_then ?_
            obtain ⟨nb, hnb⟩ : ∃ z, z = (⟨((1 + (2 * n) : Nat) : Int), (3 : Int) * (x5.x), (3 : Int) * (x5.y), 0, 0, ((1 + (x5.w.toNat % 40) : Nat) : Int), ((1 + (x5.w.toNat % 40) : Nat) : Int), x5.round, x5.fixed⟩ : KB) := ⟨_, rfl⟩
            have hnbm : nb = madeB x5 n := by rw [hnb]; unfold madeB; simp [hc13, hc14]
            refine c_region ?_
            refine l_val (v := .pointer (some ⟨b2, 0, none⟩)) rfl rfl rfl (e_fieldPt (b := b2) (o := 0) rfl ua49) ?_
            refine l_val (v := .slice p (bs.length) c) rfl rfl rfl (e_load1 ua50 (v := .slice p (bs.length) c) rfl (k_pt 3 (cs := #[.slice p (bs.length) c, .slice none 0 0, Ix (gX), Ix (gY)]) (vs := [.slice p (bs.length) c]) rfl rfl)) ?_
            refine l_val (v := .agg #[Nx (1 + (2 * n)), Ix ((3 : Int) * (x5.x)), Ix ((3 : Int) * (x5.y)), .int .i64 (0), .int .i64 (0), Nx (1 + (x5.w.toNat % 40)), Nx (1 + (x5.w.toNat % 40)), .bool (x5.round), .bool (x5.fixed)]) rfl rfl rfl (e_load ua22 (cs := [Nx (1 + (2 * n)), Ix ((3 : Int) * (x5.x)), Ix ((3 : Int) * (x5.y)), .int .i64 (0), .int .i64 (0), Nx (1 + (x5.w.toNat % 40)), Nx (1 + (x5.w.toNat % 40)), .bool (x5.round), .bool (x5.fixed)]) rfl (k_pt 0 (cs := #[Nx (1 + (2 * n)), Ix ((3 : Int) * (x5.x)), Ix ((3 : Int) * (x5.y)), .int .i64 (0), .int .i64 (0), Nx (1 + (x5.w.toNat % 40)), Nx (1 + (x5.w.toNat % 40)), .bool (x5.round), .bool (x5.fixed)]) (vs := [Nx (1 + (2 * n)), Ix ((3 : Int) * (x5.x)), Ix ((3 : Int) * (x5.y)), .int .i64 (0), .int .i64 (0), Nx (1 + (x5.w.toNat % 40)), Nx (1 + (x5.w.toNat % 40)), .bool (x5.round), .bool (x5.fixed)]) rfl rfl) rfl) ?_
            refine l_mv rfl rfl rfl (m_slices ua43 ua58 (vs := [(0, .agg #[Nx (1 + (2 * n)), Ix ((3 : Int) * (x5.x)), Ix ((3 : Int) * (x5.y)), .int .i64 (0), .int .i64 (0), Nx (1 + (x5.w.toNat % 40)), Nx (1 + (x5.w.toNat % 40)), .bool (x5.round), .bool (x5.fixed)])]) (cells := #[Nx (1 + (2 * n)), Ix ((3 : Int) * (x5.x)), Ix ((3 : Int) * (x5.y)), .int .i64 (0), .int .i64 (0), Nx (1 + (x5.w.toNat % 40)), Nx (1 + (x5.w.toNat % 40)), .bool (x5.round), .bool (x5.fixed)]) rfl rfl rfl (by kernel_rfl)) ?_
            rintro _ _ ⟨b15, rfl, rfl⟩
            refine l_mv rfl rfl rfl (m_appendFlN (F := BodyF) 3 ua43 ua83 (p := p) (m := bs.length) (xs := bs) (ys := [nb]) (ao := (some ⟨b15, 0, none⟩)) (k := 1) (c := 1) rfl rfl rfl rfl rfl (k_ptFl (z := nb) 0 rfl (by rw [hnb])) (by first | omega | simp only [List.length_nil, List.length_cons, List.length_append, List.length_set]; omega) (by first | omega | simp only [List.length_nil, List.length_cons, List.length_append, List.length_set]; omega)) ?_
            rintro _ _ ⟨rp16, rc17, rfl, rfl⟩
            refine l_val (v := .pointer (some ⟨b2, 0, none⟩)) rfl rfl rfl (e_fieldPt (b := b2) (o := 0) rfl ua49) ?_
            refine l_mu rfl rfl (m_store 4 ua50 (b := b2) (o := 0) (T := 32) (cs := #[.slice p (bs.length) c, .slice none 0 0, Ix (gX), Ix (gY)]) (cs' := #[.slice rp16 ((bs ++ [nb]).length) rc17, .slice none 0 0, Ix (gX), Ix (gY)]) (v := .slice rp16 ((bs ++ [nb]).length) rc17) rfl rfl rfl rfl rfl rfl rfl) ?_
            refine l_nil ?_
            refine f_block ?_
            refine f_then ?_
            refine c_region ?_
            refine l_val (v := Nx (n)) rfl rfl rfl (e_move) ?_
            refine l_val (v := Nx (n + 1)) rfl rfl rfl (e_add (a := ((n : Nat) : Int)) (b := (1 : Int)) rfl rfl (i64n (by omega) (by omega))) ?_
            refine l_val (v := Nx (n + 1)) rfl rfl rfl (e_assign) ?_
            refine l_nil ?_
            refine f_mask (L' := [rowF BodyF 39 rp16 rc17 (bs ++ [nb]), pt b2 (.cells #[.slice rp16 ((bs ++ [nb]).length) rc17, .slice none 0 0, Ix (gX), Ix (gY)] 32), pt b1 (.cells #[.slice none 0 0, .slice none 0 0, .int .i64 (0), .int .i64 (0)] 32)]) [false, false, false, true, true, true] rfl ?_
            exact f_cut ⟨(n + 1, (bs ++ [nb]), rp16, rc17), ⟨⟨rfl, rfl, rfl, rfl, rfl⟩, rfl, ⟨by rw [List.length_append]; simp only [List.length_cons, List.length_nil]; omega, by omega, by omega, madeL_snoc hL (by rw [hnb]; show ((1 + 2 * n : Nat) : Int) = _; rw [hn1]) (by rw [hnbm]; exact madeB_ok ⟨hf1, hf2, hf3, hf4⟩ (by omega)) (by rw [hnbm]; exact madeB_x ⟨hf1, hf2, hf3, hf4⟩ n)⟩⟩, (show fs.length - (n + 1) < fs.length - n from by omega)⟩
          ·
            refine c_skip ?_
            refine f_then ?_
            obtain ⟨nb, hnb⟩ : ∃ z, z = (⟨((1 + (2 * n) : Nat) : Int), (3 : Int) * (x5.x), (3 : Int) * (x5.y), x5.vx, x5.vy, ((1 + (x5.w.toNat % 40) : Nat) : Int), ((1 + (x5.w.toNat % 40) : Nat) : Int), x5.round, x5.fixed⟩ : KB) := ⟨_, rfl⟩
            have hnbm : nb = madeB x5 n := by rw [hnb]; unfold madeB; simp [hc13, hc14]
            refine c_region ?_
            refine l_val (v := .pointer (some ⟨b2, 0, none⟩)) rfl rfl rfl (e_fieldPt (b := b2) (o := 0) rfl ua49) ?_
            refine l_val (v := .slice p (bs.length) c) rfl rfl rfl (e_load1 ua50 (v := .slice p (bs.length) c) rfl (k_pt 3 (cs := #[.slice p (bs.length) c, .slice none 0 0, Ix (gX), Ix (gY)]) (vs := [.slice p (bs.length) c]) rfl rfl)) ?_
            refine l_val (v := .agg #[Nx (1 + (2 * n)), Ix ((3 : Int) * (x5.x)), Ix ((3 : Int) * (x5.y)), Ix (x5.vx), Ix (x5.vy), Nx (1 + (x5.w.toNat % 40)), Nx (1 + (x5.w.toNat % 40)), .bool (x5.round), .bool (x5.fixed)]) rfl rfl rfl (e_load ua22 (cs := [Nx (1 + (2 * n)), Ix ((3 : Int) * (x5.x)), Ix ((3 : Int) * (x5.y)), Ix (x5.vx), Ix (x5.vy), Nx (1 + (x5.w.toNat % 40)), Nx (1 + (x5.w.toNat % 40)), .bool (x5.round), .bool (x5.fixed)]) rfl (k_pt 0 (cs := #[Nx (1 + (2 * n)), Ix ((3 : Int) * (x5.x)), Ix ((3 : Int) * (x5.y)), Ix (x5.vx), Ix (x5.vy), Nx (1 + (x5.w.toNat % 40)), Nx (1 + (x5.w.toNat % 40)), .bool (x5.round), .bool (x5.fixed)]) (vs := [Nx (1 + (2 * n)), Ix ((3 : Int) * (x5.x)), Ix ((3 : Int) * (x5.y)), Ix (x5.vx), Ix (x5.vy), Nx (1 + (x5.w.toNat % 40)), Nx (1 + (x5.w.toNat % 40)), .bool (x5.round), .bool (x5.fixed)]) rfl rfl) rfl) ?_
            refine l_mv rfl rfl rfl (m_slices ua43 ua58 (vs := [(0, .agg #[Nx (1 + (2 * n)), Ix ((3 : Int) * (x5.x)), Ix ((3 : Int) * (x5.y)), Ix (x5.vx), Ix (x5.vy), Nx (1 + (x5.w.toNat % 40)), Nx (1 + (x5.w.toNat % 40)), .bool (x5.round), .bool (x5.fixed)])]) (cells := #[Nx (1 + (2 * n)), Ix ((3 : Int) * (x5.x)), Ix ((3 : Int) * (x5.y)), Ix (x5.vx), Ix (x5.vy), Nx (1 + (x5.w.toNat % 40)), Nx (1 + (x5.w.toNat % 40)), .bool (x5.round), .bool (x5.fixed)]) rfl rfl rfl (by kernel_rfl)) ?_
            rintro _ _ ⟨b18, rfl, rfl⟩
            refine l_mv rfl rfl rfl (m_appendFlN (F := BodyF) 3 ua43 ua83 (p := p) (m := bs.length) (xs := bs) (ys := [nb]) (ao := (some ⟨b18, 0, none⟩)) (k := 1) (c := 1) rfl rfl rfl rfl rfl (k_ptFl (z := nb) 0 rfl (by rw [hnb])) (by first | omega | simp only [List.length_nil, List.length_cons, List.length_append, List.length_set]; omega) (by first | omega | simp only [List.length_nil, List.length_cons, List.length_append, List.length_set]; omega)) ?_
            rintro _ _ ⟨rp19, rc20, rfl, rfl⟩
            refine l_val (v := .pointer (some ⟨b2, 0, none⟩)) rfl rfl rfl (e_fieldPt (b := b2) (o := 0) rfl ua49) ?_
            refine l_mu rfl rfl (m_store 4 ua50 (b := b2) (o := 0) (T := 32) (cs := #[.slice p (bs.length) c, .slice none 0 0, Ix (gX), Ix (gY)]) (cs' := #[.slice rp19 ((bs ++ [nb]).length) rc20, .slice none 0 0, Ix (gX), Ix (gY)]) (v := .slice rp19 ((bs ++ [nb]).length) rc20) rfl rfl rfl rfl rfl rfl rfl) ?_
            refine l_nil ?_
            refine f_block ?_
            refine f_then ?_
            refine c_region ?_
            refine l_val (v := Nx (n)) rfl rfl rfl (e_move) ?_
            refine l_val (v := Nx (n + 1)) rfl rfl rfl (e_add (a := ((n : Nat) : Int)) (b := (1 : Int)) rfl rfl (i64n (by omega) (by omega))) ?_
            refine l_val (v := Nx (n + 1)) rfl rfl rfl (e_assign) ?_
            refine l_nil ?_
            refine f_mask (L' := [rowF BodyF 39 rp19 rc20 (bs ++ [nb]), pt b2 (.cells #[.slice rp19 ((bs ++ [nb]).length) rc20, .slice none 0 0, Ix (gX), Ix (gY)] 32), pt b1 (.cells #[.slice none 0 0, .slice none 0 0, .int .i64 (0), .int .i64 (0)] 32)]) [false, false, false, true, true, true] rfl ?_
            exact f_cut ⟨(n + 1, (bs ++ [nb]), rp19, rc20), ⟨⟨rfl, rfl, rfl, rfl, rfl⟩, rfl, ⟨by rw [List.length_append]; simp only [List.length_cons, List.length_nil]; omega, by omega, by omega, madeL_snoc hL (by rw [hnb]; show ((1 + 2 * n : Nat) : Int) = _; rw [hn1]) (by rw [hnbm]; exact madeB_ok ⟨hf1, hf2, hf3, hf4⟩ (by omega)) (by rw [hnbm]; exact madeB_x ⟨hf1, hf2, hf3, hf4⟩ n)⟩⟩, (show fs.length - (n + 1) < fs.length - n from by omega)⟩
        ·
          refine c_skip ?_
          refine f_then ?_
          refine c_seq ?_
          refine c_seq ?_
          refine c_region ?_
          refine l_val (v := .pointer (some ⟨b12, 8, none⟩)) rfl rfl rfl (e_fieldPt (b := b12) (o := 0) rfl ua14) ?_
          refine l_val (v := .bool (x5.fixed)) rfl rfl rfl (e_load1 ua13 (v := .bool (x5.fixed)) rfl (k_pt 0 (cs := #[Nx (1 + (2 * n)), Ix ((3 : Int) * (x5.x)), Ix ((3 : Int) * (x5.y)), Ix (x5.vx), Ix (x5.vy), Nx (1 + (x5.w.toNat % 40)), Nx (1 + (x5.h.toNat % 40)), .bool (x5.round), .bool (x5.fixed)]) (vs := [.bool (x5.fixed)]) rfl rfl)) ?_
          refine l_nil ?_
          refine f_then ?_
          refine c_ifb (x5.fixed) rfl (fun hc21 => ?_) (fun hc21 => ?_)
          ·
            refine c_region ?_
            refine l_val (v := .agg #[.int .i64 (0), .int .i64 (0)]) rfl rfl rfl (e_build ua17 ua16 (vs := []) (cells := #[.int .i64 (0), .int .i64 (0)]) rfl rfl) ?_
            refine l_val (v := .pointer (some ⟨b12, 3, none⟩)) rfl rfl rfl (e_fieldPt (b := b12) (o := 0) rfl ua9) ?_
            refine l_mu rfl rfl (m_store 0 ua15 (b := b12) (o := 3) (T := 39) (cs := #[Nx (1 + (2 * n)), Ix ((3 : Int) * (x5.x)), Ix ((3 : Int) * (x5.y)), Ix (x5.vx), Ix (x5.vy), Nx (1 + (x5.w.toNat % 40)), Nx (1 + (x5.h.toNat % 40)), .bool (x5.round), .bool (x5.fixed)]) (cs' := #[Nx (1 + (2 * n)), Ix ((3 : Int) * (x5.x)), Ix ((3 : Int) * (x5.y)), .int .i64 (0), .int .i64 (0), Nx (1 + (x5.w.toNat % 40)), Nx (1 + (x5.h.toNat % 40)), .bool (x5.round), .bool (x5.fixed)]) (v := .agg #[.int .i64 (0), .int .i64 (0)]) rfl rfl rfl rfl rfl rfl rfl) ?_
            refine l_nil ?_
            refine f_then ?_
            obtain ⟨nb, hnb⟩ : ∃ z, z = (⟨((1 + (2 * n) : Nat) : Int), (3 : Int) * (x5.x), (3 : Int) * (x5.y), 0, 0, ((1 + (x5.w.toNat % 40) : Nat) : Int), ((1 + (x5.h.toNat % 40) : Nat) : Int), x5.round, x5.fixed⟩ : KB) := ⟨_, rfl⟩
            have hnbm : nb = madeB x5 n := by rw [hnb]; unfold madeB; simp [hc13, hc21]
            refine c_region ?_
            refine l_val (v := .pointer (some ⟨b2, 0, none⟩)) rfl rfl rfl (e_fieldPt (b := b2) (o := 0) rfl ua49) ?_
            refine l_val (v := .slice p (bs.length) c) rfl rfl rfl (e_load1 ua50 (v := .slice p (bs.length) c) rfl (k_pt 3 (cs := #[.slice p (bs.length) c, .slice none 0 0, Ix (gX), Ix (gY)]) (vs := [.slice p (bs.length) c]) rfl rfl)) ?_
            refine l_val (v := .agg #[Nx (1 + (2 * n)), Ix ((3 : Int) * (x5.x)), Ix ((3 : Int) * (x5.y)), .int .i64 (0), .int .i64 (0), Nx (1 + (x5.w.toNat % 40)), Nx (1 + (x5.h.toNat % 40)), .bool (x5.round), .bool (x5.fixed)]) rfl rfl rfl (e_load ua22 (cs := [Nx (1 + (2 * n)), Ix ((3 : Int) * (x5.x)), Ix ((3 : Int) * (x5.y)), .int .i64 (0), .int .i64 (0), Nx (1 + (x5.w.toNat % 40)), Nx (1 + (x5.h.toNat % 40)), .bool (x5.round), .bool (x5.fixed)]) rfl (k_pt 0 (cs := #[Nx (1 + (2 * n)), Ix ((3 : Int) * (x5.x)), Ix ((3 : Int) * (x5.y)), .int .i64 (0), .int .i64 (0), Nx (1 + (x5.w.toNat % 40)), Nx (1 + (x5.h.toNat % 40)), .bool (x5.round), .bool (x5.fixed)]) (vs := [Nx (1 + (2 * n)), Ix ((3 : Int) * (x5.x)), Ix ((3 : Int) * (x5.y)), .int .i64 (0), .int .i64 (0), Nx (1 + (x5.w.toNat % 40)), Nx (1 + (x5.h.toNat % 40)), .bool (x5.round), .bool (x5.fixed)]) rfl rfl) rfl) ?_
            refine l_mv rfl rfl rfl (m_slices ua43 ua58 (vs := [(0, .agg #[Nx (1 + (2 * n)), Ix ((3 : Int) * (x5.x)), Ix ((3 : Int) * (x5.y)), .int .i64 (0), .int .i64 (0), Nx (1 + (x5.w.toNat % 40)), Nx (1 + (x5.h.toNat % 40)), .bool (x5.round), .bool (x5.fixed)])]) (cells := #[Nx (1 + (2 * n)), Ix ((3 : Int) * (x5.x)), Ix ((3 : Int) * (x5.y)), .int .i64 (0), .int .i64 (0), Nx (1 + (x5.w.toNat % 40)), Nx (1 + (x5.h.toNat % 40)), .bool (x5.round), .bool (x5.fixed)]) rfl rfl rfl (by kernel_rfl)) ?_
            rintro _ _ ⟨b22, rfl, rfl⟩
            refine l_mv rfl rfl rfl (m_appendFlN (F := BodyF) 3 ua43 ua83 (p := p) (m := bs.length) (xs := bs) (ys := [nb]) (ao := (some ⟨b22, 0, none⟩)) (k := 1) (c := 1) rfl rfl rfl rfl rfl (k_ptFl (z := nb) 0 rfl (by rw [hnb])) (by first | omega | simp only [List.length_nil, List.length_cons, List.length_append, List.length_set]; omega) (by first | omega | simp only [List.length_nil, List.length_cons, List.length_append, List.length_set]; omega)) ?_
            rintro _ _ ⟨rp23, rc24, rfl, rfl⟩
            refine l_val (v := .pointer (some ⟨b2, 0, none⟩)) rfl rfl rfl (e_fieldPt (b := b2) (o := 0) rfl ua49) ?_
            refine l_mu rfl rfl (m_store 4 ua50 (b := b2) (o := 0) (T := 32) (cs := #[.slice p (bs.length) c, .slice none 0 0, Ix (gX), Ix (gY)]) (cs' := #[.slice rp23 ((bs ++ [nb]).length) rc24, .slice none 0 0, Ix (gX), Ix (gY)]) (v := .slice rp23 ((bs ++ [nb]).length) rc24) rfl rfl rfl rfl rfl rfl rfl) ?_
            refine l_nil ?_
            refine f_block ?_
            refine f_then ?_
            refine c_region ?_
            refine l_val (v := Nx (n)) rfl rfl rfl (e_move) ?_
            refine l_val (v := Nx (n + 1)) rfl rfl rfl (e_add (a := ((n : Nat) : Int)) (b := (1 : Int)) rfl rfl (i64n (by omega) (by omega))) ?_
            refine l_val (v := Nx (n + 1)) rfl rfl rfl (e_assign) ?_
            refine l_nil ?_
            refine f_mask (L' := [rowF BodyF 39 rp23 rc24 (bs ++ [nb]), pt b2 (.cells #[.slice rp23 ((bs ++ [nb]).length) rc24, .slice none 0 0, Ix (gX), Ix (gY)] 32), pt b1 (.cells #[.slice none 0 0, .slice none 0 0, .int .i64 (0), .int .i64 (0)] 32)]) [false, false, false, true, true, true] rfl ?_
            exact f_cut ⟨(n + 1, (bs ++ [nb]), rp23, rc24), ⟨⟨rfl, rfl, rfl, rfl, rfl⟩, rfl, ⟨by rw [List.length_append]; simp only [List.length_cons, List.length_nil]; omega, by omega, by omega, madeL_snoc hL (by rw [hnb]; show ((1 + 2 * n : Nat) : Int) = _; rw [hn1]) (by rw [hnbm]; exact madeB_ok ⟨hf1, hf2, hf3, hf4⟩ (by omega)) (by rw [hnbm]; exact madeB_x ⟨hf1, hf2, hf3, hf4⟩ n)⟩⟩, (show fs.length - (n + 1) < fs.length - n from by omega)⟩
          ·
            refine c_skip ?_
            refine f_then ?_
            obtain ⟨nb, hnb⟩ : ∃ z, z = (⟨((1 + (2 * n) : Nat) : Int), (3 : Int) * (x5.x), (3 : Int) * (x5.y), x5.vx, x5.vy, ((1 + (x5.w.toNat % 40) : Nat) : Int), ((1 + (x5.h.toNat % 40) : Nat) : Int), x5.round, x5.fixed⟩ : KB) := ⟨_, rfl⟩
            have hnbm : nb = madeB x5 n := by rw [hnb]; unfold madeB; simp [hc13, hc21]
            refine c_region ?_
            refine l_val (v := .pointer (some ⟨b2, 0, none⟩)) rfl rfl rfl (e_fieldPt (b := b2) (o := 0) rfl ua49) ?_
            refine l_val (v := .slice p (bs.length) c) rfl rfl rfl (e_load1 ua50 (v := .slice p (bs.length) c) rfl (k_pt 3 (cs := #[.slice p (bs.length) c, .slice none 0 0, Ix (gX), Ix (gY)]) (vs := [.slice p (bs.length) c]) rfl rfl)) ?_
            refine l_val (v := .agg #[Nx (1 + (2 * n)), Ix ((3 : Int) * (x5.x)), Ix ((3 : Int) * (x5.y)), Ix (x5.vx), Ix (x5.vy), Nx (1 + (x5.w.toNat % 40)), Nx (1 + (x5.h.toNat % 40)), .bool (x5.round), .bool (x5.fixed)]) rfl rfl rfl (e_load ua22 (cs := [Nx (1 + (2 * n)), Ix ((3 : Int) * (x5.x)), Ix ((3 : Int) * (x5.y)), Ix (x5.vx), Ix (x5.vy), Nx (1 + (x5.w.toNat % 40)), Nx (1 + (x5.h.toNat % 40)), .bool (x5.round), .bool (x5.fixed)]) rfl (k_pt 0 (cs := #[Nx (1 + (2 * n)), Ix ((3 : Int) * (x5.x)), Ix ((3 : Int) * (x5.y)), Ix (x5.vx), Ix (x5.vy), Nx (1 + (x5.w.toNat % 40)), Nx (1 + (x5.h.toNat % 40)), .bool (x5.round), .bool (x5.fixed)]) (vs := [Nx (1 + (2 * n)), Ix ((3 : Int) * (x5.x)), Ix ((3 : Int) * (x5.y)), Ix (x5.vx), Ix (x5.vy), Nx (1 + (x5.w.toNat % 40)), Nx (1 + (x5.h.toNat % 40)), .bool (x5.round), .bool (x5.fixed)]) rfl rfl) rfl) ?_
            refine l_mv rfl rfl rfl (m_slices ua43 ua58 (vs := [(0, .agg #[Nx (1 + (2 * n)), Ix ((3 : Int) * (x5.x)), Ix ((3 : Int) * (x5.y)), Ix (x5.vx), Ix (x5.vy), Nx (1 + (x5.w.toNat % 40)), Nx (1 + (x5.h.toNat % 40)), .bool (x5.round), .bool (x5.fixed)])]) (cells := #[Nx (1 + (2 * n)), Ix ((3 : Int) * (x5.x)), Ix ((3 : Int) * (x5.y)), Ix (x5.vx), Ix (x5.vy), Nx (1 + (x5.w.toNat % 40)), Nx (1 + (x5.h.toNat % 40)), .bool (x5.round), .bool (x5.fixed)]) rfl rfl rfl (by kernel_rfl)) ?_
            rintro _ _ ⟨b25, rfl, rfl⟩
            refine l_mv rfl rfl rfl (m_appendFlN (F := BodyF) 3 ua43 ua83 (p := p) (m := bs.length) (xs := bs) (ys := [nb]) (ao := (some ⟨b25, 0, none⟩)) (k := 1) (c := 1) rfl rfl rfl rfl rfl (k_ptFl (z := nb) 0 rfl (by rw [hnb])) (by first | omega | simp only [List.length_nil, List.length_cons, List.length_append, List.length_set]; omega) (by first | omega | simp only [List.length_nil, List.length_cons, List.length_append, List.length_set]; omega)) ?_
            rintro _ _ ⟨rp26, rc27, rfl, rfl⟩
            refine l_val (v := .pointer (some ⟨b2, 0, none⟩)) rfl rfl rfl (e_fieldPt (b := b2) (o := 0) rfl ua49) ?_
            refine l_mu rfl rfl (m_store 4 ua50 (b := b2) (o := 0) (T := 32) (cs := #[.slice p (bs.length) c, .slice none 0 0, Ix (gX), Ix (gY)]) (cs' := #[.slice rp26 ((bs ++ [nb]).length) rc27, .slice none 0 0, Ix (gX), Ix (gY)]) (v := .slice rp26 ((bs ++ [nb]).length) rc27) rfl rfl rfl rfl rfl rfl rfl) ?_
            refine l_nil ?_
            refine f_block ?_
            refine f_then ?_
            refine c_region ?_
            refine l_val (v := Nx (n)) rfl rfl rfl (e_move) ?_
            refine l_val (v := Nx (n + 1)) rfl rfl rfl (e_add (a := ((n : Nat) : Int)) (b := (1 : Int)) rfl rfl (i64n (by omega) (by omega))) ?_
            refine l_val (v := Nx (n + 1)) rfl rfl rfl (e_assign) ?_
            refine l_nil ?_
            refine f_mask (L' := [rowF BodyF 39 rp26 rc27 (bs ++ [nb]), pt b2 (.cells #[.slice rp26 ((bs ++ [nb]).length) rc27, .slice none 0 0, Ix (gX), Ix (gY)] 32), pt b1 (.cells #[.slice none 0 0, .slice none 0 0, .int .i64 (0), .int .i64 (0)] 32)]) [false, false, false, true, true, true] rfl ?_
            exact f_cut ⟨(n + 1, (bs ++ [nb]), rp26, rc27), ⟨⟨rfl, rfl, rfl, rfl, rfl⟩, rfl, ⟨by rw [List.length_append]; simp only [List.length_cons, List.length_nil]; omega, by omega, by omega, madeL_snoc hL (by rw [hnb]; show ((1 + 2 * n : Nat) : Int) = _; rw [hn1]) (by rw [hnbm]; exact madeB_ok ⟨hf1, hf2, hf3, hf4⟩ (by omega)) (by rw [hnbm]; exact madeB_x ⟨hf1, hf2, hf3, hf4⟩ n)⟩⟩, (show fs.length - (n + 1) < fs.length - n from by omega)⟩
      ·
        refine c_exit ?_
        refine f_then_exit ?_
        refine f_then_exit ?_
        refine f_exit ?_
        exact f_cut ⟨n, bs, p, c, ⟨rfl, rfl, rfl⟩, rfl, ⟨by omega, hL, by omega⟩⟩
    ·
      refine l_skip rfl rfl rfl rfl rfl rfl ?_
      refine l_skip rfl rfl rfl rfl rfl rfl ?_
      refine l_val (v := .bool false) rfl rfl rfl (e_pick_f rfl) ?_
      refine l_nil ?_
      refine f_then ?_
      refine c_no rfl ?_
      refine c_exit ?_
      refine f_then_exit ?_
      refine f_then_exit ?_
      refine f_exit ?_
      exact f_cut ⟨n, bs, p, c, ⟨rfl, rfl, rfl⟩, rfl, ⟨by omega, hL, by omega⟩⟩
  rintro f0 L0 ⟨n, bs, p, c, ⟨hs1, hs8, hs9⟩, hL, ⟨hn2, hL, hbl⟩⟩
  subst L0
  refine rebase (d := 1) hs1 ?_
  refine rebase (d := 8) hs8 ?_
  refine rebase (d := 9) hs9 ?_
  clear hs1 hs8 hs9
  refine c_emp (r := rowF RopeF 49 none 0 []) (row_nil _ _ _) ?_
  refine c_seq_cut (fun (f : Fm) (L : List Res) => ∃ (k : Nat) (R : List KR) (rp : Option Addr) (rc : Nat), (f 8 = .pointer (some ⟨b1, 0, none⟩) ∧ f 9 = .pointer (some ⟨b2, 0, none⟩)) ∧ L = [rowF RopeF 49 rp rc R, rowF BodyF 39 p c bs, pt b2 (.cells #[.slice p (bs.length) c, .slice rp (R.length) rc, Ix (gX), Ix (gY)] 32), pt b1 (.cells #[.slice none 0 0, .slice none 0 0, .int .i64 (0), .int .i64 (0)] 32)] ∧ (R.length ≤ 6 ∧ (∀ r ∈ R, madeR bs.length r) ∧ 2 * R.length ≤ us.length)) ?_ ?_
  ·
    refine c_seq ?_
    refine c_region ?_
    refine l_val (v := .int .i64 (0)) rfl rfl rfl (e_assign) ?_
    refine l_nil ?_
    refine f_then ?_
    refine c_block ?_
    refine c_mask [true, true, true, true] rfl ?_
    refine c_loop (fun (x_ : Nat × List KR × Option Addr × Nat) (f : Fm) (L : List Res) => match x_ with | (k, R, rp, rc) => (f 1 = .slice ua (us.length) (uc) ∧ f 8 = .pointer (some ⟨b1, 0, none⟩) ∧ f 9 = .pointer (some ⟨b2, 0, none⟩) ∧ f 13 = Nx (2 * k)) ∧ L = [rowF RopeF 49 rp rc R, rowF BodyF 39 p c bs, pt b2 (.cells #[.slice p (bs.length) c, .slice rp (R.length) rc, Ix (gX), Ix (gY)] 32), pt b1 (.cells #[.slice none 0 0, .slice none 0 0, .int .i64 (0), .int .i64 (0)] 32)] ∧ (k ≤ 6 ∧ (R.length ≤ k ∧ 2 * k ≤ us.length) ∧ ∀ r ∈ R, madeR bs.length r)) (fun (x_ : Nat × List KR × Option Addr × Nat) => match x_ with | (k, R, rp, rc) => us.length - 2 * k) (0, [], none, 0) ?_ ?_
    · exact ⟨⟨rfl, rfl, rfl, rfl⟩, rfl, ⟨by omega, ⟨by simp, by omega⟩, fun r hr => by cases hr⟩⟩
    rintro ⟨k, R, rp, rc⟩ f0 L0 ⟨⟨hs1, hs8, hs9, hs13⟩, hL, ⟨hk, hRl, hR⟩⟩
    subst L0
    refine rebase (d := 1) hs1 ?_
    refine rebase (d := 8) hs8 ?_
    refine rebase (d := 9) hs9 ?_
    refine rebase (d := 13) hs13 ?_
    clear hs1 hs8 hs9 hs13
    refine c_seq ?_
    refine c_seq ?_
    refine c_region ?_
    refine l_val (v := Nx (2 * k)) rfl rfl rfl (e_move) ?_
    refine l_val (v := Nx ((2 * k) + 1)) rfl rfl rfl (e_add (a := ((2 * k : Nat) : Int)) (b := (1 : Int)) rfl rfl (i64n (by omega) (by omega))) ?_
    refine l_val (v := .slice ua (us.length) (uc)) rfl rfl rfl (e_move) ?_
    refine l_val (v := Nx (us.length)) rfl rfl rfl (e_len (a := ua) (n := us.length) (c := uc) rfl ua129) ?_
    refine l_val (v := .bool (decide ((((2 * k) + 1 : Nat) : Int) < ((us.length : Nat) : Int)))) rfl rfl rfl (e_lss (a := (((2 * k) + 1 : Nat) : Int)) (b := ((us.length : Nat) : Int)) rfl rfl) ?_
    refine l_val (v := .bool (decide ((((2 * k) + 1 : Nat) : Int) < ((us.length : Nat) : Int)))) rfl rfl rfl (e_move) ?_
    refine l_split (s := 93) (p := (((2 * k) + 1 : Nat) : Int) < ((us.length : Nat) : Int)) rfl (fun hg28 => ?_) (fun hg28 => ?_)
    ·
      refine g_val (v := Nx (2 * k)) rfl rfl rfl rfl rfl (e_move) ?_
      refine g_val (v := .bool (decide (((2 * k : Nat) : Int) < (12 : Int)))) rfl rfl rfl rfl rfl (e_lss (a := ((2 * k : Nat) : Int)) (b := (12 : Int)) rfl rfl) ?_
      refine l_val (v := .bool (decide (((2 * k : Nat) : Int) < (12 : Int)))) rfl rfl rfl (e_pick_t rfl) ?_
      refine l_nil ?_
      refine f_then ?_
      refine c_if (((2 * k : Nat) : Int) < (12 : Int)) rfl (fun hc29 => ?_) (fun hc29 => ?_)
      ·
        refine c_skip ?_
        refine f_then ?_
        refine c_seq ?_
        refine c_block ?_
        refine c_seq ?_
        refine c_region ?_
        refine l_val (v := .pointer (some ⟨b2, 0, none⟩)) rfl rfl rfl (e_fieldPt (b := b2) (o := 0) rfl ua49) ?_
        refine l_val (v := .slice p (bs.length) c) rfl rfl rfl (e_load1 ua50 (v := .slice p (bs.length) c) rfl (k_pt 2 (cs := #[.slice p (bs.length) c, .slice rp (R.length) rc, Ix (gX), Ix (gY)]) (vs := [.slice p (bs.length) c]) rfl rfl)) ?_
        refine l_val (v := Nx (bs.length)) rfl rfl rfl (e_len (a := p) (n := bs.length) (c := c) rfl ua40) ?_
        refine l_val (v := Nx (bs.length)) rfl rfl rfl (e_assign) ?_
        refine l_nil ?_
        refine f_then ?_
        refine c_seq ?_
        refine c_seq ?_
        refine c_region ?_
        refine l_val (v := Nx (bs.length)) rfl rfl rfl (e_move) ?_
        refine l_val (v := .bool (decide (((bs.length : Nat) : Int) < (2 : Int)))) rfl rfl rfl (e_lss (a := ((bs.length : Nat) : Int)) (b := (2 : Int)) rfl rfl) ?_
        refine l_nil ?_
        refine f_then ?_
        refine c_if (((bs.length : Nat) : Int) < (2 : Int)) rfl (fun hc30 => ?_) (fun hc30 => ?_)
        ·
          refine c_exit ?_
          refine f_then_exit ?_
          refine f_exit_other rfl ?_
          refine f_then_exit ?_
          refine f_then_exit ?_
          refine f_exit ?_
          exact f_cut ⟨k, R, rp, rc, ⟨rfl, rfl⟩, rfl, ⟨by omega, hR, by omega⟩⟩
        ·
          refine c_skip ?_
          refine f_then ?_
          refine c_seq ?_
          refine c_quiet (by kernel_rfl) (by kernel_rfl) ?_
          refine q_val (v := .slice ua (us.length) (uc)) rfl rfl rfl (e_move) ?_
          refine q_val (v := Nx (2 * k)) rfl rfl rfl (e_move) ?_
          obtain ⟨x31, hx32⟩ : ∃ x_, (us)[2 * k]? = some x_ := ⟨_, List.getElem?_eq_getElem (by omega)⟩
          obtain ⟨ha33, cs34, hc35, rfl⟩ := ue _ _ hx32
          refine q_val (v := .pointer (some ((ba ua).add ((2 * k) * 1)))) rfl rfl rfl (e_indexAddr (k := 2 * k) (len := us.length) (cap := uc) (a := ua) rfl rfl ua130 (by omega) ha33) ?_
          refine q_val (v := Bx (x31)) rfl rfl rfl (e_load1 ua97 (v := Bx (x31)) rfl (Knows.of_base (Cs.mono _ _) hc35)) ?_
          refine q_val (v := Nx (x31.toNat)) rfl rfl rfl (e_conv (a := ((x31).toNat : Int)) rfl ⟨_, ua125⟩ ua41 (i64n rfl (by have := (x31).toNat_lt; omega))) ?_
          refine q_val (v := Nx (bs.length)) rfl rfl rfl (e_move) ?_
          refine q_val (v := Nx (x31.toNat % bs.length)) rfl rfl rfl (e_rem (a := ((x31.toNat : Nat) : Int)) (b := ((bs.length : Nat) : Int)) rfl rfl (by omega) (nat_tmod _ _)) ?_
          refine q_val (v := .slice ua (us.length) (uc)) rfl rfl rfl (e_move) ?_
          refine q_val (v := Nx (2 * k)) rfl rfl rfl (e_move) ?_
          refine q_val (v := Nx ((2 * k) + 1)) rfl rfl rfl (e_add (a := ((2 * k : Nat) : Int)) (b := (1 : Int)) rfl rfl (i64n (by omega) (by omega))) ?_
          obtain ⟨x37, hx38⟩ : ∃ x_, (us)[(2 * k) + 1]? = some x_ := ⟨_, List.getElem?_eq_getElem (by omega)⟩
          obtain ⟨ha39, cs40, hc41, rfl⟩ := ue _ _ hx38
          refine q_val (v := .pointer (some ((ba ua).add (((2 * k) + 1) * 1)))) rfl rfl rfl (e_indexAddr (k := (2 * k) + 1) (len := us.length) (cap := uc) (a := ua) rfl rfl ua130 (by omega) ha39) ?_
          refine q_val (v := Bx (x37)) rfl rfl rfl (e_load1 ua97 (v := Bx (x37)) rfl (Knows.of_base (Cs.mono _ _) hc41)) ?_
          refine q_val (v := Nx (x37.toNat)) rfl rfl rfl (e_conv (a := ((x37).toNat : Int)) rfl ⟨_, ua125⟩ ua41 (i64n rfl (by have := (x37).toNat_lt; omega))) ?_
          refine q_val (v := Nx (bs.length)) rfl rfl rfl (e_move) ?_
          refine q_val (v := Nx (x37.toNat % bs.length)) rfl rfl rfl (e_rem (a := ((x37.toNat : Nat) : Int)) (b := ((bs.length : Nat) : Int)) rfl rfl (by omega) (nat_tmod _ _)) ?_
          refine q_val (v := Nx (x31.toNat % bs.length)) rfl rfl rfl (e_assign) ?_
          refine q_val (v := Nx (x37.toNat % bs.length)) rfl rfl rfl (e_assign) ?_
          refine q_nil ?_
          refine f_then ?_
          refine c_seq ?_
          refine c_region ?_
          refine l_val (v := Nx (x31.toNat % bs.length)) rfl rfl rfl (e_move) ?_
          refine l_val (v := Nx (x37.toNat % bs.length)) rfl rfl rfl (e_move) ?_
          refine l_val (v := .bool (decide (((x31.toNat % bs.length : Nat) : Int) ≠ ((x37.toNat % bs.length : Nat) : Int)))) rfl rfl rfl (e_neq (a := ((x31.toNat % bs.length : Nat) : Int)) (b := ((x37.toNat % bs.length : Nat) : Int)) rfl rfl) ?_
          refine l_nil ?_
          refine f_then ?_
          refine c_if (((x31.toNat % bs.length : Nat) : Int) ≠ ((x37.toNat % bs.length : Nat) : Int)) rfl (fun hc43 => ?_) (fun hc43 => ?_)
          ·
            have ha := Nat.mod_lt x31.toNat (show 0 < bs.length by omega)
            have hb := Nat.mod_lt x37.toNat (show 0 < bs.length by omega)
            have hx8 := x31.toNat_lt
            have hmr : madeR bs.length ⟨((1 + (2 * (min (x31.toNat % bs.length) (x37.toNat % bs.length))) : Nat) : Int), ((1 + (2 * (max (x31.toNat % bs.length) (x37.toNat % bs.length))) : Nat) : Int), ((200 + x31.toNat : Nat) : Int)⟩ := ⟨min (x31.toNat % bs.length) (x37.toNat % bs.length), max (x31.toNat % bs.length) (x37.toNat % bs.length), by omega, by omega, rfl, rfl, by show (200 : Int) ≤ ((200 + x31.toNat : Nat) : Int); omega, by show ((200 + x31.toNat : Nat) : Int) ≤ 455; omega⟩
            refine c_any [⟨[], [], [0], [122], fun f => f 122 = .pointer (some ⟨b2, 1, none⟩)⟩, ⟨[0], [0], [], [123], fun f => f 123 = .slice rp (R.length) rc⟩, ⟨[], [], [1], [124], fun f => f 124 = Nx (x31.toNat % bs.length)⟩, ⟨[], [], [2], [125], fun f => f 125 = Nx (x37.toNat % bs.length)⟩, ⟨[2, 3], [2, 3], [], [126], fun f => f 126 = Nx (min (x31.toNat % bs.length) (x37.toNat % bs.length))⟩, ⟨[2, 3, 4], [4], [], [127], fun f => f 127 = Nx (2 * (min (x31.toNat % bs.length) (x37.toNat % bs.length)))⟩, ⟨[2, 3, 4, 5], [5], [], [128], fun f => f 128 = Nx (1 + (2 * (min (x31.toNat % bs.length) (x37.toNat % bs.length))))⟩, ⟨[], [], [1], [129], fun f => f 129 = Nx (x31.toNat % bs.length)⟩, ⟨[], [], [2], [130], fun f => f 130 = Nx (x37.toNat % bs.length)⟩, ⟨[7, 8], [7, 8], [], [131], fun f => f 131 = Nx (max (x31.toNat % bs.length) (x37.toNat % bs.length))⟩, ⟨[7, 8, 9], [9], [], [132], fun f => f 132 = Nx (2 * (max (x31.toNat % bs.length) (x37.toNat % bs.length)))⟩, ⟨[7, 8, 9, 10], [10], [], [133], fun f => f 133 = Nx (1 + (2 * (max (x31.toNat % bs.length) (x37.toNat % bs.length))))⟩, ⟨[], [], [3], [134], fun f => f 134 = .slice ua (us.length) (uc)⟩, ⟨[], [], [4], [135], fun f => f 135 = Nx (2 * k)⟩, ⟨[12, 13], [12, 13], [], [136], fun f => f 136 = .pointer (some ((ba ua).add ((2 * k) * 1)))⟩, ⟨[12, 13, 14], [14], [], [137], fun f => f 137 = Bx (x31)⟩, ⟨[12, 13, 14, 15], [15], [], [138], fun f => f 138 = Nx (x31.toNat)⟩, ⟨[12, 13, 14, 15, 16], [16], [], [139], fun f => f 139 = Nx (200 + x31.toNat)⟩, ⟨[2, 3, 4, 5, 6, 7, 8, 9, 10, 11, 12, 13, 14, 15, 16, 17], [6, 11, 17], [], [140], fun f => f 140 = .agg #[Nx (1 + (2 * (min (x31.toNat % bs.length) (x37.toNat % bs.length)))), Nx (1 + (2 * (max (x31.toNat % bs.length) (x37.toNat % bs.length)))), Nx (200 + x31.toNat)]⟩, ⟨[2, 3, 4, 5, 6, 7, 8, 9, 10, 11, 12, 13, 14, 15, 16, 17, 18], [18], [], [141], fun f => f 141 = .slice (some ⟨(blk (f 141)), 0, none⟩) 1 1⟩, ⟨[0, 1, 2, 3, 4, 5, 6, 7, 8, 9, 10, 11, 12, 13, 14, 15, 16, 17, 18, 19], [1, 19], [], [142], fun f => f 142 = .slice (sla (f 142)) ((R ++ [(⟨((1 + (2 * (min (x31.toNat % bs.length) (x37.toNat % bs.length))) : Nat) : Int), ((1 + (2 * (max (x31.toNat % bs.length) (x37.toNat % bs.length))) : Nat) : Int), ((200 + x31.toNat : Nat) : Int)⟩ : KR)]).length) (slc (f 142))⟩, ⟨[0, 1, 2, 3, 4, 5, 6, 7, 8, 9, 10, 11, 12, 13, 14, 15, 16, 17, 18, 19, 20], [], [0], [143], fun f => f 143 = .pointer (some ⟨b2, 1, none⟩)⟩, ⟨[0, 1, 2, 3, 4, 5, 6, 7, 8, 9, 10, 11, 12, 13, 14, 15, 16, 17, 18, 19, 20, 21], [21, 20], [], [], fun _ => True⟩] [⟨none, (some 20), [20], [], fun _ => rowF RopeF 49 rp rc R⟩, ⟨none, none, [], [], fun _ => rowF BodyF 39 p c bs⟩, ⟨none, (some 22), [1, 22], [], fun _ => pt b2 (.cells #[.slice p (bs.length) c, .slice rp (R.length) rc, Ix (gX), Ix (gY)] 32)⟩, ⟨none, none, [], [], fun _ => pt b1 (.cells #[.slice none 0 0, .slice none 0 0, .int .i64 (0), .int .i64 (0)] 32)⟩, ⟨(some 19), none, [20], [141], fun f => pt (blk (f 141)) (.cells #[Nx (1 + (2 * (min (x31.toNat % bs.length) (x37.toNat % bs.length)))), Nx (1 + (2 * (max (x31.toNat % bs.length) (x37.toNat % bs.length)))), Nx (200 + x31.toNat)] 49)⟩, ⟨(some 20), none, [], [142], fun f => rowF RopeF 49 (sla (f 142)) (slc (f 142)) (R ++ [(⟨((1 + (2 * (min (x31.toNat % bs.length) (x37.toNat % bs.length))) : Nat) : Int), ((1 + (2 * (max (x31.toNat % bs.length) (x37.toNat % bs.length))) : Nat) : Int), ((200 + x31.toNat : Nat) : Int)⟩ : KR)])⟩, ⟨(some 22), none, [], [142], fun f => pt b2 (.cells #[.slice p (bs.length) c, .slice (sla (f 142)) ((R ++ [(⟨((1 + (2 * (min (x31.toNat % bs.length) (x37.toNat % bs.length))) : Nat) : Int), ((1 + (2 * (max (x31.toNat % bs.length) (x37.toNat % bs.length))) : Nat) : Int), ((200 + x31.toNat : Nat) : Int)⟩ : KR)]).length) (slc (f 142)), Ix (gX), Ix (gY)] 32)⟩] [(9, .pointer (some ⟨b2, 0, none⟩)), (15, Nx (x31.toNat % bs.length)), (16, Nx (x37.toNat % bs.length)), (1, .slice ua (us.length) (uc)), (13, Nx (2 * k)), (8, .pointer (some ⟨b1, 0, none⟩))] [3, 5, 0, 4] [] (by kernel_rfl) (by kernel_rfl) (by kernel_rfl) (by kernel_rfl) rfl ⟨rfl, rfl, rfl, rfl, rfl, rfl, trivial⟩ ⟨?_, ?_, ?_, ?_, ?_, ?_, ?_, ?_, ?_, ?_, ?_, ?_, ?_, ?_, ?_, ?_, ?_, ?_, ?_, ?_, ?_, ?_, ?_, trivial⟩ ?_
            · rintro f M - ⟨i0, -⟩
              have hs9 : f 9 = .pointer (some ⟨b2, 0, none⟩) := i0
              refine ob_start (L' := M) (by rfl) (up_cons rfl hs9) ?_
              refine l_val (v := .pointer (some ⟨b2, 1, none⟩)) rfl rfl rfl (e_fieldPt (b := b2) (o := 0) rfl ua55) ?_
              refine l_nil ?_
              exact f_owes_d (up_cons rfl hs9) rfl (List.Perm.refl _)
            · rintro f M ⟨k0, -⟩ -
              have hs122 : f 122 = .pointer (some ⟨b2, 1, none⟩) := k0
              refine ob_start (L' := pt b2 (.cells #[.slice p (bs.length) c, .slice rp (R.length) rc, Ix (gX), Ix (gY)] 32) :: M) (by rfl) (up_cons rfl hs122) ?_
              refine l_val (v := .slice rp (R.length) rc) rfl rfl rfl (e_load1 ua56 (v := .slice rp (R.length) rc) rfl (k_pt 0 (cs := #[.slice p (bs.length) c, .slice rp (R.length) rc, Ix (gX), Ix (gY)]) (vs := [.slice rp (R.length) rc]) rfl rfl)) ?_
              refine l_nil ?_
              exact f_owes_d (up_cons rfl hs122) rfl (perm_front 0 rfl)
            · rintro f M - ⟨i0, -⟩
              have hs15 : f 15 = Nx (x31.toNat % bs.length) := i0
              refine ob_start (L' := M) (by rfl) (up_cons rfl hs15) ?_
              refine l_val (v := Nx (x31.toNat % bs.length)) rfl rfl rfl (e_move) ?_
              refine l_nil ?_
              exact f_owes_d (up_cons rfl hs15) rfl (List.Perm.refl _)
            · rintro f M - ⟨i0, -⟩
              have hs16 : f 16 = Nx (x37.toNat % bs.length) := i0
              refine ob_start (L' := M) (by rfl) (up_cons rfl hs16) ?_
              refine l_val (v := Nx (x37.toNat % bs.length)) rfl rfl rfl (e_move) ?_
              refine l_nil ?_
              exact f_owes_d (up_cons rfl hs16) rfl (List.Perm.refl _)
            · rintro f M ⟨k0, k1, -⟩ -
              have hs124 : f 124 = Nx (x31.toNat % bs.length) := k0
              have hs125 : f 125 = Nx (x37.toNat % bs.length) := k1
              refine ob_start (L' := M) (by rfl) (up_cons (up_cons rfl hs124) hs125) ?_
              refine l_val (v := Nx (min (x31.toNat % bs.length) (x37.toNat % bs.length))) rfl rfl rfl (ev_eq (congrArg (Value.int .i64) (by omega)) (e_min (a := ((x31.toNat % bs.length : Nat) : Int)) (b := ((x37.toNat % bs.length : Nat) : Int)) rfl rfl)) ?_
              refine l_nil ?_
              exact f_owes_d (up_cons (up_cons rfl hs124) hs125) rfl (List.Perm.refl _)
            · rintro f M ⟨k0, -⟩ -
              have hs126 : f 126 = Nx (min (x31.toNat % bs.length) (x37.toNat % bs.length)) := k0
              refine ob_start (L' := M) (by rfl) (up_cons rfl hs126) ?_
              refine l_val (v := Nx (2 * (min (x31.toNat % bs.length) (x37.toNat % bs.length)))) rfl rfl rfl (e_mul (a := (2 : Int)) (b := ((min (x31.toNat % bs.length) (x37.toNat % bs.length) : Nat) : Int)) rfl rfl (i64n (by omega) (by omega))) ?_
              refine l_nil ?_
              exact f_owes_d (up_cons rfl hs126) rfl (List.Perm.refl _)
            · rintro f M ⟨k0, -⟩ -
              have hs127 : f 127 = Nx (2 * (min (x31.toNat % bs.length) (x37.toNat % bs.length))) := k0
              refine ob_start (L' := M) (by rfl) (up_cons rfl hs127) ?_
              refine l_val (v := Nx (1 + (2 * (min (x31.toNat % bs.length) (x37.toNat % bs.length))))) rfl rfl rfl (e_add (a := (1 : Int)) (b := ((2 * (min (x31.toNat % bs.length) (x37.toNat % bs.length)) : Nat) : Int)) rfl rfl (i64n (by omega) (by omega))) ?_
              refine l_nil ?_
              exact f_owes_d (up_cons rfl hs127) rfl (List.Perm.refl _)
            · rintro f M - ⟨i0, -⟩
              have hs15 : f 15 = Nx (x31.toNat % bs.length) := i0
              refine ob_start (L' := M) (by rfl) (up_cons rfl hs15) ?_
              refine l_val (v := Nx (x31.toNat % bs.length)) rfl rfl rfl (e_move) ?_
              refine l_nil ?_
              exact f_owes_d (up_cons rfl hs15) rfl (List.Perm.refl _)
            · rintro f M - ⟨i0, -⟩
              have hs16 : f 16 = Nx (x37.toNat % bs.length) := i0
              refine ob_start (L' := M) (by rfl) (up_cons rfl hs16) ?_
              refine l_val (v := Nx (x37.toNat % bs.length)) rfl rfl rfl (e_move) ?_
              refine l_nil ?_
              exact f_owes_d (up_cons rfl hs16) rfl (List.Perm.refl _)
            · rintro f M ⟨k0, k1, -⟩ -
              have hs129 : f 129 = Nx (x31.toNat % bs.length) := k0
              have hs130 : f 130 = Nx (x37.toNat % bs.length) := k1
              refine ob_start (L' := M) (by rfl) (up_cons (up_cons rfl hs129) hs130) ?_
              refine l_val (v := Nx (max (x31.toNat % bs.length) (x37.toNat % bs.length))) rfl rfl rfl (ev_eq (congrArg (Value.int .i64) (by omega)) (e_max (a := ((x31.toNat % bs.length : Nat) : Int)) (b := ((x37.toNat % bs.length : Nat) : Int)) rfl rfl)) ?_
              refine l_nil ?_
              exact f_owes_d (up_cons (up_cons rfl hs129) hs130) rfl (List.Perm.refl _)
            · rintro f M ⟨k0, -⟩ -
              have hs131 : f 131 = Nx (max (x31.toNat % bs.length) (x37.toNat % bs.length)) := k0
              refine ob_start (L' := M) (by rfl) (up_cons rfl hs131) ?_
              refine l_val (v := Nx (2 * (max (x31.toNat % bs.length) (x37.toNat % bs.length)))) rfl rfl rfl (e_mul (a := (2 : Int)) (b := ((max (x31.toNat % bs.length) (x37.toNat % bs.length) : Nat) : Int)) rfl rfl (i64n (by omega) (by omega))) ?_
              refine l_nil ?_
              exact f_owes_d (up_cons rfl hs131) rfl (List.Perm.refl _)
            · rintro f M ⟨k0, -⟩ -
              have hs132 : f 132 = Nx (2 * (max (x31.toNat % bs.length) (x37.toNat % bs.length))) := k0
              refine ob_start (L' := M) (by rfl) (up_cons rfl hs132) ?_
              refine l_val (v := Nx (1 + (2 * (max (x31.toNat % bs.length) (x37.toNat % bs.length))))) rfl rfl rfl (e_add (a := (1 : Int)) (b := ((2 * (max (x31.toNat % bs.length) (x37.toNat % bs.length)) : Nat) : Int)) rfl rfl (i64n (by omega) (by omega))) ?_
              refine l_nil ?_
              exact f_owes_d (up_cons rfl hs132) rfl (List.Perm.refl _)
            · rintro f M - ⟨i0, -⟩
              have hs1 : f 1 = .slice ua (us.length) (uc) := i0
              refine ob_start (L' := M) (by rfl) (up_cons rfl hs1) ?_
              refine l_val (v := .slice ua (us.length) (uc)) rfl rfl rfl (e_move) ?_
              refine l_nil ?_
              exact f_owes_d (up_cons rfl hs1) rfl (List.Perm.refl _)
            · rintro f M - ⟨i0, -⟩
              have hs13 : f 13 = Nx (2 * k) := i0
              refine ob_start (L' := M) (by rfl) (up_cons rfl hs13) ?_
              refine l_val (v := Nx (2 * k)) rfl rfl rfl (e_move) ?_
              refine l_nil ?_
              exact f_owes_d (up_cons rfl hs13) rfl (List.Perm.refl _)
            · rintro f M ⟨k0, k1, -⟩ -
              have hs134 : f 134 = .slice ua (us.length) (uc) := k0
              have hs135 : f 135 = Nx (2 * k) := k1
              refine ob_start (L' := M) (by rfl) (up_cons (up_cons rfl hs134) hs135) ?_
              refine l_val (v := .pointer (some ((ba ua).add ((2 * k) * 1)))) rfl rfl rfl (e_indexAddr (k := 2 * k) (len := us.length) (cap := uc) (a := ua) rfl rfl ua130 (by omega) ha33) ?_
              refine l_nil ?_
              exact f_owes_d (up_cons (up_cons rfl hs134) hs135) rfl (List.Perm.refl _)
            · rintro f M ⟨k0, -⟩ -
              have hs136 : f 136 = .pointer (some ((ba ua).add ((2 * k) * 1))) := k0
              refine ob_start (L' := M) (by rfl) (up_cons rfl hs136) ?_
              refine l_val (v := Bx (x31)) rfl rfl rfl (e_load1 ua97 (v := Bx (x31)) rfl (Knows.of_base (Cs.mono _ _) hc35)) ?_
              refine l_nil ?_
              exact f_owes_d (up_cons rfl hs136) rfl (List.Perm.refl _)
            · rintro f M ⟨k0, -⟩ -
              have hs137 : f 137 = Bx (x31) := k0
              refine ob_start (L' := M) (by rfl) (up_cons rfl hs137) ?_
              refine l_val (v := Nx (x31.toNat)) rfl rfl rfl (e_conv (a := ((x31).toNat : Int)) rfl ⟨_, ua125⟩ ua41 (i64n rfl (by have := (x31).toNat_lt; omega))) ?_
              refine l_nil ?_
              exact f_owes_d (up_cons rfl hs137) rfl (List.Perm.refl _)
            · rintro f M ⟨k0, -⟩ -
              have hs138 : f 138 = Nx (x31.toNat) := k0
              refine ob_start (L' := M) (by rfl) (up_cons rfl hs138) ?_
              refine l_val (v := Nx (200 + x31.toNat)) rfl rfl rfl (e_add (a := (200 : Int)) (b := ((x31.toNat : Nat) : Int)) rfl rfl (i64n (by omega) (by omega))) ?_
              refine l_nil ?_
              exact f_owes_d (up_cons rfl hs138) rfl (List.Perm.refl _)
            · rintro f M ⟨k0, k1, k2, -⟩ -
              have hs128 : f 128 = Nx (1 + (2 * (min (x31.toNat % bs.length) (x37.toNat % bs.length)))) := k0
              have hs133 : f 133 = Nx (1 + (2 * (max (x31.toNat % bs.length) (x37.toNat % bs.length)))) := k1
              have hs139 : f 139 = Nx (200 + x31.toNat) := k2
              refine ob_start (L' := M) (by rfl) (up_cons (up_cons (up_cons rfl hs128) hs133) hs139) ?_
              refine l_val (v := .agg #[Nx (1 + (2 * (min (x31.toNat % bs.length) (x37.toNat % bs.length)))), Nx (1 + (2 * (max (x31.toNat % bs.length) (x37.toNat % bs.length)))), Nx (200 + x31.toNat)]) rfl rfl rfl (e_build ua77 ua110 (vs := [(0, Nx (1 + (2 * (min (x31.toNat % bs.length) (x37.toNat % bs.length))))), (1, Nx (1 + (2 * (max (x31.toNat % bs.length) (x37.toNat % bs.length))))), (2, Nx (200 + x31.toNat))]) (cells := #[Nx (1 + (2 * (min (x31.toNat % bs.length) (x37.toNat % bs.length)))), Nx (1 + (2 * (max (x31.toNat % bs.length) (x37.toNat % bs.length)))), Nx (200 + x31.toNat)]) rfl rfl) ?_
              refine l_nil ?_
              exact f_owes_d (up_cons (up_cons (up_cons rfl hs128) hs133) hs139) rfl (List.Perm.refl _)
            · rintro f M ⟨k0, -⟩ -
              have hs140 : f 140 = .agg #[Nx (1 + (2 * (min (x31.toNat % bs.length) (x37.toNat % bs.length)))), Nx (1 + (2 * (max (x31.toNat % bs.length) (x37.toNat % bs.length)))), Nx (200 + x31.toNat)] := k0
              refine ob_start (L' := M) (by rfl) (up_cons rfl hs140) ?_
              refine l_mv rfl rfl rfl (m_slices ua46 ua77 (vs := [(0, .agg #[Nx (1 + (2 * (min (x31.toNat % bs.length) (x37.toNat % bs.length)))), Nx (1 + (2 * (max (x31.toNat % bs.length) (x37.toNat % bs.length)))), Nx (200 + x31.toNat)])]) (cells := #[Nx (1 + (2 * (min (x31.toNat % bs.length) (x37.toNat % bs.length)))), Nx (1 + (2 * (max (x31.toNat % bs.length) (x37.toNat % bs.length)))), Nx (200 + x31.toNat)]) rfl rfl rfl rfl) ?_
              rintro _ _ ⟨b45, rfl, rfl⟩
              refine l_nil ?_
              exact f_owes_d (up_cons rfl hs140) rfl (perm_front 0 rfl)
            · rintro f M ⟨k0, k1, -⟩ -
              have hs123 : f 123 = .slice rp (R.length) rc := k0
              have hs141 : f 141 = .slice (some ⟨(blk (f 141)), 0, none⟩) 1 1 := k1
              refine ob_start (L' := rowF RopeF 49 rp rc R :: pt (blk (f 141)) (.cells #[Nx (1 + (2 * (min (x31.toNat % bs.length) (x37.toNat % bs.length)))), Nx (1 + (2 * (max (x31.toNat % bs.length) (x37.toNat % bs.length)))), Nx (200 + x31.toNat)] 49) :: M) (by rfl) (up_cons (up_cons rfl hs123) hs141) ?_
              refine l_mv rfl rfl rfl (m_appendFlN (F := RopeF) 0 ua46 ua84 (p := rp) (m := R.length) (xs := R) (ys := [(⟨((1 + (2 * (min (x31.toNat % bs.length) (x37.toNat % bs.length))) : Nat) : Int), ((1 + (2 * (max (x31.toNat % bs.length) (x37.toNat % bs.length))) : Nat) : Int), ((200 + x31.toNat : Nat) : Int)⟩ : KR)]) (ao := (some ⟨(blk (f 141)), 0, none⟩)) (k := 1) (c := 1) rfl rfl rfl rfl rfl (k_ptFl (z := (⟨((1 + (2 * (min (x31.toNat % bs.length) (x37.toNat % bs.length))) : Nat) : Int), ((1 + (2 * (max (x31.toNat % bs.length) (x37.toNat % bs.length))) : Nat) : Int), ((200 + x31.toNat : Nat) : Int)⟩ : KR)) 1 rfl rfl) (by first | omega | simp only [List.length_nil, List.length_cons, List.length_append, List.length_set]; omega) (by first | omega | simp only [List.length_nil, List.length_cons, List.length_append, List.length_set]; omega)) ?_
              rintro _ _ ⟨rp48, rc49, rfl, rfl⟩
              refine l_nil ?_
              exact f_owes_d (up_cons (up_cons rfl hs123) hs141) rfl ((perm_front 0 rfl).trans (perm_front 1 rfl))
            · rintro f M - ⟨i0, -⟩
              have hs9 : f 9 = .pointer (some ⟨b2, 0, none⟩) := i0
              refine ob_start (L' := M) (by rfl) (up_cons rfl hs9) ?_
              refine l_val (v := .pointer (some ⟨b2, 1, none⟩)) rfl rfl rfl (e_fieldPt (b := b2) (o := 0) rfl ua55) ?_
              refine l_nil ?_
              exact f_owes_d (up_cons rfl hs9) rfl (List.Perm.refl _)
            · rintro f M ⟨k0, k1, -⟩ -
              have hs143 : f 143 = .pointer (some ⟨b2, 1, none⟩) := k0
              have hs142 : f 142 = .slice (sla (f 142)) ((R ++ [(⟨((1 + (2 * (min (x31.toNat % bs.length) (x37.toNat % bs.length))) : Nat) : Int), ((1 + (2 * (max (x31.toNat % bs.length) (x37.toNat % bs.length))) : Nat) : Int), ((200 + x31.toNat : Nat) : Int)⟩ : KR)]).length) (slc (f 142)) := k1
              refine ob_start (L' := pt b2 (.cells #[.slice p (bs.length) c, .slice rp (R.length) rc, Ix (gX), Ix (gY)] 32) :: M) (by rfl) (up_cons (up_cons rfl hs143) hs142) ?_
              refine l_mu rfl rfl (m_store 0 ua56 (b := b2) (o := 1) (T := 32) (cs := #[.slice p (bs.length) c, .slice rp (R.length) rc, Ix (gX), Ix (gY)]) (cs' := #[.slice p (bs.length) c, .slice (sla (f 142)) ((R ++ [(⟨((1 + (2 * (min (x31.toNat % bs.length) (x37.toNat % bs.length))) : Nat) : Int), ((1 + (2 * (max (x31.toNat % bs.length) (x37.toNat % bs.length))) : Nat) : Int), ((200 + x31.toNat : Nat) : Int)⟩ : KR)]).length) (slc (f 142)), Ix (gX), Ix (gY)]) (v := .slice (sla (f 142)) ((R ++ [(⟨((1 + (2 * (min (x31.toNat % bs.length) (x37.toNat % bs.length))) : Nat) : Int), ((1 + (2 * (max (x31.toNat % bs.length) (x37.toNat % bs.length))) : Nat) : Int), ((200 + x31.toNat : Nat) : Int)⟩ : KR)]).length) (slc (f 142))) rfl rfl rfl rfl rfl rfl rfl) ?_
              refine l_nil ?_
              exact f_owes_n (up_cons (up_cons rfl hs143) hs142) trivial (perm_front 0 rfl)
            rintro fa50 ⟨-, -, -, -, -, -, -, -, -, -, -, -, -, -, -, -, -, -, -, -, -, -, -, -⟩ ⟨j0, j1, j2, j3, -⟩
            refine f_re (L' := [rowF BodyF 39 p c bs, pt b1 (.cells #[.slice none 0 0, .slice none 0 0, .int .i64 (0), .int .i64 (0)] 32), pt (blk (fa50 141)) (.cells #[Nx (1 + (2 * (min (x31.toNat % bs.length) (x37.toNat % bs.length)))), Nx (1 + (2 * (max (x31.toNat % bs.length) (x37.toNat % bs.length)))), Nx (200 + x31.toNat)] 49), rowF RopeF 49 (sla (fa50 142)) (slc (fa50 142)) (R ++ [(⟨((1 + (2 * (min (x31.toNat % bs.length) (x37.toNat % bs.length))) : Nat) : Int), ((1 + (2 * (max (x31.toNat % bs.length) (x37.toNat % bs.length))) : Nat) : Int), ((200 + x31.toNat : Nat) : Int)⟩ : KR)]), pt b2 (.cells #[.slice p (bs.length) c, .slice (sla (fa50 142)) ((R ++ [(⟨((1 + (2 * (min (x31.toNat % bs.length) (x37.toNat % bs.length))) : Nat) : Int), ((1 + (2 * (max (x31.toNat % bs.length) (x37.toNat % bs.length))) : Nat) : Int), ((200 + x31.toNat : Nat) : Int)⟩ : KR)]).length) (slc (fa50 142)), Ix (gX), Ix (gY)] 32)]) (by rfl) ?_
            refine f_rebase (d := 1) (v := .slice ua (us.length) (uc)) j0 ?_
            refine f_rebase (d := 8) (v := .pointer (some ⟨b1, 0, none⟩)) j1 ?_
            refine f_rebase (d := 9) (v := .pointer (some ⟨b2, 0, none⟩)) j2 ?_
            refine f_rebase (d := 13) (v := Nx (2 * k)) j3 ?_
            refine f_block ?_
            refine f_then ?_
            refine c_region ?_
            refine l_val (v := Nx (2 * k)) rfl rfl rfl (e_move) ?_
            refine l_val (v := Nx ((2 * k) + 2)) rfl rfl rfl (e_add (a := ((2 * k : Nat) : Int)) (b := (2 : Int)) rfl rfl (i64n (by omega) (by omega))) ?_
            refine l_val (v := Nx ((2 * k) + 2)) rfl rfl rfl (e_assign) ?_
            refine l_nil ?_
            refine f_perm (L' := [rowF RopeF 49 (sla (fa50 142)) (slc (fa50 142)) (R ++ [(⟨((1 + (2 * (min (x31.toNat % bs.length) (x37.toNat % bs.length))) : Nat) : Int), ((1 + (2 * (max (x31.toNat % bs.length) (x37.toNat % bs.length))) : Nat) : Int), ((200 + x31.toNat : Nat) : Int)⟩ : KR)]), rowF BodyF 39 p c bs, pt b2 (.cells #[.slice p (bs.length) c, .slice (sla (fa50 142)) ((R ++ [(⟨((1 + (2 * (min (x31.toNat % bs.length) (x37.toNat % bs.length))) : Nat) : Int), ((1 + (2 * (max (x31.toNat % bs.length) (x37.toNat % bs.length))) : Nat) : Int), ((200 + x31.toNat : Nat) : Int)⟩ : KR)]).length) (slc (fa50 142)), Ix (gX), Ix (gY)] 32), pt b1 (.cells #[.slice none 0 0, .slice none 0 0, .int .i64 (0), .int .i64 (0)] 32), pt (blk (fa50 141)) (.cells #[Nx (1 + (2 * (min (x31.toNat % bs.length) (x37.toNat % bs.length)))), Nx (1 + (2 * (max (x31.toNat % bs.length) (x37.toNat % bs.length)))), Nx (200 + x31.toNat)] 49)]) (perm_ix [3, 0, 4, 1, 2] 5 rfl (by kernel_rfl) (by kernel_rfl)) ?_
            refine f_mask (L' := [rowF RopeF 49 (sla (fa50 142)) (slc (fa50 142)) (R ++ [(⟨((1 + (2 * (min (x31.toNat % bs.length) (x37.toNat % bs.length))) : Nat) : Int), ((1 + (2 * (max (x31.toNat % bs.length) (x37.toNat % bs.length))) : Nat) : Int), ((200 + x31.toNat : Nat) : Int)⟩ : KR)]), rowF BodyF 39 p c bs, pt b2 (.cells #[.slice p (bs.length) c, .slice (sla (fa50 142)) ((R ++ [(⟨((1 + (2 * (min (x31.toNat % bs.length) (x37.toNat % bs.length))) : Nat) : Int), ((1 + (2 * (max (x31.toNat % bs.length) (x37.toNat % bs.length))) : Nat) : Int), ((200 + x31.toNat : Nat) : Int)⟩ : KR)]).length) (slc (fa50 142)), Ix (gX), Ix (gY)] 32), pt b1 (.cells #[.slice none 0 0, .slice none 0 0, .int .i64 (0), .int .i64 (0)] 32)]) [true, true, true, true, false] rfl ?_
            exact f_cut ⟨(k + 1, (R ++ [(⟨((1 + (2 * (min (x31.toNat % bs.length) (x37.toNat % bs.length))) : Nat) : Int), ((1 + (2 * (max (x31.toNat % bs.length) (x37.toNat % bs.length))) : Nat) : Int), ((200 + x31.toNat : Nat) : Int)⟩ : KR)]), (sla (fa50 142)), (slc (fa50 142))), ⟨⟨rfl, rfl, rfl, rfl⟩, rfl, ⟨by omega, ⟨by rw [List.length_append]; simp only [List.length_cons, List.length_nil]; omega, by omega⟩, fun r hr => (List.mem_append.1 hr).elim (hR r) fun h => by rw [List.mem_singleton.1 h]; exact hmr⟩⟩, (show us.length - 2 * (k + 1) < us.length - 2 * k from by omega)⟩
          ·
            refine c_skip ?_
            refine f_block ?_
            refine f_then ?_
            refine c_region ?_
            refine l_val (v := Nx (2 * k)) rfl rfl rfl (e_move) ?_
            refine l_val (v := Nx ((2 * k) + 2)) rfl rfl rfl (e_add (a := ((2 * k : Nat) : Int)) (b := (2 : Int)) rfl rfl (i64n (by omega) (by omega))) ?_
            refine l_val (v := Nx ((2 * k) + 2)) rfl rfl rfl (e_assign) ?_
            refine l_nil ?_
            exact f_cut ⟨(k + 1, R, rp, rc), ⟨⟨rfl, rfl, rfl, rfl⟩, rfl, ⟨by omega, ⟨by omega, by omega⟩, hR⟩⟩, (show us.length - 2 * (k + 1) < us.length - 2 * k from by omega)⟩
      ·
        refine c_exit ?_
        refine f_then_exit ?_
        refine f_then_exit ?_
        refine f_exit ?_
        exact f_cut ⟨k, R, rp, rc, ⟨rfl, rfl⟩, rfl, ⟨by omega, hR, by omega⟩⟩
    ·
      refine l_skip rfl rfl rfl rfl rfl rfl ?_
      refine l_skip rfl rfl rfl rfl rfl rfl ?_
      refine l_val (v := .bool false) rfl rfl rfl (e_pick_f rfl) ?_
      refine l_nil ?_
      refine f_then ?_
      refine c_no rfl ?_
      refine c_exit ?_
      refine f_then_exit ?_
      refine f_then_exit ?_
      refine f_exit ?_
      exact f_cut ⟨k, R, rp, rc, ⟨rfl, rfl⟩, rfl, ⟨by omega, hR, by omega⟩⟩
  rintro f0 L0 ⟨k, R, rp, rc, ⟨hs8, hs9⟩, hL, ⟨hRl, hR, hRu⟩⟩
  subst L0
  refine rebase (d := 8) hs8 ?_
  refine rebase (d := 9) hs9 ?_
  clear hs8 hs9
  refine c_seq ?_
  refine c_region ?_
  refine l_val (v := .agg #[.slice p (bs.length) c, .slice rp (R.length) rc, Ix (gX), Ix (gY)]) rfl rfl rfl (e_load ua86 (cs := [.slice p (bs.length) c, .slice rp (R.length) rc, Ix (gX), Ix (gY)]) rfl (k_pt 2 (cs := #[.slice p (bs.length) c, .slice rp (R.length) rc, Ix (gX), Ix (gY)]) (vs := [.slice p (bs.length) c, .slice rp (R.length) rc, Ix (gX), Ix (gY)]) rfl rfl) rfl) ?_
  refine l_mu rfl rfl (m_store 3 ua86 (b := b1) (o := 0) (T := 32) (cs := #[.slice none 0 0, .slice none 0 0, .int .i64 (0), .int .i64 (0)]) (cs' := #[.slice p (bs.length) c, .slice rp (R.length) rc, Ix (gX), Ix (gY)]) (v := .agg #[.slice p (bs.length) c, .slice rp (R.length) rc, Ix (gX), Ix (gY)]) rfl rfl rfl rfl rfl rfl rfl) ?_
  refine l_nil ?_
  refine f_then ?_
  refine c_ret ?_
  refine retG (l := [.cell 8 32]) (m := [.agg #[.slice p (bs.length) c, .slice rp (R.length) rc, Ix (gX), Ix (gY)]]) (v := .agg #[.slice p (bs.length) c, .slice rp (R.length) rc, Ix (gX), Ix (gY)]) Try.results10 ⟨rd_cell ua86 (cs := [.slice p (bs.length) c, .slice rp (R.length) rc, Ix (gX), Ix (gY)]) rfl (k_pt 3 (cs := #[.slice p (bs.length) c, .slice rp (R.length) rc, Ix (gX), Ix (gY)]) (vs := [.slice p (bs.length) c, .slice rp (R.length) rc, Ix (gX), Ix (gY)]) rfl rfl) rfl, trivial⟩ rfl ?_
  intro w hw
  have hw2 := st_mask (L' := [rowF RopeF 49 rp rc R, rowF BodyF 39 p c bs]) [true, true, false, false] rfl hw
  exact ⟨bs, R, p, c, rp, rc, by rw [hgX, hgY], by subst hgX; subst hgY; exact madeP_mk hL hR hn2 hRl hgx hgy, hbl, hRu, hw2.perm (perm_ix [1, 0] 2 rfl (by kernel_rfl) (by kernel_rfl))⟩
end Go.Proofs
namespace Go.Proofs
open Go Go.Sl Go.Stp
set_option maxHeartbeats 4000000 in
theorem bounds_ok (β : Base) (w : World) (hw : St β [] w) (b : KB) (ok_b : okB b) : Calls Try.prog 18 #[.agg (bC b)] w fun r w' => r = .returned (.tuple #[.agg #[Ix (b.x - b.w), Ix (b.y - b.h)], .agg #[Ix (b.x + b.w), Ix (b.y + b.h)]]) ∧ St β [] w' := by
  have kp1 := ok_b.2.1
  have kp2 := ok_b.2.2.1
  have kp3 := ok_b.2.2.2.2.2.1
  have kp4 := ok_b.2.2.2.2.2.2.1
  refine enter (n := 35) Try.func18 rfl Try.ntmps18 rfl ?_ hw
  refine c_seq ?_
  refine c_region ?_
  refine l_mv rfl rfl rfl (m_box (v := .agg (bC b)) rfl) ?_
  rintro _ _ ⟨b1, rfl, rfl⟩
  refine l_mv rfl rfl rfl (m_alloc ua17) ?_
  rintro _ _ ⟨b2, rfl, rfl⟩
  refine l_mv rfl rfl rfl (m_alloc ua17) ?_
  rintro _ _ ⟨b3, rfl, rfl⟩
  refine l_nil ?_
  refine f_then ?_
  refine c_seq ?_
  refine c_seq ?_
  refine c_region ?_
  refine l_val (v := .agg (bC b)) rfl rfl rfl (e_load ua22 (cs := (bodyE b)) rfl (k_pt 2 (cs := (bC b)) (vs := (bodyE b)) rfl rfl) rfl) ?_
  refine l_call rfl rfl rfl (cl_value (fst := []) (cap := []) (vs := [.agg (bC b)]) (all := [.agg (bC b)]) ua24 rfl rfl rfl) ?_
  intro w hw
  obtain ⟨β1, sb, kn, hw1, back⟩ := St.frame_all hw
  refine (valid_ok β1 w hw1 b).mono ?_
  rintro e w' ⟨rfl, hw'⟩
  refine ⟨_, rfl, _, back _ _ hw', ?_⟩
  clear hw hw1 hw' back kn sb
  refine l_val (v := .bool (decide (¬ (okB b)))) rfl rfl rfl (e_not_p (p := okB b) rfl) ?_
  refine l_nil ?_
  refine f_then ?_
  refine c_if (¬ (okB b)) rfl (fun hc4 => ?_) (fun hc4 => ?_)
  ·
    exact absurd hc4 (fun h => h ok_b)
  ·
    refine c_skip ?_
    refine f_then ?_
    refine c_seq ?_
    refine c_any [⟨[], [], [0], [9], fun f => f 9 = .pointer (some ⟨b1, 1, none⟩)⟩, ⟨[0], [0], [], [10], fun f => f 10 = .pointer (some ⟨b1, 1, none⟩)⟩, ⟨[0, 1], [1], [], [11], fun f => f 11 = Ix (b.x)⟩, ⟨[], [], [0], [12], fun f => f 12 = .pointer (some ⟨b1, 5, none⟩)⟩, ⟨[3], [3], [], [13], fun f => f 13 = Ix (b.w)⟩, ⟨[0, 1, 2, 3, 4], [2, 4], [], [14], fun f => f 14 = Ix ((b.x) - (b.w))⟩, ⟨[], [], [0], [15], fun f => f 15 = .pointer (some ⟨b1, 1, none⟩)⟩, ⟨[6], [6], [], [16], fun f => f 16 = .pointer (some ⟨b1, 2, none⟩)⟩, ⟨[6, 7], [7], [], [17], fun f => f 17 = Ix (b.y)⟩, ⟨[], [], [0], [18], fun f => f 18 = .pointer (some ⟨b1, 6, none⟩)⟩, ⟨[9], [9], [], [19], fun f => f 19 = Ix (b.h)⟩, ⟨[6, 7, 8, 9, 10], [8, 10], [], [20], fun f => f 20 = Ix ((b.y) - (b.h))⟩, ⟨[0, 1, 2, 3, 4, 5, 6, 7, 8, 9, 10, 11], [5, 11], [], [21], fun f => f 21 = .agg #[Ix ((b.x) - (b.w)), Ix ((b.y) - (b.h))]⟩, ⟨[], [], [0], [22], fun f => f 22 = .pointer (some ⟨b1, 1, none⟩)⟩, ⟨[13], [13], [], [23], fun f => f 23 = .pointer (some ⟨b1, 1, none⟩)⟩, ⟨[13, 14], [14], [], [24], fun f => f 24 = Ix (b.x)⟩, ⟨[], [], [0], [25], fun f => f 25 = .pointer (some ⟨b1, 5, none⟩)⟩, ⟨[16], [16], [], [26], fun f => f 26 = Ix (b.w)⟩, ⟨[13, 14, 15, 16, 17], [15, 17], [], [27], fun f => f 27 = Ix ((b.x) + (b.w))⟩, ⟨[], [], [0], [28], fun f => f 28 = .pointer (some ⟨b1, 1, none⟩)⟩, ⟨[19], [19], [], [29], fun f => f 29 = .pointer (some ⟨b1, 2, none⟩)⟩, ⟨[19, 20], [20], [], [30], fun f => f 30 = Ix (b.y)⟩, ⟨[], [], [0], [31], fun f => f 31 = .pointer (some ⟨b1, 6, none⟩)⟩, ⟨[22], [22], [], [32], fun f => f 32 = Ix (b.h)⟩, ⟨[19, 20, 21, 22, 23], [21, 23], [], [33], fun f => f 33 = Ix ((b.y) + (b.h))⟩, ⟨[13, 14, 15, 16, 17, 18, 19, 20, 21, 22, 23, 24], [18, 24], [], [34], fun f => f 34 = .agg #[Ix ((b.x) + (b.w)), Ix ((b.y) + (b.h))]⟩, ⟨[0, 1, 2, 3, 4, 5, 6, 7, 8, 9, 10, 11, 12], [12], [1], [], fun _ => True⟩, ⟨[0, 1, 2, 3, 4, 5, 6, 7, 8, 9, 10, 11, 12, 13, 14, 15, 16, 17, 18, 19, 20, 21, 22, 23, 24, 25, 26], [25], [2], [], fun _ => True⟩] [⟨none, (some 27), [27], [], fun _ => pt b3 (.cells #[.int .i64 (0), .int .i64 (0)] 30)⟩, ⟨none, (some 26), [26], [], fun _ => pt b2 (.cells #[.int .i64 (0), .int .i64 (0)] 30)⟩, ⟨none, none, [2, 4, 8, 10, 15, 17, 21, 23], [], fun _ => pt b1 (.cells (bC b) 39)⟩, ⟨(some 26), none, [], [], fun _ => pt b2 (.cells #[Ix ((b.x) - (b.w)), Ix ((b.y) - (b.h))] 30)⟩, ⟨(some 27), none, [], [], fun _ => pt b3 (.cells #[Ix ((b.x) + (b.w)), Ix ((b.y) + (b.h))] 30)⟩] [(1, .pointer (some ⟨b1, 0, none⟩)), (2, .pointer (some ⟨b2, 0, none⟩)), (3, .pointer (some ⟨b3, 0, none⟩))] [1, 2] [] (by kernel_rfl) (by kernel_rfl) (by kernel_rfl) (by kernel_rfl) rfl ⟨rfl, rfl, rfl, trivial⟩ ⟨?_, ?_, ?_, ?_, ?_, ?_, ?_, ?_, ?_, ?_, ?_, ?_, ?_, ?_, ?_, ?_, ?_, ?_, ?_, ?_, ?_, ?_, ?_, ?_, ?_, ?_, ?_, ?_, trivial⟩ ?_
    · rintro f M - ⟨i0, -⟩
      have hs1 : f 1 = .pointer (some ⟨b1, 0, none⟩) := i0
      refine ob_start (L' := M) (by rfl) (up_cons rfl hs1) ?_
      refine l_val (v := .pointer (some ⟨b1, 1, none⟩)) rfl rfl rfl (e_fieldPt (b := b1) (o := 0) rfl ua6) ?_
      refine l_nil ?_
      exact f_owes_d (up_cons rfl hs1) rfl (List.Perm.refl _)
    · rintro f M ⟨k0, -⟩ -
      have hs9 : f 9 = .pointer (some ⟨b1, 1, none⟩) := k0
      refine ob_start (L' := M) (by rfl) (up_cons rfl hs9) ?_
      refine l_val (v := .pointer (some ⟨b1, 1, none⟩)) rfl rfl rfl (e_fieldPt (b := b1) (o := 1) rfl ua7) ?_
      refine l_nil ?_
      exact f_owes_d (up_cons rfl hs9) rfl (List.Perm.refl _)
    · rintro f M ⟨k0, -⟩ -
      have hs10 : f 10 = .pointer (some ⟨b1, 1, none⟩) := k0
      refine ob_start (L' := pt b1 (.cells (bC b) 39) :: M) (by rfl) (up_cons rfl hs10) ?_
      refine l_val (v := Ix (b.x)) rfl rfl rfl (e_load1 ua2 (v := Ix (b.x)) rfl (k_pt 0 (cs := (bC b)) (vs := [Ix (b.x)]) rfl rfl)) ?_
      refine l_nil ?_
      exact f_owes_d (up_cons rfl hs10) rfl (perm_front 0 rfl)
    · rintro f M - ⟨i0, -⟩
      have hs1 : f 1 = .pointer (some ⟨b1, 0, none⟩) := i0
      refine ob_start (L' := M) (by rfl) (up_cons rfl hs1) ?_
      refine l_val (v := .pointer (some ⟨b1, 5, none⟩)) rfl rfl rfl (e_fieldPt (b := b1) (o := 0) rfl ua10) ?_
      refine l_nil ?_
      exact f_owes_d (up_cons rfl hs1) rfl (List.Perm.refl _)
    · rintro f M ⟨k0, -⟩ -
      have hs12 : f 12 = .pointer (some ⟨b1, 5, none⟩) := k0
      refine ob_start (L' := pt b1 (.cells (bC b) 39) :: M) (by rfl) (up_cons rfl hs12) ?_
      refine l_val (v := Ix (b.w)) rfl rfl rfl (e_load1 ua2 (v := Ix (b.w)) rfl (k_pt 0 (cs := (bC b)) (vs := [Ix (b.w)]) rfl rfl)) ?_
      refine l_nil ?_
      exact f_owes_d (up_cons rfl hs12) rfl (perm_front 0 rfl)
    · rintro f M ⟨k0, k1, -⟩ -
      have hs11 : f 11 = Ix (b.x) := k0
      have hs13 : f 13 = Ix (b.w) := k1
      refine ob_start (L' := M) (by rfl) (up_cons (up_cons rfl hs11) hs13) ?_
      refine l_val (v := Ix ((b.x) - (b.w))) rfl rfl rfl (e_sub (a := (b.x)) (b := (b.w)) rfl rfl (i64w (by omega))) ?_
      refine l_nil ?_
      exact f_owes_d (up_cons (up_cons rfl hs11) hs13) rfl (List.Perm.refl _)
    · rintro f M - ⟨i0, -⟩
      have hs1 : f 1 = .pointer (some ⟨b1, 0, none⟩) := i0
      refine ob_start (L' := M) (by rfl) (up_cons rfl hs1) ?_
      refine l_val (v := .pointer (some ⟨b1, 1, none⟩)) rfl rfl rfl (e_fieldPt (b := b1) (o := 0) rfl ua6) ?_
      refine l_nil ?_
      exact f_owes_d (up_cons rfl hs1) rfl (List.Perm.refl _)
    · rintro f M ⟨k0, -⟩ -
      have hs15 : f 15 = .pointer (some ⟨b1, 1, none⟩) := k0
      refine ob_start (L' := M) (by rfl) (up_cons rfl hs15) ?_
      refine l_val (v := .pointer (some ⟨b1, 2, none⟩)) rfl rfl rfl (e_fieldPt (b := b1) (o := 1) rfl ua8) ?_
      refine l_nil ?_
      exact f_owes_d (up_cons rfl hs15) rfl (List.Perm.refl _)
    · rintro f M ⟨k0, -⟩ -
      have hs16 : f 16 = .pointer (some ⟨b1, 2, none⟩) := k0
      refine ob_start (L' := pt b1 (.cells (bC b) 39) :: M) (by rfl) (up_cons rfl hs16) ?_
      refine l_val (v := Ix (b.y)) rfl rfl rfl (e_load1 ua2 (v := Ix (b.y)) rfl (k_pt 0 (cs := (bC b)) (vs := [Ix (b.y)]) rfl rfl)) ?_
      refine l_nil ?_
      exact f_owes_d (up_cons rfl hs16) rfl (perm_front 0 rfl)
    · rintro f M - ⟨i0, -⟩
      have hs1 : f 1 = .pointer (some ⟨b1, 0, none⟩) := i0
      refine ob_start (L' := M) (by rfl) (up_cons rfl hs1) ?_
      refine l_val (v := .pointer (some ⟨b1, 6, none⟩)) rfl rfl rfl (e_fieldPt (b := b1) (o := 0) rfl ua11) ?_
      refine l_nil ?_
      exact f_owes_d (up_cons rfl hs1) rfl (List.Perm.refl _)
    · rintro f M ⟨k0, -⟩ -
      have hs18 : f 18 = .pointer (some ⟨b1, 6, none⟩) := k0
      refine ob_start (L' := pt b1 (.cells (bC b) 39) :: M) (by rfl) (up_cons rfl hs18) ?_
      refine l_val (v := Ix (b.h)) rfl rfl rfl (e_load1 ua2 (v := Ix (b.h)) rfl (k_pt 0 (cs := (bC b)) (vs := [Ix (b.h)]) rfl rfl)) ?_
      refine l_nil ?_
      exact f_owes_d (up_cons rfl hs18) rfl (perm_front 0 rfl)
    · rintro f M ⟨k0, k1, -⟩ -
      have hs17 : f 17 = Ix (b.y) := k0
      have hs19 : f 19 = Ix (b.h) := k1
      refine ob_start (L' := M) (by rfl) (up_cons (up_cons rfl hs17) hs19) ?_
      refine l_val (v := Ix ((b.y) - (b.h))) rfl rfl rfl (e_sub (a := (b.y)) (b := (b.h)) rfl rfl (i64w (by omega))) ?_
      refine l_nil ?_
      exact f_owes_d (up_cons (up_cons rfl hs17) hs19) rfl (List.Perm.refl _)
    · rintro f M ⟨k0, k1, -⟩ -
      have hs14 : f 14 = Ix ((b.x) - (b.w)) := k0
      have hs20 : f 20 = Ix ((b.y) - (b.h)) := k1
      refine ob_start (L' := M) (by rfl) (up_cons (up_cons rfl hs14) hs20) ?_
      refine l_val (v := .agg #[Ix ((b.x) - (b.w)), Ix ((b.y) - (b.h))]) rfl rfl rfl (e_build ua17 ua16 (vs := [(0, Ix ((b.x) - (b.w))), (1, Ix ((b.y) - (b.h)))]) (cells := #[Ix ((b.x) - (b.w)), Ix ((b.y) - (b.h))]) rfl rfl) ?_
      refine l_nil ?_
      exact f_owes_d (up_cons (up_cons rfl hs14) hs20) rfl (List.Perm.refl _)
    · rintro f M - ⟨i0, -⟩
      have hs1 : f 1 = .pointer (some ⟨b1, 0, none⟩) := i0
      refine ob_start (L' := M) (by rfl) (up_cons rfl hs1) ?_
      refine l_val (v := .pointer (some ⟨b1, 1, none⟩)) rfl rfl rfl (e_fieldPt (b := b1) (o := 0) rfl ua6) ?_
      refine l_nil ?_
      exact f_owes_d (up_cons rfl hs1) rfl (List.Perm.refl _)
    · rintro f M ⟨k0, -⟩ -
      have hs22 : f 22 = .pointer (some ⟨b1, 1, none⟩) := k0
      refine ob_start (L' := M) (by rfl) (up_cons rfl hs22) ?_
      refine l_val (v := .pointer (some ⟨b1, 1, none⟩)) rfl rfl rfl (e_fieldPt (b := b1) (o := 1) rfl ua7) ?_
      refine l_nil ?_
      exact f_owes_d (up_cons rfl hs22) rfl (List.Perm.refl _)
    · rintro f M ⟨k0, -⟩ -
      have hs23 : f 23 = .pointer (some ⟨b1, 1, none⟩) := k0
      refine ob_start (L' := pt b1 (.cells (bC b) 39) :: M) (by rfl) (up_cons rfl hs23) ?_
      refine l_val (v := Ix (b.x)) rfl rfl rfl (e_load1 ua2 (v := Ix (b.x)) rfl (k_pt 0 (cs := (bC b)) (vs := [Ix (b.x)]) rfl rfl)) ?_
      refine l_nil ?_
      exact f_owes_d (up_cons rfl hs23) rfl (perm_front 0 rfl)
    · rintro f M - ⟨i0, -⟩
      have hs1 : f 1 = .pointer (some ⟨b1, 0, none⟩) := i0
      refine ob_start (L' := M) (by rfl) (up_cons rfl hs1) ?_
      refine l_val (v := .pointer (some ⟨b1, 5, none⟩)) rfl rfl rfl (e_fieldPt (b := b1) (o := 0) rfl ua10) ?_
      refine l_nil ?_
      exact f_owes_d (up_cons rfl hs1) rfl (List.Perm.refl _)
    · rintro f M ⟨k0, -⟩ -
      have hs25 : f 25 = .pointer (some ⟨b1, 5, none⟩) := k0
      refine ob_start (L' := pt b1 (.cells (bC b) 39) :: M) (by rfl) (up_cons rfl hs25) ?_
      refine l_val (v := Ix (b.w)) rfl rfl rfl (e_load1 ua2 (v := Ix (b.w)) rfl (k_pt 0 (cs := (bC b)) (vs := [Ix (b.w)]) rfl rfl)) ?_
      refine l_nil ?_
      exact f_owes_d (up_cons rfl hs25) rfl (perm_front 0 rfl)
    · rintro f M ⟨k0, k1, -⟩ -
      have hs24 : f 24 = Ix (b.x) := k0
      have hs26 : f 26 = Ix (b.w) := k1
      refine ob_start (L' := M) (by rfl) (up_cons (up_cons rfl hs24) hs26) ?_
      refine l_val (v := Ix ((b.x) + (b.w))) rfl rfl rfl (e_add (a := (b.x)) (b := (b.w)) rfl rfl (i64w (by omega))) ?_
      refine l_nil ?_
      exact f_owes_d (up_cons (up_cons rfl hs24) hs26) rfl (List.Perm.refl _)
    · rintro f M - ⟨i0, -⟩
      have hs1 : f 1 = .pointer (some ⟨b1, 0, none⟩) := i0
      refine ob_start (L' := M) (by rfl) (up_cons rfl hs1) ?_
      refine l_val (v := .pointer (some ⟨b1, 1, none⟩)) rfl rfl rfl (e_fieldPt (b := b1) (o := 0) rfl ua6) ?_
      refine l_nil ?_
      exact f_owes_d (up_cons rfl hs1) rfl (List.Perm.refl _)
    · rintro f M ⟨k0, -⟩ -
      have hs28 : f 28 = .pointer (some ⟨b1, 1, none⟩) := k0
      refine ob_start (L' := M) (by rfl) (up_cons rfl hs28) ?_
      refine l_val (v := .pointer (some ⟨b1, 2, none⟩)) rfl rfl rfl (e_fieldPt (b := b1) (o := 1) rfl ua8) ?_
      refine l_nil ?_
      exact f_owes_d (up_cons rfl hs28) rfl (List.Perm.refl _)
    · rintro f M ⟨k0, -⟩ -
      have hs29 : f 29 = .pointer (some ⟨b1, 2, none⟩) := k0
      refine ob_start (L' := pt b1 (.cells (bC b) 39) :: M) (by rfl) (up_cons rfl hs29) ?_
      refine l_val (v := Ix (b.y)) rfl rfl rfl (e_load1 ua2 (v := Ix (b.y)) rfl (k_pt 0 (cs := (bC b)) (vs := [Ix (b.y)]) rfl rfl)) ?_
      refine l_nil ?_
      exact f_owes_d (up_cons rfl hs29) rfl (perm_front 0 rfl)
    · rintro f M - ⟨i0, -⟩
      have hs1 : f 1 = .pointer (some ⟨b1, 0, none⟩) := i0
      refine ob_start (L' := M) (by rfl) (up_cons rfl hs1) ?_
      refine l_val (v := .pointer (some ⟨b1, 6, none⟩)) rfl rfl rfl (e_fieldPt (b := b1) (o := 0) rfl ua11) ?_
      refine l_nil ?_
      exact f_owes_d (up_cons rfl hs1) rfl (List.Perm.refl _)
    · rintro f M ⟨k0, -⟩ -
      have hs31 : f 31 = .pointer (some ⟨b1, 6, none⟩) := k0
      refine ob_start (L' := pt b1 (.cells (bC b) 39) :: M) (by rfl) (up_cons rfl hs31) ?_
      refine l_val (v := Ix (b.h)) rfl rfl rfl (e_load1 ua2 (v := Ix (b.h)) rfl (k_pt 0 (cs := (bC b)) (vs := [Ix (b.h)]) rfl rfl)) ?_
      refine l_nil ?_
      exact f_owes_d (up_cons rfl hs31) rfl (perm_front 0 rfl)
    · rintro f M ⟨k0, k1, -⟩ -
      have hs30 : f 30 = Ix (b.y) := k0
      have hs32 : f 32 = Ix (b.h) := k1
      refine ob_start (L' := M) (by rfl) (up_cons (up_cons rfl hs30) hs32) ?_
      refine l_val (v := Ix ((b.y) + (b.h))) rfl rfl rfl (e_add (a := (b.y)) (b := (b.h)) rfl rfl (i64w (by omega))) ?_
      refine l_nil ?_
      exact f_owes_d (up_cons (up_cons rfl hs30) hs32) rfl (List.Perm.refl _)
    · rintro f M ⟨k0, k1, -⟩ -
      have hs27 : f 27 = Ix ((b.x) + (b.w)) := k0
      have hs33 : f 33 = Ix ((b.y) + (b.h)) := k1
      refine ob_start (L' := M) (by rfl) (up_cons (up_cons rfl hs27) hs33) ?_
      refine l_val (v := .agg #[Ix ((b.x) + (b.w)), Ix ((b.y) + (b.h))]) rfl rfl rfl (e_build ua17 ua16 (vs := [(0, Ix ((b.x) + (b.w))), (1, Ix ((b.y) + (b.h)))]) (cells := #[Ix ((b.x) + (b.w)), Ix ((b.y) + (b.h))]) rfl rfl) ?_
      refine l_nil ?_
      exact f_owes_d (up_cons (up_cons rfl hs27) hs33) rfl (List.Perm.refl _)
    · rintro f M ⟨k0, -⟩ ⟨i0, -⟩
      have hs2 : f 2 = .pointer (some ⟨b2, 0, none⟩) := i0
      have hs21 : f 21 = .agg #[Ix ((b.x) - (b.w)), Ix ((b.y) - (b.h))] := k0
      refine ob_start (L' := pt b2 (.cells #[.int .i64 (0), .int .i64 (0)] 30) :: M) (by rfl) (up_cons (up_cons rfl hs2) hs21) ?_
      refine l_mu rfl rfl (m_store 0 ua15 (b := b2) (o := 0) (T := 30) (cs := #[.int .i64 (0), .int .i64 (0)]) (cs' := #[Ix ((b.x) - (b.w)), Ix ((b.y) - (b.h))]) (v := .agg #[Ix ((b.x) - (b.w)), Ix ((b.y) - (b.h))]) rfl rfl rfl rfl rfl rfl rfl) ?_
      refine l_nil ?_
      exact f_owes_n (up_cons (up_cons rfl hs2) hs21) trivial (perm_front 0 rfl)
    · rintro f M ⟨k0, -⟩ ⟨i0, -⟩
      have hs3 : f 3 = .pointer (some ⟨b3, 0, none⟩) := i0
      have hs34 : f 34 = .agg #[Ix ((b.x) + (b.w)), Ix ((b.y) + (b.h))] := k0
      refine ob_start (L' := pt b3 (.cells #[.int .i64 (0), .int .i64 (0)] 30) :: M) (by rfl) (up_cons (up_cons rfl hs3) hs34) ?_
      refine l_mu rfl rfl (m_store 0 ua15 (b := b3) (o := 0) (T := 30) (cs := #[.int .i64 (0), .int .i64 (0)]) (cs' := #[Ix ((b.x) + (b.w)), Ix ((b.y) + (b.h))]) (v := .agg #[Ix ((b.x) + (b.w)), Ix ((b.y) + (b.h))]) rfl rfl rfl rfl rfl rfl rfl) ?_
      refine l_nil ?_
      exact f_owes_n (up_cons (up_cons rfl hs3) hs34) trivial (perm_front 0 rfl)
    rintro fa5 ⟨-, -, -, -, -, -, -, -, -, -, -, -, -, -, -, -, -, -, -, -, -, -, -, -, -, -, -, -, -⟩ ⟨j0, j1, -⟩
    refine f_re (L' := [pt b1 (.cells (bC b) 39), pt b2 (.cells #[Ix ((b.x) - (b.w)), Ix ((b.y) - (b.h))] 30), pt b3 (.cells #[Ix ((b.x) + (b.w)), Ix ((b.y) + (b.h))] 30)]) (by rfl) ?_
    refine f_rebase (d := 2) (v := .pointer (some ⟨b2, 0, none⟩)) j0 ?_
    refine f_rebase (d := 3) (v := .pointer (some ⟨b3, 0, none⟩)) j1 ?_
    refine f_then ?_
    refine c_ret ?_
    refine retG (l := [.cell 2 30, .cell 3 30]) (m := [.agg #[Ix ((b.x) - (b.w)), Ix ((b.y) - (b.h))], .agg #[Ix ((b.x) + (b.w)), Ix ((b.y) + (b.h))]]) (v := .tuple #[.agg #[Ix ((b.x) - (b.w)), Ix ((b.y) - (b.h))], .agg #[Ix ((b.x) + (b.w)), Ix ((b.y) + (b.h))]]) Try.results18 ⟨rd_cell ua15 (cs := [Ix ((b.x) - (b.w)), Ix ((b.y) - (b.h))]) rfl (k_pt 1 (cs := #[Ix ((b.x) - (b.w)), Ix ((b.y) - (b.h))]) (vs := [Ix ((b.x) - (b.w)), Ix ((b.y) - (b.h))]) rfl rfl) rfl, rd_cell ua15 (cs := [Ix ((b.x) + (b.w)), Ix ((b.y) + (b.h))]) rfl (k_pt 2 (cs := #[Ix ((b.x) + (b.w)), Ix ((b.y) + (b.h))]) (vs := [Ix ((b.x) + (b.w)), Ix ((b.y) + (b.h))]) rfl rfl) rfl, trivial⟩ rfl ?_
    intro w hw
    exact ⟨rfl, st_mask [false, false, false] rfl hw⟩
end Go.Proofs
