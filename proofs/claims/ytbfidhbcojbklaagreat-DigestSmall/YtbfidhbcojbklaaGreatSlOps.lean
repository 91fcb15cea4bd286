/-
  The operations, one lemma each: what an operation yields where the resources are at hand. Own work; plain Lean.
-/
import Derived.Test.YtbfidhbcojbklaaGreatSlRun
namespace Go.Sl
open Go.RowKit

/-! Closed facts on types, asked by the kernel. -/
def tyB (P : Program) (t : TypeId) (agg : Bool) (n : Nat) : Bool :=
  (match P.underlying t with | some (.struct _) => agg | some (.array _ _) => agg | some _ => !agg | none => false) &&
  (match P.info? t with | some i => i.size == n | none => false)
/-- struct s, field k: at cell off -/
def fldB (P : Program) (s k off n : Nat) (agg : Bool) : Bool :=
  match P.underlying s with
  | some (.struct fs) => (match fs[k]? with | some f => f.offset == off && tyB P f.type agg n && !(n == 0) | none => false)
  | _ => false
/-- slice type t of elements e of n cells -/
def slB (P : Program) (t e n : Nat) : Bool :=
  (match P.underlying t with | some (.slice e') => e' == e | _ => false) && (match P.info? e with | some i => i.size == n | none => false)
/-- array type t of len elements e of n cells -/
def arB (P : Program) (t len e n : Nat) : Bool :=
  (match P.underlying t with | some (.array l e') => l == len && e' == e | _ => false) && (match P.info? e with | some i => i.size == n | none => false)

structure TyF (P : Program) (t : TypeId) (agg : Bool) (n : Nat) : Prop where
  agg : ∀ w, (isAgg t).run P w = .ok agg w
  size : ∀ w, (sizeOf t).run P w = .ok n w

theorem tyF {P : Program} {t : TypeId} {agg : Bool} {n : Nat} (h : tyB P t agg n = true) : TyF P t agg n := by
  unfold tyB at h
  simp only [Bool.and_eq_true] at h
  obtain ⟨h1, h2⟩ := h
  refine ⟨fun w => ?_, fun w => ?_⟩
  · cases hu : P.underlying t with
    | none => rw [hu] at h1; simp at h1
    | some d =>
      unfold isAgg
      rw [Sem.run_bind, run_underlying hu w]
      cases d <;> simp_all
  · cases hi : P.info? t with
    | none => rw [hi] at h2; simp at h2
    | some i =>
      rw [hi] at h2; simp at h2
      simp [sizeOf, typeInfo, hi, h2]

section
variable {P : Program} {β : Base} {L : List Res} {f : Fm}

/-- Operation o yields v and turns nothing. -/
def EV (P : Program) (β : Base) (L : List Res) (f : Fm) (o : Oper) (v : Value) : Prop := ∀ w, St β L w → (execOp (ev f) o).run P w = .ok (.value v) w

variable {d : Option Tmp} {ty : TypeId} {ps : String} {af : Array Edge} {g : Option (Nat × Bool)}

theorem e_move {x : Operand} : EV P β L f ⟨d, .move x, ty, ps, af, g⟩ (ev f x) := fun _ _ => rfl
theorem e_assign {x : Operand} : EV P β L f ⟨d, .assign x, ty, ps, af, g⟩ (ev f x) := fun _ _ => rfl
theorem e_pick_t {c x y : Operand} (hc : ev f c = .bool true) : EV P β L f ⟨d, .pick c x y, ty, ps, af, g⟩ (ev f x) := fun w _ => by
  simp [execOp, hc, asBool]
theorem e_pick_f {c x y : Operand} (hc : ev f c = .bool false) : EV P β L f ⟨d, .pick c x y, ty, ps, af, g⟩ (ev f y) := fun w _ => by
  simp [execOp, hc, asBool]

section ints
variable {t t' : TypeId} {x y : Operand} {k : IntKind} {a b : Int}
theorem e_add (hx : ev f x = .int k a) (hy : ev f y = .int k b) {c : Int} (hc : k.wrap (a + b) = c) : EV P β L f ⟨d, .binOp .add t x y t', ty, ps, af, g⟩ (.int k c) := fun w _ => by
  simp [execOp, hx, hy, eqGuard, binOp, Op.intArith, hc]
theorem e_sub (hx : ev f x = .int k a) (hy : ev f y = .int k b) {c : Int} (hc : k.wrap (a - b) = c) : EV P β L f ⟨d, .binOp .sub t x y t', ty, ps, af, g⟩ (.int k c) := fun w _ => by
  simp [execOp, hx, hy, eqGuard, binOp, Op.intArith, hc]
theorem e_mul (hx : ev f x = .int k a) (hy : ev f y = .int k b) {c : Int} (hc : k.wrap (a * b) = c) : EV P β L f ⟨d, .binOp .mul t x y t', ty, ps, af, g⟩ (.int k c) := fun w _ => by
  simp [execOp, hx, hy, eqGuard, binOp, Op.intArith, hc]
theorem e_lss (hx : ev f x = .int k a) (hy : ev f y = .int k b) : EV P β L f ⟨d, .binOp .lss t x y t', ty, ps, af, g⟩ (.bool (decide (a < b))) := fun w _ => by
  simp [execOp, hx, hy, eqGuard, binOp, Op.intCmp]
theorem e_leq (hx : ev f x = .int k a) (hy : ev f y = .int k b) : EV P β L f ⟨d, .binOp .leq t x y t', ty, ps, af, g⟩ (.bool (decide (a ≤ b))) := fun w _ => by
  simp [execOp, hx, hy, eqGuard, binOp, Op.intCmp]
theorem e_gtr (hx : ev f x = .int k a) (hy : ev f y = .int k b) : EV P β L f ⟨d, .binOp .gtr t x y t', ty, ps, af, g⟩ (.bool (decide (b < a))) := fun w _ => by
  simp [execOp, hx, hy, eqGuard, binOp, Op.intCmp]
theorem e_geq (hx : ev f x = .int k a) (hy : ev f y = .int k b) : EV P β L f ⟨d, .binOp .geq t x y t', ty, ps, af, g⟩ (.bool (decide (b ≤ a))) := fun w _ => by
  simp [execOp, hx, hy, eqGuard, binOp, Op.intCmp]
theorem e_eql (hx : ev f x = .int k a) (hy : ev f y = .int k b) : EV P β L f ⟨d, .binOp .eql t x y t', ty, ps, af, g⟩ (.bool (decide (a = b))) := fun w _ => by
  simp only [execOp, hx, hy, eqGuard, binOp, Op.intCmp]
  simp
  rfl
theorem e_neq (hx : ev f x = .int k a) (hy : ev f y = .int k b) : EV P β L f ⟨d, .binOp .neq t x y t', ty, ps, af, g⟩ (.bool (decide (a ≠ b))) := fun w _ => by
  simp only [execOp, hx, hy, eqGuard, binOp, Op.intCmp]
  simp
  by_cases h : a = b <;> simp [h]
theorem e_and (hx : ev f x = .int k a) (hy : ev f y = .int k b) {c : Int} (hc : k.wrap ((BitVec.ofInt k.bits a &&& BitVec.ofInt k.bits b).toNat : Int) = c) : EV P β L f ⟨d, .binOp .and t x y t', ty, ps, af, g⟩ (.int k c) := fun w _ => by
  subst hc; simp [execOp, hx, hy, eqGuard, binOp, Op.intBits]
theorem e_or (hx : ev f x = .int k a) (hy : ev f y = .int k b) {c : Int} (hc : k.wrap ((BitVec.ofInt k.bits a ||| BitVec.ofInt k.bits b).toNat : Int) = c) : EV P β L f ⟨d, .binOp .or t x y t', ty, ps, af, g⟩ (.int k c) := fun w _ => by
  subst hc; simp [execOp, hx, hy, eqGuard, binOp, Op.intBits]
theorem e_xor (hx : ev f x = .int k a) (hy : ev f y = .int k b) {c : Int} (hc : k.wrap ((BitVec.ofInt k.bits a ^^^ BitVec.ofInt k.bits b).toNat : Int) = c) : EV P β L f ⟨d, .binOp .xor t x y t', ty, ps, af, g⟩ (.int k c) := fun w _ => by
  subst hc; simp [execOp, hx, hy, eqGuard, binOp, Op.intBits]
theorem e_shl {k' : IntKind} (hx : ev f x = .int k a) (hy : ev f y = .int k' b) (hb : ¬ b < 0) {c : Int} (hc : k.wrap (a * 2 ^ (min b.toNat k.bits)) = c) : EV P β L f ⟨d, .binOp .shl t x y t', ty, ps, af, g⟩ (.int k c) := fun w _ => by
  simp [execOp, hx, hy, eqGuard, binOp, Op.shift, hb, hc]
theorem e_shr {k' : IntKind} (hx : ev f x = .int k a) (hy : ev f y = .int k' b) (hb : ¬ b < 0) {c : Int} (hc : a.fdiv (2 ^ (min b.toNat k.bits)) = c) : EV P β L f ⟨d, .binOp .shr t x y t', ty, ps, af, g⟩ (.int k c) := fun w _ => by
  simp [execOp, hx, hy, eqGuard, binOp, Op.shift, hb, hc]
theorem e_quo (hx : ev f x = .int k a) (hy : ev f y = .int k b) (hb : ¬ b = 0) {c : Int} (hc : k.wrap (a.tdiv b) = c) : EV P β L f ⟨d, .binOp .quo t x y t', ty, ps, af, g⟩ (.int k c) := fun w _ => by
  simp [execOp, hx, hy, eqGuard, binOp, Op.intDiv, hb, hc]
theorem e_rem (hx : ev f x = .int k a) (hy : ev f y = .int k b) (hb : ¬ b = 0) {c : Int} (hc : a.tmod b = c) : EV P β L f ⟨d, .binOp .rem t x y t', ty, ps, af, g⟩ (.int k c) := fun w _ => by
  simp [execOp, hx, hy, eqGuard, binOp, Op.intDiv, hb, hc]
theorem e_conv {t1 t2 : TypeId} {k' : IntKind} (hx : ev f x = .int k a) (ht1 : ∃ j, P.underlying t1 = some (.int j)) (ht : P.underlying t2 = some (.int k')) {c : Int} (hc : k'.wrap a = c) :
    EV P β L f ⟨d, .convert t1 t2 x, ty, ps, af, g⟩ (.int k' c) := fun w _ => by
  obtain ⟨j, hj⟩ := ht1
  simp [execOp, hx, convert, run_underlying hj, run_underlying ht, Conv.intToInt, hc]
theorem e_neg {t : TypeId} (hx : ev f x = .int k a) {c : Int} (hc : k.wrap (0 - a) = c) : EV P β L f ⟨d, .unOp .neg t x, ty, ps, af, g⟩ (.int k c) := fun w _ => by
  subst hc; simp [execOp, hx, Op.unary, Op.intArith]
theorem e_min (hx : ev f x = .int k a) (hy : ev f y = .int k b) {ts : Array TypeId} : EV P β L f ⟨d, .call ⟨.builtin .min, #[x, y], ts⟩, ty, ps, af, g⟩ (.int k (min a b)) := fun w _ => by
  simp [execOp, resolve, invoke, builtin, hx, hy, run_min_int2]
  omega
theorem e_max (hx : ev f x = .int k a) (hy : ev f y = .int k b) {ts : Array TypeId} : EV P β L f ⟨d, .call ⟨.builtin .max, #[x, y], ts⟩, ty, ps, af, g⟩ (.int k (max a b)) := fun w _ => by
  simp [execOp, resolve, invoke, builtin, hx, hy, run_max_int2]
  omega
end ints

section bools
variable {t t' : TypeId} {x y : Operand} {a b : Bool}
theorem e_not (hx : ev f x = .bool a) : EV P β L f ⟨d, .unOp .not t x, ty, ps, af, g⟩ (.bool (!a)) := fun w _ => by
  simp [execOp, hx, Op.unary]
theorem e_eql_b (hx : ev f x = .bool a) (hy : ev f y = .bool b) (ht : P.underlying t = some .bool) : EV P β L f ⟨d, .binOp .eql t x y t', ty, ps, af, g⟩ (.bool (a == b)) := fun w _ => by
  simp [execOp, hx, hy, eqGuard, run_eql_bool w t a b ht]
theorem e_neq_b (hx : ev f x = .bool a) (hy : ev f y = .bool b) (ht : P.underlying t = some .bool) : EV P β L f ⟨d, .binOp .neq t x y t', ty, ps, af, g⟩ (.bool (!(a == b))) := fun w _ => by
  simp [execOp, hx, hy, eqGuard, run_neq_bool w t a b ht]
end bools

section plain
variable {x y : Operand}
theorem e_extract {vs : Array Value} {i : Nat} {v : Value} (hx : ev f x = .tuple vs) (hv : vs[i]? = some v) : EV P β L f ⟨d, .extract x i, ty, ps, af, g⟩ v := fun w _ => by
  simp [execOp, hx, Instr.extract, hv]
theorem e_len {a : Option Addr} {n c : Nat} {t e : TypeId} (hx : ev f x = .slice a n c) (ht : P.underlying t = some (.slice e)) : EV P β L f ⟨d, .call ⟨.builtin .len, #[x], #[t]⟩, ty, ps, af, g⟩ (.int .i64 (n : Int)) := fun w _ => by
  simp [execOp, resolve, invoke, builtin, hx, Builtin.len_, goInt, run_underlying ht]
theorem e_len_s {s : ByteArray} {t : TypeId} (hx : ev f x = .string s) (ht : P.underlying t = some .string) : EV P β L f ⟨d, .call ⟨.builtin .len, #[x], #[t]⟩, ty, ps, af, g⟩ (.int .i64 (s.size : Int)) := fun w _ => by
  simp [execOp, resolve, invoke, builtin, hx, Builtin.len_, goInt, run_underlying ht]
theorem e_index_s {s : ByteArray} {t : TypeId} {k : Nat} {c : UInt8} {y : Operand} (hx : ev f x = .string s) (hy : ev f y = .int .i64 (k : Int)) (ht : P.underlying t = some .string) (hc : s.data.toList[k]? = some c) : EV P β L f ⟨d, .index t x y, ty, ps, af, g⟩ (.int .u8 (c.toNat : Int)) := fun w _ => by
  have hc' : s[k]? = some c := by
    obtain ⟨hlt, he⟩ := List.getElem?_eq_some_iff.1 hc
    have hlt' : k < s.size := by simpa using hlt
    rw [getElem?_pos s k hlt', ← he]
    rfl
  simp [execOp, hx, hy, Instr.index, asIntOf, run_underlying ht, hc']
theorem e_nil {a : Addr} (hx : ev f x = .pointer (some a)) : EV P β L f ⟨d, .nilCheck x, ty, ps, af, g⟩ (.pointer (some a)) := fun w _ => by
  simp [execOp, hx]
theorem e_func {fn : Fn} {a b : List Operand} {u v : List Value} (hu : a.map (ev f) = u) (hv : b.map (ev f) = v) : EV P β L f ⟨d, .makeFunc fn a.toArray b.toArray, ty, ps, af, g⟩ (.func fn u.toArray v.toArray) := fun w _ => by
  simp [execOp, Instr.makeFunc, hu, hv]
end plain
end
end Go.Sl
