/-
  Own work; plain Lean (SlA, SlB).
-/
import Derived.Test.YtdkibofhppgbjaaGreatDoorSlC
import Derived.Test.YtdkibofhppgbjaaGreatDoorSlFlat
import Derived.Test.YtdkibofhppgbjaaGreatDoorSlFam
namespace Go.Sl
class TyC (P : Program) (t : TypeId) (agg : outParam Bool) (n : outParam Nat) : Prop where ok : tyB P t agg n = true
class FldC (P : Program) (s k : Nat) (off n : outParam Nat) (agg : outParam Bool) : Prop where ok : fldB P s k off n agg = true
class UndC (P : Program) (t : TypeId) (e : outParam TypeId) : Prop where ok : P.underlying t = some (.slice e)
class ZerC (P : Program) (t : Nat) (z : outParam Value) : Prop where ok : (P.info? t).bind (·.zero) = some z
class CfC (P : Program) (g : FuncId) : Prop where ok : cfB P g = true
class ArrC (P : Program) (t : Nat) (len e n : outParam Nat) : Prop where ok : arB P t len e n = true

section
variable {P : Program} {β : Base} {f : Fm} {L : List Res} {d : Option Tmp} {ty : TypeId} {ps : String} {af : Array Edge} {g : Option (Nat × Bool)} {x y : Operand}
theorem omi {k : IntKind} {a : Int} (hx : ev f x = .int k a := by first | rfl | assumption) : EV P β L f ⟨d, .move x, ty, ps, af, g⟩ (.int k a) := hx ▸ e_move
theorem oai {k : IntKind} {a : Int} (hx : ev f x = .int k a := by first | rfl | assumption) : EV P β L f ⟨d, .assign x, ty, ps, af, g⟩ (.int k a) := hx ▸ e_assign
theorem omb {c : Bool} (hx : ev f x = .bool c := by first | rfl | assumption) : EV P β L f ⟨d, .move x, ty, ps, af, g⟩ (.bool c) := hx ▸ e_move
theorem oab {c : Bool} (hx : ev f x = .bool c := by first | rfl | assumption) : EV P β L f ⟨d, .assign x, ty, ps, af, g⟩ (.bool c) := hx ▸ e_assign
theorem omp {q : Option Addr} (hx : ev f x = .pointer q := by first | rfl | assumption) : EV P β L f ⟨d, .move x, ty, ps, af, g⟩ (.pointer q) := hx ▸ e_move
theorem oap {q : Option Addr} (hx : ev f x = .pointer q := by first | rfl | assumption) : EV P β L f ⟨d, .assign x, ty, ps, af, g⟩ (.pointer q) := hx ▸ e_assign
theorem oms {q : Option Addr} {i j : Nat} (hx : ev f x = .slice q i j := by first | rfl | assumption) : EV P β L f ⟨d, .move x, ty, ps, af, g⟩ (.slice q i j) := hx ▸ e_move
theorem oas {q : Option Addr} {i j : Nat} (hx : ev f x = .slice q i j := by first | rfl | assumption) : EV P β L f ⟨d, .assign x, ty, ps, af, g⟩ (.slice q i j) := hx ▸ e_assign
theorem omt {vs : Array Value} (hx : ev f x = .tuple vs := by first | rfl | assumption) : EV P β L f ⟨d, .move x, ty, ps, af, g⟩ (.tuple vs) := hx ▸ e_move
theorem omf {fn : Fn} {vs us : Array Value} (hx : ev f x = .func fn vs us := by first | rfl | assumption) : EV P β L f ⟨d, .move x, ty, ps, af, g⟩ (.func fn vs us) := hx ▸ e_move
theorem oaf {fn : Fn} {vs us : Array Value} (hx : ev f x = .func fn vs us := by first | rfl | assumption) : EV P β L f ⟨d, .assign x, ty, ps, af, g⟩ (.func fn vs us) := hx ▸ e_assign
theorem oktb {c : Bool} {c0 : Operand} (hc : ev f c0 = .bool true := by first | rfl | assumption) (hx : ev f x = .bool c := by first | rfl | assumption) : EV P β L f ⟨d, .pick c0 x y, ty, ps, af, g⟩ (.bool c) := hx ▸ e_pick_t hc
theorem okfb {c : Bool} {c0 : Operand} (hc : ev f c0 = .bool false := by first | rfl | assumption) (hx : ev f y = .bool c := by first | rfl | assumption) : EV P β L f ⟨d, .pick c0 x y, ty, ps, af, g⟩ (.bool c) := hx ▸ e_pick_f hc
theorem ofp {s k off m : Nat} {ag : Bool} {b o : Nat} [h : FldC P s k off m ag] (hx : ev f x = .pointer (some ⟨b, o, none⟩) := by first | rfl | assumption) : EV P β L f ⟨d, .fieldAddr s x k, ty, ps, af, g⟩ (.pointer (some ⟨b, o + off, none⟩)) := e_fieldPt hx h.ok
theorem ofa {s k off m : Nat} {ag : Bool} {a : Addr} [h : FldC P s k off m ag] (hx : ev f x = .pointer (some a) := by first | rfl | assumption) : EV P β L f ⟨d, .fieldAddr s x k, ty, ps, af, g⟩ (.pointer (some (a.add off))) := e_fieldAddr hx h.ok
theorem oln {a : Option Addr} {m c : Nat} {t e : TypeId} [h : UndC P t e] (hx : ev f x = .slice a m c := by first | rfl | assumption) : EV P β L f ⟨d, .call ⟨.builtin .len, #[x], #[t]⟩, ty, ps, af, g⟩ (.int .i64 (m : Int)) := e_len hx h.ok
theorem onp {a : Addr} (hx : ev f x = .pointer (some a) := by first | rfl | assumption) : EV P β L f ⟨d, .nilCheck x, ty, ps, af, g⟩ (.pointer (some a)) := e_nil hx
theorem oli {t b o : Nat} {cs : Array Value} {T : TypeId} {fr : Nat × Nat} {k : IntKind} {a : Int} [h : TyC P t false 1] (i0 : Nat) (hx : ev f x = .pointer (some ⟨b, o, none⟩) := by first | rfl | assumption) (hi : L[i0]? = some (pt b (.cells cs T fr)) := by rfl) (hv : (cs.toList.drop o).take 1 = [.int k a] := by rfl) : EV P β L f ⟨d, .load t x, ty, ps, af, g⟩ (.int k a) := e_load1 h.ok hx (k_pt i0 hi hv)
theorem olb {t b o : Nat} {cs : Array Value} {T : TypeId} {fr : Nat × Nat} {c : Bool} [h : TyC P t false 1] (i0 : Nat) (hx : ev f x = .pointer (some ⟨b, o, none⟩) := by first | rfl | assumption) (hi : L[i0]? = some (pt b (.cells cs T fr)) := by rfl) (hv : (cs.toList.drop o).take 1 = [.bool c] := by rfl) : EV P β L f ⟨d, .load t x, ty, ps, af, g⟩ (.bool c) := e_load1 h.ok hx (k_pt i0 hi hv)
theorem ols {t b o : Nat} {cs : Array Value} {T : TypeId} {fr : Nat × Nat} {q : Option Addr} {i j : Nat} [h : TyC P t false 1] (i0 : Nat) (hx : ev f x = .pointer (some ⟨b, o, none⟩) := by first | rfl | assumption) (hi : L[i0]? = some (pt b (.cells cs T fr)) := by rfl) (hv : (cs.toList.drop o).take 1 = [.slice q i j] := by rfl) : EV P β L f ⟨d, .load t x, ty, ps, af, g⟩ (.slice q i j) := e_load1 h.ok hx (k_pt i0 hi hv)
theorem olg {t b o : Nat} {cs : Array Value} {T : TypeId} {fr : Nat × Nat} {m : Nat} {us : List Value} [h : TyC P t true m] (i0 : Nat) (hx : ev f x = .pointer (some ⟨b, o, none⟩) := by first | rfl | assumption) (hi : L[i0]? = some (pt b (.cells cs T fr)) := by rfl) (hv : (cs.toList.drop o).take m = us := by rfl) (hl : us.length = m := by rfl) : EV P β L f ⟨d, .load t x, ty, ps, af, g⟩ (.agg us.toArray) := e_load h.ok hx (k_pt i0 hi (by rw [hl]; exact hv)) hl
theorem olt {t t' : TypeId} {k : IntKind} {a b : Int} (hx : ev f x = .int k a := by first | rfl | assumption) (hy : ev f y = .int k b := by first | rfl | assumption) : EV P β L f ⟨d, .binOp .lss t x y t', ty, ps, af, g⟩ (.bool (decide (a < b))) := e_lss hx hy
theorem ole {t t' : TypeId} {k : IntKind} {a b : Int} (hx : ev f x = .int k a := by first | rfl | assumption) (hy : ev f y = .int k b := by first | rfl | assumption) : EV P β L f ⟨d, .binOp .leq t x y t', ty, ps, af, g⟩ (.bool (decide (a ≤ b))) := e_leq hx hy
theorem ogt {t t' : TypeId} {k : IntKind} {a b : Int} (hx : ev f x = .int k a := by first | rfl | assumption) (hy : ev f y = .int k b := by first | rfl | assumption) : EV P β L f ⟨d, .binOp .gtr t x y t', ty, ps, af, g⟩ (.bool (decide (b < a))) := e_gtr hx hy
theorem oge {t t' : TypeId} {k : IntKind} {a b : Int} (hx : ev f x = .int k a := by first | rfl | assumption) (hy : ev f y = .int k b := by first | rfl | assumption) : EV P β L f ⟨d, .binOp .geq t x y t', ty, ps, af, g⟩ (.bool (decide (b ≤ a))) := e_geq hx hy
theorem oeq_ {t t' : TypeId} {k : IntKind} {a b : Int} (hx : ev f x = .int k a := by first | rfl | assumption) (hy : ev f y = .int k b := by first | rfl | assumption) : EV P β L f ⟨d, .binOp .eql t x y t', ty, ps, af, g⟩ (.bool (decide (a = b))) := e_eql hx hy
theorem onq {t t' : TypeId} {k : IntKind} {a b : Int} (hx : ev f x = .int k a := by first | rfl | assumption) (hy : ev f y = .int k b := by first | rfl | assumption) : EV P β L f ⟨d, .binOp .neq t x y t', ty, ps, af, g⟩ (.bool (decide (a ≠ b))) := e_neq hx hy
theorem opl {t t' : TypeId} {a b : Int} (hx : ev f x = .int .i64 a := by first | rfl | assumption) (hy : ev f y = .int .i64 b := by first | rfl | assumption) (h : -9223372036854775808 ≤ a + b ∧ a + b ≤ 9223372036854775807 := by omega) : EV P β L f ⟨d, .binOp .add t x y t', ty, ps, af, g⟩ (.int .i64 (a + b)) := e_add hx hy (i64w h)
theorem omn {t t' : TypeId} {a b : Int} (hx : ev f x = .int .i64 a := by first | rfl | assumption) (hy : ev f y = .int .i64 b := by first | rfl | assumption) (h : -9223372036854775808 ≤ a - b ∧ a - b ≤ 9223372036854775807 := by omega) : EV P β L f ⟨d, .binOp .sub t x y t', ty, ps, af, g⟩ (.int .i64 (a - b)) := e_sub hx hy (i64w h)
theorem otm {t t' : TypeId} {a b : Int} (hx : ev f x = .int .i64 a := by first | rfl | assumption) (hy : ev f y = .int .i64 b := by first | rfl | assumption) (h : -9223372036854775808 ≤ a * b ∧ a * b ≤ 9223372036854775807 := by omega) : EV P β L f ⟨d, .binOp .mul t x y t', ty, ps, af, g⟩ (.int .i64 (a * b)) := e_mul hx hy (i64w h)
theorem opn {t t' : TypeId} {a b : Nat} (hx : ev f x = .int .i64 (a : Int) := by rfl) (hy : ev f y = .int .i64 (b : Int) := by rfl) (h : a + b ≤ 9223372036854775807 := by omega) : EV P β L f ⟨d, .binOp .add t x y t', ty, ps, af, g⟩ (.int .i64 ((a + b : Nat) : Int)) := e_add hx hy (i64n (by omega) h)
theorem ont {t : Nat} {c : Bool} (hx : ev f x = .bool c := by first | rfl | assumption) : EV P β L f ⟨d, .unOp .not t x, ty, ps, af, g⟩ (.bool (!c)) := e_not hx
theorem ond {t : Nat} {p : Prop} [Decidable p] (hx : ev f x = .bool (decide p) := by first | rfl | assumption) : EV P β L f ⟨d, .unOp .not t x, ty, ps, af, g⟩ (.bool (decide ¬ p)) := e_not_p hx
theorem omx {k : IntKind} {a b : Int} {ts : Array TypeId} (hx : ev f x = .int k a := by first | rfl | assumption) (hy : ev f y = .int k b := by first | rfl | assumption) : EV P β L f ⟨d, .call ⟨.builtin .max, #[x, y], ts⟩, ty, ps, af, g⟩ (.int k (max a b)) := e_max hx hy
theorem omz {k : IntKind} {a b : Int} {ts : Array TypeId} (hx : ev f x = .int k a := by first | rfl | assumption) (hy : ev f y = .int k b := by first | rfl | assumption) : EV P β L f ⟨d, .call ⟨.builtin .min, #[x, y], ts⟩, ty, ps, af, g⟩ (.int k (min a b)) := e_min hx hy
theorem oxi {us' : Array Value} {i' : Nat} {k : IntKind} {a : Int} (hx : ev f x = .tuple us' := by first | rfl | assumption) (hv : us'[i']? = some (.int k a) := by rfl) : EV P β L f ⟨d, .extract x i', ty, ps, af, g⟩ (.int k a) := e_extract hx hv
theorem oxb {us' : Array Value} {i' : Nat} {c : Bool} (hx : ev f x = .tuple us' := by first | rfl | assumption) (hv : us'[i']? = some (.bool c) := by rfl) : EV P β L f ⟨d, .extract x i', ty, ps, af, g⟩ (.bool c) := e_extract hx hv
theorem oxs {us' : Array Value} {i' : Nat} {q : Option Addr} {i j : Nat} (hx : ev f x = .tuple us' := by first | rfl | assumption) (hv : us'[i']? = some (.slice q i j) := by rfl) : EV P β L f ⟨d, .extract x i', ty, ps, af, g⟩ (.slice q i j) := e_extract hx hv
theorem oxa {us' : Array Value} {i' : Nat} {vs : Array Value} (hx : ev f x = .tuple us' := by first | rfl | assumption) (hv : us'[i']? = some (.agg vs) := by rfl) : EV P β L f ⟨d, .extract x i', ty, ps, af, g⟩ (.agg vs) := e_extract hx hv
end

section
variable {P : Program} {ro : Option Nat} {n : Nat} {ds : List Deferred} {β : Base} {Q : Exit → Act → World → Prop} {f : Fm} {L : List Res} {ops : Array Oper} {rest : List Oper}
variable {d : Nat} {op : Op} {ty : TypeId} {ps : String} {af : Array Edge} {v : Value}
theorem lE (h : EV P β L f ⟨some d, op, ty, ps, af, none⟩ v) (k : RunL P ro n ds β ops Q rest (upd f d v) L) (hn : Nat.blt d n = true := by rfl) : RunL P ro n ds β ops Q (⟨some d, op, ty, ps, af, none⟩ :: rest) f L := l_val rfl rfl hn h k
theorem qE (h : EV P β L f ⟨some d, op, ty, ps, af, none⟩ v) (k : RunQ P n ds β ops Q rest (upd f d v) L) (hn : Nat.blt d n = true := by rfl) : RunQ P n ds β ops Q (⟨some d, op, ty, ps, af, none⟩ :: rest) f L := q_val rfl rfl hn h k
theorem gE {j e : Nat} {b : Bool} (h : EV P β L f ⟨some d, op, ty, ps, af, some (j, b)⟩ v) (k : RunL P ro n ds β ops Q rest (upd f d v) L) (ho : (ops[j]?).bind (·.dst) = some e := by rfl) (hf : f e = .bool b := by rfl) (hn : Nat.blt d n = true := by rfl) : RunL P ro n ds β ops Q (⟨some d, op, ty, ps, af, some (j, b)⟩ :: rest) f L := g_val rfl ho hf rfl hn h k
theorem rE {j e : Nat} {b : Bool} (h : EV P β L f ⟨some d, op, ty, ps, af, some (j, b)⟩ v) (k : RunQ P n ds β ops Q rest (upd f d v) L) (ho : (ops[j]?).bind (·.dst) = some e := by rfl) (hf : f e = .bool b := by rfl) (hn : Nat.blt d n = true := by rfl) : RunQ P n ds β ops Q (⟨some d, op, ty, ps, af, some (j, b)⟩ :: rest) f L := qg_val rfl ho hf rfl hn h k
theorem clA {d : Option Tmp} {c : Operand} {xs : List Operand} {ts : Array TypeId} {g : FuncId} {vs : List Value} [h : CfC P g] (hx : ev f c = .func (.func g) #[] #[] := by rfl) (ha : xs.map (ev f) = vs := by rfl) : CL P f ⟨d, .call ⟨.value c, xs.toArray, ts⟩, ty, ps, af, none⟩ g vs.toArray := cl0 h.ok hx ha
theorem lcR {g : FuncId} {args : Array Value} {u : Value} (he : CL P f ⟨some d, op, ty, ps, af, none⟩ g args) (hc : ∀ w β1, Sub β.heap β1.heap → (∀ F, Knows β L F → F β1.heap) → St β1 [] w → Calls P g args w fun r w' => r = .returned u ∧ St β1 [] w') (k : RunL P ro n ds β ops Q rest (upd f d u) L) (hn : Nat.blt d n = true := by rfl) :
    RunL P ro n ds β ops Q (⟨some d, op, ty, ps, af, none⟩ :: rest) f L := lcf he hn fun w β1 sb kn hw1 back => (hc w β1 sb kn hw1).mono fun e w' ⟨h1, h2⟩ => ⟨u, h1, L, back [] w' h2, k⟩
theorem getx {α : Type} (l : List α) (k : Nat) (h : k < l.length) : ∃ x, l[k]? = some x := ⟨_, List.getElem?_eq_getElem h⟩
theorem alE {t : Nat} {z : Value} [h : ZerC P t z] (k : ∀ b : Nat, RunL P ro n ds β ops Q rest (upd f d (.pointer (some ⟨b, 0, none⟩))) (pt b (.cells z.cells t) :: L)) (hn : Nat.blt d n = true := by rfl) : RunL P ro n ds β ops Q (⟨some d, .alloc t, ty, ps, af, none⟩ :: rest) f L :=
  l_mv rfl rfl hn (m_alloc h.ok) fun v L' ⟨b, h1, h2⟩ => by subst h1; subst h2; exact k b
theorem skE {j e : Nat} {b b' : Bool} (k : RunL P ro n ds β ops Q rest (upd f d undef) L) (ho : (ops[j]?).bind (·.dst) = some e := by rfl) (hf : f e = .bool b := by rfl) (hb : (b == b') = false := by rfl) (hn : Nat.blt d n = true := by rfl) : RunL P ro n ds β ops Q (⟨some d, op, ty, ps, af, some (j, b')⟩ :: rest) f L := l_skip rfl ho hf hb rfl hn k
theorem qsE {j e : Nat} {b b' : Bool} (k : RunQ P n ds β ops Q rest (upd f d undef) L) (ho : (ops[j]?).bind (·.dst) = some e := by rfl) (hf : f e = .bool b := by rfl) (hb : (b == b') = false := by rfl) (hn : Nat.blt d n = true := by rfl) : RunQ P n ds β ops Q (⟨some d, op, ty, ps, af, some (j, b')⟩ :: rest) f L := q_skip rfl ho hf hb rfl hn k
theorem obE {M : List Res} {k : Fm → Prop} {out : Fm → List Res} (h : EV P β L f ⟨some d, op, ty, ps, af, none⟩ v) (hk : k (upd f d v) := by rfl) (hp : L.Perm (out (upd f d v) ++ M) := by first | exact List.Perm.refl _ | exact perm_front 0 rfl) (hn : Nat.blt d n = true := by rfl) :
    RunL P ro n ds β ops (Qn (Owes n ds β (some d) k f out M)) [⟨some d, op, ty, ps, af, none⟩] f L := obv rfl hk h hp rfl hn
theorem obG {M : List Res} {j e : Nat} {b : Bool} {k : Fm → Prop} {out : Fm → List Res} (h : EV P β L f ⟨some d, op, ty, ps, af, some (j, b)⟩ v) (ho : (ops[j]?).bind (·.dst) = some e := by rfl) (hf : f e = .bool b := by first | rfl | assumption) (hk : k (upd f d v) := by rfl) (hp : L.Perm (out (upd f d v) ++ M) := by first | exact List.Perm.refl _ | exact perm_front 0 rfl) (hn : Nat.blt d n = true := by rfl) :
    RunL P ro n ds β ops (Qn (Owes n ds β (some d) k f out M)) [⟨some d, op, ty, ps, af, some (j, b)⟩] f L := obg rfl h ho hf hn hk hp rfl
theorem bxi {t : Nat} {x : Operand} {k : IntKind} {a : Int} (k' : ∀ b0 : Nat, RunL P ro n ds β ops Q rest (upd f d (.pointer (some ⟨b0, 0, none⟩))) (pt b0 (.cells (Value.cells (.int k a)) t) :: L)) (hx : ev f x = .int k a := by rfl) (hn : Nat.blt d n = true := by rfl) : RunL P ro n ds β ops Q (⟨some d, .box t x, ty, ps, af, none⟩ :: rest) f L :=
  l_mv rfl rfl hn (m_box hx) fun v L' ⟨b0, h1, h2⟩ => by subst h1; subst h2; exact k' b0
theorem bxa {t : Nat} {x : Operand} {vs : Array Value} (k' : ∀ b0 : Nat, RunL P ro n ds β ops Q rest (upd f d (.pointer (some ⟨b0, 0, none⟩))) (pt b0 (.cells (Value.cells (.agg vs)) t) :: L)) (hx : ev f x = .agg vs := by rfl) (hn : Nat.blt d n = true := by rfl) : RunL P ro n ds β ops Q (⟨some d, .box t x, ty, ps, af, none⟩ :: rest) f L :=
  l_mv rfl rfl hn (m_box hx) fun v L' ⟨b0, h1, h2⟩ => by subst h1; subst h2; exact k' b0
end
end Go.Sl

namespace Go.Sl
section
variable {P : Program} {β : Base} {f : Fm} {L : List Res} {d : Option Tmp} {ty : TypeId} {ps : String} {af : Array Edge} {g : Option (Nat × Bool)} {x y : Operand}
theorem e_fd {s k off m o : Nat} {ag : Bool} {a : Addr} (hx : ev f x = .pointer (some (a.add o))) (h : fldB P s k off m ag = true) : EV P β L f ⟨d, .fieldAddr s x k, ty, ps, af, g⟩ (.pointer (some (a.add (o + off)))) := ev_eq (by rw [Addr.add_add']) (e_fieldAddr hx h)
theorem ofd {s k off m o : Nat} {ag : Bool} {a : Addr} [h : FldC P s k off m ag] (hx : ev f x = .pointer (some (a.add o)) := by first | rfl | assumption) : EV P β L f ⟨d, .fieldAddr s x k, ty, ps, af, g⟩ (.pointer (some (a.add (o + off)))) := e_fd hx h.ok
theorem e_xd {t len e n o : Nat} {a : Addr} (k : Nat) (hx : ev f x = .pointer (some (a.add o))) (hy : ev f y = .int .i64 (k : Int)) (h : arB P t len e n = true) (hk : k < len) : EV P β L f ⟨d, .indexAddr t x y, ty, ps, af, g⟩ (.pointer (some (a.add (o + k * n)))) := ev_eq (by rw [Addr.add_add']) (e_indexArr hx hy h hk)
theorem oxd {t len e n o : Nat} {a : Addr} (k : Nat) [h : ArrC P t len e n] (hx : ev f x = .pointer (some (a.add o)) := by first | rfl | assumption) (hy : ev f y = .int .i64 (k : Int) := by first | rfl | assumption) (hk : k < len := by decide) : EV P β L f ⟨d, .indexAddr t x y, ty, ps, af, g⟩ (.pointer (some (a.add (o + k * n)))) := e_xd k hx hy h.ok hk
theorem oia {t e n k len cap : Nat} {a : Option Addr} (ht : slB P t e n = true) (ha : a = some (ba a)) (hx : ev f x = .slice a len cap := by first | rfl | assumption) (hy : ev f y = .int .i64 (k : Int) := by first | rfl | assumption) (hk : k < len := by omega) : EV P β L f ⟨d, .indexAddr t x y, ty, ps, af, g⟩ (.pointer (some ((ba a).add (k * n)))) := e_indexAddr hx hy ht hk ha
theorem mS {t T n b o : Nat} {ag : Bool} {cs : Array Value} (i : Nat) (cs' : Array Value) [h : TyC P t ag n] {v : Value} (hx : ev f x = .pointer (some ⟨b, o, none⟩) := by rfl) (hi : L[i]? = some (pt b (.cells cs T)) := by rfl)
    (hy : ev f y = v := by rfl) (hn : v.cells.size = n := by rfl) (hfit : Nat.ble (o + n) cs.size = true := by rfl) (h1 : v.cells.toList.all (·.oneCell') = true := by rfl) (hc : over cs o v.cells.toList = cs' := by rfl) :
    MU P β L f ⟨d, .store t x y, ty, ps, af, g⟩ (L.set i (pt b (.cells cs' T))) := m_store i h.ok hx hi hy hn hfit h1 hc
end
abbrev sv (d : Nat) (v : Value) (a n i : List Nat) : Sp := ⟨a, n, i, [d], fun f => f d = v⟩
abbrev tk (r : Res) (b : List Nat) : Tok := ⟨none, none, b, [], fun _ => r⟩
section
variable {P : Program} {ro : Option Nat} {n : Nat} {ds : List Deferred} {β : Base} {Q : Exit → Act → World → Prop}
theorem cny {id : Nat} {ops : List Oper} {f : Fm} {L : List Res} (sps : List Sp) (toks : List Tok) (ini : List (Nat × Value)) (fin : List Nat) (M : List Res) (hi : IniAt f ini) (ho : Obs P ro n ds β ops sps toks ini ops 0)
    (hQ : ∀ f', KEv sps f' sps → IAll ini fin f' → Fin n ds β Q .normal f' (rs (lastT toks) f' ++ M)) (hm : P.follows .mixedOrders = true := by kernel_rfl)
    (h1 : chkOps ops sps ini = true := by kernel_rfl) (h2 : toks.all (chkTok ops sps) = true := by kernel_rfl) (hf : fin.all (finOk ops ini) = true := by kernel_rfl) (hL : L = rs (firstT toks) f ++ M := by rfl) :
    RunC P ro n ds β (.region id ops.toArray true) Q f L := c_any sps toks ini fin M hm h1 h2 hf hL hi ho hQ
end
theorem rbs {P : Program} {ro : Option Nat} {n : Nat} {ds : List Deferred} {β : Base} {Q : Exit → Act → World → Prop} {f : Fm} {L : List Res} {c : Code} (d : Nat) {v : Value} (h : f d = v) (k : RunC P ro n ds β c Q (upd f d v) L) : RunC P ro n ds β c Q f L := rebase h k
/-- a call that gives a value back and leaves the memory as it was -/
abbrev Ret (P : Program) (g : FuncId) (a : Array Value) (β : Base) (w : World) (x : Value) : Prop := Calls P g a w fun r w' => r = .returned x ∧ St β [] w'
end Go.Sl
