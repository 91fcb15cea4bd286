/-
 Short circuits: the guarded operations of && and || are walked once. Printed by a program of my own.
-/
import Derived.Test.YtjejfkajcbdgjaaGreatSlNum
namespace Go.Sl
section
variable {P : Program} {ro : Option Nat} {n : Nat} {ds : List Deferred} {β : Base} {Q : Exit → Act → World → Prop} {f : Fm} {L : List Res} {ops : Array Oper} {rest : List Oper}
theorem upd_self (f : Fm) (d : Nat) (v : Value) : upd f d v d = v := by unfold upd; simp
theorem upd_ne (f : Fm) {d e : Nat} (v : Value) (h : Nat.beq e d = false) : upd f d v e = f e := by unfold upd; rw [h]
theorem l_and2 {m p j d1 d2 : Nat} {x q : Operand} {o1 o2 : Oper} {t1 t2 : TypeId} {s1 s2 : String} {r1 r2 : Array Edge} (b c : Bool) (hx : ev f x = .bool b)
  (h : b = true → (∀ x1 x2, RunL P ro n ds β ops Q rest (upd (upd (upd (upd f m (.bool true)) d1 x1) d2 x2) p (.bool (c))) L) → RunL P ro n ds β ops Q (o1 :: o2 :: ⟨some p, .pick (.tmp m) q (.const (.bool false)), t2, s2, r2, none⟩ :: rest) (upd f m (.bool true)) L)
  (k : ∀ x1 x2, RunL P ro n ds β ops Q rest (upd (upd (upd (upd f m (.bool b)) d1 x1) d2 x2) p (.bool (b && c))) L) (hm : Nat.blt m n = true := by rfl) (hp : Nat.blt p n = true := by rfl) (e1 : o1.dst = some d1 := by rfl) (g1 : o1.guard = some (j, true) := by rfl) (n1 : Nat.blt d1 n = true := by rfl) (a1 : Nat.beq m d1 = false := by rfl) (e2 : o2.dst = some d2 := by rfl) (g2 : o2.guard = some (j, true) := by rfl) (n2 : Nat.blt d2 n = true := by rfl) (a2 : Nat.beq m d2 = false := by rfl) (hj : (ops[j]?).bind (·.dst) = some m := by rfl) :
  RunL P ro n ds β ops Q (⟨some m, .move x, t1, s1, r1, none⟩ :: o1 :: o2 :: ⟨some p, .pick (.tmp m) q (.const (.bool false)), t2, s2, r2, none⟩ :: rest) f L := by
 refine l_val rfl rfl hm (v := .bool b) (hx ▸ e_move) ?_
 cases b
 ·
  refine l_skip g1 hj (b := false) (by rw [upd_self]) rfl e1 n1 ?_
  refine l_skip g2 hj (b := false) (by rw [upd_ne _ _ a1, upd_self]) rfl e2 n2 ?_
  exact l_val rfl rfl hp (v := .bool false) (e_pick_f (by change upd _ _ _ m = _; rw [upd_ne _ _ a2, upd_ne _ _ a1, upd_self])) (k undef undef)
 ·
  exact h rfl (by simpa using k)
theorem l_or2 {m p j d1 d2 : Nat} {x q : Operand} {o1 o2 : Oper} {t1 t2 : TypeId} {s1 s2 : String} {r1 r2 : Array Edge} (b c : Bool) (hx : ev f x = .bool b)
  (h : b = false → (∀ x1 x2, RunL P ro n ds β ops Q rest (upd (upd (upd (upd f m (.bool false)) d1 x1) d2 x2) p (.bool (c))) L) → RunL P ro n ds β ops Q (o1 :: o2 :: ⟨some p, .pick (.tmp m) (.const (.bool true)) q, t2, s2, r2, none⟩ :: rest) (upd f m (.bool false)) L)
  (k : ∀ x1 x2, RunL P ro n ds β ops Q rest (upd (upd (upd (upd f m (.bool b)) d1 x1) d2 x2) p (.bool (b || c))) L) (hm : Nat.blt m n = true := by rfl) (hp : Nat.blt p n = true := by rfl) (e1 : o1.dst = some d1 := by rfl) (g1 : o1.guard = some (j, false) := by rfl) (n1 : Nat.blt d1 n = true := by rfl) (a1 : Nat.beq m d1 = false := by rfl) (e2 : o2.dst = some d2 := by rfl) (g2 : o2.guard = some (j, false) := by rfl) (n2 : Nat.blt d2 n = true := by rfl) (a2 : Nat.beq m d2 = false := by rfl) (hj : (ops[j]?).bind (·.dst) = some m := by rfl) :
  RunL P ro n ds β ops Q (⟨some m, .move x, t1, s1, r1, none⟩ :: o1 :: o2 :: ⟨some p, .pick (.tmp m) (.const (.bool true)) q, t2, s2, r2, none⟩ :: rest) f L := by
 refine l_val rfl rfl hm (v := .bool b) (hx ▸ e_move) ?_
 cases b
 ·
  exact h rfl (by simpa using k)
 ·
  refine l_skip g1 hj (b := true) (by rw [upd_self]) rfl e1 n1 ?_
  refine l_skip g2 hj (b := true) (by rw [upd_ne _ _ a1, upd_self]) rfl e2 n2 ?_
  exact l_val rfl rfl hp (v := .bool true) (e_pick_t (by change upd _ _ _ m = _; rw [upd_ne _ _ a2, upd_ne _ _ a1, upd_self])) (k undef undef)
theorem l_and3 {m p j d1 d2 d3 : Nat} {x q : Operand} {o1 o2 o3 : Oper} {t1 t2 : TypeId} {s1 s2 : String} {r1 r2 : Array Edge} (b c : Bool) (hx : ev f x = .bool b)
  (h : b = true → (∀ x1 x2 x3, RunL P ro n ds β ops Q rest (upd (upd (upd (upd (upd f m (.bool true)) d1 x1) d2 x2) d3 x3) p (.bool (c))) L) → RunL P ro n ds β ops Q (o1 :: o2 :: o3 :: ⟨some p, .pick (.tmp m) q (.const (.bool false)), t2, s2, r2, none⟩ :: rest) (upd f m (.bool true)) L)
  (k : ∀ x1 x2 x3, RunL P ro n ds β ops Q rest (upd (upd (upd (upd (upd f m (.bool b)) d1 x1) d2 x2) d3 x3) p (.bool (b && c))) L) (hm : Nat.blt m n = true := by rfl) (hp : Nat.blt p n = true := by rfl) (e1 : o1.dst = some d1 := by rfl) (g1 : o1.guard = some (j, true) := by rfl) (n1 : Nat.blt d1 n = true := by rfl) (a1 : Nat.beq m d1 = false := by rfl) (e2 : o2.dst = some d2 := by rfl) (g2 : o2.guard = some (j, true) := by rfl) (n2 : Nat.blt d2 n = true := by rfl) (a2 : Nat.beq m d2 = false := by rfl) (e3 : o3.dst = some d3 := by rfl) (g3 : o3.guard = some (j, true) := by rfl) (n3 : Nat.blt d3 n = true := by rfl) (a3 : Nat.beq m d3 = false := by rfl) (hj : (ops[j]?).bind (·.dst) = some m := by rfl) :
  RunL P ro n ds β ops Q (⟨some m, .move x, t1, s1, r1, none⟩ :: o1 :: o2 :: o3 :: ⟨some p, .pick (.tmp m) q (.const (.bool false)), t2, s2, r2, none⟩ :: rest) f L := by
 refine l_val rfl rfl hm (v := .bool b) (hx ▸ e_move) ?_
 cases b
 ·
  refine l_skip g1 hj (b := false) (by rw [upd_self]) rfl e1 n1 ?_
  refine l_skip g2 hj (b := false) (by rw [upd_ne _ _ a1, upd_self]) rfl e2 n2 ?_
  refine l_skip g3 hj (b := false) (by rw [upd_ne _ _ a2, upd_ne _ _ a1, upd_self]) rfl e3 n3 ?_
  exact l_val rfl rfl hp (v := .bool false) (e_pick_f (by change upd _ _ _ m = _; rw [upd_ne _ _ a3, upd_ne _ _ a2, upd_ne _ _ a1, upd_self])) (k undef undef undef)
 ·
  exact h rfl (by simpa using k)
theorem l_and4 {m p j d1 d2 d3 d4 : Nat} {x q : Operand} {o1 o2 o3 o4 : Oper} {t1 t2 : TypeId} {s1 s2 : String} {r1 r2 : Array Edge} (b c : Bool) (hx : ev f x = .bool b)
  (h : b = true → (∀ x1 x2 x3 x4, RunL P ro n ds β ops Q rest (upd (upd (upd (upd (upd (upd f m (.bool true)) d1 x1) d2 x2) d3 x3) d4 x4) p (.bool (c))) L) → RunL P ro n ds β ops Q (o1 :: o2 :: o3 :: o4 :: ⟨some p, .pick (.tmp m) q (.const (.bool false)), t2, s2, r2, none⟩ :: rest) (upd f m (.bool true)) L)
  (k : ∀ x1 x2 x3 x4, RunL P ro n ds β ops Q rest (upd (upd (upd (upd (upd (upd f m (.bool b)) d1 x1) d2 x2) d3 x3) d4 x4) p (.bool (b && c))) L) (hm : Nat.blt m n = true := by rfl) (hp : Nat.blt p n = true := by rfl) (e1 : o1.dst = some d1 := by rfl) (g1 : o1.guard = some (j, true) := by rfl) (n1 : Nat.blt d1 n = true := by rfl) (a1 : Nat.beq m d1 = false := by rfl) (e2 : o2.dst = some d2 := by rfl) (g2 : o2.guard = some (j, true) := by rfl) (n2 : Nat.blt d2 n = true := by rfl) (a2 : Nat.beq m d2 = false := by rfl) (e3 : o3.dst = some d3 := by rfl) (g3 : o3.guard = some (j, true) := by rfl) (n3 : Nat.blt d3 n = true := by rfl) (a3 : Nat.beq m d3 = false := by rfl) (e4 : o4.dst = some d4 := by rfl) (g4 : o4.guard = some (j, true) := by rfl) (n4 : Nat.blt d4 n = true := by rfl) (a4 : Nat.beq m d4 = false := by rfl) (hj : (ops[j]?).bind (·.dst) = some m := by rfl) :
  RunL P ro n ds β ops Q (⟨some m, .move x, t1, s1, r1, none⟩ :: o1 :: o2 :: o3 :: o4 :: ⟨some p, .pick (.tmp m) q (.const (.bool false)), t2, s2, r2, none⟩ :: rest) f L := by
 refine l_val rfl rfl hm (v := .bool b) (hx ▸ e_move) ?_
 cases b
 ·
  refine l_skip g1 hj (b := false) (by rw [upd_self]) rfl e1 n1 ?_
  refine l_skip g2 hj (b := false) (by rw [upd_ne _ _ a1, upd_self]) rfl e2 n2 ?_
  refine l_skip g3 hj (b := false) (by rw [upd_ne _ _ a2, upd_ne _ _ a1, upd_self]) rfl e3 n3 ?_
  refine l_skip g4 hj (b := false) (by rw [upd_ne _ _ a3, upd_ne _ _ a2, upd_ne _ _ a1, upd_self]) rfl e4 n4 ?_
  exact l_val rfl rfl hp (v := .bool false) (e_pick_f (by change upd _ _ _ m = _; rw [upd_ne _ _ a4, upd_ne _ _ a3, upd_ne _ _ a2, upd_ne _ _ a1, upd_self])) (k undef undef undef undef)
 ·
  exact h rfl (by simpa using k)
theorem l_and5 {m p j d1 d2 d3 d4 d5 : Nat} {x q : Operand} {o1 o2 o3 o4 o5 : Oper} {t1 t2 : TypeId} {s1 s2 : String} {r1 r2 : Array Edge} (b c : Bool) (hx : ev f x = .bool b)
  (h : b = true → (∀ x1 x2 x3 x4 x5, RunL P ro n ds β ops Q rest (upd (upd (upd (upd (upd (upd (upd f m (.bool true)) d1 x1) d2 x2) d3 x3) d4 x4) d5 x5) p (.bool (c))) L) → RunL P ro n ds β ops Q (o1 :: o2 :: o3 :: o4 :: o5 :: ⟨some p, .pick (.tmp m) q (.const (.bool false)), t2, s2, r2, none⟩ :: rest) (upd f m (.bool true)) L)
  (k : ∀ x1 x2 x3 x4 x5, RunL P ro n ds β ops Q rest (upd (upd (upd (upd (upd (upd (upd f m (.bool b)) d1 x1) d2 x2) d3 x3) d4 x4) d5 x5) p (.bool (b && c))) L) (hm : Nat.blt m n = true := by rfl) (hp : Nat.blt p n = true := by rfl) (e1 : o1.dst = some d1 := by rfl) (g1 : o1.guard = some (j, true) := by rfl) (n1 : Nat.blt d1 n = true := by rfl) (a1 : Nat.beq m d1 = false := by rfl) (e2 : o2.dst = some d2 := by rfl) (g2 : o2.guard = some (j, true) := by rfl) (n2 : Nat.blt d2 n = true := by rfl) (a2 : Nat.beq m d2 = false := by rfl) (e3 : o3.dst = some d3 := by rfl) (g3 : o3.guard = some (j, true) := by rfl) (n3 : Nat.blt d3 n = true := by rfl) (a3 : Nat.beq m d3 = false := by rfl) (e4 : o4.dst = some d4 := by rfl) (g4 : o4.guard = some (j, true) := by rfl) (n4 : Nat.blt d4 n = true := by rfl) (a4 : Nat.beq m d4 = false := by rfl) (e5 : o5.dst = some d5 := by rfl) (g5 : o5.guard = some (j, true) := by rfl) (n5 : Nat.blt d5 n = true := by rfl) (a5 : Nat.beq m d5 = false := by rfl) (hj : (ops[j]?).bind (·.dst) = some m := by rfl) :
  RunL P ro n ds β ops Q (⟨some m, .move x, t1, s1, r1, none⟩ :: o1 :: o2 :: o3 :: o4 :: o5 :: ⟨some p, .pick (.tmp m) q (.const (.bool false)), t2, s2, r2, none⟩ :: rest) f L := by
 refine l_val rfl rfl hm (v := .bool b) (hx ▸ e_move) ?_
 cases b
 ·
  refine l_skip g1 hj (b := false) (by rw [upd_self]) rfl e1 n1 ?_
  refine l_skip g2 hj (b := false) (by rw [upd_ne _ _ a1, upd_self]) rfl e2 n2 ?_
  refine l_skip g3 hj (b := false) (by rw [upd_ne _ _ a2, upd_ne _ _ a1, upd_self]) rfl e3 n3 ?_
  refine l_skip g4 hj (b := false) (by rw [upd_ne _ _ a3, upd_ne _ _ a2, upd_ne _ _ a1, upd_self]) rfl e4 n4 ?_
  refine l_skip g5 hj (b := false) (by rw [upd_ne _ _ a4, upd_ne _ _ a3, upd_ne _ _ a2, upd_ne _ _ a1, upd_self]) rfl e5 n5 ?_
  exact l_val rfl rfl hp (v := .bool false) (e_pick_f (by change upd _ _ _ m = _; rw [upd_ne _ _ a5, upd_ne _ _ a4, upd_ne _ _ a3, upd_ne _ _ a2, upd_ne _ _ a1, upd_self])) (k undef undef undef undef undef)
 ·
  exact h rfl (by simpa using k)
theorem l_and6 {m p j d1 d2 d3 d4 d5 d6 : Nat} {x q : Operand} {o1 o2 o3 o4 o5 o6 : Oper} {t1 t2 : TypeId} {s1 s2 : String} {r1 r2 : Array Edge} (b c : Bool) (hx : ev f x = .bool b)
  (h : b = true → (∀ x1 x2 x3 x4 x5 x6, RunL P ro n ds β ops Q rest (upd (upd (upd (upd (upd (upd (upd (upd f m (.bool true)) d1 x1) d2 x2) d3 x3) d4 x4) d5 x5) d6 x6) p (.bool (c))) L) → RunL P ro n ds β ops Q (o1 :: o2 :: o3 :: o4 :: o5 :: o6 :: ⟨some p, .pick (.tmp m) q (.const (.bool false)), t2, s2, r2, none⟩ :: rest) (upd f m (.bool true)) L)
  (k : ∀ x1 x2 x3 x4 x5 x6, RunL P ro n ds β ops Q rest (upd (upd (upd (upd (upd (upd (upd (upd f m (.bool b)) d1 x1) d2 x2) d3 x3) d4 x4) d5 x5) d6 x6) p (.bool (b && c))) L) (hm : Nat.blt m n = true := by rfl) (hp : Nat.blt p n = true := by rfl) (e1 : o1.dst = some d1 := by rfl) (g1 : o1.guard = some (j, true) := by rfl) (n1 : Nat.blt d1 n = true := by rfl) (a1 : Nat.beq m d1 = false := by rfl) (e2 : o2.dst = some d2 := by rfl) (g2 : o2.guard = some (j, true) := by rfl) (n2 : Nat.blt d2 n = true := by rfl) (a2 : Nat.beq m d2 = false := by rfl) (e3 : o3.dst = some d3 := by rfl) (g3 : o3.guard = some (j, true) := by rfl) (n3 : Nat.blt d3 n = true := by rfl) (a3 : Nat.beq m d3 = false := by rfl) (e4 : o4.dst = some d4 := by rfl) (g4 : o4.guard = some (j, true) := by rfl) (n4 : Nat.blt d4 n = true := by rfl) (a4 : Nat.beq m d4 = false := by rfl) (e5 : o5.dst = some d5 := by rfl) (g5 : o5.guard = some (j, true) := by rfl) (n5 : Nat.blt d5 n = true := by rfl) (a5 : Nat.beq m d5 = false := by rfl) (e6 : o6.dst = some d6 := by rfl) (g6 : o6.guard = some (j, true) := by rfl) (n6 : Nat.blt d6 n = true := by rfl) (a6 : Nat.beq m d6 = false := by rfl) (hj : (ops[j]?).bind (·.dst) = some m := by rfl) :
  RunL P ro n ds β ops Q (⟨some m, .move x, t1, s1, r1, none⟩ :: o1 :: o2 :: o3 :: o4 :: o5 :: o6 :: ⟨some p, .pick (.tmp m) q (.const (.bool false)), t2, s2, r2, none⟩ :: rest) f L := by
 refine l_val rfl rfl hm (v := .bool b) (hx ▸ e_move) ?_
 cases b
 ·
  refine l_skip g1 hj (b := false) (by rw [upd_self]) rfl e1 n1 ?_
  refine l_skip g2 hj (b := false) (by rw [upd_ne _ _ a1, upd_self]) rfl e2 n2 ?_
  refine l_skip g3 hj (b := false) (by rw [upd_ne _ _ a2, upd_ne _ _ a1, upd_self]) rfl e3 n3 ?_
  refine l_skip g4 hj (b := false) (by rw [upd_ne _ _ a3, upd_ne _ _ a2, upd_ne _ _ a1, upd_self]) rfl e4 n4 ?_
  refine l_skip g5 hj (b := false) (by rw [upd_ne _ _ a4, upd_ne _ _ a3, upd_ne _ _ a2, upd_ne _ _ a1, upd_self]) rfl e5 n5 ?_
  refine l_skip g6 hj (b := false) (by rw [upd_ne _ _ a5, upd_ne _ _ a4, upd_ne _ _ a3, upd_ne _ _ a2, upd_ne _ _ a1, upd_self]) rfl e6 n6 ?_
  exact l_val rfl rfl hp (v := .bool false) (e_pick_f (by change upd _ _ _ m = _; rw [upd_ne _ _ a6, upd_ne _ _ a5, upd_ne _ _ a4, upd_ne _ _ a3, upd_ne _ _ a2, upd_ne _ _ a1, upd_self])) (k undef undef undef undef undef undef)
 ·
  exact h rfl (by simpa using k)
end
end Go.Sl
