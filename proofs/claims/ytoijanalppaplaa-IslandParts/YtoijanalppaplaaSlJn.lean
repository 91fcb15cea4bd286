/-
  Panics that pass through; regions that draw their order but for a last operation, which may do anything; pure facts and bundles as resources. Own work; plain Lean.
-/
import Derived.Test.YtoijanalppaplaaSlFam
import Derived.Recover
import Derived.Laws.Pointers
import Derived.Laws.Cover3
namespace Go.Sl

section
variable {P : Program} {ro : Option Nat} {n : Nat} {ds : List Deferred} {β : Base} {Q : Exit → Act → World → Prop} {f : Fm} {L : List Res} {ops : Array Oper} {rest : List Oper}
variable {d : Option Tmp} {ty : TypeId} {ps : String} {af : Array Edge} {g : Option (Nat × Bool)}

/-! Panics. -/
/-! Facts that need no memory. -/
/-! Bundles. -/
theorem St.unbun {M : List Res} {w : World} (h : St β (Sat L :: M) w) : St β (L ++ M) w := by
  obtain ⟨ho, ht, hp, a, hd, hs, hs', hL⟩ := h
  exact ⟨ho, ht, hp, a, hd, hs, hs', Sat.append.2 hL⟩
/-- a resource that is some other one, for some x -/
theorem St.ex {α : Type} {r : α → Res} {M : List Res} {w : World} (h : St β ((fun a => ∃ x, r x a) :: M) w) : ∃ x, St β (r x :: M) w := by
  obtain ⟨ho, ht, hp, a, hd, hs, hs', p, q, h1, h2, h3, ⟨x, hx⟩, h5⟩ := h
  exact ⟨x, ho, ht, hp, a, hd, hs, hs', p, q, h1, h2, h3, hx, h5⟩
theorem c_conseq {c : Code} {r r' : Res} (i : Nat) (hi : L[i]? = some r) (hr : ∀ a, r a → r' a) (k : RunC P ro n ds β c Q f (L.set i r')) : RunC P ro n ds β c Q f L := fun a w ha hw => k a w ha (hw.conseq_at i hi hr)
/-! Pointers and slices against nil. -/
theorem e_eql_snil {t t' e : TypeId} {x y : Operand} {a : Option Addr} {l c : Nat} (hx : ev f x = .slice a l c) (hy : ev f y = .slice none 0 0) (h : P.underlying t = some (.slice e)) : EV P β L f ⟨d, .binOp .eql t x y t', ty, ps, af, g⟩ (.bool a.isNone) := fun w _ => by
  have hb : (binOp .eql t (.slice a l c) (.slice none 0 0)).run P w = .ok (.bool a.isNone) w := by
    simp only [binOp]
    simp [run_equal_slice_nil w t e a l c h]
  simp [execOp, hx, hy, eqGuard, hb]
end

section
variable {P : Program} {ro : Option Nat} {n : Nat} {ds : List Deferred} {β : Base} {Q : Exit → Act → World → Prop}
end
end Go.Sl
