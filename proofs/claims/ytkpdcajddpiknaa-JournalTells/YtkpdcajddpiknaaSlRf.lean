/-
  More rules: slicing by numbers of any kind, memory that is only read from here on, the spare cells of a slice. Own work; plain Lean.
-/
import Derived.Test.YtkpdcajddpiknaaSlByte
namespace Go.Sl
section
variable {P : Program} {ro : Option Nat} {n : Nat} {ds : List Deferred} {β : Base} {Q : Exit → Act → World → Prop} {f : Fm} {L : List Res} {ops : Array Oper} {rest : List Oper}
variable {d : Option Tmp} {ty : TypeId} {ps : String} {af : Array Edge} {g : Option (Nat × Bool)}

theorem run_bound_k {ki : IntKind} {k : Nat} {y : Nat} {c : BoundsCode} {w : World} (h : k ≤ y) : (Instr.sliceBound (.int ki (k : Int)) y c).run P w = .ok k w := by
  unfold Instr.sliceBound asIntOf
  simp only [Sem.run_bind, Sem.run_pure, Result.andThen_ok]
  rw [if_pos (by omega)]
  simp
theorem e_slice_hi_k {ki : IntKind} {x y : Operand} {t e k len cap h : Nat} {a : Option Addr} (ht : slB P t e k = true) (hx : ev f x = .slice a len cap) (hy : ev f y = .int ki (h : Int)) (hh : h ≤ cap) :
    EV P β L f ⟨d, .slice t x none (some y) none, ty, ps, af, g⟩ (.slice a h cap) := fun w _ => by
  obtain ⟨hu, i, hi, hn⟩ := slB_split ht
  have e0 : ∀ a : Addr, a.add 0 = a := fun a => by unfold Addr.add; split <;> simp_all
  simp [execOp, Instr.sliceAt, Instr.slice, run_underlying hu, hx, hy, Instr.sliceBounds, run_bound_k hh, sizeOf, typeInfo, hi]
  intro _
  cases a <;> simp [e0]
theorem e_slice_lh_k {ki kj : IntKind} {x y z : Operand} {t e k len cap l h : Nat} {a : Option Addr} (ht : slB P t e k = true) (hx : ev f x = .slice a len cap) (hy : ev f y = .int ki (l : Int)) (hz : ev f z = .int kj (h : Int)) (hl : l ≤ h) (hh : h ≤ cap) :
    EV P β L f ⟨d, .slice t x (some y) (some z) none, ty, ps, af, g⟩ (.slice (adv a cap l k) (h - l) (cap - l)) := fun w _ => by
  obtain ⟨hu, i, hi, hn⟩ := slB_split ht
  simp [execOp, Instr.sliceAt, Instr.slice, run_underlying hu, hx, hy, hz, Instr.sliceBounds, run_bound_k hl, run_bound_k hh, sizeOf, typeInfo, hi, hn, adv]

/-! Memory that is only read from here on: a resource that is a fact of its heap. -/
theorem c_seal {c : Code} {K M : List Res} {F : PHeap → Prop} (hL : L = K ++ M) (hF : ∀ a, Sat K a → F a) (k : RunC P ro n ds β c Q f (F :: M)) : RunC P ro n ds β c Q f L := fun a w ha hw => by
  subst hL; exact k a w ha (hw.merge hF)
theorem f_seal {e : Exit} {K M : List Res} {F : PHeap → Prop} (hL : L = K ++ M) (hF : ∀ a, Sat K a → F a) (k : Fin n ds β Q e f (F :: M)) : Fin n ds β Q e f L := fun a w ha hw => by
  subst hL; exact k a w ha (hw.merge hF)
/-- what a list of resources says of its heap, one after the other -/
theorem Sat.head {r : Res} {rs : List Res} {h : PHeap} (hL : Sat (r :: rs) h) : ∃ a, Sub a h ∧ r a := let ⟨a, _, _, ha, _, hr, _⟩ := hL; ⟨a, ha, hr⟩
end
end Go.Sl
namespace Go.Sl
theorem u64m2 (x : UInt64) : (x % (2 : UInt64)).toNat ≤ 1 := by
  have e : (2 : UInt64).toNat = 2 := rfl
  rw [UInt64.toNat_mod, e]; omega
end Go.Sl
namespace Go.Sl
theorem perm_range {α : Type _} (L : List α) : L.Perm ((List.range L.length).filterMap (L[·]?)) := by
  have : (List.range L.length).filterMap (L[·]?) = L := by
    induction L with
    | nil => rfl
    | cons a l ih =>
      rw [List.length_cons, List.range_succ_eq_map, List.filterMap_cons, List.filterMap_map]
      simp only [List.getElem?_cons_zero]
      congr 1
  rw [this]
/-- a list in another order, by indices -/
theorem perm_ix {α : Type _} {L L' : List α} (ix : List Nat) (n : Nat) (hn : L.length = n) (h : (List.range n).isPerm ix = true) (e : ix.filterMap (L[·]?) = L') : L.Perm L' := by
  subst e; subst hn
  exact (perm_range L).trans ((List.isPerm_iff.1 h).filterMap _)
end Go.Sl
