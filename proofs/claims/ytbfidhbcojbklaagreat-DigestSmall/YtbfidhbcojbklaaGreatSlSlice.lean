/-
  Parts of slices and of strings. Own work; plain Lean.
-/
import Derived.Test.YtbfidhbcojbklaaGreatSlBuild
namespace Go.Sl
section
variable {P : Program} {ro : Option Nat} {n : Nat} {ds : List Deferred} {β : Base} {Q : Exit → Act → World → Prop} {f : Fm} {L : List Res} {ops : Array Oper} {rest : List Oper}
variable {d : Option Tmp} {ty : TypeId} {ps : String} {af : Array Edge} {g : Option (Nat × Bool)}

theorem run_bound {k : Nat} {y : Nat} {c : BoundsCode} {w : World} (h : k ≤ y) : (Instr.sliceBound (.int .i64 (k : Int)) y c).run P w = .ok k w := by
  unfold Instr.sliceBound asIntOf
  simp only [Sem.run_bind, Sem.run_pure, Result.andThen_ok]
  rw [if_pos (by omega)]
  simp
/-- where the part of a slice begins -/
def adv (a : Option Addr) (cap l k : Nat) : Option Addr := if cap = l then a else a.map (·.add (l * k))
theorem e_slice_hi {x y : Operand} {t e k len cap h : Nat} {a : Option Addr} (ht : slB P t e k = true) (hx : ev f x = .slice a len cap) (hy : ev f y = .int .i64 (h : Int)) (hh : h ≤ cap) :
    EV P β L f ⟨d, .slice t x none (some y) none, ty, ps, af, g⟩ (.slice a h cap) := fun w _ => by
  obtain ⟨hu, i, hi, hn⟩ := slB_split ht
  have e0 : ∀ a : Addr, a.add 0 = a := fun a => by unfold Addr.add; split <;> simp_all
  simp [execOp, Instr.sliceAt, Instr.slice, run_underlying hu, hx, hy, Instr.sliceBounds, run_bound hh, sizeOf, typeInfo, hi]
  intro _
  cases a <;> simp [e0]
theorem e_slice_lo {x y : Operand} {t e k len cap l : Nat} {a : Option Addr} (ht : slB P t e k = true) (hx : ev f x = .slice a len cap) (hy : ev f y = .int .i64 (l : Int)) (hl : l ≤ len) :
    EV P β L f ⟨d, .slice t x (some y) none none, ty, ps, af, g⟩ (.slice (adv a cap l k) (len - l) (cap - l)) := fun w _ => by
  obtain ⟨hu, i, hi, hn⟩ := slB_split ht
  simp [execOp, Instr.sliceAt, Instr.slice, run_underlying hu, hx, hy, Instr.sliceBounds, run_bound hl, sizeOf, typeInfo, hi, hn, adv]
theorem e_slice_lh {x y z : Operand} {t e k len cap l h : Nat} {a : Option Addr} (ht : slB P t e k = true) (hx : ev f x = .slice a len cap) (hy : ev f y = .int .i64 (l : Int)) (hz : ev f z = .int .i64 (h : Int)) (hl : l ≤ h) (hh : h ≤ cap) :
    EV P β L f ⟨d, .slice t x (some y) (some z) none, ty, ps, af, g⟩ (.slice (adv a cap l k) (h - l) (cap - l)) := fun w _ => by
  obtain ⟨hu, i, hi, hn⟩ := slB_split ht
  simp [execOp, Instr.sliceAt, Instr.slice, run_underlying hu, hx, hy, hz, Instr.sliceBounds, run_bound hl, run_bound hh, sizeOf, typeInfo, hi, hn, adv]
theorem e_slice_s {x y : Operand} {t h : Nat} {s : ByteArray} (ht : P.underlying t = some .string) (hx : ev f x = .string s) (hy : ev f y = .int .i64 (h : Int)) (hh : h ≤ s.size) :
    EV P β L f ⟨d, .slice t x none (some y) none, ty, ps, af, g⟩ (.string (s.extract 0 h)) := fun w _ => by
  simp [execOp, Instr.sliceAt, Instr.slice, run_underlying ht, hx, hy, Instr.sliceBounds, run_bound hh]
theorem Elems.take {α : Type} {R : Rp α} {h : PHeap} {a : Option Addr} {xs : List α} (k : Nat) (he : Elems R h a xs) : Elems R h a (xs.take k) := fun j x hj => by
  have hlt := (List.getElem?_eq_some_iff.1 hj).1
  rw [List.getElem?_take_of_lt (by simp at hlt; omega)] at hj
  exact he j x hj
theorem Elems.drop {α : Type} {R : Rp α} {h : PHeap} {a : Option Addr} {xs : List α} {cap : Nat} (l : Nat) (hc : xs.length ≤ cap) (he : Elems R h a xs) : Elems R h (adv a cap l R.n) (xs.drop l) := fun j x hj => by
  rw [List.getElem?_drop] at hj
  have hlt := (List.getElem?_eq_some_iff.1 hj).1
  obtain ⟨ha, cs, hcs, hr⟩ := he _ x hj
  have e : adv a cap l R.n = some ((ba a).add (l * R.n)) := by
    unfold adv
    rw [if_neg (by omega)]
    conv => lhs; rw [ha]
    rfl
  rw [e]
  refine ⟨rfl, cs, ?_, hr⟩
  show Cs h (((ba a).add (l * R.n)).add (j * R.n)) cs
  rw [Addr.add_add', ← Nat.add_mul]; exact hcs

theorem ux_max (x y : UInt64) : max (x.toNat : Int) (y.toNat : Int) = ((max x y).toNat : Int) := by
  rw [Int.max_def]
  show _ = (((if x ≤ y then y else x : UInt64)).toNat : Int)
  by_cases h : x ≤ y
  · have h' : x.toNat ≤ y.toNat := UInt64.le_iff_toNat_le.1 h
    rw [if_pos h, if_pos (by omega)]
  · have h' : ¬ x.toNat ≤ y.toNat := fun e => h (UInt64.le_iff_toNat_le.2 e)
    rw [if_neg h, if_neg (by omega)]
theorem nat_tmod (a b : Nat) : (a : Int).tmod (b : Int) = ((a % b : Nat) : Int) := by
  rw [Int.tmod_eq_emod_of_nonneg (by omega)]; rfl
theorem nat_tdiv (a b : Nat) : (a : Int).tdiv (b : Int) = ((a / b : Nat) : Int) := by
  rw [Int.tdiv_eq_ediv_of_nonneg (by omega)]; rfl
end
end Go.Sl
