/-
  Pointers into arrays; words of wrapped integers. Own work; plain Lean.
-/
import Derived.Test.YtbfidhbcojbklaaSlCells
namespace Go.Sl
section
variable {P : Program} {ro : Option Nat} {n : Nat} {ds : List Deferred} {β : Base} {Q : Exit → Act → World → Prop} {f : Fm} {L : List Res} {ops : Array Oper} {rest : List Oper}
variable {d : Option Tmp} {ty : TypeId} {ps : String} {af : Array Edge} {g : Option (Nat × Bool)}

theorem e_indexArr {x y : Operand} {t len e n k : Nat} {a : Addr} (hx : ev f x = .pointer (some a)) (hy : ev f y = .int .i64 (k : Int)) (ht : arB P t len e n = true) (hk : k < len) :
    EV P β L f ⟨d, .indexAddr t x y, ty, ps, af, g⟩ (.pointer (some (a.add (k * n)))) := fun w _ => by
  unfold arB at ht
  simp only [Bool.and_eq_true] at ht
  obtain ⟨h1, h2⟩ := ht
  cases hu : P.underlying t with
  | none => rw [hu] at h1; cases h1
  | some dd =>
    rw [hu] at h1
    cases dd <;> simp only [] at h1 <;> try (cases h1)
    rename_i l' e'
    have he : l' = len ∧ e' = e := by simpa using h1
    obtain ⟨rfl, rfl⟩ := he
    cases hi : P.info? e' with
    | none => rw [hi] at h2; cases h2
    | some i =>
      rw [hi] at h2
      have hn : i.size = n := by simpa using h2
      simp only [execOp, hx, hy, Instr.indexAt, Instr.sureAddr, asIntOf, Sem.run_bind, run_underlying hu, Sem.run_pure, Result.andThen_ok]
      simp [hk, sizeOf, typeInfo, hi, hn]
theorem e_indexArrPt {x y : Operand} {t len e n k b o : Nat} (hx : ev f x = .pointer (some ⟨b, o, none⟩)) (hy : ev f y = .int .i64 (k : Int)) (ht : arB P t len e n = true) (hk : k < len) :
    EV P β L f ⟨d, .indexAddr t x y, ty, ps, af, g⟩ (.pointer (some ⟨b, o + k * n, none⟩)) := by
  have h := e_indexArr (P := P) (β := β) (L := L) (d := d) (ty := ty) (ps := ps) (af := af) (g := g) hx hy ht hk
  have e : (⟨b, o, none⟩ : Addr).add (k * n) = ⟨b, o + k * n, none⟩ := by unfold Addr.add; split <;> simp_all
  rwa [e] at h
end
theorem U_wrap (z : Int) : U (IntKind.i64.wrap z) = U z := by
  have h1 := ux_of (IntKind.i64.wrap z)
  have h2 := ux_of z
  have h3 : IntKind.u64.wrap (IntKind.i64.wrap z) = IntKind.u64.wrap z := by
    rw [u64w, u64w]
    simp only [IntKind.wrap, IntKind.bits, IntKind.signed]
    simp
    omega
  rw [h3, h2] at h1
  exact (UInt64.toNat_inj.1 (Int.ofNat_inj.1 h1)).symm
theorem U_add (a b : Int) : U (a + b) = U a + U b := by
  have h1 := ux_of (a + b)
  have h2 := ux_of a
  have h3 := ux_of b
  have h4 := ux_add (U a) (U b)
  rw [← h2, ← h3] at h4
  have h5 : IntKind.u64.wrap (IntKind.u64.wrap a + IntKind.u64.wrap b) = IntKind.u64.wrap (a + b) := by
    rw [u64w, u64w, u64w, u64w]; omega
  rw [h5, h1] at h4
  exact UInt64.toNat_inj.1 (Int.ofNat_inj.1 h4)
theorem U_ne {b : Int} (hb : -9223372036854775808 ≤ b ∧ b ≤ 9223372036854775807) (h0 : b ≠ 0) : U b ≠ 0 := by
  intro h
  have h1 := ux_of b
  rw [h, u64w] at h1
  have h2 : ((0 : UInt64).toNat : Int) = 0 := rfl
  rw [h2] at h1
  omega
/-- a number to which one that is not 0 is added has another word -/
theorem U_changed {a b : Int} (hb : -9223372036854775808 ≤ b ∧ b ≤ 9223372036854775807) (h0 : b ≠ 0) : U a ≠ U (IntKind.i64.wrap (a + b)) := by
  rw [U_wrap, U_add]
  intro h
  have h1 : U a + 0 = U a + U b := by rw [← h, UInt64.add_zero]
  rw [UInt64.add_right_inj] at h1
  exact U_ne hb h0 h1.symm
theorem ux_rem (x y : UInt64) : ((x.toNat : Int)).tmod (y.toNat : Int) = ((x % y).toNat : Int) := by
  rw [nat_tmod]; simp
end Go.Sl
