/-
  make of an empty slice with room. Own work; plain Lean.
-/
import Derived.Test.YtbfidhbcojbklaaSlMore
namespace Go.Sl
section
variable {P : Program} {ro : Option Nat} {n : Nat} {ds : List Deferred} {β : Base} {Q : Exit → Act → World → Prop} {f : Fm} {L : List Res} {ops : Array Oper} {rest : List Oper}
variable {d : Option Tmp} {ty : TypeId} {ps : String} {af : Array Edge} {g : Option (Nat × Bool)}

theorem m_make0 {x y : Operand} {t e n bytes c : Nat} {z : Value} (hsl : slB P t e n = true) (hel : elB P e n bytes = true) (hz : (P.info? e).bind (·.zero) = some z) (hx : ev f x = .int .i64 0) (hy : ev f y = .int .i64 (c : Int))
    (h0 : 0 < c * n) (hc : c ≤ maxLen) (hb : c * bytes ≤ 140737488355328) :
    MV P β L f ⟨d, .makeSlice t x y, ty, ps, af, g⟩ (fun u L' => ∃ b, u = .slice (some ⟨b, 0, none⟩) 0 c ∧ L' = row (.slice (some ⟨b, 0, none⟩) 0 c) e n 0 [] :: L) := fun w hw => by
  obtain ⟨hu, i, hi, hn2⟩ := slB_split hsl
  have hz' : i.zero = some z := by rw [hi] at hz; simpa using hz
  have hbytes : i.bytes = bytes := by
    unfold elB at hel; rw [hi] at hel; simp only [Bool.and_eq_true] at hel
    simp only [beq_iff_eq] at hel
    exact hel.1.1.2
  have hw1 : IntKind.i64.wrap (c : Int) = (c : Int) := i64w (by unfold maxLen at hc; omega)
  have hw0 : IntKind.i64.wrap 0 = 0 := by decide
  have hroom : ¬ (roomBytes < c * i.bytes) := by rw [hbytes]; unfold roomBytes; omega
  have hbig : ¬ ((281474976710656 : Int) < (i.bytes : Int) * (c : Int)) := by
    rw [hbytes, Int.mul_comm]
    have h1 : ((c * bytes : Nat) : Int) ≤ 140737488355328 := by omega
    rw [Int.natCast_mul] at h1
    omega
  have hne : ¬ (c * n = 0) := by omega
  have hzv : ∀ w, (zeroValue e).run P w = .ok z w := fun w => by simp [zeroValue, typeInfo, hi, hz']
  refine ⟨.slice (some ⟨w.heap.size, 0, none⟩) 0 c, w.alloc (.cells ((Array.range (c * n)).map (z.cells[· % z.cells.size]!)) e (0, 0)), _, ?_, (hw.new (.cells ((Array.range (c * n)).map (z.cells[· % z.cells.size]!)) e)).conseq (r' := row (.slice (some ⟨w.heap.size, 0, none⟩) 0 c) e n 0 []) (fun a ha => ?_), _, rfl, rfl⟩
  · simp only [execOp, Instr.makeSlice, hx, hy, Sem.run_bind, run_underlying hu, Result.andThen_ok, asInt, asIntOf, sizeOf, typeInfo, run_program, hi, Sem.run_pure, hw0, hw1]
    have hcn : ¬ ((c : Int) < 0) := by omega
    simp [hcn, hbig, askRoom, hroom, hi, hn2, hne, hzv, newRow]
  · refine ⟨by simp, .inr ⟨w.heap.size, c, _, rfl, ha, by omega, hc, by simp, by simp⟩⟩
end
end Go.Sl
