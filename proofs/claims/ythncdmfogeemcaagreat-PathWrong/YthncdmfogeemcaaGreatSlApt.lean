/-
  Lists that are filled with marks and made longer: two slices that may share a block, resources one after the other. Own work; plain Lean.
-/
import Derived.Test.YthncdmfogeemcaaGreatSlFam
import Derived.Test.YthncdmfogeemcaaGreatSlFlat
namespace Go.Sl
section
variable {P : Program} {ro : Option Nat} {n : Nat} {ds : List Deferred} {β : Base} {Q : Exit → Act → World → Prop} {f : Fm} {L : List Res} {ops : Array Oper} {rest : List Oper}
variable {d : Option Tmp} {ty : TypeId} {ps : String} {af : Array Edge} {g : Option (Nat × Bool)}
end
/-! resources one after the other -/
section
variable {P : Program} {ro : Option Nat} {n : Nat} {ds : List Deferred} {β : Base} {Q : Exit → Act → World → Prop} {f : Fm} {L : List Res} {ops : Array Oper} {rest : List Oper}
variable {d : Option Tmp} {ty : TypeId} {ps : String} {af : Array Edge} {g : Option (Nat × Bool)}
/-! one of them taken out for a while -/
end
/-- the header of a slice -/
structure H3 where
  p : Option Addr
  n : Nat
  c : Nat
/-- a slice and what it holds -/
structure HV (α : Type) where
  p : Option Addr
  c : Nat
  xs : List α
def HV.h {α : Type} (v : HV α) : H3 := ⟨v.p, v.xs.length, v.c⟩
structure Z5 where
  h : H3
  q : Option Addr
  e : Nat
section
variable {α : Type} (F : Fl α) (T : Nat) (mk : Nat → Nat → α)
end
section
variable {α : Type} {F : Fl α} {T : Nat} {mk : Nat → Nat → α}
end
section
variable {P : Program} {ro : Option Nat} {n : Nat} {ds : List Deferred} {β : Base} {Q : Exit → Act → World → Prop} {f : Fm} {L : List Res} {ops : Array Oper} {rest : List Oper}
variable {d : Option Tmp} {ty : TypeId} {ps : String} {af : Array Edge} {g : Option (Nat × Bool)}
variable {α : Type} {F : Fl α} {T : Nat}
end
theorem rep_flatA {α : Type} {F : Fl α} {x0 : α} {z : Value} (hz : z.cells.toList = F.enc x0) : ∀ c, repL z.cells.toList c = (List.replicate c x0).flatMap F.enc
  | 0 => rfl
  | c + 1 => by
    rw [List.replicate_succ, List.flatMap_cons, ← rep_flatA hz c, hz]; rfl
/-- a row that is made with its elements zero -/
theorem m_makeFl {α : Type} {F : Fl α} {x0 : α} {P : Program} {β : Base} {L : List Res} {f : Fm} {d : Option Tmp} {ty : TypeId} {ps : String} {af : Array Edge} {g : Option (Nat × Bool)} {x y : Operand} {t e bytes c : Nat} {z : Value} (hsl : slB P t e F.n = true) (hel : elB P e F.n bytes = true) (hz : (P.info? e).bind (·.zero) = some z) (hzc : z.cells.toList = F.enc x0) (hx : ev f x = .int .i64 (c : Int)) (hy : ev f y = .int .i64 (c : Int)) (hc : c ≤ maxLen) (hb : c * bytes ≤ 140737488355328) :
    MV P β L f ⟨d, .makeSlice t x y, ty, ps, af, g⟩ (fun u L' => ∃ b, u = .slice (some ⟨b, 0, none⟩) c c ∧ L' = rowF F e (some ⟨b, 0, none⟩) c (List.replicate c x0) :: L) := fun w hw => by
  have hzn : z.cells.size = F.n := by
    have := congrArg List.length hzc
    rw [F.len] at this; simpa using this
  cases c with
  | zero =>
    obtain ⟨u, w', L', h1, h2, b, rfl, rfl⟩ := m_make00 (P := P) (β := β) (L := L) (f := f) (d := d) (ty := ty) (ps := ps) (af := af) (g := g) (x := x) (y := y) hsl hx hy w hw
    exact ⟨_, w', _, h1, h2.conseq fun a ha => ⟨by simp, .inr ⟨b, 0, #[], rfl, ha, Nat.le_refl _, by unfold maxLen; omega, by simp, by simp⟩⟩, b, rfl, rfl⟩
  | succ c =>
    obtain ⟨u, w', L', h1, h2, b, rfl, rfl⟩ := m_makeN (P := P) (β := β) (L := L) (f := f) (d := d) (ty := ty) (ps := ps) (af := af) (g := g) (x := x) (y := y) hsl hel hz hzn hx hy (Nat.mul_pos (Nat.succ_pos _) F.pos) hc hb w hw
    refine ⟨_, w', _, h1, h2.conseq fun a ha => ?_, b, rfl, rfl⟩
    rw [rep_flatA hzc] at ha
    show row (.slice _ (List.replicate (c + 1) x0).length _) _ _ (List.replicate (c + 1) x0).length _ a
    rw [List.length_replicate]; exact ha
end Go.Sl
