/-
  The chapter's laws in plain terms. Own work; plain Lean.
-/
import Derived.Test.YtmgpmgckbcjalaaBrSp
namespace Go.Brd
open Go.Sl Go.Proofs
structure KF where
  x : UInt8
  y : UInt8
  w : UInt8
  h : UInt8
  deriving DecidableEq
abbrev FormF : Fl KF := ⟨4, fun f => [Bx f.x, Bx f.y, Bx f.w, Bx f.h], fun _ => rfl, fun _ => rfl, by decide⟩
def madeA (f : KF) : KA := ⟨((f.x.toNat % 128 : Nat) : Int) - 64, ((f.y.toNat % 128 : Nat) : Int) - 64, ((f.x.toNat % 128 : Nat) : Int) - 64 + (f.w.toNat : Int), ((f.y.toNat % 128 : Nat) : Int) - 64 + (f.h.toNat : Int)⟩
theorem u8_lt (x : UInt8) : x.toNat < 256 := x.toNat_lt
theorem made_okA (f : KF) : okA (madeA f) := by
  have h1 := u8_lt f.w; have h2 := u8_lt f.h
  unfold okA okSpan madeA; simp only; omega
/-! a space that is filled -/
/-! without -/
/-! areas -/
theorem ok_join {a b : KA} (ha : okA a) (hb : okA b) : okA (joinA a b) := by
  unfold okA okSpan joinA at *; simp only; omega
theorem ka_ext {a b : KA} (h1 : a.lx = b.lx) (h2 : a.ly = b.ly) (h3 : a.hx = b.hx) (h4 : a.hy = b.hy) : a = b := by cases a; cases b; simp_all
theorem meet_touch {a b : KA} (ha : okA a) (hb : okA b) : meetA a b ↔ touchA a b := ⟨fun h => (touch_com ha hb).1 h.2.2, fun h => ⟨ha, hb, (touch_com ha hb).2 h⟩⟩
theorem com_comm (a b : KA) : comR a b = comR b a := by
  have h : comA a b = comA b a := by apply ka_ext <;> simp only [comA] <;> omega
  have h2 : meetA a b ↔ meetA b a := by unfold meetA; rw [h]; exact ⟨fun q => ⟨q.2.1, q.1, q.2.2⟩, fun q => ⟨q.2.1, q.1, q.2.2⟩⟩
  unfold comR; simp only [h2, h]
theorem meet_comm (a b : KA) : meetA a b ↔ meetA b a := by
  have h : comA a b = comA b a := by apply ka_ext <;> simp only [comA] <;> omega
  unfold meetA; rw [h]; exact ⟨fun q => ⟨q.2.1, q.1, q.2.2⟩, fun q => ⟨q.2.1, q.1, q.2.2⟩⟩
theorem join_comm (a b : KA) : joinR a b = joinR b a := by
  have h : joinA a b = joinA b a := by apply ka_ext <;> simp only [joinA] <;> omega
  unfold joinR; simp only [h, and_comm]
theorem joinR_ok {a b : KA} (ha : okA a) (hb : okA b) : joinR a b = joinA a b := if_pos ⟨ha, hb⟩
theorem meet_own {a b : KA} (ha : okA a) (hb : okA b) : meetA a (joinR a b) := by
  rw [joinR_ok ha hb]
  refine ⟨ha, ok_join ha hb, ?_⟩
  unfold okA okSpan comA joinA at *; simp only; omega
theorem com_own {a b : KA} (ha : okA a) (hb : okA b) : comR a (joinR a b) = a := by
  rw [comR, if_pos (meet_own ha hb), joinR_ok ha hb]
  unfold okA okSpan at *
  apply ka_ext <;> simp only [comA, joinA] <;> omega
theorem join_assoc {a b c : KA} (ha : okA a) (hb : okA b) (hc : okA c) : joinR (joinR a b) c = joinR a (joinR b c) := by
  rw [joinR_ok ha hb, joinR_ok hb hc, joinR_ok (ok_join ha hb) hc, joinR_ok ha (ok_join hb hc)]
  apply ka_ext <;> simp only [joinA] <;> omega
theorem comR_yes {a b : KA} (h : meetA a b) : comR a b = comA a b := if_pos h
theorem comR_no {a b : KA} (h : ¬ meetA a b) : comR a b = zeroA := if_neg h
/-- a point -/
def ptA (x y : Int) : KA := ⟨x, y, x, y⟩
theorem pt_two {a b : KA} {x y : Int} (h : ¬ meetA a b) : ¬ (meetA (ptA x y) a ∧ meetA (ptA x y) b) := fun ⟨h1, h2⟩ => h (by
  refine ⟨h1.2.1, h2.2.1, ?_⟩
  have := h1.2.2; have := h2.2.2; have := h1.2.1; have := h2.2.1; have := h1.1
  unfold okA okSpan comA ptA at *; simp only at *; omega)
theorem com_one {a b c : KA} (h : meetA a b) (hc : okA c) : meetA (comR a b) c ↔ meetA b c ∧ meetA a (comR b c) := by
  rw [comR_yes h]
  constructor
  · intro h1
    have hbc : meetA b c := ⟨h.2.1, hc, by have := h1.2.2; have := h.1; have := h.2.1; unfold okA okSpan comA at *; simp only at *; omega⟩
    refine ⟨hbc, ?_⟩
    rw [comR_yes hbc]
    exact ⟨h.1, hbc.2.2, by have := h1.2.2; unfold okA okSpan comA at *; simp only at *; omega⟩
  · rintro ⟨h1, h2⟩
    rw [comR_yes h1] at h2
    exact ⟨h.2.2, hc, by have := h2.2.2; unfold okA okSpan comA at *; simp only at *; omega⟩
theorem com_assoc {a b c : KA} (h : meetA a b) (hc : okA c) (h1 : meetA (comR a b) c) : comR (comR a b) c = comR a (comR b c) := by
  obtain ⟨h2, h3⟩ := (com_one h hc).1 h1
  rw [comR_yes h1, comR_yes h3, comR_yes h, comR_yes h2]
  apply ka_ext <;> simp only [comA] <;> omega
theorem join_com {a b : KA} (h : meetA a b) : joinR a (comR a b) = a := by
  rw [comR_yes h, joinR_ok h.1 h.2.2]
  have := h.1; have := h.2.1
  unfold okA okSpan at *
  apply ka_ext <;> simp only [comA, joinA] <;> omega
theorem pt_com {a b : KA} {x y : Int} (h : meetA a b) : meetA (ptA x y) (comR a b) ↔ meetA (ptA x y) a ∧ meetA (ptA x y) b := by
  rw [comR_yes h]
  have h1 := h.1; have h2 := h.2.1; have h3 := h.2.2
  constructor
  · intro q
    have h4 := q.2.2; have h5 := q.1
    exact ⟨⟨q.1, h1, by unfold okA okSpan comA ptA at *; simp only at *; omega⟩, ⟨q.1, h2, by unfold okA okSpan comA ptA at *; simp only at *; omega⟩⟩
  · rintro ⟨q, r⟩
    have h4 := q.2.2; have h5 := q.1; have h6 := r.2.2
    exact ⟨q.1, h3, by unfold okA okSpan comA ptA at *; simp only at *; omega⟩
theorem pt_join {a b : KA} {x y : Int} (hb : okA b) (h : meetA (ptA x y) a) : meetA (ptA x y) (joinR a b) := by
  rw [joinR_ok h.2.1 hb]
  have h1 := h.1; have h2 := h.2.1; have h3 := h.2.2
  exact ⟨h1, ok_join h2 hb, by unfold okA okSpan comA joinA ptA at *; simp only at *; omega⟩
end Go.Brd
