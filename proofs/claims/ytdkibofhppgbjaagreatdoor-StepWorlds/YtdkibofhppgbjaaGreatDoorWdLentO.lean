/-
  A lent world as one resource: headers and components of one's own, with marks behind them. Own work; plain Lean.
-/
import Derived.Test.YtdkibofhppgbjaaGreatDoorWdLent
import Derived.Test.YtdkibofhppgbjaaGreatDoorWdRef
import Derived.Test.YtdkibofhppgbjaaGreatDoorStLent
namespace Go.Stp
open Go.Sl Go.Proofs
/-- an entity that was lent: where its components lie -/
structure OL where
  e : KEnt
  p : Option Addr
  c : Nat
def OL.hd (o : OL) : KHd := ⟨o.e.id, o.p, o.e.comps.length, o.c⟩
def OL.sl (o : OL) : Value := .slice o.p o.e.comps.length o.c
def OL.xs (o : OL) : List KComp := o.e.comps ++ marksC 12
def ownL (o : OL) : Res := rowF CompF 120 o.p o.c o.xs
def mH (i : Nat) : KHd := ⟨((8000024 + i : Nat) : Int), none, 0, 0⟩
def marksH (k : Nat) : List KHd := (List.range k).map mH
theorem marksH_len (k : Nat) : (marksH k).length = k := by simp [marksH]
def lentO (p : Option Addr) (c : Nat) (ov : List OL) : Res := Sat [rowF HdF 59 p c (ov.map OL.hd ++ marksH 12), Sat (ov.map ownL)]
theorem OL.xs_len (o : OL) : o.xs.length = o.e.comps.length + 12 := by unfold OL.xs; rw [List.length_append, marksC_len]
theorem rows_own : ∀ {vs : List Value} {xs : List KEnt}, vs.length = xs.length → ∀ a, Sat (lentRows vs xs) a → ∃ ov : List OL, ov.map (·.e) = xs ∧ vs = ov.map OL.sl ∧ Sat (ov.map ownL) a
  | [], [], _, a, h => ⟨[], rfl, rfl, h⟩
  | [], _ :: _, hl, _, _ => by cases hl
  | _ :: _, [], hl, _, _ => by cases hl
  | v :: vs, x :: xs, hl, a, h => by
    obtain ⟨b, c, h1, h2, h3, ⟨p, cc, rfl, h4⟩, h5⟩ := h
    obtain ⟨ov, g1, g2, g3⟩ := rows_own (by simpa using hl) c h5
    refine ⟨⟨x, p, cc⟩ :: ov, by rw [List.map_cons, g1], by rw [List.map_cons, ← g2]; rfl, b, c, h1, h2, h3, ?_, g3⟩
    have e : (x.comps ++ marksC 12).length = x.comps.length + 12 := by rw [List.length_append, marksC_len]
    show row (.slice p (x.comps ++ marksC 12).length cc) 120 5 (x.comps ++ marksC 12).length _ b
    rw [e]; exact h4
theorem cells_own (ov : List OL) : entCells (ov.map OL.sl ++ nils 12) (ov.map (·.e) ++ marksE 12) = (ov.map OL.hd ++ marksH 12).flatMap HdF.enc := by
  induction ov with
  | nil => rfl
  | cons o ov ih => show _ :: _ :: entCells (ov.map OL.sl ++ nils 12) (ov.map (·.e) ++ marksE 12) = _; rw [ih]; rfl
theorem lent_own {β : Base} {w : World} {p : Option Addr} {c : Nat} {vs : List Value} {xs : List KEnt} (hl : vs.length = xs.length) (h : St β (row (.slice p (xs.length + 12) c) 59 2 (xs.length + 12) (entCells (vs ++ nils 12) (xs ++ marksE 12)) :: lentRows vs xs) w) :
    ∃ ov : List OL, ov.map (·.e) = xs ∧ St β [lentO p c ov] w := by
  have h2 : St β [fun a => ∃ ov : List OL, ov.map (·.e) = xs ∧ lentO p c ov a] w := St.merge (M := []) (by rw [List.append_nil]; exact h) fun a ha => by
    obtain ⟨b, d, h1, h2, h3, h4, h5⟩ := ha
    obtain ⟨ov, g1, g2, g3⟩ := rows_own hl d h5
    refine ⟨ov, g1, b, d, h1, h2, h3, ?_, d, fun _ => none, fun _ => .inr rfl, Sub.refl _, fun _ _ h => (by cases h), g3, trivial⟩
    subst g1; subst g2
    rw [cells_own] at h4
    have e : (ov.map OL.hd ++ marksH 12).length = (ov.map (·.e)).length + 12 := by rw [List.length_append, marksH_len, List.length_map, List.length_map]
    show row (.slice p (ov.map OL.hd ++ marksH 12).length c) 59 2 (ov.map OL.hd ++ marksH 12).length _ b
    rw [e]; exact h4
  obtain ⟨ov, h3⟩ := St.ex h2
  refine ⟨ov, ?_, ?_⟩
  · obtain ⟨_, _, _, a, _, _, _, b, _, _, _, _, h4, _⟩ := h3; exact h4.1
  · exact St.merge (M := []) (L := [fun a => ov.map (·.e) = xs ∧ lentO p c ov a]) (by simpa using h3) fun a ha => by
      obtain ⟨b, d, h1, h2, h3, h4, h5⟩ := ha
      exact Sat.mono h2 h4.2
theorem lentO_le {p : Option Addr} {c : Nat} {ov : List OL} : ∀ a, lentO p c ov a → LESl a (.slice p (ov.map (·.e)).length c) (ov.map (·.e)) := fun a ha => by
  obtain ⟨b, d, _, s1, s2, h1, b2, d2, _, s3, _, h2, _⟩ := ha
  have h2 : Sat (ov.map ownL) a := Sat.mono (s3.trans s2) h2
  obtain ⟨-, l1, l2, he⟩ := Sl.parts (Sl.mono _ _ _ _ _ s1 (rowF_sl h1))
  have hl : (ov.map OL.hd ++ marksH 12).length = (ov.map (·.e)).length + 12 := by rw [List.length_append, marksH_len, List.length_map, List.length_map]
  have hat : ∀ (j : Nat) (o : OL), ov[j]? = some o → p = some (ba p) ∧ Cs a ((ba p).add (j * 2)) [Ix o.e.id, o.sl] ∧ LSl a o.sl o.e.comps := fun j o hj => by
    have hx : (ov.map OL.hd ++ marksH 12)[j]? = some o.hd := by rw [List.getElem?_append_left (by rw [List.length_map]; exact (List.getElem?_eq_some_iff.1 hj).1), List.getElem?_map, hj]; rfl
    obtain ⟨q1, cs, q2, q3⟩ := he j _ hx
    have q3 : cs = [Ix o.e.id, o.sl] := q3
    rw [q3] at q2
    obtain ⟨d3, s4, h4⟩ := h2.each _ (List.mem_map_of_mem (List.mem_of_getElem? hj))
    obtain ⟨-, m1, m2, hc⟩ := Sl.parts (Sl.mono _ _ _ _ _ s4 (rowF_sl h4))
    rw [o.xs_len] at m1
    exact ⟨q1, q2, o.p, o.c, rfl, m1, m2, hc⟩
  refine ⟨p, c, rfl, by omega, l2, fun j e he' => ?_, fun j e he' => ?_⟩
  · rw [List.getElem?_map] at he'
    cases ho : ov[j]? with
    | none => rw [ho] at he'; cases he'
    | some o =>
      rw [ho] at he'; injection he' with he'; subst he'
      obtain ⟨q1, q2, q3⟩ := hat j o ho
      exact ⟨q1, _, q2, _, rfl, q3⟩
  · by_cases hj : j < ov.length
    · rw [List.getElem?_append_left (by rw [List.length_map]; exact hj), List.getElem?_map] at he'
      cases ho : ov[j]? with
      | none => rw [ho] at he'; cases he'
      | some o =>
        rw [ho] at he'; injection he' with he'; subst he'
        obtain ⟨q1, q2, p', c', q3, q4, q5, q6⟩ := hat j o ho
        exact ⟨q1, _, q2, _, rfl, p', c', q3, by show o.e.comps.length ≤ c'; omega, q5, Elems.left q6⟩
    · have hlt := (List.getElem?_eq_some_iff.1 he').1
      rw [List.length_append, marksE_len, List.length_map] at hlt
      rw [List.getElem?_append_right (by rw [List.length_map]; omega), List.length_map] at he'
      have hx : (ov.map OL.hd ++ marksH 12)[j]? = some (mH (j - ov.length)) := by
        rw [List.getElem?_append_right (by rw [List.length_map]; omega), List.length_map]
        unfold marksH; rw [List.getElem?_map, List.getElem?_range (by omega)]; rfl
      obtain ⟨q1, cs, q2, q3⟩ := he j _ hx
      have q3 : cs = [Ix ((8000024 + (j - ov.length) : Nat) : Int), .slice none 0 0] := q3
      have e1 : e = markE (j - ov.length) := by
        unfold marksE at he'
        rw [List.getElem?_map, List.getElem?_range (by omega)] at he'
        injection he' with he'; exact he'.symm
      subst e1
      exact ⟨q1, _, q2, _, q3, Sl.nil _ _⟩
end Go.Stp
