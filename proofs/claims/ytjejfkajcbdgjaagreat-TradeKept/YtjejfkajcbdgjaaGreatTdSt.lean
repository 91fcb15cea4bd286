/-
 What the acts do to purses and holds, in plain terms. Own work; plain Lean.
-/
import Derived.Test.YtjejfkajcbdgjaaGreatSlA
namespace Go.Td
open Go Go.Sl Go.Proofs
noncomputable def puA (ps : List (Int × KAm)) (n : Int) : KAm := (PuM.look ps n).getD zeroA
/-- there is no room for the sum, or it is too great -/
noncomputable def addX (ps : List (Int × KAm)) (n : Int) (a : KAm) : Bool := !((puA ps n).plus a 1).within || (!(PuM.look ps n).isSome && decide (¬ (puA ps n).plus a 1 = zeroA) && decide ((256 : Int) ≤ (ps.length : Int)))
noncomputable def addP (ps : List (Int × KAm)) (n : Int) (a : KAm) : List (Int × KAm) := if addX ps n a then ps else if (puA ps n).plus a 1 = zeroA then ps else PuM.put ps n ((puA ps n).plus a 1)
noncomputable def addE (ps : List (Int × KAm)) (n : Int) (a : KAm) : Int := if addX ps n a then 4 else 0
noncomputable def takeX (ps : List (Int × KAm)) (n : Int) (a : KAm) : Bool := !((puA ps n).plus a (-1)).within
noncomputable def takeP (ps : List (Int × KAm)) (n : Int) (a : KAm) : List (Int × KAm) := if takeX ps n a then ps else if (puA ps n).plus a (-1) = zeroA then PuM.del (PuM.put ps n ((puA ps n).plus a (-1))) n else PuM.put ps n ((puA ps n).plus a (-1))
noncomputable def takeE (ps : List (Int × KAm)) (n : Int) (a : KAm) : Int := if takeX ps n a then 330 else 0
/-- what a house keeps, but for the memories -/
structure KSt where
 ps : List (Int × KAm)
 hs : List (Int × KHo)
 last : Int
 su : KAm
/-- its cells -/
abbrev stC (mp mh mm : Nat) (la : Int) (su : KAm) : Array Value := #[.map (some mp), .map (some mh), Ix la, Ix su.a0, Ix su.a1, Ix su.a2, Ix su.a3, .map (some mm)]
noncomputable def mintS (s : KSt) (x : KAct) : KSt × Int × Int := (⟨addP s.ps x.owner x.a, s.hs, s.last, if addE s.ps x.owner x.a = 0 then s.su.plus x.a 1 else s.su⟩, 0, addE s.ps x.owner x.a)
noncomputable def burnS (s : KSt) (x : KAct) : KSt × Int × Int := (⟨takeP s.ps x.owner x.a, s.hs, s.last, if takeE s.ps x.owner x.a = 0 then s.su.plus x.a (-1) else s.su⟩, 0, takeE s.ps x.owner x.a)
noncomputable def moveS (s : KSt) (x : KAct) : KSt × Int × Int :=
 if takeE s.ps x.owner x.a = 0 then (⟨addP (takeP s.ps x.owner x.a) x.other x.a, s.hs, s.last, s.su⟩, 0, addE (takeP s.ps x.owner x.a) x.other x.a)
 else (⟨takeP s.ps x.owner x.a, s.hs, s.last, s.su⟩, 0, takeE s.ps x.owner x.a)
noncomputable def holdS (s : KSt) (x : KAct) : KSt × Int × Int :=
 if takeE s.ps x.owner x.a = 0 then
  if (128 : Int) ≤ (s.hs.length : Int) then (⟨takeP s.ps x.owner x.a, s.hs, s.last, s.su⟩, 0, 5)
  else (⟨takeP s.ps x.owner x.a, HoM.put s.hs (s.last + 1) ⟨s.last + 1, x.owner, x.a⟩, s.last + 1, s.su⟩, s.last + 1, 0)
 else (⟨takeP s.ps x.owner x.a, s.hs, s.last, s.su⟩, 0, takeE s.ps x.owner x.a)
noncomputable def hoA (hs : List (Int × KHo)) (n : Int) : KHo := (HoM.look hs n).getD zeroH
noncomputable def payS (s : KSt) (hold other : Int) : KSt × Int × Int :=
 if (HoM.look s.hs hold).isSome then (⟨addP s.ps other (hoA s.hs hold).a, HoM.del s.hs hold, s.last, s.su⟩, 0, addE s.ps other (hoA s.hs hold).a) else (s, 0, 6)
noncomputable def needS (s : KSt) (x : KAct) : KSt × Int × Int := (s, 0, takeE s.ps x.owner x.a)
/-- what an act does; the number that it made; its error -/
noncomputable def actS (s : KSt) (x : KAct) : KSt × Int × Int :=
 if (x.kind.toNat : Int) = 1 then mintS s x else if (x.kind.toNat : Int) = 2 then burnS s x else if (x.kind.toNat : Int) = 3 then moveS s x else if (x.kind.toNat : Int) = 4 then holdS s x
 else if (x.kind.toNat : Int) = 5 then payS s x.hold (hoA s.hs x.hold).owner else if (x.kind.toNat : Int) = 6 then payS s x.hold x.other else needS s x
/-- the acts of a transaction, one after the other -/
noncomputable def runA (s0 : KSt) : KSt → List Int → Nat → List KAct → KSt × KRes
 | s, made, _, [] => (s, ⟨true, 0, 0, made⟩)
 | s, made, k, x :: xs => if (actS s x).2.2 = 0 then runA s0 (actS s x).1 (if 0 < (actS s x).2.1 then made ++ [(actS s x).2.1] else made) (k + 1) xs else (s0, ⟨false, (k : Int), (actS s x).2.2, []⟩)
noncomputable def carryF (s : KSt) (acts : List KAct) : KSt × KRes := runA s s [] 0 acts
/-- amounts that are within their bounds -/
def okP (ps : List (Int × KAm)) : Prop := ∀ p ∈ ps, p.2.within = true
def okH (hs : List (Int × KHo)) : Prop := ∀ p ∈ hs, p.2.a.within = true
theorem within_bd {a : KAm} (h : a.within = true) : a.bd 2147483647 := by
 unfold KAm.within inA at h
 simp only [Bool.and_eq_true, decide_eq_true_eq] at h
 unfold KAm.bd
 omega
theorem bd_le {a : KAm} {M N : Int} (h : a.bd M) (hMN : M ≤ N) : a.bd N := by unfold KAm.bd at *; omega
theorem zero_bd : zeroA.bd 4611686018427387903 := by unfold KAm.bd zeroA; decide
theorem within_zero : zeroA.within = true := by decide
theorem okP_at {ps : List (Int × KAm)} (h : okP ps) (n : Int) : (puA ps n).within = true := by
 unfold puA
 cases e : PuM.look ps n with
 | none => exact within_zero
 | some v => exact h _ (look_mem e)
theorem okH_at {hs : List (Int × KHo)} (h : okH hs) (n : Int) : (hoA hs n).a.within = true := by
 unfold hoA
 cases e : HoM.look hs n with
 | none => exact within_zero
 | some v => exact h _ (look_mem e)
theorem okP_bd {ps : List (Int × KAm)} (h : okP ps) (n : Int) : ((PuM.look ps n).getD zeroA).bd 4611686018427387903 := bd_le (within_bd (okP_at h n)) (by decide)
theorem okH_bd {hs : List (Int × KHo)} (h : okH hs) (n : Int) : ((HoM.look hs n).getD zeroH).a.bd 4611686018427387903 := bd_le (within_bd (okH_at h n)) (by decide)
section
variable {P : Program} {κ ν : Type} {K : MapK P κ ν} {ks : List (κ × ν)} {k : κ} {v : ν} {Q : ν → Prop}
theorem put_all (h : ∀ p ∈ ks, Q p.2) (hv : Q v) : ∀ p ∈ K.put ks k v, Q p.2 := by
 unfold MapK.put
 split
 ·intro p hp
  obtain ⟨q, hq, rfl⟩ := List.mem_map.1 hp
  letI := K.dec
  by_cases hk : q.1 = k
  ·simp only [hk, if_true]; exact hv
  ·simp only [hk, if_false]; exact h q hq
 ·intro p hp
  rcases List.mem_append.1 hp with hp | hp
  ·exact h p hp
  ·rw [List.mem_singleton.1 hp]; exact hv
theorem del_all (h : ∀ p ∈ ks, Q p.2) : ∀ p ∈ K.del ks k, Q p.2 := fun p hp => h p (List.mem_filter.1 hp).1
end
theorem addP_ok {ps : List (Int × KAm)} (h : okP ps) (n : Int) (a : KAm) : okP (addP ps n a) := by
 unfold addP
 split
 ·exact h
 ·rename_i hx
  split
  ·exact h
  ·refine put_all (Q := fun z : KAm => z.within = true) h ?_
   unfold addX at hx
   simp only [Bool.or_eq_true, Bool.not_eq_true', not_or] at hx
   simpa using hx.1
theorem takeP_ok {ps : List (Int × KAm)} (h : okP ps) (n : Int) (a : KAm) : okP (takeP ps n a) := by
 unfold takeP
 split
 ·exact h
 ·rename_i hx
  have hw : ((puA ps n).plus a (-1)).within = true := by unfold takeX at hx; simpa using hx
  split
  ·exact del_all (Q := fun z : KAm => z.within = true) (put_all (Q := fun z : KAm => z.within = true) h hw)
  ·exact put_all (Q := fun z : KAm => z.within = true) h hw
/-- a state of a house: amounts are within bounds, and nothing wraps -/
structure GoodS (s : KSt) (M : Int) : Prop where
 p : okP s.ps
 h : okH s.hs
 su : s.su.bd M
 l0 : 0 ≤ s.last
 lM : s.last ≤ M
theorem GoodS.le {s : KSt} {M N : Int} (h : GoodS s M) (hMN : M ≤ N) : GoodS s N := ⟨h.p, h.h, bd_le h.su hMN, h.l0, by have := h.lM; omega⟩
theorem plus_bd {a b : KAm} {M : Int} {s : Int} (hs : s = 1 ∨ s = -1) (ha : a.bd M) (hb : b.within = true) : (a.plus b s).bd (M + 2147483648) := by
 have hb := within_bd hb
 unfold KAm.bd KAm.plus at *
 rcases hs with rfl | rfl <;> simp only [] <;> omega
theorem addG {s : KSt} {M : Int} (h : GoodS s M) (n : Int) (a : KAm) (hs : List (Int × KHo)) (hh : okH hs) : GoodS ⟨addP s.ps n a, hs, s.last, s.su⟩ (M + 2147483648) := ⟨addP_ok h.p _ _, hh, bd_le h.su (by omega), h.l0, by have := h.lM; simp only []; omega⟩
theorem actS_good {s : KSt} {M : Int} {x : KAct} (h : GoodS s M) (hx : x.a.within = true) : GoodS (actS s x).1 (M + 2147483648) := by
 have hpay : ∀ q o, GoodS (payS s q o).1 (M + 2147483648) := fun q o => by
  unfold payS
  split
  ·exact addG h _ _ _ (del_all (Q := fun z : KHo => z.a.within = true) h.h)
  ·exact h.le (by omega)
 have htk : GoodS ⟨takeP s.ps x.owner x.a, s.hs, s.last, s.su⟩ (M + 2147483648) := ⟨takeP_ok h.p _ _, h.h, bd_le h.su (by omega), h.l0, by have := h.lM; simp only []; omega⟩
 unfold actS
 split
 ·refine ⟨addP_ok h.p _ _, h.h, ?_, h.l0, by have := h.lM; simp only [mintS]; omega⟩
  simp only [mintS]
  split
  ·exact plus_bd (.inl rfl) h.su hx
  ·exact bd_le h.su (by omega)
 ·split
  ·refine ⟨takeP_ok h.p _ _, h.h, ?_, h.l0, by have := h.lM; simp only [burnS]; omega⟩
   simp only [burnS]
   split
   ·exact plus_bd (.inr rfl) h.su hx
   ·exact bd_le h.su (by omega)
  ·split
   ·unfold moveS
    split
    ·exact ⟨addP_ok (takeP_ok h.p _ _) _ _, h.h, bd_le h.su (by omega), h.l0, by have := h.lM; simp only []; omega⟩
    ·exact htk
   ·split
    ·unfold holdS
     split
     ·split
      ·exact htk
      ·exact ⟨takeP_ok h.p _ _, put_all (Q := fun z : KHo => z.a.within = true) h.h hx, bd_le h.su (by omega), by have := h.l0; simp only []; omega, by have := h.lM; simp only []; omega⟩
     ·exact htk
    ·split
     ·exact hpay _ _
     ·split
      ·exact hpay _ _
      ·exact h.le (by omega)
theorem run_nil {s0 s : KSt} {made : List Int} {k : Nat} {xs : List KAct} (h : xs.length ≤ k) : runA s0 s made k (xs.drop k) = (s, ⟨true, 0, 0, made⟩) := by
 rw [List.drop_eq_nil_of_le h]; rfl
theorem run_bad {s0 s : KSt} {made : List Int} {k : Nat} {xs : List KAct} {x : KAct} (hx : xs[k]? = some x) (he : ¬ (actS s x).2.2 = 0) : runA s0 s made k (xs.drop k) = (s0, ⟨false, (k : Int), (actS s x).2.2, []⟩) := by
 obtain ⟨hk, rfl⟩ := List.getElem?_eq_some_iff.1 hx
 rw [List.drop_eq_getElem_cons hk]; exact if_neg he
theorem run_next {s0 s : KSt} {made : List Int} {k : Nat} {xs : List KAct} {x : KAct} (hx : xs[k]? = some x) (he : (actS s x).2.2 = 0) : runA s0 s made k (xs.drop k) = runA s0 (actS s x).1 (if 0 < (actS s x).2.1 then made ++ [(actS s x).2.1] else made) (k + 1) (xs.drop (k + 1)) := by
 obtain ⟨hk, rfl⟩ := List.getElem?_eq_some_iff.1 hx
 rw [List.drop_eq_getElem_cons hk]; exact if_pos he
end Go.Td
