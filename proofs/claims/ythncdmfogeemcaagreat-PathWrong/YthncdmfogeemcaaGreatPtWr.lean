/-
  Lists that are no meshes; a part of an array by a small number. Own work; plain Lean.
-/
import Derived.Test.YthncdmfogeemcaaGreatPt9
import Derived.Test.YthncdmfogeemcaaGreatPtGeo
namespace Go.Sl
open Go
section
variable {P : Program} {β : Base} {L : List Res} {f : Fm} {d : Option Tmp} {ty : TypeId} {ps : String} {af : Array Edge} {g : Option (Nat × Bool)}
theorem e_index_u {x y : Operand} {t len e k : Nat} {ik : IntKind} {cs : Array Value} {v : Value} (hx : ev f x = .agg cs) (hy : ev f y = .int ik (k : Int)) (ht : arB P t len e 1 = true) (hv : cs[k]? = some v) (hk : k < len) (hne : tyB P e false 1 = true) :
    EV P β L f ⟨d, .index t x y, ty, ps, af, g⟩ v := fun w _ => by
  unfold arB at ht
  simp only [Bool.and_eq_true] at ht
  obtain ⟨h1, h2⟩ := ht
  cases hu : P.underlying t with
  | none => rw [hu] at h1; cases h1
  | some dd =>
    rw [hu] at h1
    cases dd <;> simp only [] at h1 <;> try (cases h1)
    rename_i l' e'
    simp only [Bool.and_eq_true, beq_iff_eq] at h1
    obtain ⟨rfl, rfl⟩ := h1
    have hs := (tyF hne).size w
    have ha := (tyF hne).agg w
    simp only [execOp, hx, hy, Instr.index, asIntOf, Sem.run_bind, run_underlying hu, Sem.run_pure, Result.andThen_ok]
    simp [hk, hs, part, ha, hv]
end
section
variable {n : Nat} {ds : List Deferred} {β : Base} {Q : Exit → Act → World → Prop} {f : Fm} {L : List Res}
theorem f_conseqP {ex : Exit} {r r' : Res} (i : Nat) (hi : L[i]? = some r) (h : ∀ a, r a → r' a) (k : Fin n ds β Q ex f (L.set i r')) : Fin n ds β Q ex f L := fun a w ha hw => k a w ha (hw.conseq_at i hi h)
end
end Go.Sl
namespace Go.Pth
open Go.Sl Go.Brd Go.Proofs
/-- what makes a list no mesh -/
def BadL (bad : List KA) : Prop := ∀ l : List KA, ¬ okM (l ++ bad)
theorem okM_pair {L : List KA} (hM : okM L) {i k : Nat} {a b : KA} (hi : L[i]? = some a) (hk : L[k]? = some b) (hik : i < k) (ht : touchA a b) : flatA (comA a b) := by
  have hp : (⟨(i : Int), (k : Int)⟩ : KP) ∈ pairsA L := by
    rw [pairsA_eq]
    have h1 : (things L 0)[i]? = some ⟨(i : Int), a⟩ := by rw [things_get, hi, Nat.zero_add]; rfl
    have h2 : (things L 0)[k]? = some ⟨(k : Int), b⟩ := by rw [things_get, hk, Nat.zero_add]; rfl
    have := pairT_mem _ i k _ _ h1 h2 hik ht
    rwa [show mkP ⟨(i : Int), a⟩ ⟨(k : Int), b⟩ = ⟨(i : Int), (k : Int)⟩ by unfold mkP; congr 1 <;> simp only <;> omega] at this
  have := hM.2.2 _ hp
  rwa [comP_of hi hk] at this
theorem bad_two {a b : KA} (ht : touchA a b) (hf : ¬ flatA (comA a b)) : BadL [a, b] := fun l hM => hf (okM_pair hM (i := l.length) (k := l.length + 1)
  (by rw [List.getElem?_append_right (Nat.le_refl _), Nat.sub_self]; rfl) (by rw [List.getElem?_append_right (by omega), show l.length + 1 - l.length = 1 by omega]; rfl) (by omega) ht)
theorem bad_one {a : KA} (h : ¬ roomOk a) : BadL [a] := fun l hM => h (hM.2.1 a (List.mem_append_right _ (by simp)))
theorem bad0 : BadL [⟨200, 200, 204, 204⟩, ⟨200, 200, 204, 204⟩] := bad_two (by decide) (by decide)
theorem bad1 : BadL [⟨200, 200, 204, 204⟩, ⟨203, 199, 209, 201⟩] := bad_two (by decide) (by decide)
theorem bad2 : BadL [⟨200, 200, 200, 204⟩] := bad_one (by decide)
theorem bad3 : BadL [⟨200, 204, 204, 204⟩] := bad_one (by decide)
theorem bad4 : BadL [⟨204, 200, 200, 204⟩] := bad_one (by decide)
theorem bad5 : BadL [⟨0, -5, 2097153, -1⟩] := bad_one (by decide)
theorem bad_six (y : UInt8) : y.toNat % 6 = 0 ∨ y.toNat % 6 = 1 ∨ y.toNat % 6 = 2 ∨ y.toNat % 6 = 3 ∨ y.toNat % 6 = 4 ∨ y.toNat % 6 = 5 := by omega
theorem okM_add {bs : List UInt8} {l : List KA} (hB : MeshB bs l) : okM (l ++ [(⟨200, 200, 204, 204⟩ : KA)]) := by
  have hl := hB.len
  have hM := hB.okM
  refine ⟨by rw [List.length_append, List.length_singleton]; omega, fun a ha => ?_, fun p hp => ?_⟩
  · rcases List.mem_append.1 ha with h | h
    · exact hM.2.1 a h
    · rw [List.mem_singleton.1 h]; decide
  · obtain ⟨i, k, a, b, h1, h2, h3, h4, rfl, h5⟩ := pairs_two hp
    rw [List.length_append, List.length_singleton] at h2
    have hi : l[i]? = some a := by rwa [List.getElem?_append_left (by omega)] at h3
    have hsa := hB.small a (List.mem_of_getElem? hi)
    by_cases hk : k < l.length
    · rw [List.getElem?_append_left hk] at h4
      rw [comP_of h3 (by rw [List.getElem?_append_left hk]; exact h4)]
      exact okM_pair hM hi h4 h1 h5
    · have : k = l.length := by omega
      subst this
      rw [List.getElem?_append_right (Nat.le_refl _), Nat.sub_self] at h4
      have hb : b = ⟨200, 200, 204, 204⟩ := (Option.some.inj h4).symm
      subst hb
      unfold smallA at hsa
      unfold touchA at h5
      simp only at h5
      omega
theorem find_far {bs : List UInt8} {l : List KA} {w : List KV} {n : Nat} {e : Int} (hB : MeshB bs l) (h : FindR l ⟨-1, -1⟩ ⟨0, 0⟩ w n e) : n = 0 ∧ e = 6 := by
  rcases find_geo hB.okM h with ⟨_, h2, _⟩ | ⟨h1, h2, _⟩
  · exfalso
    have key : ∀ {t L}, Gw l ⟨-1, -1⟩ ⟨0, 0⟩ .en t L → t = .be → False := by
      intro t L g
      cases g with
      | one _ _ c => intro e; subst e; obtain ⟨a, _, h1, h2⟩ := c; have := hB.small a h1; unfold smallA at this; unfold hasP at h2; simp only at h2; omega
      | snoc _ _ c => intro e; subst e; obtain ⟨a, _, h1, h2⟩ := c; have := hB.small a h1; unfold smallA at this; unfold hasP at h2; simp only at h2; omega
    exact key h2 rfl
  · exact ⟨h2, h1⟩
theorem find_bad {l : List KA} {p q : KV} {w : List KV} {n : Nat} {e : Int} (hM : ¬ okM l) (h : FindR l p q w n e) : w = [] ∧ n = 0 ∧ e = 2 := by
  rcases h with ⟨_, h⟩ | ⟨h, _⟩
  · exact h
  · exact absurd h hM
end Go.Pth
