/-
  Law IslandFixed in plain terms. Own work; plain Lean.
-/
import Derived.Test.YtoijanalppaplaaIs7
namespace Go.Isl
open Go.Sl Go.Brd Go.Stp Go.Proofs
/-- is the body of that name fixed? (the bodies of Made) -/
def fixAt (bs : List KB) (x : Int) : Bool := match bs[x.toNat / 2]? with | some z => z.fixed | none => false
def freeR (bs : List KB) (rs : List KR) : List KR := rs.filter fun r => !fixAt bs r.a && !fixAt bs r.b
theorem fixAt_eq {bs : List KB} {x : Int} {a : Nat} {z : KB} (hx : x = ((1 + 2 * a : Nat) : Int)) (hz : bs[a]? = some z) : fixAt bs x = z.fixed := by
  unfold fixAt
  rw [show x.toNat / 2 = a by omega, hz]
theorem end_at {bs : List KB} {x : Int} (hb : madeL bs) (h : (findB bs x).isSome = true) : ∃ (a : Nat) (z : KB), x = ((1 + 2 * a : Nat) : Int) ∧ bs[a]? = some z := by
  obtain ⟨z, hz, e⟩ := findB_iff.1 h
  obtain ⟨a, ha⟩ := List.getElem?_of_mem hz
  exact ⟨a, z, by rw [← e]; exact hb.1 a z ha, ha⟩
theorem rope_ends {bs : List KB} {rs : List KR} {gx gy : Int} (h : MadeP bs rs gx gy) {r : KR} (hr : r ∈ rs) : ∃ (a : Nat) (za : KB) (b : Nat) (zb : KB), r.a = ((1 + 2 * a : Nat) : Int) ∧ bs[a]? = some za ∧ r.b = ((1 + 2 * b : Nat) : Int) ∧ bs[b]? = some zb := by
  obtain ⟨h1, h2, -⟩ := h.ok.2.2.2.2.2 r hr
  obtain ⟨a, za, e1, e2⟩ := end_at h.bodies h1
  obtain ⟨b, zb, e3, e4⟩ := end_at h.bodies h2
  exact ⟨a, za, b, zb, e1, e2, e3, e4⟩
theorem freeB_yes {bs : List KB} {k : Nat} {z : KB} (hz : bs[k]? = some z) (h : z.fixed = false) : freeB (bs.take k) ++ [z] = freeB (bs.take (k + 1)) := by
  unfold freeB
  rw [List.take_add_one, hz, List.filter_append]
  simp [h]
theorem freeB_no {bs : List KB} {k : Nat} {z : KB} (hz : bs[k]? = some z) (h : z.fixed = true) : freeB (bs.take k) = freeB (bs.take (k + 1)) := by
  unfold freeB
  rw [List.take_add_one, hz, List.filter_append]
  simp [h]
theorem freeR_yes {bs : List KB} {rs : List KR} {k : Nat} {r : KR} (hr : rs[k]? = some r) (h1 : fixAt bs r.a = false) (h2 : fixAt bs r.b = false) : freeR bs (rs.take k) ++ [r] = freeR bs (rs.take (k + 1)) := by
  unfold freeR
  rw [List.take_add_one, hr, List.filter_append]
  simp [h1, h2]
theorem freeR_no {bs : List KB} {rs : List KR} {k : Nat} {r : KR} (hr : rs[k]? = some r) (h : fixAt bs r.a = true ∨ fixAt bs r.b = true) : freeR bs (rs.take k) = freeR bs (rs.take (k + 1)) := by
  unfold freeR
  rw [List.take_add_one, hr, List.filter_append]
  rcases h with h | h <;> simp [h]
theorem freeR_len (bs : List KB) (rs : List KR) : (freeR bs rs).length ≤ rs.length := List.length_filter_le _ _
theorem free_iff {bs : List KB} {x : Int} (hb : madeL bs) {a : Nat} {z : KB} (hx : x = ((1 + 2 * a : Nat) : Int)) (hz : bs[a]? = some z) : (findB (freeB bs) x).isSome = true ↔ z.fixed = false := by
  rw [findB_iff]
  constructor
  · rintro ⟨y, hy, e⟩
    obtain ⟨hy1, hy2⟩ := List.mem_filter.1 hy
    obtain ⟨i, hi⟩ := List.getElem?_of_mem hy1
    have h1 := hb.1 i y hi
    have : i = a := by omega
    subst this
    rw [hz] at hi; injection hi with hi
    rw [hi]; simpa using hy2
  · intro h
    exact ⟨z, List.mem_filter.2 ⟨List.mem_of_getElem? hz, by simp [h]⟩, by rw [hb.1 a z hz, hx]⟩
theorem okS_free {bs : List KB} {rs : List KR} {gx gy : Int} (h : MadeP bs rs gx gy) : okS (freeB bs) (freeR bs rs) gx gy := by
  obtain ⟨h1, h2, h3, h4, h5, h6⟩ := h.ok
  have e1 := freeB_len bs
  have e2 := freeR_len bs rs
  refine ⟨by omega, by omega, h3, freeB_ok h4, freeB_ord h5, fun r hr => ?_⟩
  obtain ⟨hr1, hr2⟩ := List.mem_filter.1 hr
  obtain ⟨a, za, b, zb, ea, eza, eb, ezb⟩ := rope_ends h hr1
  rw [fixAt_eq ea eza, fixAt_eq eb ezb] at hr2
  simp only [Bool.and_eq_true, Bool.not_eq_true'] at hr2
  obtain ⟨g1, g2, g3⟩ := h6 r hr1
  exact ⟨(free_iff h.bodies ea eza).2 hr2.1, (free_iff h.bodies eb ezb).2 hr2.2, g3⟩
theorem freeB_idem (bs : List KB) : freeB (freeB bs) = freeB bs := by unfold freeB; rw [List.filter_filter]; simp
theorem ropes_free {bs : List KB} {rs : List KR} {gx gy : Int} (h : MadeP bs rs gx gy) : (freeR bs rs).filterMap (ropeN (freeB bs)) = rs.filterMap (ropeN (freeB bs)) := by
  have key : ∀ (L : List KR), (∀ r ∈ L, r ∈ rs) → (L.filter fun r => !fixAt bs r.a && !fixAt bs r.b).filterMap (ropeN (freeB bs)) = L.filterMap (ropeN (freeB bs)) := by
    intro L
    induction L with
    | nil => intro _; rfl
    | cons r L ih =>
      intro hL
      have ih := ih fun z hz => hL z (List.mem_cons_of_mem _ hz)
      by_cases hp : (!fixAt bs r.a && !fixAt bs r.b) = true
      · rw [List.filter_cons, if_pos hp, List.filterMap_cons, List.filterMap_cons, ih]
      · rw [List.filter_cons, if_neg hp, ih, List.filterMap_cons]
        have hn : ropeN (freeB bs) r = none := if_neg fun q => hp (by
          obtain ⟨a, za, b, zb, ea, eza, eb, ezb⟩ := rope_ends h (hL r List.mem_cons_self)
          rw [fixAt_eq ea eza, fixAt_eq eb ezb, (free_iff h.bodies ea eza).1 q.1, (free_iff h.bodies eb ezb).1 q.2]; rfl)
        rw [hn]
  exact key rs fun _ q => q
theorem isl_free {bs : List KB} {rs : List KR} {gx gy : Int} (h : MadeP bs rs gx gy) : islR (freeB bs) (freeR bs rs) gx gy = islR bs rs gx gy := by
  rw [islR, islR, if_pos (okS_free h), if_pos h.ok]
  unfold islX nearI linksI
  rw [freeB_idem, ropes_free h]
end Go.Isl
