/-
  Two lists of entities made side by side: where they differ. Own work; plain Lean.
-/
import Derived.Test.YtbfidhbcojbklaaGreatDgChangeL
import Derived.Test.YtbfidhbcojbklaaGreatDg8
namespace Go.Proofs
open Go Go.Sl
structure Apart (k : Nat) (ps bs : List KEnt) (ws : List Int) : Prop where
  la : ps.length = k
  lb : bs.length ≤ k
  lw : ws.length ≤ k
  ra : ∀ e ∈ ps, -20 ≤ e.id ∧ e.id < 3 * (k : Int) - 20
  rb : ∀ e ∈ bs, -20 ≤ e.id ∧ e.id < 3 * (k : Int) - 20
  sw : ws.Pairwise (· < ·)
  rw : ∀ z ∈ ws, -20 ≤ z ∧ z < 3 * (k : Int) - 20
  dif : ∀ z, z ∈ ws ↔ ¬ dg ps z = dg bs z
theorem Apart.start : Apart 0 [] [] [] := ⟨rfl, Nat.le_refl _, Nat.le_refl _, by simp, by simp, .nil, by simp, by simp⟩
theorem Apart.ids {k : Nat} {es : List KEnt} {e : KEnt} (h : ∀ f ∈ es, -20 ≤ f.id ∧ f.id < 3 * (k : Int) - 20) (he : e.id = 3 * (k : Int) - 20) : ∀ f ∈ es ++ [e], -20 ≤ f.id ∧ f.id < 3 * ((k + 1 : Nat) : Int) - 20 := by
  intro f hf
  rcases List.mem_append.1 hf with hf | hf
  · have := h f hf; omega
  · rw [List.mem_singleton] at hf; subst hf; omega
theorem Apart.ids0 {k : Nat} {es : List KEnt} (h : ∀ f ∈ es, -20 ≤ f.id ∧ f.id < 3 * (k : Int) - 20) : ∀ f ∈ es, -20 ≤ f.id ∧ f.id < 3 * ((k + 1 : Nat) : Int) - 20 := fun f hf => by
  have := h f hf; omega
theorem Apart.dg0 {k : Nat} {es : List KEnt} (h : ∀ f ∈ es, -20 ≤ f.id ∧ f.id < 3 * (k : Int) - 20) : dg es (3 * (k : Int) - 20) = [] := dg_nil fun f hf => by
  have := h f hf; omega
theorem Apart.keep {k : Nat} {ps bs : List KEnt} {ws : List Int} (h : Apart k ps bs ws) {e : KEnt} (he : e.id = 3 * (k : Int) - 20) : Apart (k + 1) (ps ++ [e]) (bs ++ [e]) ws := by
  refine ⟨by simp [h.la], by have := h.lb; simp; omega, by have := h.lw; omega, Apart.ids h.ra he, Apart.ids h.rb he, h.sw, fun z hz => by have := h.rw z hz; omega, fun z => ?_⟩
  rw [dg_append, dg_append, List.append_cancel_right_eq]
  exact h.dif z
theorem Apart.lose {k : Nat} {ps bs : List KEnt} {ws : List Int} (h : Apart k ps bs ws) {e : KEnt} (he : e.id = 3 * (k : Int) - 20) : Apart (k + 1) (ps ++ [e]) bs (ws ++ [e.id]) := by
  refine ⟨by simp [h.la], by have := h.lb; omega, by have := h.lw; simp; omega, Apart.ids h.ra he, Apart.ids0 h.rb, ?_, ?_, fun z => ?_⟩
  · refine List.pairwise_append.2 ⟨h.sw, by simp, fun a ha b hb => ?_⟩
    rw [List.mem_singleton] at hb
    have := h.rw a ha; omega
  · intro z hz
    rcases List.mem_append.1 hz with hz | hz
    · have := h.rw z hz; omega
    · rw [List.mem_singleton] at hz; omega
  · rw [List.mem_append, List.mem_singleton, dg_append, dg_one]
    by_cases hz : e.id = z
    · subst hz
      rw [if_pos rfl, he, Apart.dg0 h.ra, Apart.dg0 h.rb]
      simp
    · rw [if_neg hz, List.append_nil, ← h.dif z]
      constructor
      · rintro (h1 | h1)
        · exact h1
        · exact absurd h1.symm hz
      · exact .inl
theorem Apart.turn {k : Nat} {ps bs : List KEnt} {ws : List Int} (h : Apart k ps bs ws) {e e' : KEnt} (he : e.id = 3 * (k : Int) - 20) (he' : e'.id = e.id) (hne : entU e ≠ entU e') : Apart (k + 1) (ps ++ [e]) (bs ++ [e']) (ws ++ [e.id]) := by
  have hl := h.lose he
  refine ⟨hl.la, by have := h.lb; simp; omega, hl.lw, hl.ra, Apart.ids h.rb (by omega), hl.sw, hl.rw, fun z => ?_⟩
  rw [hl.dif z, dg_append, dg_append, dg_one, dg_one]
  by_cases hz : e.id = z
  · subst hz
    rw [if_pos rfl, if_pos (by omega), he, Apart.dg0 h.ra, Apart.dg0 h.rb]
    simp [hne]
  · rw [if_neg hz, if_neg (by omega), List.append_nil, List.append_nil]
theorem Apart.differ {k : Nat} {ps bs : List KEnt} {ws : List Int} (h : Apart k ps bs ws) {m : KEnt} (hm : m.id = -500) (t t' : Int) : differU ⟨t, ps⟩ ⟨t', m :: bs⟩ = -500 :: ws := by
  refine differ_is ?_ fun z => ?_
  · rw [List.pairwise_cons]
    exact ⟨fun z hz => by have := h.rw z hz; omega, h.sw⟩
  · show _ ↔ ¬ dg ps z = dg ([m] ++ bs) z
    rw [dg_append, dg_one, hm, List.mem_cons]
    by_cases hz : (-500 : Int) = z
    · subst hz
      rw [if_pos rfl, dg_nil fun f hf => by have := h.ra f hf; omega, dg_nil fun f hf => by have := h.rb f hf; omega]
      simp
    · rw [if_neg hz, List.nil_append, ← h.dif z]
      constructor
      · rintro (h1 | h1)
        · exact absurd h1.symm hz
        · exact h1
      · exact .inr
def moreK : KEnt := ⟨-500, [⟨3, 0, 0, 0, 0⟩]⟩
theorem more_sl {b : Nat} {a : PHeap} (h : pt b (.cells #[.int .u8 3, .int .i64 0, .int .i64 0, .int .i64 0, .int .i64 0] 38) a) : Sl CompR a (.slice (some ⟨b, 0, none⟩) 1 1) moreK.comps := by
  refine ⟨some ⟨b, 0, none⟩, 1, rfl, Nat.le_refl _, by omega, fun j x hj => ⟨rfl, compE x, ?_, rfl⟩⟩
  match j with
  | 0 => injection hj with hj; subst hj; exact Cs.of_pt (o := 0) h rfl
  | j + 1 => cases hj
theorem row_slI' {v : Value} {T n : Nat} {xs : List Int} {a : PHeap} (hn : n = xs.length) (h : row v T 1 n (xs.map fun z => Ix z) a) : Sl IntR a v xs := by
  subst hn; exact row_slI h
/-! the components of entities, some at the base and some of one's own -/
def gb (β : Base) (ub : List Value) (bs : List KEnt) : Res := fun h => ∀ H, Sub β.heap H → Sub h H → EGood H ub bs
theorem gb_nil (β : Base) : gb β [] [] fun _ => none := fun H _ _ => EGood.nil H
theorem EGood.one {h : PHeap} {u : Value} {e : KEnt} (hs : Sl CompR h u e.comps) : EGood h [u] [e] := ⟨rfl, fun j v f hv hf => by
  match j with
  | 0 => injection hv with hv; injection hf with hf; subst hv; subst hf; exact hs
  | j + 1 => cases hv⟩
theorem gb_base {β : Base} {ub : List Value} {bs : List KEnt} {u : Value} {e : KEnt} (hs : Sl CompR β.heap u e.comps) {a : PHeap} (h : gb β ub bs a) : gb β (ub ++ [u]) (bs ++ [e]) a := fun H h1 h2 => (h H h1 h2).append (EGood.one (Sl.mono CompR _ _ _ _ h1 hs))
theorem gb_own {β : Base} {ub : List Value} {bs : List KEnt} {u : Value} {e : KEnt} {n : Nat} {M : List Res} {w : World} (hn : n = e.comps.length) (h : St β (row u 38 5 n (e.comps.flatMap compE) :: gb β ub bs :: M) w) : St β (gb β (ub ++ [u]) (bs ++ [e]) :: M) w := by
  subst hn
  refine St.merge (L := [row u 38 5 e.comps.length (e.comps.flatMap compE), gb β ub bs]) (M := M) h fun a ha => ?_
  obtain ⟨a1, hs1, h1⟩ := ha.each _ List.mem_cons_self
  obtain ⟨a2, hs2, h2⟩ := ha.each _ (List.mem_cons_of_mem _ List.mem_cons_self)
  exact fun H g1 g2 => (h2 H g1 (hs2.trans g2)).append (EGood.one (Sl.mono CompR _ _ _ _ (hs1.trans g2) (comp_row_sl h1)))
theorem k_gb {β : Base} {L : List Res} {ub : List Value} {bs : List KEnt} (i : Nat) (hi : L[i]? = some (gb β ub bs)) : Knows β L (fun h => EGood h ub bs) := fun H hs hr => by
  obtain ⟨a, ha, h⟩ := hr _ (List.mem_of_getElem? hi)
  exact h H hs ha
theorem elems_ints {h : PHeap} {a : Option Addr} {xs : List Int} (he : Elems IntR h a xs) : Cs h (ba a) (xs.map fun z => Ix z) := by
  intro i x hi
  rw [List.getElem?_map] at hi
  cases hx : xs[i]? with
  | none => rw [hx] at hi; cases hi
  | some y =>
    rw [hx] at hi
    injection hi with hi
    subst hi
    obtain ⟨_, cs, hc, hr⟩ := he i y hx
    have hr : cs = [Ix y] := hr
    subst hr
    have := hc 0 _ rfl
    rw [Addr.add_add'] at this
    have e : IntR.n = 1 := rfl
    rw [e, Nat.mul_one, Nat.add_zero] at this
    exact this
theorem ints_one (xs : List Int) : (xs.map fun z => Ix z).all (·.oneCell') = true := by
  rw [List.all_eq_true]
  intro v hv
  obtain ⟨x, _, rfl⟩ := List.mem_map.1 hv
  rfl
theorem u8_quo (x : UInt8) (k : Nat) : IntKind.u8.wrap ((x.toNat : Int).tdiv (k : Int)) = ((x.toNat / k : Nat) : Int) := by
  rw [nat_tdiv, u8w]
  have h1 := x.toNat_lt
  have h2 := Nat.div_le_self x.toNat k
  generalize x.toNat / k = q at h2 ⊢
  omega
end Go.Proofs
namespace Go.Sl
section
variable {P : Program} {ro : Option Nat} {n : Nat} {ds : List Deferred} {β : Base} {Q : Exit → Act → World → Prop} {f : Fm} {L : List Res}
theorem f_turn {e : Exit} {L' : List Res} (h : ∀ w, St β L w → St β L' w) (k : Fin n ds β Q e f L') : Fin n ds β Q e f L := fun a w ha hw => k a w ha (h w hw)
theorem c_turn {c : Code} {L' : List Res} (h : ∀ w, St β L w → St β L' w) (k : RunC P ro n ds β c Q f L') : RunC P ro n ds β c Q f L := fun a w ha hw => k a w ha (h w hw)
end
end Go.Sl
