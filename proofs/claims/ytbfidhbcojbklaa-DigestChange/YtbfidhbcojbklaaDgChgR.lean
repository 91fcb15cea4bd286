/-
  What 'changed' returns, as one resource; the plain law of DigestChange. Own work; plain Lean.
-/
import Derived.Test.YtbfidhbcojbklaaDgChg
namespace Go.Proofs
open Go Go.Sl
def chgR (es : List KEnt) (v : Value) (a b : Int) : Res := fun h => ∃ (k : Nat) (e e' : KEnt), es[k]? = some e ∧ entU e ≠ entU e' ∧ a = e.id ∧ b = e'.id ∧ Sl EntR h v (es.set k e')
theorem chgR.mono (es : List KEnt) (v : Value) (a b : Int) : Mono (chgR es v a b) := fun _ _ hs ⟨k, e, e', h1, h2, h3, h4, h5⟩ => ⟨k, e, e', h1, h2, h3, h4, Sl.mono EntR _ _ _ _ hs h5⟩
theorem changed_res (β : Base) (w : World) (hw : St β [] w) (t : Int) (es : List KEnt) (v : Value) (hs : Sl EntR β.heap v es) (hbig : ∀ (i : Nat) e, es[i]? = some e → e.comps.length ≤ 20) (hn : es.length ≤ 40) (at_ : Nat) (hat : at_ < numsTo es es.length) (by_ : Int) (hby : -9223372036854775808 ≤ by_ ∧ by_ ≤ 9223372036854775807) (h0 : by_ ≠ 0) :
    Calls Try.prog 27 #[.agg #[Ix t, v], Nx at_, Ix by_] w fun r w' => ∃ p c a b, r = .returned (.tuple #[.agg #[Ix t, .slice p es.length c], Ix a, Ix b]) ∧ St β [chgR es (.slice p es.length c) a b] w' :=
  (changed_ok β w hw ⟨t, es⟩ v hs hbig hn at_ hat by_ hby h0).mono fun r w' ⟨k, e, e', p, c, vs, h1, h2, h3, h4, h5⟩ => by
    refine ⟨p, c, e.id, e'.id, h1, ?_⟩
    have h6 := rows_sl (v := .slice p es.length c) (zs := es.set k e') (by simpa using h4) (by simp) h5
    refine St.merge (L := [fun h => Sl EntR h (.slice p es.length c) (es.set k e')]) (M := []) (by simpa using h6) fun a ha => ?_
    obtain ⟨a1, hs1, hr⟩ := ha.each _ List.mem_cons_self
    exact ⟨k, e, e', h2, h3, rfl, rfl, Sl.mono EntR _ _ _ _ hs1 hr⟩
def intv : Value → Int
  | .int _ n => n
  | _ => 0
theorem worldU_add (t : Int) (es : List KEnt) : worldU ⟨t, es⟩ = tickU t + entsU 0 es := by
  have h := ents_add 0 (tickU t) es
  rw [UInt64.zero_add] at h
  show entsU (tickU t) es = _
  rw [h, UInt64.add_comm]
theorem tick_ne {t b : Int} (hb : -9223372036854775808 ≤ b ∧ b ≤ 9223372036854775807) (h0 : b ≠ 0) (es : List KEnt) : worldU ⟨IntKind.i64.wrap (t + b), es⟩ ≠ worldU ⟨t, es⟩ := by
  intro h
  rw [worldU_add, worldU_add, UInt64.add_left_inj] at h
  have h1 := mix_inj (show mixU (0 * 0x9e3779b97f4a7c15 + U (IntKind.i64.wrap (t + b)) + 1) = mixU (0 * 0x9e3779b97f4a7c15 + U t + 1) from h)
  rw [UInt64.add_left_inj, UInt64.add_right_inj] at h1
  exact U_changed hb h0 h1.symm
theorem world_set_ne {t : Int} {es : List KEnt} {k : Nat} {e e' : KEnt} (h : es[k]? = some e) (hne : entU e ≠ entU e') : worldU ⟨t, es.set k e'⟩ ≠ worldU ⟨t, es⟩ := by
  intro h1
  have h2 : worldU ⟨t, es.set k e'⟩ = worldU ⟨t, es⟩ - entU e + entU e' := ents_set h
  rw [h1] at h2
  have h3 : worldU ⟨t, es⟩ - entU e + entU e = worldU ⟨t, es⟩ - entU e + entU e' := by rw [UInt64.sub_add_cancel]; exact h2
  rw [UInt64.add_right_inj] at h3
  exact hne h3
end Go.Proofs
