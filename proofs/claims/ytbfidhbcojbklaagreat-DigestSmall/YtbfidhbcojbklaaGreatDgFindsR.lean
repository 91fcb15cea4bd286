/-
  Pieces for DigestFinds. Own work; plain Lean.
-/
import Derived.Test.YtbfidhbcojbklaaGreatDgFlatI
namespace Go.Sl
section
variable {P : Program} {ro : Option Nat} {n : Nat} {ds : List Deferred} {β : Base} {Q : Exit → Act → World → Prop} {f : Fm} {L : List Res}
theorem c_rowsome {code : Code} {p : Option Addr} {m c T k : Nat} {vs : List Value} (i : Nat) (hi : L[i]? = some (row (.slice p m c) T k m vs)) (hm : 0 < m) (h : p = some (ba p) → RunC P ro n ds β code Q f L) : RunC P ro n ds β code Q f L := fun a w ha hw => h (row_some i hi hm hw) a w ha hw
end
end Go.Sl
namespace Go.Proofs
open Go Go.Sl
theorem lentWorld_res (β : Base) (w : World) (hw : St β [] w) (t : Int) (es : List KEnt) (v : Value) (hs : Sl EntR β.heap v es) (hn : es.length ≤ 1000) (hbig : ∀ (i : Nat) e, es[i]? = some e → e.comps.length ≤ 20) :
    Calls Tryz.prog 6 #[.agg #[Ix t, v]] w fun r w' => ∃ p c, r = .returned (.agg #[Ix t, .slice p es.length c]) ∧ St β [fun h => LESl h (.slice p es.length c) es] w' :=
  (lentWorld_ok β w hw ⟨t, es⟩ v hs hn hbig).mono fun r w' ⟨p, c, vs, h1, h2, h3⟩ => by
    refine ⟨p, c, h1, St.merge (M := []) (by rw [List.append_nil]; exact h3) fun a ha => ?_⟩
    exact lent_ents (vs := vs) (es := es) h2 rfl (ha.each _ List.mem_cons_self) fun r hr => ha.each _ (List.mem_cons_of_mem _ hr)
theorem differ_len (x y : KWorld) : (differU x y).length ≤ x.ents.length + y.ents.length := by
  have h1 := compact_le ((outsK x y 2).mergeSort fun x y => decide (x ≤ y))
  have h2 := dpick_le x y x.ents
  have h3 := dpick_le x y y.ents
  rw [List.length_mergeSort] at h1
  have h4 : (outsK x y 2).length = (dpick x y x.ents).length + (dpick x y y.ents).length := by simp [outsK]
  show (Lib.compact _).length ≤ _
  omega
end Go.Proofs
