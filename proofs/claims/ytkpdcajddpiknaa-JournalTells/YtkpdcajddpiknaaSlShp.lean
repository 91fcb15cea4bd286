/-
  Slices of bytes of which only the shape is known: written over, spare cells too. Own work; plain Lean.
-/
import Derived.Test.YtkpdcajddpiknaaSlRf
namespace Go.Sl
section
variable {P : Program} {ro : Option Nat} {n : Nat} {ds : List Deferred} {β : Base} {Q : Exit → Act → World → Prop} {f : Fm} {L : List Res} {ops : Array Oper} {rest : List Oper}
variable {d : Option Tmp} {ty : TypeId} {ps : String} {af : Array Edge} {g : Option (Nat × Bool)}
theorem e_cap {x : Operand} {a : Option Addr} {n c : Nat} {t e : TypeId} (hx : ev f x = .slice a n c) (ht : P.underlying t = some (.slice e)) : EV P β L f ⟨d, .call ⟨.builtin .cap, #[x], #[t]⟩, ty, ps, af, g⟩ (.int .i64 (c : Int)) := fun w _ => by
  simp [execOp, resolve, invoke, builtin, hx, Builtin.cap_, goInt, run_underlying ht]
theorem shp_form {us : List Value} {v : Value} {h : PHeap} (hs : shp us h) (hv : v ∈ us) : ∃ a m c, v = .slice a m c ∧ m ≤ c ∧ c ≤ maxLen ∧ (0 < c → a = some (ba a)) := by
  rcases hs v hv with rfl | ⟨g, m, c, cur, rfl, _, h1, h2, _⟩
  · exact ⟨none, 0, 0, rfl, Nat.le_refl _, by unfold maxLen; omega, fun h => by omega⟩
  · exact ⟨_, m, c, rfl, h1, h2, fun _ => rfl⟩
theorem row_shp_part {p : Option Addr} {q m c : Nat} {vs : List Value} {h : PHeap} (hr : row (.slice p m c) 5 1 m vs h) (hq : q ≤ m) : shp [.slice p q c] h := fun u hu => by
  simp only [List.mem_singleton] at hu
  subst hu
  obtain ⟨_, ⟨e, h0⟩ | ⟨g, cap, cur, e, hg, h1, h2, h3, _⟩⟩ := hr
  · injection e with e1 e2 e3
    subst e1; subst e3
    rw [show q = 0 by omega]; exact .inl rfl
  · injection e with e1 e2 e3
    subst e1; subst e3
    exact .inr ⟨g, q, c, cur, rfl, hg, by omega, h2, by omega⟩
theorem setRow1 (cur : Array Value) (j : Nat) (v : Value) (hj : j < cur.size) : (over cur j [v]).size = cur.size := by simp [over]; omega
theorem m_storeShp {x y : Operand} {t j m c : Nat} {a : Option Addr} {us : List Value} {b : UInt8} (i : Nat) (ht : tyB P t false 1 = true) (hx : ev f x = .pointer (some ((ba a).add (j * 1)))) (hy : ev f y = Bx b)
    (hi : L[i]? = some (shp us)) (hv : (.slice a m c : Value) ∈ us) (hj : j < c) : MU P β L f ⟨d, .store t x y, ty, ps, af, g⟩ L := fun w hw => by
  rw [Nat.mul_one] at hx
  have hex : shp us (ph w) := hw.knows (Knows.of_res i hi (shp.mono us) fun _ h => h)
  rcases hex _ hv with e | ⟨b', m', c', cur, e, hbw, h2, h3, h4⟩
  · injection e with _ _ e3; omega
  · injection e with e1 e2 e3
    subst e1; subst e2; subst e3
    have hbw : w.heap[b']? = some (.cells cur 5 (0, 0)) := hbw
    have hs := (tyF ht).size w
    obtain ⟨v, hv0⟩ : ∃ v : Value, v = Bx b := ⟨_, rfl⟩
    rw [← hv0] at hy
    have hn : v.cells.size = 1 := by rw [hv0]; rfl
    have h1 : v.cells.toList.all (·.oneCell') = true := by rw [hv0]; rfl
    have hvl : v.cells.toList = [Bx b] := by rw [hv0]; rfl
    have hst := run_storeCells_at P b' j 5 v.cells.toList 0 cur w hbw (by simp [hn]; omega) (List.all_eq_true.1 h1)
    simp only [Nat.add_zero] at hst
    have hadd : (ba (some (⟨b', 0, none⟩ : Addr))).add j = ⟨b', j, none⟩ := by unfold ba Addr.add; split <;> simp_all
    rw [hadd] at hx
    refine ⟨w.setRow b' (over cur j v.cells.toList), ?_, ?_⟩
    · simp only [execOp, hx, hy, Instr.storeAt, Instr.sureAddr, Sem.run_bind, Sem.run_pure, Result.andThen_ok, storeVar, hs, hn, ne_eq, not_true_eq_false, if_false, hst, over]
    rw [hvl]
    · have hLs : L.set i (shp us) = L := by
        obtain ⟨hlt, he⟩ := List.getElem?_eq_some_iff.1 hi
        rw [← he, List.set_getElem_self]
      rw [← hLs]
      refine St.back i hi ((hw.front i hi).turn rfl rfl rfl fun p hp hr => ?_)
      have hpb : p b' = some (.cells cur 5 (0, 0)) := by
        rcases hr _ hv with e | ⟨g', m'', c'', cur', e, hg', _, _, _⟩
        · injection e with e0 _ _; cases e0
        · injection e with e0 _ _; injection e0 with e0; injection e0 with e0 _ _
          subst e0
          have := hp _ _ hg'
          have this : w.heap[b']? = _ := this
          rw [hbw] at this
          rw [this]; exact hg'
      refine ⟨fun k => if k = b' then some (.cells (over cur j [Bx b]) 5 (0, 0)) else p k, fun u hu => ?_, ?_, ?_⟩
      · rcases hr u hu with rfl | ⟨g', m'', c'', cur', rfl, hg', k1, k2, k3⟩
        · exact .inl rfl
        · by_cases e : g' = b'
          · subst e
            rw [hpb] at hg'
            injection hg' with hg'; injection hg' with hg'
            subst hg'
            exact .inr ⟨g', m'', c'', _, rfl, by simp, k1, k2, (setRow1 cur j (Bx b) (by omega)).trans k3⟩
          · exact .inr ⟨g', m'', c'', cur', rfl, by simp [e, hg'], k1, k2, k3⟩
      · intro k' z hz
        by_cases e : k' = b'
        · subst e; simp at hz; subst hz; exact setRow_heap w k' cur _ 5 _ hbw
        · simp only [if_neg e] at hz
          have h8 := hp _ _ hz
          show (w.setRow b' _).heap[k']? = _
          rw [setRow_other w b' k' _ e]; exact h8
      · intro k' hlt hak
        have hne : k' ≠ b' := by rintro rfl; rw [hpb] at hak; cases hak
        exact ⟨by simp [hne, hak], setRow_other w b' k' _ hne⟩
theorem us_at {us : List Value} {k : Nat} {u : Value} (h : us[k]? = some u) : (us.drop (k * 1)).take [u].length = [u] := by
  obtain ⟨hlt, he⟩ := List.getElem?_eq_some_iff.1 h
  rw [Nat.mul_one, List.drop_eq_getElem_cons hlt]
  simp [he]
end
end Go.Sl
