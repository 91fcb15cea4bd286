/-
  Bytes of one's own, made of a string and turned back. Own work; plain Lean.
-/
import Derived.Test.YtbfidhbcojbklaaGreatSlSlice
import Derived.Laws.IdiomStrings
namespace Go.Sl

/-- block b holds the bytes bs, and perhaps more room; behind its last cell lies the run-time's mark -/
def byt (b T : Nat) (bs : List UInt8) : Res := fun h => ∃ cs : Array Value, h b = some (.cells cs T (cs.size, cs.size + 1)) ∧ bs.length ≤ cs.size ∧ cs.toList.take bs.length = bs.map fun c => Bx c
theorem byt.mono (b T : Nat) (bs : List UInt8) : Mono (byt b T bs) := fun _ _ hs ⟨cs, h, k⟩ => ⟨cs, hs _ _ h, k⟩
theorem byt_cs {b T : Nat} {bs : List UInt8} {h : PHeap} (hb : byt b T bs h) : Cs h ⟨b, 0, none⟩ (bs.map fun c => Bx c) := by
  obtain ⟨cs, hc, _, ht⟩ := hb
  exact Cs.of_pt (o := 0) hc (by simpa using ht)

section
variable {P : Program} {ro : Option Nat} {n : Nat} {ds : List Deferred} {β : Base} {Q : Exit → Act → World → Prop} {f : Fm} {L : List Res} {ops : Array Oper} {rest : List Oper}
variable {d : Option Tmp} {ty : TypeId} {ps : String} {af : Array Edge} {g : Option (Nat × Bool)}

theorem m_toBytes {x : Operand} {t1 t2 e : Nat} {s : ByteArray} (hx : ev f x = .string s) (h1 : P.underlying t1 = some .string) (h2 : P.underlying t2 = some (.slice e)) (he : P.underlying e = some (.int .u8)) :
    MV P β L f ⟨d, .convert t1 t2 x, ty, ps, af, g⟩ (fun u L' => ∃ b c, u = .slice (some ⟨b, 0, none⟩) s.size c ∧ L' = byt b e s.data.toList :: L) := fun w hw => by
  have hr := run_bytes_of_string (P := P) w t1 t2 e s h1 h2 he
  refine ⟨_, _, _, ?_, (hw.drew.new (.cells (bytesRow s (grownCap w s.size 0 e)) e ((bytesRow s (grownCap w s.size 0 e)).size, (bytesRow s (grownCap w s.size 0 e)).size + 1))).conseq (r' := byt w.drew.heap.size e s.data.toList) ?_, w.heap.size, grownCap w s.size 0 e, rfl, rfl⟩
  · simp [execOp, hx, hr]
  · intro a ha
    refine ⟨_, ha, ?_, ?_⟩
    · simp [bytesRow]
    · simp [bytesRow]

theorem e_bytesBack {x : Operand} {t1 t2 e b o m cap : Nat} {bs : List UInt8} (hx : ev f x = .slice (some ⟨b, o, none⟩) m cap) (hl : bs.length = m) (h1 : P.underlying t1 = some (.slice e)) (he : P.underlying e = some (.int .u8)) (h2 : P.underlying t2 = some .string)
    (hk : Knows β L (fun h => Cs h ⟨b, o, none⟩ (bs.map fun c => Bx c))) : EV P β L f ⟨d, .convert t1 t2 x, ty, ps, af, g⟩ (.string ⟨bs.toArray⟩) := fun w hw => by
  subst hl
  have hc := hw.knows hk
  have hr := run_convert_bytes_back (P := P) w t1 t2 e ⟨b, o, none⟩ cap bs h1 he h2 fun j hj => hc j _ (by simp [hj])
  simp [execOp, hx, hr]

theorem m_setByte {x y : Operand} {t b k T : Nat} {bs : List UInt8} {v : UInt8} (i : Nat) (ht : tyB P t false 1 = true) (hx : ev f x = .pointer (some ⟨b, k, none⟩)) (hy : ev f y = Bx v) (hi : L[i]? = some (byt b T bs)) (hk : k < bs.length) :
    MU P β L f ⟨d, .store t x y, ty, ps, af, g⟩ (L.set i (byt b T (bs.set k v))) := fun w hw => by
  have hs := (tyF ht).size w
  obtain ⟨cs, hb, hle, htk⟩ := hw.knows (Knows.of_res i hi (byt.mono b T bs) fun _ h => h)
  have hb : w.heap[b]? = some (.cells cs T (cs.size, cs.size + 1)) := hb
  have hkc : k < cs.size := by omega
  have hcell : w.cell? ⟨b, k, none⟩ = some (Bx bs[k]) := by
    have := byt_cs (h := ph w) ⟨cs, hb, hle, htk⟩ k (Bx bs[k]) (by simp [hk])
    have e : (⟨b, 0, none⟩ : Addr).add k = ⟨b, k, none⟩ := by unfold Addr.add; split <;> simp_all
    rw [e] at this; exact this
  have hfz : w.frozen? ⟨b, k, none⟩ = false := by
    show (match w.heap[b]? with | some (.cells _ _ (lo, hi)) => decide (lo ≤ k) && decide (k < hi) | _ => false) = false
    rw [hb]; simp; omega
  have hsw : w.setCell ⟨b, k, none⟩ (Bx v) = { w with heap := w.heap.setIfInBounds b (.cells (cs.setIfInBounds k (Bx v)) T (cs.size, cs.size + 1)) } := by
    unfold World.setCell
    congr 1
    apply Array.ext_getElem?
    intro j
    by_cases e : b = j
    · subst e
      have hlt := (Array.getElem?_eq_some_iff.1 hb).1
      rw [Array.getElem?_modify, if_pos rfl, hb, Array.getElem?_setIfInBounds_self_of_lt hlt]; rfl
    · simp [Array.getElem?_modify, e]
  refine ⟨w.setCell ⟨b, k, none⟩ (Bx v), ?_, ?_⟩
  · have hst : (storeVar t ⟨b, k, none⟩ (Bx v)).run P w = .ok () (w.setCell ⟨b, k, none⟩ (Bx v)) := by
      have hr := run_store P w ⟨b, k, none⟩ (Bx v) .plain rfl
      rw [hcell, hfz] at hr
      have e0 : (⟨b, k, none⟩ : Addr).add 0 = ⟨b, k, none⟩ := by unfold Addr.add; simp
      simp [storeVar, hs, Value.cells, storeCells, e0, hr]
    simp only [execOp, hx, hy, Instr.storeAt, Instr.sureAddr, Sem.run_bind, Sem.run_pure, Result.andThen_ok, hst]
  · rw [hsw]
    refine St.back i hi ?_
    have hw1 : St β (pt b (.cells cs T (cs.size, cs.size + 1)) :: L.eraseIdx i) w := by
      refine (hw.front i hi).turn rfl rfl rfl fun a ha hr => ?_
      obtain ⟨cs', hb', k1, k2⟩ := hr
      have e' : w.heap[b]? = _ := ha _ _ hb'
      rw [hb] at e'
      injection e' with e'; injection e' with e1 e2
      subst e1
      exact ⟨a, hb', ha, fun _ h1 h2 => ⟨h2, rfl⟩⟩
    have hlt := (Array.getElem?_eq_some_iff.1 hb).1
    have h := hw1.put (w' := { w with heap := w.heap.setIfInBounds b (.cells (cs.setIfInBounds k (Bx v)) T (cs.size, cs.size + 1)) }) (o' := .cells (cs.setIfInBounds k (Bx v)) T (cs.size, cs.size + 1)) rfl rfl rfl (by simp [hlt]) fun k' hk' _ => by
      simp [Ne.symm hk']
    refine h.conseq fun a ha => ⟨cs.setIfInBounds k (Bx v), by unfold pt at ha; simpa using ha, by simpa using hle, ?_⟩
    apply List.ext_getElem?
    intro j
    have hj := congrArg (fun l : List Value => l[j]?) htk
    simp only [List.getElem?_take, List.getElem?_map] at hj
    simp only [List.length_set, List.getElem?_take, List.getElem?_map, Array.toList_setIfInBounds, List.getElem?_set]
    by_cases hjk : k = j
    · subst hjk
      simp [hk, hkc]
    · simp only [hjk, if_false]
      exact hj
end
end Go.Sl
namespace Go.Sl
theorem byt_at {b T k : Nat} {bs : List UInt8} {c : UInt8} {h : PHeap} (hb : byt b T bs h) (hc : bs[k]? = some c) : Cs h ⟨b, 0 + k * 1, none⟩ [Bx c] := by
  have h1 := Cs.sub (vs := [Bx c]) k (byt_cs hb) (by
    have hlt := (List.getElem?_eq_some_iff.1 hc).1
    have hx := (List.getElem?_eq_some_iff.1 hc).2
    rw [List.drop_eq_getElem_cons (by simpa using hlt)]
    simp [hx])
  have e : (⟨b, 0, none⟩ : Addr).add k = ⟨b, 0 + k * 1, none⟩ := by unfold Addr.add; split <;> simp_all
  rwa [e] at h1
theorem bx_add (x y : UInt8) : IntKind.u8.wrap ((x.toNat : Int) + (y.toNat : Int)) = ((x + y).toNat : Int) := by
  rw [u8w]
  simp
theorem bx_max (x y : UInt8) : max (x.toNat : Int) (y.toNat : Int) = ((max x y).toNat : Int) := by
  rw [Int.max_def]
  show _ = (((if x ≤ y then y else x : UInt8)).toNat : Int)
  by_cases h : x ≤ y
  · have h' : x.toNat ≤ y.toNat := UInt8.le_iff_toNat_le.1 h
    rw [if_pos h, if_pos (by omega)]
  · have h' : ¬ x.toNat ≤ y.toNat := fun e => h (UInt8.le_iff_toNat_le.2 e)
    rw [if_neg h, if_neg (by omega)]
end Go.Sl
