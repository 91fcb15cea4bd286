/-
  Maps: a block of one's own, or of the base, that holds a list of keys and values. Own work; plain Lean.
-/
import Derived.Test.YtbfidhbcojbklaaGreatSlBuild
import Derived.MapKept
namespace Go.Sl

theorem run_getM {P : Program} {w : World} {r : Nat} {es : Array MapEntry} {clock : Nat} (hb : w.heap[r]? = some (.map es clock)) : (getObj r).run P w = .ok (.map es clock) w := by
  simp [getObj, Sem.run, hb]
theorem run_setM {P : Program} {w : World} {r : Nat} {es : Array MapEntry} {clock : Nat} (o : Obj) (hb : w.heap[r]? = some (.map es clock)) : (setObj r o).run P w = .ok () { w with heap := w.heap.setIfInBounds r o } := by
  simp [setObj, Sem.run, hb]

/-- How keys of a Lean type lie in a map. -/
structure Key (κ : Type) where
  dec : DecidableEq κ
  enc : κ → Value
  d : TypeDesc
  same : ∀ a b, Instr.sameNow d (enc a) (enc b) = some (decide (a = b))
  bits : ∀ a, Instr.sameBits 10000 (enc a) (enc a) = true
  chk : ∀ (P : Program) (t : Nat), P.underlying t = some d → ∀ e a w, (Instr.checkKey e 10000 t (enc a)).run P w = .ok () w

def KInt : Key Int := ⟨inferInstance, fun x => Ix x, .int .i64, fun a b => (congrArg some (show (a == b) = decide (a = b) by by_cases h : a = b <;> simp [h])), fun a => by unfold Instr.sameBits; simp, fun P t h e a w => by
  unfold Instr.checkKey; simp only [Sem.run_bind, run_underlying h, Result.andThen_ok]; rfl⟩

section
variable {κ : Type} (K : Key κ)
def lookK (ks : List (κ × Value)) (k : κ) : Option Value := match ks with
  | [] => none
  | (a, v) :: l => match K.dec k a with
    | isTrue _ => some v
    | isFalse _ => lookK l k
def putK (ks : List (κ × Value)) (k : κ) (v : Value) : List (κ × Value) := match ks with
  | [] => [(k, v)]
  | (a, u) :: l => match K.dec k a with
    | isTrue _ => (a, v) :: l
    | isFalse _ => (a, u) :: putK l k v
def mapC (ks : List (κ × Value)) (es : Array MapEntry) : Prop := es.toList.map (fun e => (e.key, e.val)) = ks.map fun p => (K.enc p.1, p.2)
/-- block b is a map that holds ks -/
def mapR (b : Nat) (ks : List (κ × Value)) : Res := fun h => ∃ es clock, h b = some (.map es clock) ∧ mapC K ks es
theorem mapR.mono (b : Nat) (ks : List (κ × Value)) : Mono (mapR K b ks) := fun _ _ hs ⟨es, c, h, k⟩ => ⟨es, c, hs _ _ h, k⟩

theorem findNow_get {k : κ} : ∀ (ks : List (κ × Value)) (es : List MapEntry) (i : Nat), es.map (fun e => (e.key, e.val)) = ks.map (fun p => (K.enc p.1, p.2)) →
    ∃ r, Instr.findNow K.d (K.enc k) es i = some r ∧ (match r with
      | none => lookK K ks k = none
      | some (j, v) => lookK K ks k = some v ∧ i ≤ j ∧ ∃ e, es[j - i]? = some e ∧ e.key = K.enc k)
  | [], [], i, _ => ⟨none, rfl, rfl⟩
  | [], _ :: _, _, h => by simp at h
  | _ :: _, [], _, h => by simp at h
  | (a, v) :: ks, e :: es, i, h => by
    simp only [List.map_cons, List.cons.injEq, Prod.mk.injEq] at h
    obtain ⟨⟨h1, h2⟩, h3⟩ := h
    unfold Instr.findNow lookK
    rw [h1, K.same]
    cases hd : K.dec k a with
    | isTrue e' =>
      subst e'
      refine ⟨some (i, e.val), by simp, by simp [h2], Nat.le_refl _, e, by simp, h1⟩
    | isFalse e' =>
      obtain ⟨r, hr, hx⟩ := findNow_get ks es (i + 1) h3
      refine ⟨r, by simpa [e'] using hr, ?_⟩
      cases r with
      | none => exact hx
      | some p =>
        obtain ⟨g1, g2, e2, g3, g4⟩ := hx
        exact ⟨g1, by omega, e2, by rw [show p.1 - i = (p.1 - (i + 1)) + 1 by omega]; simpa using g3, g4⟩

theorem put_some {k : κ} {v : Value} : ∀ (ks : List (κ × Value)) (es : List MapEntry) (i j : Nat) (u : Value), es.map (fun e => (e.key, e.val)) = ks.map (fun p => (K.enc p.1, p.2)) →
    Instr.findNow K.d (K.enc k) es i = some (some (j, u)) → (es.modify (j - i) fun e => { e with key := K.enc k, val := v }).map (fun e => (e.key, e.val)) = (putK K ks k v).map (fun p => (K.enc p.1, p.2))
  | [], [], _, _, _, _, h => by simp [Instr.findNow] at h
  | [], _ :: _, _, _, _, h, _ => by simp at h
  | _ :: _, [], _, _, _, h, _ => by simp at h
  | (a, u') :: ks, e :: es, i, j, u, h, hf => by
    simp only [List.map_cons, List.cons.injEq, Prod.mk.injEq] at h
    obtain ⟨⟨h1, h2⟩, h3⟩ := h
    unfold Instr.findNow at hf
    rw [h1, K.same] at hf
    unfold putK
    cases hd : K.dec k a with
    | isTrue e' =>
      subst e'
      simp only [decide_true] at hf
      injection hf with hf; injection hf with hf; injection hf with hf hf2
      subst hf
      simp [h3]
    | isFalse e' =>
      have e2 : ∀ (q : Decidable (k = a)), @decide (k = a) q = false := fun q => by simp [e']
      rw [e2] at hf
      simp only at hf
      have hle : i + 1 ≤ j := by
        obtain ⟨r, hr, hx⟩ := findNow_get K ks es (i + 1) h3 (k := k)
        rw [hf] at hr; injection hr with hr; subst hr
        exact hx.2.1
      have ih := put_some (v := v) ks es (i + 1) j u h3 hf
      rw [show j - i = (j - (i + 1)) + 1 by omega]
      simp [h1, h2, ih]

theorem put_none {k : κ} {v : Value} : ∀ (ks : List (κ × Value)) (es : List MapEntry), es.map (fun e => (e.key, e.val)) = ks.map (fun p => (K.enc p.1, p.2)) → lookK K ks k = none → putK K ks k v = ks ++ [(k, v)]
  | [], _, _, _ => rfl
  | (a, u) :: ks, [], h, _ => by simp at h
  | (a, u) :: ks, e :: es, h, hn => by
    unfold lookK at hn
    unfold putK
    simp only [List.map_cons, List.cons.injEq] at h
    cases hd : K.dec k a with
    | isTrue e' => rw [hd] at hn; cases hn
    | isFalse e' => rw [hd] at hn; simp [put_none ks es h.2 hn]

variable {P : Program} {ro : Option Nat} {n : Nat} {ds : List Deferred} {β : Base} {Q : Exit → Act → World → Prop} {f : Fm} {L : List Res} {ops : Array Oper} {rest : List Oper}
variable {d : Option Tmp} {ty : TypeId} {ps : String} {af : Array Edge} {g : Option (Nat × Bool)}

theorem m_makeMap {t : Nat} : MV P β L f ⟨d, .makeMap t none, ty, ps, af, g⟩ (fun u L' => ∃ b, u = .map (some b) ∧ L' = mapR K b [] :: L) := fun w hw => by
  refine ⟨_, _, _, ?_, (hw.new (.map #[] 0)).conseq fun a h => ⟨#[], 0, h, rfl⟩, _, rfl, rfl⟩
  simp [execOp, Instr.makeMap]

theorem e_lookup {x y : Operand} {t kt et : Nat} {z : Value} {b : Nat} {ks : List (κ × Value)} {k : κ} (ht : P.underlying t = some (.map kt et)) (hk : P.underlying kt = some K.d) (hz : (P.info? et).bind (·.zero) = some z)
    (hx : ev f x = .map (some b)) (hy : ev f y = K.enc k) (hm : Knows β L (mapR K b ks)) : EV P β L f ⟨d, .lookup t x y false, ty, ps, af, g⟩ ((lookK K ks k).getD z) := fun w hw => by
  obtain ⟨es, c, hb, hc⟩ := hw.knows hm
  have hb : w.heap[b]? = some (.map es c) := hb
  obtain ⟨r, hr, hx'⟩ := findNow_get K (k := k) ks es.toList 0 hc
  have hzv : (zeroValue et).run P w = .ok z w := by
    cases hi : P.info? et with
    | none => rw [hi] at hz; cases hz
    | some i => rw [hi] at hz; have hz' : i.zero = some z := by simpa using hz
                simp [zeroValue, typeInfo, hi, hz']
  have hg : (getObj b).run P w = .ok (.map es c) w := run_getM hb
  have hfk : (Instr.findKey kt (K.enc k) es.toList).run P w = .ok r w := by
    simp [Instr.findKey, run_underlying hk, hr]
  simp only [execOp, Instr.lookup, Sem.run_bind, run_underlying ht, Result.andThen_ok, hx, hy, hg, Sem.run_pure, K.chk P kt hk, hfk]
  cases r with
  | none =>
    have hl : lookK K ks k = none := hx'
    simp [hzv, hl]
  | some p =>
    obtain ⟨j, v⟩ := p
    have hl : lookK K ks k = some v := hx'.1
    simp [hl]

theorem m_mapUpdate {x y z : Operand} {t kt et : Nat} {b : Nat} {ks : List (κ × Value)} {k : κ} {v : Value} (i : Nat) (ht : P.underlying t = some (.map kt et)) (hk : P.underlying kt = some K.d)
    (hx : ev f x = .map (some b)) (hy : ev f y = K.enc k) (hv : ev f z = v) (hi : L[i]? = some (mapR K b ks)) : MU P β L f ⟨d, .mapUpdate t x y z, ty, ps, af, g⟩ (L.set i (mapR K b (putK K ks k v))) := fun w hw => by
  obtain ⟨es, c, hb, hc⟩ := hw.knows (Knows.of_res i hi (mapR.mono K b ks) fun _ h => h)
  have hb : w.heap[b]? = some (.map es c) := hb
  have hw' : St β (L.set i (pt b (.map es c))) w := St.back i hi <| by
    have h := hw.front i hi
    refine h.turn rfl rfl rfl fun a ha hr => ?_
    obtain ⟨es', c', hb', hc'⟩ := hr
    have e := ha _ _ hb'
    have e' : w.heap[b]? = some (.map es' c') := e
    rw [hb] at e'
    injection e' with e'; injection e' with e1 e2; subst e1; subst e2
    exact ⟨a, hb', ha, fun _ h1 h2 => ⟨h2, rfl⟩⟩
  obtain ⟨r, hr, hx'⟩ := findNow_get K (k := k) ks es.toList 0 hc
  have hg : (getObj b).run P w = .ok (.map es c) w := run_getM hb
  have hfk : (Instr.findKey kt (K.enc k) es.toList).run P w = .ok r w := by
    simp [Instr.findKey, run_underlying hk, hr]
  have hli : i < L.length := (List.getElem?_eq_some_iff.1 hi).1
  have fin : ∀ es' c', mapC K (putK K ks k v) es' → St β (L.set i (mapR K b (putK K ks k v))) { w with heap := w.heap.setIfInBounds b (.map es' c') } := by
    intro es' c' hc'
    have hb' : b < w.heap.size := (Array.getElem?_eq_some_iff.1 hb).1
    have h := (hw'.front i (r := pt b (.map es c)) (by simp [hli])).put (w' := { w with heap := w.heap.setIfInBounds b (.map es' c') }) (o' := .map es' c') rfl rfl rfl (by simp [hb']) fun k' hk' _ => by
      simp [Ne.symm hk']
    have h2 := h.conseq (r' := mapR K b (putK K ks k v)) fun a ha => ⟨es', c', ha, hc'⟩
    have h3 := St.back (L := L.set i (pt b (.map es c))) i (r := pt b (.map es c)) (by simp [hli]) h2
    simpa using h3
  simp only [execOp, Instr.mapUpdate, Sem.run_bind, run_underlying ht, Result.andThen_ok, hx, hy, hv, hg, K.chk P kt hk, hfk]
  cases r with
  | none =>
    have hl : lookK K ks k = none := hx'
    refine ⟨_, ?_, fin (es.push { key := K.enc k, val := v, born := c }) (c + 1) ?_⟩
    · simp [run_setM _ hb]
    · unfold mapC at hc ⊢
      rw [put_none K ks es.toList hc hl]; simp [hc]
  | some p =>
    obtain ⟨j, u⟩ := p
    obtain ⟨hl, _, e, he, hke⟩ := hx'
    have hst : ∀ w, (Instr.keyThatStays (K.enc k) (K.enc k)).run P w = .ok (K.enc k) w := fun w => by
      unfold Instr.keyThatStays
      rw [if_pos (K.bits k)]; rfl
    have hej : ((es[j]?).map (·.key)).getD (K.enc k) = K.enc k := by
      have : es[j]? = some e := by simpa using he
      simp [this, hke]
    refine ⟨_, ?_, fin (es.modify j fun e => { e with key := K.enc k, val := v }) c ?_⟩
    · simp only [hej, Sem.run_bind, hst, Result.andThen_ok]
      simp [run_setM _ hb]
    · unfold mapC at hc ⊢
      have := put_some K ks es.toList 0 j u hc hr (v := v)
      simpa using this
end
end Go.Sl
