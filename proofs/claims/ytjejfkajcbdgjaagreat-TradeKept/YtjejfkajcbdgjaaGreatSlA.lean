/-
  Own work; plain Lean (SlClear, SlMp, SlMp2, SlMp3, SlScope, TdDef, TdMap, SlAnd, TdArr, SlApt, SlFn, SlC, SlA).
-/
import Derived.Test.YtjejfkajcbdgjaaGreatSlFlat
import Derived.Maps.RangeRun
import Derived.Test.YtjejfkajcbdgjaaGreatSlNum
import Derived.Scope
import Derived.Test.YtjejfkajcbdgjaaGreatProg
import Derived.Test.YtjejfkajcbdgjaaGreatSlFam
namespace Go.Sl
section
variable {P : Program} {ro : Option Nat} {n : Nat} {ds : List Deferred} {β : Base} {Q : Exit → Act → World → Prop} {f : Fm} {L : List Res} {ops : Array Oper} {rest : List Oper}
variable {d : Option Tmp} {ty : TypeId} {ps : String} {af : Array Edge} {g : Option (Nat × Bool)}
theorem s_mem0 {o : Oper} (hd : o.dst = none)
    (hv : ∀ w, St β L w → ∃ v w' L', (execOp (ev f) o).run P w = .ok (.value v) w' ∧ St β L' w' ∧ RunL P ro n ds β ops Q rest f L') : Step1 P ro n ds β o Q (wpListIn (Fe ro) 3 P ops Q rest) f L := by
  intro a w ha hw
  obtain ⟨v, w', L', hr, hw', k⟩ := hv w hw
  refine ⟨fun _ _ => trivial, ?_⟩
  rw [ha.eval, semAt_of hr (by simp), hr, Oper.uponIn_value, hd]
  exact k _ w' ha hw'
theorem l_mc {o : Oper} {Post : Value → List Res → Prop} (hg : o.guard = none) (hd : o.dst = none) (h : MV P β L f o Post) (k : ∀ v L', Post v L' → RunL P ro n ds β ops Q rest f L') : RunL P ro n ds β ops Q (o :: rest) f L :=
  l_step hg (s_mem0 hd fun w hw => let ⟨v, w', L', hr, hw', hp⟩ := h w hw; ⟨v, w', L', hr, hw', k v L' hp⟩)
end
end Go.Sl

namespace Go.Sl
/-- how a kind of map lies in memory -/
structure MapK (P : Program) (κ ν : Type) where
  t : Nat
  kt : Nat
  et : Nat
  dec : DecidableEq κ
  enc : κ → Value
  encv : ν → Value
  zv : ν
  ht : P.underlying t = some (.map kt et)
  hz : (P.info? et).bind (·.zero) = some (encv zv)
  chk : ∀ e a w, (Instr.checkKey e 10000 kt (enc a)).run P w = .ok () w
  find : ∀ (k : κ) (ks : List κ) (es : List MapEntry) (w : World), es.map (·.key) = ks.map enc → ∃ r, (Instr.findKey kt (enc k) es).run P w = .ok r w ∧
    (match r with | none => k ∉ ks | some (j, v) => ks[j]? = some k ∧ (es[j]?).map (·.val) = some v)
  bits : ∀ a, Instr.sameBits 10000 (enc a) (enc a) = true
section
variable {P : Program} {κ ν : Type}
/-- keys that are found at once (numbers) -/
theorem find_plain {kt : Nat} {d : TypeDesc} {enc : κ → Value} [DecidableEq κ] (hd : P.underlying kt = some d) (hs : ∀ a b, Instr.sameNow d (enc a) (enc b) = some (decide (a = b)))
    (k : κ) (ks : List κ) (es : List MapEntry) (w : World) (h : es.map (·.key) = ks.map enc) : ∃ r, (Instr.findKey kt (enc k) es).run P w = .ok r w ∧
      (match r with | none => k ∉ ks | some (j, v) => ks[j]? = some k ∧ (es[j]?).map (·.val) = some v) := by
  have key : ∀ (ks : List κ) (es : List MapEntry) (i : Nat), es.map (·.key) = ks.map enc → ∃ r, Instr.findNow d (enc k) es i = some r ∧
      (match r with | none => k ∉ ks | some (j, v) => i ≤ j ∧ ks[j - i]? = some k ∧ (es[j - i]?).map (·.val) = some v) := by
    intro ks
    induction ks with
    | nil =>
      intro es i h
      cases es with
      | nil => exact ⟨none, rfl, by simp⟩
      | cons e es => simp at h
    | cons a ks ih =>
      intro es i h
      cases es with
      | nil => simp at h
      | cons e es =>
        simp only [List.map_cons, List.cons.injEq] at h
        unfold Instr.findNow
        rw [h.1, hs]
        by_cases ek : k = a
        · subst ek; exact ⟨some (i, e.val), by simp, by simp⟩
        · obtain ⟨r', hr', hx⟩ := ih es (i + 1) h.2
          refine ⟨r', by simp [ek, hr'], ?_⟩
          cases r' with
          | none => simp only [List.mem_cons, not_or]; exact ⟨ek, hx⟩
          | some p =>
            obtain ⟨g1, g2, g3⟩ := hx
            refine ⟨by omega, ?_, ?_⟩
            · rw [show p.1 - i = (p.1 - (i + 1)) + 1 by omega, List.getElem?_cons_succ]; exact g2
            · rw [show p.1 - i = (p.1 - (i + 1)) + 1 by omega, List.getElem?_cons_succ]; exact g3
  obtain ⟨r, hr, hx⟩ := key ks es 0 h
  refine ⟨r, by simp [Instr.findKey, run_underlying hd, hr], ?_⟩
  cases r with
  | none => exact hx
  | some p => exact ⟨by simpa using hx.2.1, by simpa using hx.2.2⟩
variable (K : MapK P κ ν)
def MapK.look (ks : List (κ × ν)) (k : κ) : Option ν := (ks.find? fun p => @decide (p.1 = k) (K.dec _ _)).map (·.2)
def MapK.put (ks : List (κ × ν)) (k : κ) (v : ν) : List (κ × ν) := if (K.look ks k).isSome then ks.map (fun p => @ite _ (p.1 = k) (K.dec _ _) (k, v) p) else ks ++ [(k, v)]
def MapK.del (ks : List (κ × ν)) (k : κ) : List (κ × ν) := ks.filter fun p => !@decide (p.1 = k) (K.dec _ _)
/-- the entries of a map that holds ks, no two of the same birth -/
structure MapC (ks : List (κ × ν)) (es : Array MapEntry) (clock : Nat) : Prop where
  cells : es.toList.map (fun e => (e.key, e.val)) = ks.map fun p => (K.enc p.1, K.encv p.2)
  keys : (ks.map (·.1)).Nodup
  births : (es.toList.map (·.born)).Nodup
  old : ∀ e ∈ es.toList, e.born < clock
def mpR (b : Nat) (ks : List (κ × ν)) : Res := fun h => ∃ es clock, h b = some (.map es clock) ∧ MapC K ks es clock
theorem mpR.mono (b : Nat) (ks : List (κ × ν)) : Mono (mpR K b ks) := fun _ _ hs ⟨es, c, h, k⟩ => ⟨es, c, hs _ _ h, k⟩
variable {K}
theorem MapC.ks {ks : List (κ × ν)} {es : Array MapEntry} {c : Nat} (h : MapC K ks es c) : es.toList.map (·.key) = (ks.map (·.1)).map K.enc := by
  have := congrArg (List.map (·.1)) h.cells
  simpa [List.map_map, Function.comp_def] using this
theorem MapC.at {ks : List (κ × ν)} {es : Array MapEntry} {c : Nat} (h : MapC K ks es c) (j : Nat) : (es.toList[j]?).map (fun e => (e.key, e.val)) = (ks[j]?).map fun p => (K.enc p.1, K.encv p.2) := by
  have := congrArg (fun l => l[j]?) h.cells
  simpa using this
theorem look_at {ks : List (κ × ν)} (hn : (ks.map (·.1)).Nodup) {k : κ} {v : ν} {j : Nat} (h : ks[j]? = some (k, v)) : K.look ks k = some v := by
  unfold MapK.look
  obtain ⟨hj, e⟩ := List.getElem?_eq_some_iff.1 h
  have hf : (ks.find? fun p => @decide (p.1 = k) (K.dec _ _)) = some (k, v) := by
    rw [List.find?_eq_some_iff_getElem]
    refine ⟨by simp, j, hj, e, fun i hi => ?_⟩
    have := List.nodup_iff_pairwise_ne.1 hn
    rw [List.pairwise_map, List.pairwise_iff_getElem] at this
    have h2 := this i j (by omega) hj hi
    rw [e] at h2
    simpa using h2
  rw [hf]; rfl
theorem look_none {ks : List (κ × ν)} {k : κ} : K.look ks k = none ↔ k ∉ ks.map (·.1) := by
  unfold MapK.look
  rw [Option.map_eq_none_iff, List.find?_eq_none]
  simp only [decide_eq_true_eq, List.mem_map, not_exists, not_and]
theorem look_mem {ks : List (κ × ν)} {k : κ} {v : ν} (h : K.look ks k = some v) : (k, v) ∈ ks := by
  unfold MapK.look at h
  rw [Option.map_eq_some_iff] at h
  obtain ⟨p, hp, rfl⟩ := h
  have h1 := List.find?_some hp
  have h2 := List.mem_of_find?_eq_some hp
  simp only [decide_eq_true_eq] at h1
  subst h1; exact h2
end
end Go.Sl

namespace Go.Sl
open Go.ChangeMaps (setBlock)
section
variable {P : Program} {κ ν : Type} {K : MapK P κ ν} {ro : Option Nat} {n : Nat} {ds : List Deferred} {β : Base} {Q : Exit → Act → World → Prop} {f : Fm} {L : List Res} {ops : Array Oper} {rest : List Oper}
variable {d : Option Tmp} {ty : TypeId} {ps : String} {af : Array Edge} {g : Option (Nat × Bool)}
theorem mpR_nil (b : Nat) (a : PHeap) (h : pt b (.map #[] 0) a) : mpR K b [] a := ⟨#[], 0, h, rfl, List.nodup_nil, List.nodup_nil, fun e he => by simp at he⟩
theorem m_mkmap {t : Nat} : MV P β L f ⟨d, .makeMap t none, ty, ps, af, g⟩ (fun u L' => ∃ b, u = .map (some b) ∧ L' = mpR K b [] :: L) := fun w hw => by
  refine ⟨_, _, _, ?_, (hw.new (.map #[] 0)).conseq fun a h => mpR_nil _ a h, _, rfl, rfl⟩
  simp [execOp, Instr.makeMap]
theorem zero_mp (K : MapK P κ ν) (w : World) : (zeroValue K.et).run P w = .ok (K.encv K.zv) w := by
  have hz := K.hz
  cases hi : P.info? K.et with
  | none => rw [hi] at hz; cases hz
  | some i => rw [hi] at hz; have hz' : i.zero = some (K.encv K.zv) := by simpa using hz
              simp [zeroValue, typeInfo, hi, hz']
theorem found_mp {ks : List (κ × ν)} {es : Array MapEntry} {c : Nat} (hc : MapC K ks es c) (k : κ) (w : World) : ∃ r, (Instr.findKey K.kt (K.enc k) es.toList).run P w = .ok r w ∧
    (match r with | none => K.look ks k = none | some (j, v) => ∃ u, K.look ks k = some u ∧ v = K.encv u ∧ ks[j]? = some (k, u)) := by
  obtain ⟨r, hr, hx⟩ := K.find k (ks.map (·.1)) es.toList w hc.ks
  refine ⟨r, hr, ?_⟩
  cases r with
  | none => exact look_none.2 hx
  | some p =>
    obtain ⟨j, v⟩ := p
    obtain ⟨h1, h2⟩ := hx
    have h1 : (ks.map (·.1))[j]? = some k := h1
    have h2 : (es.toList[j]?).map (·.val) = some v := h2
    have ha := hc.at j
    rw [List.getElem?_map] at h1
    cases hj : ks[j]? with
    | none => rw [hj] at h1; cases h1
    | some q =>
      obtain ⟨k', u⟩ := q
      rw [hj] at h1 ha
      simp only [Option.map_some, Option.some.injEq] at h1
      subst h1
      cases he : es.toList[j]? with
      | none => rw [he] at h2; cases h2
      | some e =>
        rw [he] at h2 ha
        simp only [Option.map_some, Option.some.injEq, Prod.mk.injEq] at h2 ha
        exact ⟨u, look_at hc.keys hj, by rw [← h2, ha.2], hj⟩
theorem e_look2 {x y : Operand} {t b : Nat} {ks : List (κ × ν)} {k : κ} (ht : t = K.t) (hx : ev f x = .map (some b)) (hy : ev f y = K.enc k) (hm : Knows β L (mpR K b ks)) :
    EV P β L f ⟨d, .lookup t x y true, ty, ps, af, g⟩ (.tuple #[K.encv ((K.look ks k).getD K.zv), .bool (K.look ks k).isSome]) := fun w hw => by
  obtain ⟨es, c, hb, hc⟩ := hw.knows hm
  have hb : w.heap[b]? = some (.map es c) := hb
  obtain ⟨r, hr, hx'⟩ := found_mp hc k w
  have hg : (getObj b).run P w = .ok (.map es c) w := run_getM hb
  subst ht
  simp only [execOp, Instr.lookup, Sem.run_bind, run_underlying K.ht, Result.andThen_ok, hx, hy, hg, Sem.run_pure, K.chk, hr]
  cases r with
  | none =>
    have hl : K.look ks k = none := hx'
    simp [zero_mp, hl]
  | some p =>
    obtain ⟨j, v⟩ := p
    obtain ⟨u, hl, hv, _⟩ := hx'
    simp [hl, hv]
theorem e_mlen {x : Operand} {t b : Nat} {ks : List (κ × ν)} (ht : t = K.t) (hx : ev f x = .map (some b)) (hm : Knows β L (mpR K b ks)) :
    EV P β L f ⟨d, .call ⟨.builtin .len, #[x], #[t]⟩, ty, ps, af, g⟩ (Nx ks.length) := fun w hw => by
  obtain ⟨es, c, hb, hc⟩ := hw.knows hm
  have hb : w.heap[b]? = some (.map es c) := hb
  have hg : (getObj b).run P w = .ok (.map es c) w := run_getM hb
  have hl : es.size = ks.length := by have := congrArg List.length hc.cells; simpa using this
  subst ht
  simp [execOp, resolve, invoke, builtin, hx, Builtin.len_, run_underlying K.ht, hg, hl]
  rfl
theorem run_eqmap_nil (w : World) {t k e : Nat} (b : Option Nat) (h : P.underlying t = some (.map k e)) : (Op.equal t (.map b) (.map none)).run P w = .ok b.isNone w := by
  unfold Op.equal
  show (Op.equalIn (9999 + 1) t (.map b) (.map none)).run P w = _
  unfold Op.equalIn
  cases b <;> simp [run_underlying h]
theorem e_eql_mnil {t t' k e : Nat} {x y : Operand} {b : Option Nat} (hx : ev f x = .map b) (hy : ev f y = .map none) (h : P.underlying t = some (.map k e)) : EV P β L f ⟨d, .binOp .eql t x y t', ty, ps, af, g⟩ (.bool b.isNone) := fun w _ => by
  have hb : (binOp .eql t (.map b) (.map none)).run P w = .ok (.bool b.isNone) w := by
    simp only [binOp]
    simp [run_eqmap_nil w b h]
  simp [execOp, hx, hy, eqGuard, hb]
/-- a map of one's own, opened -/
theorem St.mp_open {w : World} {b : Nat} {ks : List (κ × ν)} (i : Nat) (hw : St β L w) (hi : L[i]? = some (mpR K b ks)) : ∃ es c, w.heap[b]? = some (.map es c) ∧ MapC K ks es c ∧ St β (L.set i (Sl.pt b (.map es c))) w := by
  obtain ⟨es, c, hb, hc⟩ := hw.knows (Knows.of_res i hi (mpR.mono K b ks) fun _ h => h)
  have hb : w.heap[b]? = some (.map es c) := hb
  refine ⟨es, c, hb, hc, St.back i hi <| ?_⟩
  have h := hw.front i hi
  refine h.turn rfl rfl rfl fun a ha hr => ?_
  obtain ⟨es', c', hb', hc'⟩ := hr
  have e := ha _ _ hb'
  have e' : w.heap[b]? = some (.map es' c') := e
  rw [hb] at e'
  injection e' with e'; injection e' with e1 e2; subst e1; subst e2
  exact ⟨a, hb', ha, fun _ h1 h2 => ⟨h2, rfl⟩⟩
theorem St.mp_put {w : World} {b : Nat} {ks ks' : List (κ × ν)} {es es' : Array MapEntry} {c c' : Nat} (i : Nat) (hi : L[i]? = some (mpR K b ks)) (hb : w.heap[b]? = some (.map es c)) (hw' : St β (L.set i (Sl.pt b (.map es c))) w) (hc' : MapC K ks' es' c') :
    St β (L.set i (mpR K b ks')) { w with heap := w.heap.setIfInBounds b (.map es' c') } := by
  have hli : i < L.length := (List.getElem?_eq_some_iff.1 hi).1
  have hb' : b < w.heap.size := (Array.getElem?_eq_some_iff.1 hb).1
  have h := (hw'.front i (r := Sl.pt b (.map es c)) (by simp [hli])).put (w' := { w with heap := w.heap.setIfInBounds b (.map es' c') }) (o' := .map es' c') rfl rfl rfl (by simp [hb']) fun k' hk' _ => by
    simp [Ne.symm hk']
  have h2 := h.conseq (r' := mpR K b ks') fun a ha => ⟨es', c', ha, hc'⟩
  have h3 := St.back (L := L.set i (Sl.pt b (.map es c))) i (r := Sl.pt b (.map es c)) (by simp [hli]) h2
  simpa using h3
theorem MapC.push {ks : List (κ × ν)} {es : Array MapEntry} {c : Nat} (h : MapC K ks es c) {k : κ} {v : ν} (hl : K.look ks k = none) : MapC K (K.put ks k v) (es.push { key := K.enc k, val := K.encv v, born := c }) (c + 1) := by
  have hp : K.put ks k v = ks ++ [(k, v)] := by unfold MapK.put; rw [hl]; rfl
  rw [hp]
  refine ⟨by simp [h.cells], ?_, ?_, ?_⟩
  · rw [List.map_append, List.nodup_append]
    refine ⟨h.keys, by simp, fun a ha b hb => ?_⟩
    simp at hb
    rw [hb]
    rintro rfl
    exact look_none.1 hl ha
  · simp only [Array.toList_push, List.map_append, List.map_cons, List.map_nil]
    rw [List.nodup_append]
    refine ⟨h.births, by simp, fun a ha b hb => ?_⟩
    simp at hb
    rw [hb]
    obtain ⟨e, he, rfl⟩ := List.mem_map.1 ha
    have := h.old e he
    omega
  · intro e he
    simp only [Array.toList_push, List.mem_append, List.mem_singleton] at he
    rcases he with he | rfl
    · have := h.old e he; omega
    · show c < c + 1; omega
theorem keys_ne {ks : List (κ × ν)} (hn : (ks.map (·.1)).Nodup) {i j : Nat} {p q : κ × ν} (hi : ks[i]? = some p) (hj : ks[j]? = some q) (h : i ≠ j) : p.1 ≠ q.1 := by
  intro e
  obtain ⟨h1, e1⟩ := List.getElem?_eq_some_iff.1 hi
  obtain ⟨h2, e2⟩ := List.getElem?_eq_some_iff.1 hj
  have := List.nodup_iff_pairwise_ne.1 hn
  rw [List.pairwise_map, List.pairwise_iff_getElem] at this
  rcases Nat.lt_or_gt_of_ne h with hlt | hlt
  · have := this i j h1 h2 hlt; rw [e1, e2] at this; exact this e
  · have := this j i h2 h1 hlt; rw [e1, e2] at this; exact this e.symm
theorem MapC.turn {ks : List (κ × ν)} {es : Array MapEntry} {c j : Nat} (h : MapC K ks es c) {k : κ} {u v : ν} (hj : ks[j]? = some (k, u)) : MapC K (K.put ks k v) (es.modify j fun e => { e with key := K.enc k, val := K.encv v }) c := by
  have hp : K.put ks k v = ks.map (fun p => @ite _ (p.1 = k) (K.dec _ _) (k, v) p) := by unfold MapK.put; rw [look_at h.keys hj]; rfl
  have hkeys : (K.put ks k v).map (·.1) = ks.map (·.1) := by
    rw [hp, List.map_map]
    refine List.map_congr_left fun p _ => ?_
    simp only [Function.comp]
    split
    · rename_i e; exact e.symm
    · rfl
  have hes : (es.modify j fun e => { e with key := K.enc k, val := K.encv v }).toList = es.toList.modify j fun e => { e with key := K.enc k, val := K.encv v } := by simp
  refine ⟨?_, by rw [hkeys]; exact h.keys, ?_, ?_⟩
  · rw [hes, hp]
    apply List.ext_getElem?
    intro i
    have ha := h.at i
    simp only [List.getElem?_map, List.getElem?_modify]
    cases hi : ks[i]? with
    | none =>
      rw [hi] at ha
      cases he : es.toList[i]? with
      | none => simp
      | some e => rw [he] at ha; cases ha
    | some p =>
      rw [hi] at ha
      cases he : es.toList[i]? with
      | none => rw [he] at ha; cases ha
      | some e =>
        rw [he] at ha
        simp only [Option.map_some, Option.some.injEq, Prod.mk.injEq] at ha
        by_cases hij : j = i
        · subst hij
          rw [hj] at hi
          injection hi with hi
          subst hi
          simp
        · have hne : ¬ p.1 = k := keys_ne h.keys hi hj (fun q => hij q.symm)
          simp [hij, hne, ha]
  · rw [hes]
    have : (es.toList.modify j fun e => { e with key := K.enc k, val := K.encv v }).map (·.born) = es.toList.map (·.born) := by
      apply List.ext_getElem?
      intro i
      simp only [List.getElem?_map, List.getElem?_modify]
      by_cases hij : j = i
      · subst hij; cases es.toList[j]? <;> simp
      · simp [hij]
    rw [this]; exact h.births
  · intro e he
    rw [hes] at he
    obtain ⟨i, hi⟩ := List.getElem?_of_mem he
    rw [List.getElem?_modify] at hi
    cases he2 : es.toList[i]? with
    | none => rw [he2] at hi; simp at hi
    | some e2 =>
      rw [he2] at hi
      have hb := h.old e2 (List.mem_of_getElem? he2)
      by_cases hij : j = i
      · subst hij; simp at hi; rw [← hi]; exact hb
      · simp [hij] at hi; rw [← hi]; exact hb
theorem m_mput {x y z : Operand} {t b : Nat} {ks : List (κ × ν)} {k : κ} {v : ν} (i : Nat) (ht : t = K.t) (hx : ev f x = .map (some b)) (hy : ev f y = K.enc k) (hv : ev f z = K.encv v) (hi : L[i]? = some (mpR K b ks)) :
    MU P β L f ⟨d, .mapUpdate t x y z, ty, ps, af, g⟩ (L.set i (mpR K b (K.put ks k v))) := fun w hw => by
  obtain ⟨es, c, hb, hc, hw'⟩ := hw.mp_open i hi
  obtain ⟨r, hr, hx'⟩ := found_mp hc k w
  have hg : (getObj b).run P w = .ok (.map es c) w := run_getM hb
  subst ht
  simp only [execOp, Instr.mapUpdate, Sem.run_bind, run_underlying K.ht, Result.andThen_ok, hx, hy, hv, hg, K.chk, hr]
  cases r with
  | none =>
    have hl : K.look ks k = none := hx'
    refine ⟨_, ?_, St.mp_put i hi hb hw' (hc.push (v := v) hl)⟩
    simp [run_setM _ hb]
  | some p =>
    obtain ⟨j, u⟩ := p
    obtain ⟨u', hl, hu, hj⟩ := hx'
    have hst : ∀ w, (Instr.keyThatStays (K.enc k) (K.enc k)).run P w = .ok (K.enc k) w := fun w => by
      unfold Instr.keyThatStays
      rw [if_pos (K.bits k)]; rfl
    have hej : ((es[j]?).map (·.key)).getD (K.enc k) = K.enc k := by
      have ha := hc.at j
      rw [hj] at ha
      cases he : es[j]? with
      | none => rfl
      | some e =>
        have he' : es.toList[j]? = some e := by simpa using he
        rw [he'] at ha
        simp only [Option.map_some, Option.some.injEq, Prod.mk.injEq] at ha
        simp [ha.1]
    refine ⟨_, ?_, St.mp_put i hi hb hw' (hc.turn (v := v) hj)⟩
    simp only [hej, Sem.run_bind, hst, Result.andThen_ok]
    simp [run_setM _ hb]
theorem erase_filter : ∀ {ks : List (κ × ν)} {j : Nat} {k : κ} {u : ν}, (ks.map (·.1)).Nodup → ks[j]? = some (k, u) → K.del ks k = ks.eraseIdx j
  | [], _, _, _, _, h => by simp at h
  | p :: ks, 0, k, u, hn, h => by
    injection h with h; subst h
    unfold MapK.del
    rw [List.filter_cons]
    simp only [decide_true, Bool.not_true, Bool.false_eq_true, if_false, List.eraseIdx_cons_zero]
    rw [List.filter_eq_self]
    intro q hq
    rw [List.map_cons, List.nodup_cons] at hn
    have : q.1 ≠ k := fun e => hn.1 (List.mem_map.2 ⟨q, hq, e⟩)
    simp [this]
  | p :: ks, j + 1, k, u, hn, h => by
    have hk : p.1 ≠ k := keys_ne hn (i := 0) (j := j + 1) rfl h (by omega)
    rw [List.map_cons, List.nodup_cons] at hn
    have ih := erase_filter hn.2 (by simpa using h)
    unfold MapK.del at ih ⊢
    rw [List.filter_cons, List.eraseIdx_cons_succ, ← ih]
    simp [hk]
theorem MapC.erase {ks : List (κ × ν)} {es : Array MapEntry} {c j : Nat} (h : MapC K ks es c) {k : κ} {u : ν} (hj : ks[j]? = some (k, u)) : MapC K (K.del ks k) (es.eraseIdxIfInBounds j) c := by
  have hl : es.toList.length = ks.length := by have := congrArg List.length h.cells; simpa using this
  have hes : (es.eraseIdxIfInBounds j).toList = es.toList.eraseIdx j := by
    unfold Array.eraseIdxIfInBounds
    split
    · simp
    · rw [List.eraseIdx_of_length_le (by simp; omega)]
  have hm : ∀ {α β : Type} (f : α → β) (l : List α), (l.eraseIdx j).map f = (l.map f).eraseIdx j := fun f l => Go.ChangeMaps.map_eraseIdx f l j
  refine ⟨?_, ?_, ?_, ?_⟩
  · rw [erase_filter h.keys hj, hes, hm, hm, h.cells]
  · rw [erase_filter h.keys hj, hm]; exact h.keys.sublist (List.eraseIdx_sublist _ _)
  · rw [hes, hm]; exact h.births.sublist (List.eraseIdx_sublist _ _)
  · intro e he; rw [hes] at he; exact h.old e (List.mem_of_mem_eraseIdx he)
theorem del_none {ks : List (κ × ν)} {k : κ} (h : K.look ks k = none) : K.del ks k = ks := by
  unfold MapK.del
  rw [List.filter_eq_self]
  intro p hp
  have : p.1 ≠ k := fun e => look_none.1 h (List.mem_map.2 ⟨p, hp, e⟩)
  simp [this]
theorem m_mdel {x y : Operand} {t t2 b : Nat} {ks : List (κ × ν)} {k : κ} (i : Nat) (ht : t = K.t) (hx : ev f x = .map (some b)) (hy : ev f y = K.enc k) (hi : L[i]? = some (mpR K b ks)) :
    MV P β L f ⟨d, .call ⟨.builtin .delete, #[x, y], #[t, t2]⟩, ty, ps, af, g⟩ (fun v L' => v = .tuple #[] ∧ L' = L.set i (mpR K b (K.del ks k))) := fun w hw => by
  obtain ⟨es, c, hb, hc, hw'⟩ := hw.mp_open i hi
  obtain ⟨r, hr, hx'⟩ := found_mp hc k w
  have hg : (getObj b).run P w = .ok (.map es c) w := run_getM hb
  subst ht
  simp only [execOp, resolve, invoke, builtin, Sem.run_bind, Sem.run_pure, Result.andThen_ok, List.map_toArray, List.map_cons, List.map_nil, hx, hy, Builtin.delete_, List.getElem?_toArray, List.getElem?_cons_zero, List.getElem?_cons_succ, run_underlying K.ht, hg, K.chk, hr]
  cases r with
  | none =>
    have hl : K.look ks k = none := hx'
    refine ⟨.tuple #[], _, _, ?_, St.mp_put i hi hb hw' (ks' := K.del ks k) (by rw [del_none hl]; exact hc), rfl, rfl⟩
    simp [run_setM _ hb]
  | some p =>
    obtain ⟨j, u⟩ := p
    obtain ⟨u', hl, hu, hj⟩ := hx'
    refine ⟨.tuple #[], _, _, ?_, St.mp_put i hi hb hw' (hc.erase hj), rfl, rfl⟩
    simp [run_setM _ hb]
end
end Go.Sl

namespace Go.Sl
open Go.ChangeMaps (setBlock)
section
variable {P : Program} {κ ν : Type} (K : MapK P κ ν) {ro : Option Nat} {n : Nat} {ds : List Deferred} {β : Base} {Q : Exit → Act → World → Prop} {f : Fm} {L : List Res} {ops : Array Oper} {rest : List Oper}
variable {d : Option Tmp} {ty : TypeId} {ps : String} {af : Array Edge} {g : Option (Nat × Bool)}
/-- map b and an iterator r over it that has handed out pre -/
def rgR (b r : Nat) (ks pre : List (κ × ν)) : Res := fun h => ∃ (es : Array MapEntry) (clock : Nat) (seen : Array Nat) (zs dz rz : List (MapEntry × (κ × ν))),
  h b = some (.map es clock) ∧ h r = some (.mapIter (some b) clock seen clock) ∧ b ≠ r ∧ MapC K ks es clock ∧ es.toList = zs.map (·.1) ∧ ks = zs.map (·.2) ∧ (∀ z ∈ zs, z.1.key = K.enc z.2.1 ∧ z.1.val = K.encv z.2.2) ∧
  (dz ++ rz).Perm zs ∧ seen.toList = dz.map (·.1.born) ∧ pre = dz.map (·.2)
variable {K}
theorem rgR.mono (b r : Nat) (ks pre : List (κ × ν)) : Mono (rgR K b r ks pre) := fun _ _ hs ⟨es, c, se, zs, dz, rz, h1, h2, h⟩ => ⟨es, c, se, zs, dz, rz, hs _ _ h1, hs _ _ h2, h⟩
theorem MapC.zip {ks : List (κ × ν)} {es : Array MapEntry} {c : Nat} (h : MapC K ks es c) : ∃ zs : List (MapEntry × (κ × ν)), es.toList = zs.map (·.1) ∧ ks = zs.map (·.2) ∧ ∀ z ∈ zs, z.1.key = K.enc z.2.1 ∧ z.1.val = K.encv z.2.2 := by
  have key : ∀ (es : List MapEntry) (ks : List (κ × ν)), es.map (fun e => (e.key, e.val)) = ks.map (fun p => (K.enc p.1, K.encv p.2)) → ∃ zs : List (MapEntry × (κ × ν)), es = zs.map (·.1) ∧ ks = zs.map (·.2) ∧ ∀ z ∈ zs, z.1.key = K.enc z.2.1 ∧ z.1.val = K.encv z.2.2 := by
    intro es
    induction es with
    | nil =>
      intro ks h
      cases ks with
      | nil => exact ⟨[], rfl, rfl, by simp⟩
      | cons a ks => simp at h
    | cons e es ih =>
      intro ks h
      cases ks with
      | nil => simp at h
      | cons a ks =>
        simp only [List.map_cons, List.cons.injEq, Prod.mk.injEq] at h
        obtain ⟨zs, h1, h2, h3⟩ := ih ks h.2
        refine ⟨(e, a) :: zs, by simp [h1], by simp [h2], fun z hz => ?_⟩
        rcases List.mem_cons.1 hz with rfl | hz
        · exact h.1
        · exact h3 z hz
  exact key _ _ h.cells
/-! interfaces around maps, and clones -/
theorem e_mkiface {x : Operand} {t : Nat} {v : Value} {dd : TypeDesc} (hx : ev f x = v) (hu : P.underlying t = some dd) (hd : (match dd with | .interface _ => false | _ => true) = true) : EV P β L f ⟨d, .makeInterface t x, ty, ps, af, g⟩ (.iface t v) := fun w _ => by
  subst hx
  simp only [execOp, Instr.makeInterface, Sem.run_bind, run_underlying hu, Result.andThen_ok]
  cases dd <;> simp_all
theorem e_assert {x : Operand} {t xt : Nat} {v : Value} {dd : TypeDesc} (hx : ev f x = .iface t v) (hu : P.underlying t = some dd) (hd : (match dd with | .interface _ => false | _ => true) = true) : EV P β L f ⟨d, .typeAssert x xt t false, ty, ps, af, g⟩ v := fun w _ => by
  simp only [execOp, Instr.typeAssert, hx, Sem.run_bind, run_underlying hu, Result.andThen_ok]
  cases dd <;> simp_all
/-- maps.clone is a function of the machine's -/
def isClone (P : Program) (h : Nat) : Prop := ∃ fn, P.funcs[h]? = some fn ∧ (fn.name == "runtime.NumGoroutine") = false ∧ fn.body.isNone = true ∧ Extern.findNext fn = none ∧ Extern.find fn = some Extern.MapsClone.clone
theorem run_clone {t b : Nat} {es : Array MapEntry} {cl : Nat} {w : World} (hg : (getObj b).run P w = .ok (.map es cl) w) : (Extern.MapsClone.clone #[.iface t (.map (some b))]).run P w = .ok (.iface t (.map (some w.heap.size))) (w.alloc (.map es cl)) := by
  have e : Extern.MapsClone.clone #[.iface t (.map (some b))] = (getObj b >>= fun o => match o with
    | .map entries clock => (newObj (.map entries clock) >>= fun r => pure (.iface t (.map (some r))))
    | _ => stuck "maps.clone: a map expected") := rfl
  rw [e]
  simp [hg]
theorem m_clone {x c : Operand} {ts : Array TypeId} {t h b : Nat} {ks : List (κ × ν)} (i : Nat) (hc : ev f c = .func (.func h) #[] #[]) (hh : isClone P h) (hx : ev f x = .iface t (.map (some b))) (hm : L[i]? = some (mpR K b ks)) :
    MV P β L f ⟨d, .call ⟨.value c, #[x], ts⟩, ty, ps, af, g⟩ (fun v L' => ∃ b', v = .iface t (.map (some b')) ∧ L' = mpR K b' ks :: L) := fun w hw => by
  obtain ⟨es, cl, hb, hk⟩ := hw.knows (Knows.of_res i hm (mpR.mono K b ks) fun _ h => h)
  have hb : w.heap[b]? = some (.map es cl) := hb
  have hg : (getObj b).run P w = .ok (.map es cl) w := run_getM hb
  obtain ⟨fn, h1, h2, h3, h4, h5⟩ := hh
  refine ⟨.iface t (.map (some w.heap.size)), w.alloc (.map es cl), _, ?_, (hw.new (.map es cl)).conseq fun a ha => ⟨es, cl, ha, hk⟩, w.heap.size, rfl, rfl⟩
  have h2' : fn.name ≠ "runtime.NumGoroutine" := by simpa using h2
  have h3' : fn.body = none := by simpa using h3
  simp [execOp, resolve, hc, Deferred.ofValue, invoke, callFunc, h1, h2', h3', h4, h5, hx, run_clone hg]
end
end Go.Sl

namespace Go.Sl
section
variable {P : Program} {n : Nat} {ds : List Deferred} {β : Base} {Q : Exit → Act → World → Prop} {f : Fm} {L : List Res}
theorem c_scope {c : Code} (h : RunC P none n ds β c (Exit.noGoto Q) f L) : RunC P none n ds β (.scope c) Q f L := fun a w ha hw =>
  wpIn_wide.2 (wp_scope_straight (wpIn_wide.1 (h a w ha hw)))
theorem c_label {ro : Option Nat} {l : Nat} (h : Fin n ds β Q .normal f L) : RunC P ro n ds β (.label l) Q f L := fun a w ha hw => wpIn_label (h a w ha hw)
theorem f_scope_ret (h : Fin n ds β Q .ret f L) : Fin n ds β (Exit.noGoto Q) .ret f L := fun a w ha hw => h a w ha hw
end
section
variable {P : Program} {β : Base} {f : Fm} {L : List Res} {d : Option Tmp} {ty : TypeId} {ps : String} {af : Array Edge} {g : Option (Nat × Bool)} {κ ν : Type} {K : MapK P κ ν}
theorem m_minsert {x y z : Operand} {t b : Nat} {ks : List (κ × ν)} {k : κ} {v : ν} (i : Nat) (ht : t = K.t) (hx : ev f x = .map (some b)) (hy : ev f y = K.enc k) (hv : ev f z = K.encv v) (hi : L[i]? = some (mpR K b ks)) :
    MU P β L f ⟨d, .insert t x y z, ty, ps, af, g⟩ (L.set i (mpR K b (K.put ks k v))) := fun w hw =>
  m_mput (d := d) (ty := ty) (ps := ps) (af := af) (g := g) i ht hx hy hv hi w hw
end
end Go.Sl

namespace Go.Td
open Go.Sl
abbrev IntF : Fl Int := ⟨1, fun x => [Ix x], fun _ => rfl, fun _ => rfl, by decide⟩
/-- amounts -/
structure KAm where
  a0 : Int
  a1 : Int
  a2 : Int
  a3 : Int
deriving DecidableEq
abbrev amE (a : KAm) : List Value := [Ix a.a0, Ix a.a1, Ix a.a2, Ix a.a3]
abbrev amC (a : KAm) : Array Value := #[Ix a.a0, Ix a.a1, Ix a.a2, Ix a.a3]
abbrev AmF : Fl KAm := ⟨4, amE, fun _ => rfl, fun _ => rfl, by decide⟩
def zeroA : KAm := ⟨0, 0, 0, 0⟩
def inA (n : Int) : Bool := decide (0 ≤ n) && decide (n ≤ 2147483647)
def KAm.within (a : KAm) : Bool := inA a.a0 && inA a.a1 && inA a.a2 && inA a.a3
def KAm.plus (a b : KAm) (s : Int) : KAm := ⟨a.a0 + s * b.a0, a.a1 + s * b.a1, a.a2 + s * b.a2, a.a3 + s * b.a3⟩
/-- within some bound, so that nothing wraps -/
def KAm.bd (a : KAm) (N : Int) : Prop := (-N ≤ a.a0 ∧ a.a0 ≤ N) ∧ (-N ≤ a.a1 ∧ a.a1 ≤ N) ∧ (-N ≤ a.a2 ∧ a.a2 ≤ N) ∧ (-N ≤ a.a3 ∧ a.a3 ≤ N)
theorem am_eq {x y : KAm} : amE x = amE y ↔ x = y := by
  constructor
  · intro h; cases x; cases y; simp at h; obtain ⟨rfl, rfl, rfl, rfl⟩ := h; rfl
  · rintro rfl; rfl
/-- an act -/
structure KAct where
  kind : UInt8
  owner : Int
  other : Int
  hold : Int
  a : KAm
deriving DecidableEq
abbrev actE (x : KAct) : List Value := [Bx x.kind, Ix x.owner, Ix x.other, Ix x.hold, Ix x.a.a0, Ix x.a.a1, Ix x.a.a2, Ix x.a.a3]
abbrev ActF : Fl KAct := ⟨8, actE, fun _ => rfl, fun _ => rfl, by decide⟩
theorem act_eq {x y : KAct} : actE x = actE y ↔ x = y := by
  constructor
  · intro h
    obtain ⟨k, o, p, q, a⟩ := x; obtain ⟨k', o', p', q', a'⟩ := y; cases a; cases a'
    simp only [actE, List.cons.injEq, and_true, Value.int.injEq, true_and] at h
    obtain ⟨h0, rfl, rfl, rfl, rfl, rfl, rfl, rfl⟩ := h
    have : k = k' := by apply UInt8.toNat_inj.1; omega
    rw [this]
  · rintro rfl; rfl
def ownB (n : Int) : Bool := decide (1 ≤ n) && decide (n ≤ 65536)
/-- what is put aside -/
structure KHo where
  number : Int
  owner : Int
  a : KAm
deriving DecidableEq
abbrev hoE (x : KHo) : List Value := [Ix x.number, Ix x.owner, Ix x.a.a0, Ix x.a.a1, Ix x.a.a2, Ix x.a.a3]
abbrev HoF : Fl KHo := ⟨6, hoE, fun _ => rfl, fun _ => rfl, by decide⟩
theorem ho_eq {x y : KHo} : hoE x = hoE y ↔ x = y := by
  constructor
  · intro h; obtain ⟨n, o, a⟩ := x; obtain ⟨m, p, b⟩ := y; cases a; cases b; simp at h; obtain ⟨rfl, rfl, rfl, rfl, rfl, rfl⟩ := h; rfl
  · rintro rfl; rfl
def zeroH : KHo := ⟨0, 0, zeroA⟩
/-- what became of a transaction -/
structure KRes where
  done : Bool
  at_ : Int
  e : Int
  holds : List Int
deriving DecidableEq
structure KDeal where
  author : Int
  number : Int
  acts : List KAct
deriving DecidableEq
structure KMem where
  d : KDeal
  r : KRes
deriving DecidableEq
/-- the header of a memory -/
structure KMh where
  author : Int
  number : Int
  p : Option Addr
  n : Nat
  c : Nat
  done : Bool
  at_ : Int
  e : Int
  q : Option Addr
  m : Nat
  k : Nat
abbrev mhE (x : KMh) : List Value := [Ix x.author, Ix x.number, .slice x.p x.n x.c, .bool x.done, Ix x.at_, Ix x.e, .slice x.q x.m x.k]
def zeroM : KMh := ⟨0, 0, none, 0, 0, false, 0, 0, none, 0, 0⟩
end Go.Td

namespace Go.Sl
section
variable {P : Program} {β : Base} {f : Fm} {L : List Res} {d : Option Tmp} {ty : TypeId} {ps : String} {af : Array Edge} {g : Option (Nat × Bool)} {κ ν : Type} {K : MapK P κ ν}
/-- a look-up that gives the element alone -/
theorem e_look1 {x y : Operand} {t b : Nat} {ks : List (κ × ν)} {k : κ} (ht : t = K.t) (hx : ev f x = .map (some b)) (hy : ev f y = K.enc k) (hm : Knows β L (mpR K b ks)) :
    EV P β L f ⟨d, .lookup t x y false, ty, ps, af, g⟩ (K.encv ((K.look ks k).getD K.zv)) := fun w hw => by
  obtain ⟨es, c, hb, hc⟩ := hw.knows hm
  have hb : w.heap[b]? = some (.map es c) := hb
  obtain ⟨r, hr, hx'⟩ := found_mp hc k w
  have hg : (getObj b).run P w = .ok (.map es c) w := run_getM hb
  subst ht
  simp only [execOp, Instr.lookup, Sem.run_bind, run_underlying K.ht, Result.andThen_ok, hx, hy, hg, Sem.run_pure, K.chk, hr]
  cases r with
  | none =>
    have hl : K.look ks k = none := hx'
    simp [zero_mp, hl]
  | some p =>
    obtain ⟨j, v⟩ := p
    obtain ⟨u, hl, hv, _⟩ := hx'
    simp [hl, hv]
end
end Go.Sl
namespace Go.Proofs
open Go Go.Sl Go.Td
noncomputable def PuM : MapK Tryz.prog Int KAm where
  t := 84
  kt := 3
  et := 44
  dec := inferInstance
  enc := fun x => Ix x
  encv := fun a => .agg (amC a)
  zv := zeroA
  ht := by kernel_rfl
  hz := by kernel_rfl
  chk := fun e a w => by
    unfold Instr.checkKey
    simp only [Sem.run_bind, run_underlying (show Tryz.prog.underlying 3 = some (.int .i64) by kernel_rfl), Result.andThen_ok]
    rfl
  find := find_plain (d := .int .i64) (by kernel_rfl) fun a b => congrArg some (show (a == b) = decide (a = b) by by_cases h : a = b <;> simp [h])
  bits := fun a => by unfold Instr.sameBits; simp
noncomputable def HoM : MapK Tryz.prog Int KHo where
  t := 85
  kt := 3
  et := 104
  dec := inferInstance
  enc := fun x => Ix x
  encv := fun a => .agg (hoE a).toArray
  zv := zeroH
  ht := by kernel_rfl
  hz := by kernel_rfl
  chk := fun e a w => by
    unfold Instr.checkKey
    simp only [Sem.run_bind, run_underlying (show Tryz.prog.underlying 3 = some (.int .i64) by kernel_rfl), Result.andThen_ok]
    rfl
  find := find_plain (d := .int .i64) (by kernel_rfl) fun a b => congrArg some (show (a == b) = decide (a = b) by by_cases h : a = b <;> simp [h])
  bits := fun a => by unfold Instr.sameBits; simp
noncomputable def MeM : MapK Tryz.prog Int KMh where
  t := 86
  kt := 3
  et := 82
  dec := inferInstance
  enc := fun x => Ix x
  encv := fun a => .agg (mhE a).toArray
  zv := zeroM
  ht := by kernel_rfl
  hz := by kernel_rfl
  chk := fun e a w => by
    unfold Instr.checkKey
    simp only [Sem.run_bind, run_underlying (show Tryz.prog.underlying 3 = some (.int .i64) by kernel_rfl), Result.andThen_ok]
    rfl
  find := find_plain (d := .int .i64) (by kernel_rfl) fun a b => congrArg some (show (a == b) = decide (a = b) by by_cases h : a = b <;> simp [h])
  bits := fun a => by unfold Instr.sameBits; simp
end Go.Proofs

namespace Go.Sl
section
variable {P : Program} {ro : Option Nat} {n : Nat} {ds : List Deferred} {β : Base} {Q : Exit → Act → World → Prop} {f : Fm} {L : List Res} {ops : Array Oper} {rest : List Oper}
theorem upd_self (f : Fm) (d : Nat) (v : Value) : upd f d v d = v := by unfold upd; simp
theorem upd_ne (f : Fm) {d e : Nat} (v : Value) (h : Nat.beq e d = false) : upd f d v e = f e := by unfold upd; rw [h]
theorem l_and2 {m p j d1 d2 : Nat} {x q : Operand} {o1 o2 : Oper} {t1 t2 : TypeId} {s1 s2 : String} {r1 r2 : Array Edge} (b c : Bool) (hx : ev f x = .bool b)
    (h : b = true → (∀ x1 x2, RunL P ro n ds β ops Q rest (upd (upd (upd (upd f m (.bool true)) d1 x1) d2 x2) p (.bool (c))) L) → RunL P ro n ds β ops Q (o1 :: o2 :: ⟨some p, .pick (.tmp m) q (.const (.bool false)), t2, s2, r2, none⟩ :: rest) (upd f m (.bool true)) L)
    (k : ∀ x1 x2, RunL P ro n ds β ops Q rest (upd (upd (upd (upd f m (.bool b)) d1 x1) d2 x2) p (.bool (b && c))) L) (hm : Nat.blt m n = true := by rfl) (hp : Nat.blt p n = true := by rfl) (e1 : o1.dst = some d1 := by rfl) (g1 : o1.guard = some (j, true) := by rfl) (n1 : Nat.blt d1 n = true := by rfl) (a1 : Nat.beq m d1 = false := by rfl) (e2 : o2.dst = some d2 := by rfl) (g2 : o2.guard = some (j, true) := by rfl) (n2 : Nat.blt d2 n = true := by rfl) (a2 : Nat.beq m d2 = false := by rfl) (hj : (ops[j]?).bind (·.dst) = some m := by rfl) :
    RunL P ro n ds β ops Q (⟨some m, .move x, t1, s1, r1, none⟩ :: o1 :: o2 :: ⟨some p, .pick (.tmp m) q (.const (.bool false)), t2, s2, r2, none⟩ :: rest) f L := by
  refine l_val rfl rfl hm (v := .bool b) (hx ▸ e_move) ?_
  cases b
  ·
    refine l_skip g1 hj (b := false) (by rw [upd_self]) rfl e1 n1 ?_
    refine l_skip g2 hj (b := false) (by rw [upd_ne _ _ a1, upd_self]) rfl e2 n2 ?_
    exact l_val rfl rfl hp (v := .bool false) (e_pick_f (by change upd _ _ _ m = _; rw [upd_ne _ _ a2, upd_ne _ _ a1, upd_self])) (k undef undef)
  ·
    exact h rfl (by simpa using k)
theorem l_or2 {m p j d1 d2 : Nat} {x q : Operand} {o1 o2 : Oper} {t1 t2 : TypeId} {s1 s2 : String} {r1 r2 : Array Edge} (b c : Bool) (hx : ev f x = .bool b)
    (h : b = false → (∀ x1 x2, RunL P ro n ds β ops Q rest (upd (upd (upd (upd f m (.bool false)) d1 x1) d2 x2) p (.bool (c))) L) → RunL P ro n ds β ops Q (o1 :: o2 :: ⟨some p, .pick (.tmp m) (.const (.bool true)) q, t2, s2, r2, none⟩ :: rest) (upd f m (.bool false)) L)
    (k : ∀ x1 x2, RunL P ro n ds β ops Q rest (upd (upd (upd (upd f m (.bool b)) d1 x1) d2 x2) p (.bool (b || c))) L) (hm : Nat.blt m n = true := by rfl) (hp : Nat.blt p n = true := by rfl) (e1 : o1.dst = some d1 := by rfl) (g1 : o1.guard = some (j, false) := by rfl) (n1 : Nat.blt d1 n = true := by rfl) (a1 : Nat.beq m d1 = false := by rfl) (e2 : o2.dst = some d2 := by rfl) (g2 : o2.guard = some (j, false) := by rfl) (n2 : Nat.blt d2 n = true := by rfl) (a2 : Nat.beq m d2 = false := by rfl) (hj : (ops[j]?).bind (·.dst) = some m := by rfl) :
    RunL P ro n ds β ops Q (⟨some m, .move x, t1, s1, r1, none⟩ :: o1 :: o2 :: ⟨some p, .pick (.tmp m) (.const (.bool true)) q, t2, s2, r2, none⟩ :: rest) f L := by
  refine l_val rfl rfl hm (v := .bool b) (hx ▸ e_move) ?_
  cases b
  ·
    exact h rfl (by simpa using k)
  ·
    refine l_skip g1 hj (b := true) (by rw [upd_self]) rfl e1 n1 ?_
    refine l_skip g2 hj (b := true) (by rw [upd_ne _ _ a1, upd_self]) rfl e2 n2 ?_
    exact l_val rfl rfl hp (v := .bool true) (e_pick_t (by change upd _ _ _ m = _; rw [upd_ne _ _ a2, upd_ne _ _ a1, upd_self])) (k undef undef)
theorem l_and3 {m p j d1 d2 d3 : Nat} {x q : Operand} {o1 o2 o3 : Oper} {t1 t2 : TypeId} {s1 s2 : String} {r1 r2 : Array Edge} (b c : Bool) (hx : ev f x = .bool b)
    (h : b = true → (∀ x1 x2 x3, RunL P ro n ds β ops Q rest (upd (upd (upd (upd (upd f m (.bool true)) d1 x1) d2 x2) d3 x3) p (.bool (c))) L) → RunL P ro n ds β ops Q (o1 :: o2 :: o3 :: ⟨some p, .pick (.tmp m) q (.const (.bool false)), t2, s2, r2, none⟩ :: rest) (upd f m (.bool true)) L)
    (k : ∀ x1 x2 x3, RunL P ro n ds β ops Q rest (upd (upd (upd (upd (upd f m (.bool b)) d1 x1) d2 x2) d3 x3) p (.bool (b && c))) L) (hm : Nat.blt m n = true := by rfl) (hp : Nat.blt p n = true := by rfl) (e1 : o1.dst = some d1 := by rfl) (g1 : o1.guard = some (j, true) := by rfl) (n1 : Nat.blt d1 n = true := by rfl) (a1 : Nat.beq m d1 = false := by rfl) (e2 : o2.dst = some d2 := by rfl) (g2 : o2.guard = some (j, true) := by rfl) (n2 : Nat.blt d2 n = true := by rfl) (a2 : Nat.beq m d2 = false := by rfl) (e3 : o3.dst = some d3 := by rfl) (g3 : o3.guard = some (j, true) := by rfl) (n3 : Nat.blt d3 n = true := by rfl) (a3 : Nat.beq m d3 = false := by rfl) (hj : (ops[j]?).bind (·.dst) = some m := by rfl) :
    RunL P ro n ds β ops Q (⟨some m, .move x, t1, s1, r1, none⟩ :: o1 :: o2 :: o3 :: ⟨some p, .pick (.tmp m) q (.const (.bool false)), t2, s2, r2, none⟩ :: rest) f L := by
  refine l_val rfl rfl hm (v := .bool b) (hx ▸ e_move) ?_
  cases b
  ·
    refine l_skip g1 hj (b := false) (by rw [upd_self]) rfl e1 n1 ?_
    refine l_skip g2 hj (b := false) (by rw [upd_ne _ _ a1, upd_self]) rfl e2 n2 ?_
    refine l_skip g3 hj (b := false) (by rw [upd_ne _ _ a2, upd_ne _ _ a1, upd_self]) rfl e3 n3 ?_
    exact l_val rfl rfl hp (v := .bool false) (e_pick_f (by change upd _ _ _ m = _; rw [upd_ne _ _ a3, upd_ne _ _ a2, upd_ne _ _ a1, upd_self])) (k undef undef undef)
  ·
    exact h rfl (by simpa using k)
theorem l_and4 {m p j d1 d2 d3 d4 : Nat} {x q : Operand} {o1 o2 o3 o4 : Oper} {t1 t2 : TypeId} {s1 s2 : String} {r1 r2 : Array Edge} (b c : Bool) (hx : ev f x = .bool b)
    (h : b = true → (∀ x1 x2 x3 x4, RunL P ro n ds β ops Q rest (upd (upd (upd (upd (upd (upd f m (.bool true)) d1 x1) d2 x2) d3 x3) d4 x4) p (.bool (c))) L) → RunL P ro n ds β ops Q (o1 :: o2 :: o3 :: o4 :: ⟨some p, .pick (.tmp m) q (.const (.bool false)), t2, s2, r2, none⟩ :: rest) (upd f m (.bool true)) L)
    (k : ∀ x1 x2 x3 x4, RunL P ro n ds β ops Q rest (upd (upd (upd (upd (upd (upd f m (.bool b)) d1 x1) d2 x2) d3 x3) d4 x4) p (.bool (b && c))) L) (hm : Nat.blt m n = true := by rfl) (hp : Nat.blt p n = true := by rfl) (e1 : o1.dst = some d1 := by rfl) (g1 : o1.guard = some (j, true) := by rfl) (n1 : Nat.blt d1 n = true := by rfl) (a1 : Nat.beq m d1 = false := by rfl) (e2 : o2.dst = some d2 := by rfl) (g2 : o2.guard = some (j, true) := by rfl) (n2 : Nat.blt d2 n = true := by rfl) (a2 : Nat.beq m d2 = false := by rfl) (e3 : o3.dst = some d3 := by rfl) (g3 : o3.guard = some (j, true) := by rfl) (n3 : Nat.blt d3 n = true := by rfl) (a3 : Nat.beq m d3 = false := by rfl) (e4 : o4.dst = some d4 := by rfl) (g4 : o4.guard = some (j, true) := by rfl) (n4 : Nat.blt d4 n = true := by rfl) (a4 : Nat.beq m d4 = false := by rfl) (hj : (ops[j]?).bind (·.dst) = some m := by rfl) :
    RunL P ro n ds β ops Q (⟨some m, .move x, t1, s1, r1, none⟩ :: o1 :: o2 :: o3 :: o4 :: ⟨some p, .pick (.tmp m) q (.const (.bool false)), t2, s2, r2, none⟩ :: rest) f L := by
  refine l_val rfl rfl hm (v := .bool b) (hx ▸ e_move) ?_
  cases b
  ·
    refine l_skip g1 hj (b := false) (by rw [upd_self]) rfl e1 n1 ?_
    refine l_skip g2 hj (b := false) (by rw [upd_ne _ _ a1, upd_self]) rfl e2 n2 ?_
    refine l_skip g3 hj (b := false) (by rw [upd_ne _ _ a2, upd_ne _ _ a1, upd_self]) rfl e3 n3 ?_
    refine l_skip g4 hj (b := false) (by rw [upd_ne _ _ a3, upd_ne _ _ a2, upd_ne _ _ a1, upd_self]) rfl e4 n4 ?_
    exact l_val rfl rfl hp (v := .bool false) (e_pick_f (by change upd _ _ _ m = _; rw [upd_ne _ _ a4, upd_ne _ _ a3, upd_ne _ _ a2, upd_ne _ _ a1, upd_self])) (k undef undef undef undef)
  ·
    exact h rfl (by simpa using k)
theorem l_and5 {m p j d1 d2 d3 d4 d5 : Nat} {x q : Operand} {o1 o2 o3 o4 o5 : Oper} {t1 t2 : TypeId} {s1 s2 : String} {r1 r2 : Array Edge} (b c : Bool) (hx : ev f x = .bool b)
    (h : b = true → (∀ x1 x2 x3 x4 x5, RunL P ro n ds β ops Q rest (upd (upd (upd (upd (upd (upd (upd f m (.bool true)) d1 x1) d2 x2) d3 x3) d4 x4) d5 x5) p (.bool (c))) L) → RunL P ro n ds β ops Q (o1 :: o2 :: o3 :: o4 :: o5 :: ⟨some p, .pick (.tmp m) q (.const (.bool false)), t2, s2, r2, none⟩ :: rest) (upd f m (.bool true)) L)
    (k : ∀ x1 x2 x3 x4 x5, RunL P ro n ds β ops Q rest (upd (upd (upd (upd (upd (upd (upd f m (.bool b)) d1 x1) d2 x2) d3 x3) d4 x4) d5 x5) p (.bool (b && c))) L) (hm : Nat.blt m n = true := by rfl) (hp : Nat.blt p n = true := by rfl) (e1 : o1.dst = some d1 := by rfl) (g1 : o1.guard = some (j, true) := by rfl) (n1 : Nat.blt d1 n = true := by rfl) (a1 : Nat.beq m d1 = false := by rfl) (e2 : o2.dst = some d2 := by rfl) (g2 : o2.guard = some (j, true) := by rfl) (n2 : Nat.blt d2 n = true := by rfl) (a2 : Nat.beq m d2 = false := by rfl) (e3 : o3.dst = some d3 := by rfl) (g3 : o3.guard = some (j, true) := by rfl) (n3 : Nat.blt d3 n = true := by rfl) (a3 : Nat.beq m d3 = false := by rfl) (e4 : o4.dst = some d4 := by rfl) (g4 : o4.guard = some (j, true) := by rfl) (n4 : Nat.blt d4 n = true := by rfl) (a4 : Nat.beq m d4 = false := by rfl) (e5 : o5.dst = some d5 := by rfl) (g5 : o5.guard = some (j, true) := by rfl) (n5 : Nat.blt d5 n = true := by rfl) (a5 : Nat.beq m d5 = false := by rfl) (hj : (ops[j]?).bind (·.dst) = some m := by rfl) :
    RunL P ro n ds β ops Q (⟨some m, .move x, t1, s1, r1, none⟩ :: o1 :: o2 :: o3 :: o4 :: o5 :: ⟨some p, .pick (.tmp m) q (.const (.bool false)), t2, s2, r2, none⟩ :: rest) f L := by
  refine l_val rfl rfl hm (v := .bool b) (hx ▸ e_move) ?_
  cases b
  ·
    refine l_skip g1 hj (b := false) (by rw [upd_self]) rfl e1 n1 ?_
    refine l_skip g2 hj (b := false) (by rw [upd_ne _ _ a1, upd_self]) rfl e2 n2 ?_
    refine l_skip g3 hj (b := false) (by rw [upd_ne _ _ a2, upd_ne _ _ a1, upd_self]) rfl e3 n3 ?_
    refine l_skip g4 hj (b := false) (by rw [upd_ne _ _ a3, upd_ne _ _ a2, upd_ne _ _ a1, upd_self]) rfl e4 n4 ?_
    refine l_skip g5 hj (b := false) (by rw [upd_ne _ _ a4, upd_ne _ _ a3, upd_ne _ _ a2, upd_ne _ _ a1, upd_self]) rfl e5 n5 ?_
    exact l_val rfl rfl hp (v := .bool false) (e_pick_f (by change upd _ _ _ m = _; rw [upd_ne _ _ a5, upd_ne _ _ a4, upd_ne _ _ a3, upd_ne _ _ a2, upd_ne _ _ a1, upd_self])) (k undef undef undef undef undef)
  ·
    exact h rfl (by simpa using k)
theorem l_and6 {m p j d1 d2 d3 d4 d5 d6 : Nat} {x q : Operand} {o1 o2 o3 o4 o5 o6 : Oper} {t1 t2 : TypeId} {s1 s2 : String} {r1 r2 : Array Edge} (b c : Bool) (hx : ev f x = .bool b)
    (h : b = true → (∀ x1 x2 x3 x4 x5 x6, RunL P ro n ds β ops Q rest (upd (upd (upd (upd (upd (upd (upd (upd f m (.bool true)) d1 x1) d2 x2) d3 x3) d4 x4) d5 x5) d6 x6) p (.bool (c))) L) → RunL P ro n ds β ops Q (o1 :: o2 :: o3 :: o4 :: o5 :: o6 :: ⟨some p, .pick (.tmp m) q (.const (.bool false)), t2, s2, r2, none⟩ :: rest) (upd f m (.bool true)) L)
    (k : ∀ x1 x2 x3 x4 x5 x6, RunL P ro n ds β ops Q rest (upd (upd (upd (upd (upd (upd (upd (upd f m (.bool b)) d1 x1) d2 x2) d3 x3) d4 x4) d5 x5) d6 x6) p (.bool (b && c))) L) (hm : Nat.blt m n = true := by rfl) (hp : Nat.blt p n = true := by rfl) (e1 : o1.dst = some d1 := by rfl) (g1 : o1.guard = some (j, true) := by rfl) (n1 : Nat.blt d1 n = true := by rfl) (a1 : Nat.beq m d1 = false := by rfl) (e2 : o2.dst = some d2 := by rfl) (g2 : o2.guard = some (j, true) := by rfl) (n2 : Nat.blt d2 n = true := by rfl) (a2 : Nat.beq m d2 = false := by rfl) (e3 : o3.dst = some d3 := by rfl) (g3 : o3.guard = some (j, true) := by rfl) (n3 : Nat.blt d3 n = true := by rfl) (a3 : Nat.beq m d3 = false := by rfl) (e4 : o4.dst = some d4 := by rfl) (g4 : o4.guard = some (j, true) := by rfl) (n4 : Nat.blt d4 n = true := by rfl) (a4 : Nat.beq m d4 = false := by rfl) (e5 : o5.dst = some d5 := by rfl) (g5 : o5.guard = some (j, true) := by rfl) (n5 : Nat.blt d5 n = true := by rfl) (a5 : Nat.beq m d5 = false := by rfl) (e6 : o6.dst = some d6 := by rfl) (g6 : o6.guard = some (j, true) := by rfl) (n6 : Nat.blt d6 n = true := by rfl) (a6 : Nat.beq m d6 = false := by rfl) (hj : (ops[j]?).bind (·.dst) = some m := by rfl) :
    RunL P ro n ds β ops Q (⟨some m, .move x, t1, s1, r1, none⟩ :: o1 :: o2 :: o3 :: o4 :: o5 :: o6 :: ⟨some p, .pick (.tmp m) q (.const (.bool false)), t2, s2, r2, none⟩ :: rest) f L := by
  refine l_val rfl rfl hm (v := .bool b) (hx ▸ e_move) ?_
  cases b
  ·
    refine l_skip g1 hj (b := false) (by rw [upd_self]) rfl e1 n1 ?_
    refine l_skip g2 hj (b := false) (by rw [upd_ne _ _ a1, upd_self]) rfl e2 n2 ?_
    refine l_skip g3 hj (b := false) (by rw [upd_ne _ _ a2, upd_ne _ _ a1, upd_self]) rfl e3 n3 ?_
    refine l_skip g4 hj (b := false) (by rw [upd_ne _ _ a3, upd_ne _ _ a2, upd_ne _ _ a1, upd_self]) rfl e4 n4 ?_
    refine l_skip g5 hj (b := false) (by rw [upd_ne _ _ a4, upd_ne _ _ a3, upd_ne _ _ a2, upd_ne _ _ a1, upd_self]) rfl e5 n5 ?_
    refine l_skip g6 hj (b := false) (by rw [upd_ne _ _ a5, upd_ne _ _ a4, upd_ne _ _ a3, upd_ne _ _ a2, upd_ne _ _ a1, upd_self]) rfl e6 n6 ?_
    exact l_val rfl rfl hp (v := .bool false) (e_pick_f (by change upd _ _ _ m = _; rw [upd_ne _ _ a6, upd_ne _ _ a5, upd_ne _ _ a4, upd_ne _ _ a3, upd_ne _ _ a2, upd_ne _ _ a1, upd_self])) (k undef undef undef undef undef undef)
  ·
    exact h rfl (by simpa using k)
end
end Go.Sl

namespace Go.Sl
section
variable {P : Program} {ro : Option Nat} {n : Nat} {ds : List Deferred} {β : Base} {Q : Exit → Act → World → Prop} {f : Fm} {L : List Res} {ops : Array Oper} {rest : List Oper}
variable {d : Option Tmp} {ty : TypeId} {ps : String} {af : Array Edge} {g : Option (Nat × Bool)}
theorem e_indexArrK {x y : Operand} {t len e n k b o : Nat} {ik : IntKind} (hx : ev f x = .pointer (some ⟨b, o, none⟩)) (hy : ev f y = .int ik (k : Int)) (ht : arB P t len e n = true) (hk : k < len) :
    EV P β L f ⟨d, .indexAddr t x y, ty, ps, af, g⟩ (.pointer (some ⟨b, o + k * n, none⟩)) := fun w _ => by
  have e0 : (⟨b, o, none⟩ : Addr).add (k * n) = ⟨b, o + k * n, none⟩ := by unfold Addr.add; split <;> simp_all
  rw [← e0]
  unfold arB at ht
  simp only [Bool.and_eq_true] at ht
  obtain ⟨h1, h2⟩ := ht
  cases hu : P.underlying t with
  | none => rw [hu] at h1; cases h1
  | some dd =>
    rw [hu] at h1
    cases dd <;> simp only [] at h1 <;> try (cases h1)
    rename_i l' e'
    have he : l' = len ∧ e' = e := by simpa using h1
    obtain ⟨rfl, rfl⟩ := he
    cases hi : P.info? e' with
    | none => rw [hi] at h2; cases h2
    | some i =>
      rw [hi] at h2
      have hn : i.size = n := by simpa using h2
      simp only [execOp, hx, hy, Instr.indexAt, Instr.sureAddr, asIntOf, Sem.run_bind, run_underlying hu, Sem.run_pure, Result.andThen_ok]
      simp [hk, sizeOf, typeInfo, hi, hn]
theorem e_field1 {x : Operand} {s k off m : Nat} {cs : Array Value} {v : Value} (hx : ev f x = .agg cs) (hf : fldB P s k off m false = true) (hv : cs[off]? = some v) : EV P β L f ⟨d, .field s x k, ty, ps, af, g⟩ v := fun w _ => by
  unfold fldB at hf
  cases hu : P.underlying s with
  | none => rw [hu] at hf; cases hf
  | some dd =>
    rw [hu] at hf
    cases dd <;> simp only [] at hf <;> try (cases hf)
    rename_i fs
    cases hk : fs[k]? with
    | none => rw [hk] at hf; cases hf
    | some fl =>
      rw [hk] at hf
      simp only [Bool.and_eq_true, Bool.not_eq_true', beq_eq_false_iff_ne, ne_eq, beq_iff_eq] at hf
      obtain ⟨⟨ho, ht⟩, hn⟩ := hf
      have ha := (tyF ht).agg w
      subst ho
      simp [execOp, hx, Instr.field, run_underlying hu, hk, asAgg, part, ha, hv]
end
end Go.Sl

namespace Go.Sl
section
variable {P : Program} {ro : Option Nat} {n : Nat} {ds : List Deferred} {β : Base} {Q : Exit → Act → World → Prop} {f : Fm} {L : List Res} {ops : Array Oper} {rest : List Oper}
variable {d : Option Tmp} {ty : TypeId} {ps : String} {af : Array Edge} {g : Option (Nat × Bool)}
end
/-! resources one after the other -/
section
variable {P : Program} {ro : Option Nat} {n : Nat} {ds : List Deferred} {β : Base} {Q : Exit → Act → World → Prop} {f : Fm} {L : List Res} {ops : Array Oper} {rest : List Oper}
variable {d : Option Tmp} {ty : TypeId} {ps : String} {af : Array Edge} {g : Option (Nat × Bool)}
/-! one of them taken out for a while -/
end
/-- the header of a slice -/
structure H3 where
  p : Option Addr
  n : Nat
  c : Nat
/-- a slice and what it holds -/
structure HV (α : Type) where
  p : Option Addr
  c : Nat
  xs : List α
def HV.h {α : Type} (v : HV α) : H3 := ⟨v.p, v.xs.length, v.c⟩
structure Z5 where
  h : H3
  q : Option Addr
  e : Nat
section
variable {α : Type} (F : Fl α) (T : Nat) (mk : Nat → Nat → α)
def mkL {α : Type} (mk : Nat → Nat → α) (k n : Nat) : List α := (List.range n).map (mk k)
end
section
variable {α : Type} {F : Fl α} {T : Nat} {mk : Nat → Nat → α}
end
section
variable {P : Program} {ro : Option Nat} {n : Nat} {ds : List Deferred} {β : Base} {Q : Exit → Act → World → Prop} {f : Fm} {L : List Res} {ops : Array Oper} {rest : List Oper}
variable {d : Option Tmp} {ty : TypeId} {ps : String} {af : Array Edge} {g : Option (Nat × Bool)}
variable {α : Type} {F : Fl α} {T : Nat}
end
end Go.Sl

namespace Go.Sl
/-- a function of values that answers what res says and turns nothing -/
def FnV (P : Program) {α : Type} (β : Base) (fn : Value) (enc : α → List Value) (S : α → Prop) (res : α → Value) : Prop :=
  ∃ g fst cap, fn = .func (.func g) fst.toArray cap.toArray ∧ cfB P g = true ∧ ∀ β₁, Sub β.heap β₁.heap → ∀ x, S x → ∀ w, St β₁ [] w → Calls P g (fst ++ enc x ++ cap).toArray w fun r w' => r = .returned (res x) ∧ St β₁ [] w'
theorem FnV.mono {P : Program} {α : Type} {β β' : Base} {fn : Value} {enc : α → List Value} {S : α → Prop} {res : α → Value} (h : FnV P β fn enc S res) (hs : Sub β.heap β'.heap) : FnV P β' fn enc S res := by
  obtain ⟨g, fst, cap, e, hc, hk⟩ := h
  exact ⟨g, fst, cap, e, hc, fun β₁ h1 => hk β₁ (hs.trans h1)⟩
theorem fnv_all {P : Program} {α : Type} {β : Base} {fn : Value} {enc : α → List Value} {S : α → Prop} {res : α → Value} (h : FnV P β fn enc (fun _ => True) res) : FnV P β fn enc S res := by
  obtain ⟨g, fst, cap, e, hc, hk⟩ := h
  exact ⟨g, fst, cap, e, hc, fun β₁ h1 x _ => hk β₁ h1 x trivial⟩
def idxI {α : Type} (p : α → Bool) (xs : List α) : Int := match xs.findIdx? p with | some i => (i : Int) | none => -1
theorem idx_found {α : Type} {p : α → Bool} {xs : List α} {k : Nat} {x : α} (hx : xs[k]? = some x) (hp : p x = true) (hno : ∀ y ∈ xs.take k, p y = false) : idxI p xs = k := by
  have : xs.findIdx? p = some k := by
    rw [List.findIdx?_eq_some_iff_getElem]
    obtain ⟨h, e⟩ := List.getElem?_eq_some_iff.1 hx
    refine ⟨h, by rw [e]; exact hp, fun j hj => ?_⟩
    have hj' : j < xs.length := by omega
    have := hno xs[j] (by rw [List.mem_take_iff_getElem]; exact ⟨j, by omega, rfl⟩)
    simpa using this
  unfold idxI; rw [this]
theorem idx_none {α : Type} {p : α → Bool} {xs : List α} {k : Nat} (hk : xs.length ≤ k) (hno : ∀ y ∈ xs.take k, p y = false) : idxI p xs = -1 := by
  rw [List.take_of_length_le hk] at hno
  have : xs.findIdx? p = none := List.findIdx?_eq_none_iff.2 hno
  unfold idxI; rw [this]
theorem idx_next {α : Type} {p : α → Bool} {xs : List α} {k : Nat} {x : α} (hx : xs[k]? = some x) (hp : p x = false) (hno : ∀ y ∈ xs.take k, p y = false) : ∀ y ∈ xs.take (k + 1), p y = false := by
  rw [List.take_add_one, hx]
  intro z hz
  rcases List.mem_append.1 hz with hz | hz
  · exact hno z hz
  · simp at hz; rw [hz]; exact hp
theorem idx_any {α : Type} (p : α → Bool) (xs : List α) : decide ((0 : Int) ≤ idxI p xs) = xs.any p := by
  unfold idxI
  cases h : xs.findIdx? p with
  | none =>
    have := List.findIdx?_eq_none_iff.1 h
    have e : xs.any p = false := List.any_eq_false.2 fun x hx => by simp [this x hx]
    rw [e]; rfl
  | some i =>
    obtain ⟨hi, hp, _⟩ := List.findIdx?_eq_some_iff_getElem.1 h
    have e : xs.any p = true := List.any_eq_true.2 ⟨_, List.getElem_mem hi, hp⟩
    rw [e]; exact decide_eq_true (Int.natCast_nonneg i)
/-! A row filtered in place: i elements are kept of the j that were looked at. -/
structure DelInv {α : Type} (p : α → Bool) (xs ws : List α) (i j : Nat) : Prop where
  len : ws.length = xs.length
  le : i ≤ j
  lj : j ≤ xs.length
  kept : ws.take i = (xs.take j).filter fun x => !p x
  rest : ws.drop j = xs.drop j
theorem DelInv.get {α : Type} {p : α → Bool} {xs ws : List α} {i j : Nat} (h : DelInv p xs ws i j) {x : α} (hx : ws[j]? = some x) : xs[j]? = some x := by
  have h1 : (ws.drop j)[0]? = (xs.drop j)[0]? := by rw [h.rest]
  rw [List.getElem?_drop, List.getElem?_drop, Nat.add_zero] at h1
  rw [← h1]; exact hx
theorem DelInv.skip {α : Type} {p : α → Bool} {xs ws : List α} {i j : Nat} {x : α} (h : DelInv p xs ws i j) (hx : ws[j]? = some x) (hp : p x = true) : DelInv p xs ws i (j + 1) := by
  have hx' := h.get hx
  have hl := (List.getElem?_eq_some_iff.1 hx').1
  refine ⟨h.len, by have := h.le; omega, by omega, ?_, ?_⟩
  · rw [List.take_add_one, hx', List.filter_append, ← h.kept]; simp [hp]
  · rw [← List.drop_drop, ← List.drop_drop, h.rest]
theorem DelInv.keep {α : Type} {p : α → Bool} {xs ws : List α} {i j : Nat} {x : α} (h : DelInv p xs ws i j) (hx : ws[j]? = some x) (hp : p x = false) : DelInv p xs (ws.set i x) (i + 1) (j + 1) := by
  have hx' := h.get hx
  have hl := (List.getElem?_eq_some_iff.1 hx').1
  have hle := h.le
  have hlen := h.len
  refine ⟨by rw [List.length_set]; exact h.len, by omega, by omega, ?_, ?_⟩
  · rw [List.take_add_one, List.take_add_one, hx', List.filter_append, ← h.kept]
    rw [List.take_set_of_le (by omega), List.getElem?_set_self (by omega)]
    simp [hp]
  · rw [List.drop_set_of_lt (by omega), ← List.drop_drop, ← List.drop_drop, h.rest]
theorem DelInv.done {α : Type} {p : α → Bool} {xs ws : List α} {i j : Nat} (h : DelInv p xs ws i j) (hj : xs.length ≤ j) : ws.take i = xs.filter fun x => !p x := by
  rw [h.kept, List.take_of_length_le hj]
end Go.Sl

namespace Go.Sl
abbrev rB (p : Option Addr) (xs : Bs) (c : Nat) : Res := row (.slice p xs.length c) 5 1 xs.length (BX xs)
abbrev sB {α : Type} (p : Option Addr) (xs : List α) (c : Nat) : Value := .slice p xs.length c
abbrev pp (b o : Nat) : Value := .pointer (some ⟨b, o, none⟩)
theorem kU {β : Base} {L : List Res} {h : PHeap} {p : Option Addr} {m c T : Nat} {bs : Bs} (kn : ∀ F, Knows β L F → F h) (i : Nat) (hi : L[i]? = some (row (.slice p m c) T 1 m (BX bs))) : Sl U8R h (.slice p m c) bs := kn (fun h => Sl U8R h (.slice p m c) bs) (Knows.of_res i hi (Sl.mono U8R _ _) fun _ h => row_u8 h)
theorem kB {β : Base} {L : List Res} {a : Addr} {cs : List Value} (h : Cs β.heap a cs) : Knows β L (fun h => Cs h a cs) := Knows.of_base (Cs.mono _ _) h
section
variable {P : Program} {ro : Option Nat} {n : Nat} {ds : List Deferred} {β : Base} {Q : Exit → Act → World → Prop} {f g : Fm} {L L' M : List Res} {ops : Array Oper} {rest : List Oper}
variable {d : Nat} {op : Op} {ty : TypeId} {ps : String} {af : Array Edge} {v : Value} {gd : Option (Nat × Bool)}
theorem lv (h : EV P β L f ⟨some d, op, ty, ps, af, none⟩ v) (k : RunL P ro n ds β ops Q rest (upd f d v) L) (hn : Nat.blt d n = true := by rfl) : RunL P ro n ds β ops Q (⟨some d, op, ty, ps, af, none⟩ :: rest) f L := l_val rfl rfl hn h k
theorem lu (h : MU P β L f ⟨none, op, ty, ps, af, none⟩ L') (k : RunL P ro n ds β ops Q rest f L') : RunL P ro n ds β ops Q (⟨none, op, ty, ps, af, none⟩ :: rest) f L := l_mu rfl rfl h k
theorem f_pi {e : Exit} (ix : List Nat) (m : Nat) (hm : L.length = m) (h : (List.range m).isPerm ix = true) (k : Fin n ds β Q e f (ix.filterMap (L[·]?))) : Fin n ds β Q e f L := f_perm (perm_ix ix m hm h rfl) k
theorem c_pi {c : Code} (ix : List Nat) (m : Nat) (hm : L.length = m) (h : (List.range m).isPerm ix = true) (k : RunC P ro n ds β c Q f (ix.filterMap (L[·]?))) : RunC P ro n ds β c Q f L := c_perm (perm_ix ix m hm h rfl) k
theorem lnf {y : Code} (h : RunC P ro n ds β y Q f L) : RunL P ro n ds β ops (Exit.then (y.wpIn (Fe ro) 3 P Q) Q) [] f L := l_nil (f_then h)
theorem csr {id : Nat} {l : List Oper} {y : Code} (h : RunL P ro n ds β l.toArray (Exit.then (y.wpIn (Fe ro) 3 P Q) Q) l f L) : RunC P ro n ds β (.seq (.region id l.toArray false) y) Q f L := c_seq (c_region h)
theorem lnc {id : Nat} {l : List Oper} {y : Code} (h : RunL P ro n ds β l.toArray (Exit.then (y.wpIn (Fe ro) 3 P Q) Q) l f L) : RunL P ro n ds β ops (Exit.then ((Code.seq (.region id l.toArray false) y).wpIn (Fe ro) 3 P Q) Q) [] f L := lnf (csr h)
theorem lnr {id : Nat} {l : List Oper} (h : RunL P ro n ds β l.toArray Q l f L) : RunL P ro n ds β ops (Exit.then ((Code.region id l.toArray false).wpIn (Fe ro) 3 P Q) Q) [] f L := lnf (c_region h)
theorem ftc {e : Exit → Act → World → Prop} {id : Nat} {l : List Oper} {y : Code} (h : RunL P ro n ds β l.toArray (Exit.then (y.wpIn (Fe ro) 3 P e) e) l f L) : Fin n ds β (Exit.then ((Code.seq (.region id l.toArray false) y).wpIn (Fe ro) 3 P e) e) .normal f L := f_then (csr h)
theorem fts {x y : Code} (h : RunC P ro n ds β x (Exit.then (y.wpIn (Fe ro) 3 P Q) Q) f L) : Fin n ds β (Exit.then ((Code.seq x y).wpIn (Fe ro) 3 P Q) Q) .normal f L := f_then (c_seq h)
theorem ftr (h : Fin n ds β Q .ret f L) : Fin n ds β (Exit.then (Code.ret.wpIn (Fe ro) 3 P Q) Q) .normal f L := f_then (c_ret h)
theorem csk {y : Code} (h : RunC P ro n ds β y Q f L) : RunC P ro n ds β .skip (Exit.then (y.wpIn (Fe ro) 3 P Q) Q) f L := c_skip (f_then h)
theorem cs2 {x y z : Code} (h : RunC P ro n ds β x (Exit.then (y.wpIn (Fe ro) 3 P (Exit.then (z.wpIn (Fe ro) 3 P Q) Q)) (Exit.then (z.wpIn (Fe ro) 3 P Q) Q)) f L) : RunC P ro n ds β (.seq (.seq x y) z) Q f L := c_seq (c_seq h)
theorem cl0 {d : Option Tmp} {c : Operand} {xs : List Operand} {ts : Array TypeId} {g : FuncId} {vs : List Value} (hg : cfB P g = true) (hx : ev f c = .func (.func g) #[] #[]) (ha : xs.map (ev f) = vs) : CL P f ⟨d, .call ⟨.value c, xs.toArray, ts⟩, ty, ps, af, gd⟩ g vs.toArray :=
  cl_value (fst := []) (cap := []) hg hx ha (by simp)
theorem lcf {g : FuncId} {args : Array Value} (he : CL P f ⟨some d, op, ty, ps, af, none⟩ g args) (hn : Nat.blt d n = true)
    (hc : ∀ w β1, Sub β.heap β1.heap → (∀ F, Knows β L F → F β1.heap) → St β1 [] w → (∀ L' w', St β1 L' w' → St β (L' ++ L) w') → Calls P g args w fun e w' => ∃ v, e = .returned v ∧ ∃ L', St β L' w' ∧ RunL P ro n ds β ops Q rest (upd f d v) L') :
    RunL P ro n ds β ops Q (⟨some d, op, ty, ps, af, none⟩ :: rest) f L := l_call rfl rfl hn he fun w hw => by
  obtain ⟨β1, sb, kn, hw1, back⟩ := St.frame_all hw
  exact hc w β1 sb kn hw1 back
theorem obv {k : Fm → Prop} {out : Fm → List Res} (e : g = f) (hk : k (upd f d v)) (h : EV P β L' g ⟨some d, op, ty, ps, af, none⟩ v) (hp : L'.Perm (out (upd f d v) ++ M)) (hL : L = L') (hn : Nat.blt d n = true := by rfl) :
    RunL P ro n ds β ops (Qn (Owes n ds β (some d) k f out M)) [⟨some d, op, ty, ps, af, none⟩] f L := ob_start hL e (l_val rfl rfl hn h (l_nil (f_owes_d e hk hp)))
theorem ob0 {k : Fm → Prop} {out : Fm → List Res} (e : g = f) (hk : k (upd f d v)) (h : EV P β M g ⟨some d, op, ty, ps, af, none⟩ v) (hp : M.Perm (out (upd f d v) ++ M)) (hL : L = M := by rfl) (hn : Nat.blt d n = true := by rfl) :
    RunL P ro n ds β ops (Qn (Owes n ds β (some d) k f out M)) [⟨some d, op, ty, ps, af, none⟩] f L := obv e hk h hp hL hn
theorem obg {j x : Nat} {b : Bool} {k : Fm → Prop} {out : Fm → List Res} (e : g = f) (h : EV P β L' g ⟨some d, op, ty, ps, af, some (j, b)⟩ v) (ho : (ops[j]?).bind (·.dst) = some x) (hf : g x = .bool b) (hn : Nat.blt d n = true) (hk : k (upd f d v)) (hp : L'.Perm (out (upd f d v) ++ M)) (hL : L = L') :
    RunL P ro n ds β ops (Qn (Owes n ds β (some d) k f out M)) [⟨some d, op, ty, ps, af, some (j, b)⟩] f L := ob_start hL e (g_val rfl ho hf rfl hn h (l_nil (f_owes_d e hk hp)))
end
end Go.Sl

namespace Go.Sl
class TyC (P : Program) (t : TypeId) (agg : outParam Bool) (n : outParam Nat) : Prop where ok : tyB P t agg n = true
class FldC (P : Program) (s k : Nat) (off n : outParam Nat) (agg : outParam Bool) : Prop where ok : fldB P s k off n agg = true
class UndC (P : Program) (t : TypeId) (e : outParam TypeId) : Prop where ok : P.underlying t = some (.slice e)
class ZerC (P : Program) (t : Nat) (z : outParam Value) : Prop where ok : (P.info? t).bind (·.zero) = some z
class CfC (P : Program) (g : FuncId) : Prop where ok : cfB P g = true
class ArrC (P : Program) (t : Nat) (len e n : outParam Nat) : Prop where ok : arB P t len e n = true

section
variable {P : Program} {β : Base} {f : Fm} {L : List Res} {d : Option Tmp} {ty : TypeId} {ps : String} {af : Array Edge} {g : Option (Nat × Bool)} {x y : Operand}
theorem omi {k : IntKind} {a : Int} (hx : ev f x = .int k a := by first | rfl | assumption) : EV P β L f ⟨d, .move x, ty, ps, af, g⟩ (.int k a) := hx ▸ e_move
theorem oai {k : IntKind} {a : Int} (hx : ev f x = .int k a := by first | rfl | assumption) : EV P β L f ⟨d, .assign x, ty, ps, af, g⟩ (.int k a) := hx ▸ e_assign
theorem omb {c : Bool} (hx : ev f x = .bool c := by first | rfl | assumption) : EV P β L f ⟨d, .move x, ty, ps, af, g⟩ (.bool c) := hx ▸ e_move
theorem oab {c : Bool} (hx : ev f x = .bool c := by first | rfl | assumption) : EV P β L f ⟨d, .assign x, ty, ps, af, g⟩ (.bool c) := hx ▸ e_assign
theorem omp {q : Option Addr} (hx : ev f x = .pointer q := by first | rfl | assumption) : EV P β L f ⟨d, .move x, ty, ps, af, g⟩ (.pointer q) := hx ▸ e_move
theorem oap {q : Option Addr} (hx : ev f x = .pointer q := by first | rfl | assumption) : EV P β L f ⟨d, .assign x, ty, ps, af, g⟩ (.pointer q) := hx ▸ e_assign
theorem oms {q : Option Addr} {i j : Nat} (hx : ev f x = .slice q i j := by first | rfl | assumption) : EV P β L f ⟨d, .move x, ty, ps, af, g⟩ (.slice q i j) := hx ▸ e_move
theorem oas {q : Option Addr} {i j : Nat} (hx : ev f x = .slice q i j := by first | rfl | assumption) : EV P β L f ⟨d, .assign x, ty, ps, af, g⟩ (.slice q i j) := hx ▸ e_assign
theorem omt {vs : Array Value} (hx : ev f x = .tuple vs := by first | rfl | assumption) : EV P β L f ⟨d, .move x, ty, ps, af, g⟩ (.tuple vs) := hx ▸ e_move
theorem omf {fn : Fn} {vs us : Array Value} (hx : ev f x = .func fn vs us := by first | rfl | assumption) : EV P β L f ⟨d, .move x, ty, ps, af, g⟩ (.func fn vs us) := hx ▸ e_move
theorem oaf {fn : Fn} {vs us : Array Value} (hx : ev f x = .func fn vs us := by first | rfl | assumption) : EV P β L f ⟨d, .assign x, ty, ps, af, g⟩ (.func fn vs us) := hx ▸ e_assign
theorem oktb {c : Bool} {c0 : Operand} (hc : ev f c0 = .bool true := by first | rfl | assumption) (hx : ev f x = .bool c := by first | rfl | assumption) : EV P β L f ⟨d, .pick c0 x y, ty, ps, af, g⟩ (.bool c) := hx ▸ e_pick_t hc
theorem okfb {c : Bool} {c0 : Operand} (hc : ev f c0 = .bool false := by first | rfl | assumption) (hx : ev f y = .bool c := by first | rfl | assumption) : EV P β L f ⟨d, .pick c0 x y, ty, ps, af, g⟩ (.bool c) := hx ▸ e_pick_f hc
theorem ofp {s k off m : Nat} {ag : Bool} {b o : Nat} [h : FldC P s k off m ag] (hx : ev f x = .pointer (some ⟨b, o, none⟩) := by first | rfl | assumption) : EV P β L f ⟨d, .fieldAddr s x k, ty, ps, af, g⟩ (.pointer (some ⟨b, o + off, none⟩)) := e_fieldPt hx h.ok
theorem ofa {s k off m : Nat} {ag : Bool} {a : Addr} [h : FldC P s k off m ag] (hx : ev f x = .pointer (some a) := by first | rfl | assumption) : EV P β L f ⟨d, .fieldAddr s x k, ty, ps, af, g⟩ (.pointer (some (a.add off))) := e_fieldAddr hx h.ok
theorem oln {a : Option Addr} {m c : Nat} {t e : TypeId} [h : UndC P t e] (hx : ev f x = .slice a m c := by first | rfl | assumption) : EV P β L f ⟨d, .call ⟨.builtin .len, #[x], #[t]⟩, ty, ps, af, g⟩ (.int .i64 (m : Int)) := e_len hx h.ok
theorem onp {a : Addr} (hx : ev f x = .pointer (some a) := by first | rfl | assumption) : EV P β L f ⟨d, .nilCheck x, ty, ps, af, g⟩ (.pointer (some a)) := e_nil hx
theorem oli {t b o : Nat} {cs : Array Value} {T : TypeId} {fr : Nat × Nat} {k : IntKind} {a : Int} [h : TyC P t false 1] (i0 : Nat) (hx : ev f x = .pointer (some ⟨b, o, none⟩) := by first | rfl | assumption) (hi : L[i0]? = some (pt b (.cells cs T fr)) := by rfl) (hv : (cs.toList.drop o).take 1 = [.int k a] := by rfl) : EV P β L f ⟨d, .load t x, ty, ps, af, g⟩ (.int k a) := e_load1 h.ok hx (k_pt i0 hi hv)
theorem olb {t b o : Nat} {cs : Array Value} {T : TypeId} {fr : Nat × Nat} {c : Bool} [h : TyC P t false 1] (i0 : Nat) (hx : ev f x = .pointer (some ⟨b, o, none⟩) := by first | rfl | assumption) (hi : L[i0]? = some (pt b (.cells cs T fr)) := by rfl) (hv : (cs.toList.drop o).take 1 = [.bool c] := by rfl) : EV P β L f ⟨d, .load t x, ty, ps, af, g⟩ (.bool c) := e_load1 h.ok hx (k_pt i0 hi hv)
theorem olp {t b o : Nat} {cs : Array Value} {T : TypeId} {fr : Nat × Nat} {q : Option Addr} [h : TyC P t false 1] (i0 : Nat) (hx : ev f x = .pointer (some ⟨b, o, none⟩) := by first | rfl | assumption) (hi : L[i0]? = some (pt b (.cells cs T fr)) := by rfl) (hv : (cs.toList.drop o).take 1 = [.pointer q] := by rfl) : EV P β L f ⟨d, .load t x, ty, ps, af, g⟩ (.pointer q) := e_load1 h.ok hx (k_pt i0 hi hv)
theorem ols {t b o : Nat} {cs : Array Value} {T : TypeId} {fr : Nat × Nat} {q : Option Addr} {i j : Nat} [h : TyC P t false 1] (i0 : Nat) (hx : ev f x = .pointer (some ⟨b, o, none⟩) := by first | rfl | assumption) (hi : L[i0]? = some (pt b (.cells cs T fr)) := by rfl) (hv : (cs.toList.drop o).take 1 = [.slice q i j] := by rfl) : EV P β L f ⟨d, .load t x, ty, ps, af, g⟩ (.slice q i j) := e_load1 h.ok hx (k_pt i0 hi hv)
theorem olg {t b o : Nat} {cs : Array Value} {T : TypeId} {fr : Nat × Nat} {m : Nat} {us : List Value} [h : TyC P t true m] (i0 : Nat) (hx : ev f x = .pointer (some ⟨b, o, none⟩) := by first | rfl | assumption) (hi : L[i0]? = some (pt b (.cells cs T fr)) := by rfl) (hv : (cs.toList.drop o).take m = us := by rfl) (hl : us.length = m := by rfl) : EV P β L f ⟨d, .load t x, ty, ps, af, g⟩ (.agg us.toArray) := e_load h.ok hx (k_pt i0 hi (by rw [hl]; exact hv)) hl
theorem olt {t t' : TypeId} {k : IntKind} {a b : Int} (hx : ev f x = .int k a := by first | rfl | assumption) (hy : ev f y = .int k b := by first | rfl | assumption) : EV P β L f ⟨d, .binOp .lss t x y t', ty, ps, af, g⟩ (.bool (decide (a < b))) := e_lss hx hy
theorem ole {t t' : TypeId} {k : IntKind} {a b : Int} (hx : ev f x = .int k a := by first | rfl | assumption) (hy : ev f y = .int k b := by first | rfl | assumption) : EV P β L f ⟨d, .binOp .leq t x y t', ty, ps, af, g⟩ (.bool (decide (a ≤ b))) := e_leq hx hy
theorem ogt {t t' : TypeId} {k : IntKind} {a b : Int} (hx : ev f x = .int k a := by first | rfl | assumption) (hy : ev f y = .int k b := by first | rfl | assumption) : EV P β L f ⟨d, .binOp .gtr t x y t', ty, ps, af, g⟩ (.bool (decide (b < a))) := e_gtr hx hy
theorem oge {t t' : TypeId} {k : IntKind} {a b : Int} (hx : ev f x = .int k a := by first | rfl | assumption) (hy : ev f y = .int k b := by first | rfl | assumption) : EV P β L f ⟨d, .binOp .geq t x y t', ty, ps, af, g⟩ (.bool (decide (b ≤ a))) := e_geq hx hy
theorem oeq_ {t t' : TypeId} {k : IntKind} {a b : Int} (hx : ev f x = .int k a := by first | rfl | assumption) (hy : ev f y = .int k b := by first | rfl | assumption) : EV P β L f ⟨d, .binOp .eql t x y t', ty, ps, af, g⟩ (.bool (decide (a = b))) := e_eql hx hy
theorem onq {t t' : TypeId} {k : IntKind} {a b : Int} (hx : ev f x = .int k a := by first | rfl | assumption) (hy : ev f y = .int k b := by first | rfl | assumption) : EV P β L f ⟨d, .binOp .neq t x y t', ty, ps, af, g⟩ (.bool (decide (a ≠ b))) := e_neq hx hy
theorem opl {t t' : TypeId} {a b : Int} (hx : ev f x = .int .i64 a := by first | rfl | assumption) (hy : ev f y = .int .i64 b := by first | rfl | assumption) (h : -9223372036854775808 ≤ a + b ∧ a + b ≤ 9223372036854775807 := by omega) : EV P β L f ⟨d, .binOp .add t x y t', ty, ps, af, g⟩ (.int .i64 (a + b)) := e_add hx hy (i64w h)
theorem omn {t t' : TypeId} {a b : Int} (hx : ev f x = .int .i64 a := by first | rfl | assumption) (hy : ev f y = .int .i64 b := by first | rfl | assumption) (h : -9223372036854775808 ≤ a - b ∧ a - b ≤ 9223372036854775807 := by omega) : EV P β L f ⟨d, .binOp .sub t x y t', ty, ps, af, g⟩ (.int .i64 (a - b)) := e_sub hx hy (i64w h)
theorem otm {t t' : TypeId} {a b : Int} (hx : ev f x = .int .i64 a := by first | rfl | assumption) (hy : ev f y = .int .i64 b := by first | rfl | assumption) (h : -9223372036854775808 ≤ a * b ∧ a * b ≤ 9223372036854775807 := by omega) : EV P β L f ⟨d, .binOp .mul t x y t', ty, ps, af, g⟩ (.int .i64 (a * b)) := e_mul hx hy (i64w h)
theorem opn {t t' : TypeId} {a b : Nat} (hx : ev f x = .int .i64 (a : Int) := by rfl) (hy : ev f y = .int .i64 (b : Int) := by rfl) (h : a + b ≤ 9223372036854775807 := by omega) : EV P β L f ⟨d, .binOp .add t x y t', ty, ps, af, g⟩ (.int .i64 ((a + b : Nat) : Int)) := e_add hx hy (i64n (by omega) h)
theorem ont {t : Nat} {c : Bool} (hx : ev f x = .bool c := by first | rfl | assumption) : EV P β L f ⟨d, .unOp .not t x, ty, ps, af, g⟩ (.bool (!c)) := e_not hx
theorem ond {t : Nat} {p : Prop} [Decidable p] (hx : ev f x = .bool (decide p) := by first | rfl | assumption) : EV P β L f ⟨d, .unOp .not t x, ty, ps, af, g⟩ (.bool (decide ¬ p)) := e_not_p hx
theorem oxi {us' : Array Value} {i' : Nat} {k : IntKind} {a : Int} (hx : ev f x = .tuple us' := by first | rfl | assumption) (hv : us'[i']? = some (.int k a) := by rfl) : EV P β L f ⟨d, .extract x i', ty, ps, af, g⟩ (.int k a) := e_extract hx hv
theorem oxb {us' : Array Value} {i' : Nat} {c : Bool} (hx : ev f x = .tuple us' := by first | rfl | assumption) (hv : us'[i']? = some (.bool c) := by rfl) : EV P β L f ⟨d, .extract x i', ty, ps, af, g⟩ (.bool c) := e_extract hx hv
theorem oxp {us' : Array Value} {i' : Nat} {q : Option Addr} (hx : ev f x = .tuple us' := by first | rfl | assumption) (hv : us'[i']? = some (.pointer q) := by rfl) : EV P β L f ⟨d, .extract x i', ty, ps, af, g⟩ (.pointer q) := e_extract hx hv
theorem oxs {us' : Array Value} {i' : Nat} {q : Option Addr} {i j : Nat} (hx : ev f x = .tuple us' := by first | rfl | assumption) (hv : us'[i']? = some (.slice q i j) := by rfl) : EV P β L f ⟨d, .extract x i', ty, ps, af, g⟩ (.slice q i j) := e_extract hx hv
theorem oxa {us' : Array Value} {i' : Nat} {vs : Array Value} (hx : ev f x = .tuple us' := by first | rfl | assumption) (hv : us'[i']? = some (.agg vs) := by rfl) : EV P β L f ⟨d, .extract x i', ty, ps, af, g⟩ (.agg vs) := e_extract hx hv
end

section
variable {P : Program} {ro : Option Nat} {n : Nat} {ds : List Deferred} {β : Base} {Q : Exit → Act → World → Prop} {f : Fm} {L : List Res} {ops : Array Oper} {rest : List Oper}
variable {d : Nat} {op : Op} {ty : TypeId} {ps : String} {af : Array Edge} {v : Value}
theorem lE (h : EV P β L f ⟨some d, op, ty, ps, af, none⟩ v) (k : RunL P ro n ds β ops Q rest (upd f d v) L) (hn : Nat.blt d n = true := by rfl) : RunL P ro n ds β ops Q (⟨some d, op, ty, ps, af, none⟩ :: rest) f L := l_val rfl rfl hn h k
theorem qE (h : EV P β L f ⟨some d, op, ty, ps, af, none⟩ v) (k : RunQ P n ds β ops Q rest (upd f d v) L) (hn : Nat.blt d n = true := by rfl) : RunQ P n ds β ops Q (⟨some d, op, ty, ps, af, none⟩ :: rest) f L := q_val rfl rfl hn h k
theorem gE {j e : Nat} {b : Bool} (h : EV P β L f ⟨some d, op, ty, ps, af, some (j, b)⟩ v) (k : RunL P ro n ds β ops Q rest (upd f d v) L) (ho : (ops[j]?).bind (·.dst) = some e := by rfl) (hf : f e = .bool b := by rfl) (hn : Nat.blt d n = true := by rfl) : RunL P ro n ds β ops Q (⟨some d, op, ty, ps, af, some (j, b)⟩ :: rest) f L := g_val rfl ho hf rfl hn h k
theorem clA {d : Option Tmp} {c : Operand} {xs : List Operand} {ts : Array TypeId} {g : FuncId} {vs : List Value} [h : CfC P g] (hx : ev f c = .func (.func g) #[] #[] := by rfl) (ha : xs.map (ev f) = vs := by rfl) : CL P f ⟨d, .call ⟨.value c, xs.toArray, ts⟩, ty, ps, af, none⟩ g vs.toArray := cl0 h.ok hx ha
theorem lcR {g : FuncId} {args : Array Value} {u : Value} (he : CL P f ⟨some d, op, ty, ps, af, none⟩ g args) (hc : ∀ w β1, Sub β.heap β1.heap → (∀ F, Knows β L F → F β1.heap) → St β1 [] w → Calls P g args w fun r w' => r = .returned u ∧ St β1 [] w') (k : RunL P ro n ds β ops Q rest (upd f d u) L) (hn : Nat.blt d n = true := by rfl) :
    RunL P ro n ds β ops Q (⟨some d, op, ty, ps, af, none⟩ :: rest) f L := lcf he hn fun w β1 sb kn hw1 back => (hc w β1 sb kn hw1).mono fun e w' ⟨h1, h2⟩ => ⟨u, h1, L, back [] w' h2, k⟩
theorem getx {α : Type} (l : List α) (k : Nat) (h : k < l.length) : ∃ x, l[k]? = some x := ⟨_, List.getElem?_eq_getElem h⟩
theorem alE {t : Nat} {z : Value} [h : ZerC P t z] (k : ∀ b : Nat, RunL P ro n ds β ops Q rest (upd f d (.pointer (some ⟨b, 0, none⟩))) (pt b (.cells z.cells t) :: L)) (hn : Nat.blt d n = true := by rfl) : RunL P ro n ds β ops Q (⟨some d, .alloc t, ty, ps, af, none⟩ :: rest) f L :=
  l_mv rfl rfl hn (m_alloc h.ok) fun v L' ⟨b, h1, h2⟩ => by subst h1; subst h2; exact k b
theorem skE {j e : Nat} {b b' : Bool} (k : RunL P ro n ds β ops Q rest (upd f d undef) L) (ho : (ops[j]?).bind (·.dst) = some e := by rfl) (hf : f e = .bool b := by rfl) (hb : (b == b') = false := by rfl) (hn : Nat.blt d n = true := by rfl) : RunL P ro n ds β ops Q (⟨some d, op, ty, ps, af, some (j, b')⟩ :: rest) f L := l_skip rfl ho hf hb rfl hn k
theorem obE {M : List Res} {k : Fm → Prop} {out : Fm → List Res} (h : EV P β L f ⟨some d, op, ty, ps, af, none⟩ v) (hk : k (upd f d v) := by rfl) (hp : L.Perm (out (upd f d v) ++ M) := by first | exact List.Perm.refl _ | exact perm_front 0 rfl) (hn : Nat.blt d n = true := by rfl) :
    RunL P ro n ds β ops (Qn (Owes n ds β (some d) k f out M)) [⟨some d, op, ty, ps, af, none⟩] f L := obv rfl hk h hp rfl hn
theorem obG {M : List Res} {j e : Nat} {b : Bool} {k : Fm → Prop} {out : Fm → List Res} (h : EV P β L f ⟨some d, op, ty, ps, af, some (j, b)⟩ v) (ho : (ops[j]?).bind (·.dst) = some e := by rfl) (hf : f e = .bool b := by first | rfl | assumption) (hk : k (upd f d v) := by rfl) (hp : L.Perm (out (upd f d v) ++ M) := by first | exact List.Perm.refl _ | exact perm_front 0 rfl) (hn : Nat.blt d n = true := by rfl) :
    RunL P ro n ds β ops (Qn (Owes n ds β (some d) k f out M)) [⟨some d, op, ty, ps, af, some (j, b)⟩] f L := obg rfl h ho hf hn hk hp rfl
theorem bxp {t : Nat} {x : Operand} {q : Option Addr} (k' : ∀ b0 : Nat, RunL P ro n ds β ops Q rest (upd f d (.pointer (some ⟨b0, 0, none⟩))) (pt b0 (.cells (Value.cells (.pointer q)) t) :: L)) (hx : ev f x = .pointer q := by rfl) (hn : Nat.blt d n = true := by rfl) : RunL P ro n ds β ops Q (⟨some d, .box t x, ty, ps, af, none⟩ :: rest) f L :=
  l_mv rfl rfl hn (m_box hx) fun v L' ⟨b0, h1, h2⟩ => by subst h1; subst h2; exact k' b0
theorem bxs {t : Nat} {x : Operand} {q : Option Addr} {i j : Nat} (k' : ∀ b0 : Nat, RunL P ro n ds β ops Q rest (upd f d (.pointer (some ⟨b0, 0, none⟩))) (pt b0 (.cells (Value.cells (.slice q i j)) t) :: L)) (hx : ev f x = .slice q i j := by rfl) (hn : Nat.blt d n = true := by rfl) : RunL P ro n ds β ops Q (⟨some d, .box t x, ty, ps, af, none⟩ :: rest) f L :=
  l_mv rfl rfl hn (m_box hx) fun v L' ⟨b0, h1, h2⟩ => by subst h1; subst h2; exact k' b0
theorem bxa {t : Nat} {x : Operand} {vs : Array Value} (k' : ∀ b0 : Nat, RunL P ro n ds β ops Q rest (upd f d (.pointer (some ⟨b0, 0, none⟩))) (pt b0 (.cells (Value.cells (.agg vs)) t) :: L)) (hx : ev f x = .agg vs := by rfl) (hn : Nat.blt d n = true := by rfl) : RunL P ro n ds β ops Q (⟨some d, .box t x, ty, ps, af, none⟩ :: rest) f L :=
  l_mv rfl rfl hn (m_box hx) fun v L' ⟨b0, h1, h2⟩ => by subst h1; subst h2; exact k' b0
end
end Go.Sl
