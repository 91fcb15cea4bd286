/-
 Own work; plain Lean (SlClear, SlMp, SlMp2, SlMp3, SlScope, TdDef, TdMap).
-/
import Derived.Test.YtjejfkajcbdgjaaGreatSlFlat
import Derived.Maps.RangeRun
import Derived.Test.YtjejfkajcbdgjaaGreatSlNum
import Derived.Scope
import Derived.Test.YtjejfkajcbdgjaaGreatProg
namespace Go.Sl
section
variable {P : Program} {ro : Option Nat} {n : Nat} {ds : List Deferred} {β : Base} {Q : Exit → Act → World → Prop} {f : Fm} {L : List Res} {ops : Array Oper} {rest : List Oper}
variable {d : Option Tmp} {ty : TypeId} {ps : String} {af : Array Edge} {g : Option (Nat × Bool)}
theorem s_mem0 {o : Oper} (hd : o.dst = none)
  (hv : ∀ w, St β L w → ∃ v w' L', (execOp (ev f) o).run P w = .ok (.value v) w' ∧ St β L' w' ∧ RunL P ro n ds β ops Q rest f L') : Step1 P ro n ds β o Q (wpListIn (Fe ro) 3 P ops Q rest) f L := by
 intro a w ha hw
 obtain ⟨v, w', L', hr, hw', k⟩ := hv w hw
 refine ⟨fun _ _ => trivial, ?_⟩
 rw [ha.eval, semAt_of hr (by simp), hr, Oper.uponIn_value, hd]
 exact k _ w' ha hw'
theorem l_mc {o : Oper} {Post : Value → List Res → Prop} (hg : o.guard = none) (hd : o.dst = none) (h : MV P β L f o Post) (k : ∀ v L', Post v L' → RunL P ro n ds β ops Q rest f L') : RunL P ro n ds β ops Q (o :: rest) f L :=
 l_step hg (s_mem0 hd fun w hw => let ⟨v, w', L', hr, hw', hp⟩ := h w hw; ⟨v, w', L', hr, hw', k v L' hp⟩)
end
end Go.Sl

namespace Go.Sl
/-- how a kind of map lies in memory -/
structure MapK (P : Program) (κ ν : Type) where
 t : Nat
 kt : Nat
 et : Nat
 dec : DecidableEq κ
 enc : κ → Value
 encv : ν → Value
 zv : ν
 ht : P.underlying t = some (.map kt et)
 hz : (P.info? et).bind (·.zero) = some (encv zv)
 chk : ∀ e a w, (Instr.checkKey e 10000 kt (enc a)).run P w = .ok () w
 find : ∀ (k : κ) (ks : List κ) (es : List MapEntry) (w : World), es.map (·.key) = ks.map enc → ∃ r, (Instr.findKey kt (enc k) es).run P w = .ok r w ∧
  (match r with | none => k ∉ ks | some (j, v) => ks[j]? = some k ∧ (es[j]?).map (·.val) = some v)
 bits : ∀ a, Instr.sameBits 10000 (enc a) (enc a) = true
section
variable {P : Program} {κ ν : Type}
/-- keys that are found at once (numbers) -/
theorem find_plain {kt : Nat} {d : TypeDesc} {enc : κ → Value} [DecidableEq κ] (hd : P.underlying kt = some d) (hs : ∀ a b, Instr.sameNow d (enc a) (enc b) = some (decide (a = b)))
  (k : κ) (ks : List κ) (es : List MapEntry) (w : World) (h : es.map (·.key) = ks.map enc) : ∃ r, (Instr.findKey kt (enc k) es).run P w = .ok r w ∧
   (match r with | none => k ∉ ks | some (j, v) => ks[j]? = some k ∧ (es[j]?).map (·.val) = some v) := by
 have key : ∀ (ks : List κ) (es : List MapEntry) (i : Nat), es.map (·.key) = ks.map enc → ∃ r, Instr.findNow d (enc k) es i = some r ∧
   (match r with | none => k ∉ ks | some (j, v) => i ≤ j ∧ ks[j - i]? = some k ∧ (es[j - i]?).map (·.val) = some v) := by
  intro ks
  induction ks with
  | nil =>
   intro es i h
   cases es with
   | nil => exact ⟨none, rfl, by simp⟩
   | cons e es => simp at h
  | cons a ks ih =>
   intro es i h
   cases es with
   | nil => simp at h
   | cons e es =>
    simp only [List.map_cons, List.cons.injEq] at h
    unfold Instr.findNow
    rw [h.1, hs]
    by_cases ek : k = a
    ·subst ek; exact ⟨some (i, e.val), by simp, by simp⟩
    ·obtain ⟨r', hr', hx⟩ := ih es (i + 1) h.2
     refine ⟨r', by simp [ek, hr'], ?_⟩
     cases r' with
     | none => simp only [List.mem_cons, not_or]; exact ⟨ek, hx⟩
     | some p =>
      obtain ⟨g1, g2, g3⟩ := hx
      refine ⟨by omega, ?_, ?_⟩
      ·rw [show p.1 - i = (p.1 - (i + 1)) + 1 by omega, List.getElem?_cons_succ]; exact g2
      ·rw [show p.1 - i = (p.1 - (i + 1)) + 1 by omega, List.getElem?_cons_succ]; exact g3
 obtain ⟨r, hr, hx⟩ := key ks es 0 h
 refine ⟨r, by simp [Instr.findKey, run_underlying hd, hr], ?_⟩
 cases r with
 | none => exact hx
 | some p => exact ⟨by simpa using hx.2.1, by simpa using hx.2.2⟩
variable (K : MapK P κ ν)
def MapK.look (ks : List (κ × ν)) (k : κ) : Option ν := (ks.find? fun p => @decide (p.1 = k) (K.dec _ _)).map (·.2)
def MapK.put (ks : List (κ × ν)) (k : κ) (v : ν) : List (κ × ν) := if (K.look ks k).isSome then ks.map (fun p => @ite _ (p.1 = k) (K.dec _ _) (k, v) p) else ks ++ [(k, v)]
def MapK.del (ks : List (κ × ν)) (k : κ) : List (κ × ν) := ks.filter fun p => !@decide (p.1 = k) (K.dec _ _)
/-- the entries of a map that holds ks, no two of the same birth -/
structure MapC (ks : List (κ × ν)) (es : Array MapEntry) (clock : Nat) : Prop where
 cells : es.toList.map (fun e => (e.key, e.val)) = ks.map fun p => (K.enc p.1, K.encv p.2)
 keys : (ks.map (·.1)).Nodup
 births : (es.toList.map (·.born)).Nodup
 old : ∀ e ∈ es.toList, e.born < clock
def mpR (b : Nat) (ks : List (κ × ν)) : Res := fun h => ∃ es clock, h b = some (.map es clock) ∧ MapC K ks es clock
theorem mpR.mono (b : Nat) (ks : List (κ × ν)) : Mono (mpR K b ks) := fun _ _ hs ⟨es, c, h, k⟩ => ⟨es, c, hs _ _ h, k⟩
variable {K}
theorem MapC.ks {ks : List (κ × ν)} {es : Array MapEntry} {c : Nat} (h : MapC K ks es c) : es.toList.map (·.key) = (ks.map (·.1)).map K.enc := by
 have := congrArg (List.map (·.1)) h.cells
 simpa [List.map_map, Function.comp_def] using this
theorem MapC.at {ks : List (κ × ν)} {es : Array MapEntry} {c : Nat} (h : MapC K ks es c) (j : Nat) : (es.toList[j]?).map (fun e => (e.key, e.val)) = (ks[j]?).map fun p => (K.enc p.1, K.encv p.2) := by
 have := congrArg (fun l => l[j]?) h.cells
 simpa using this
theorem look_at {ks : List (κ × ν)} (hn : (ks.map (·.1)).Nodup) {k : κ} {v : ν} {j : Nat} (h : ks[j]? = some (k, v)) : K.look ks k = some v := by
 unfold MapK.look
 obtain ⟨hj, e⟩ := List.getElem?_eq_some_iff.1 h
 have hf : (ks.find? fun p => @decide (p.1 = k) (K.dec _ _)) = some (k, v) := by
  rw [List.find?_eq_some_iff_getElem]
  refine ⟨by simp, j, hj, e, fun i hi => ?_⟩
  have := List.nodup_iff_pairwise_ne.1 hn
  rw [List.pairwise_map, List.pairwise_iff_getElem] at this
  have h2 := this i j (by omega) hj hi
  rw [e] at h2
  simpa using h2
 rw [hf]; rfl
theorem look_none {ks : List (κ × ν)} {k : κ} : K.look ks k = none ↔ k ∉ ks.map (·.1) := by
 unfold MapK.look
 rw [Option.map_eq_none_iff, List.find?_eq_none]
 simp only [decide_eq_true_eq, List.mem_map, not_exists, not_and]
theorem look_mem {ks : List (κ × ν)} {k : κ} {v : ν} (h : K.look ks k = some v) : (k, v) ∈ ks := by
 unfold MapK.look at h
 rw [Option.map_eq_some_iff] at h
 obtain ⟨p, hp, rfl⟩ := h
 have h1 := List.find?_some hp
 have h2 := List.mem_of_find?_eq_some hp
 simp only [decide_eq_true_eq] at h1
 subst h1; exact h2
end
end Go.Sl

namespace Go.Sl
open Go.ChangeMaps (setBlock)
section
variable {P : Program} {κ ν : Type} {K : MapK P κ ν} {ro : Option Nat} {n : Nat} {ds : List Deferred} {β : Base} {Q : Exit → Act → World → Prop} {f : Fm} {L : List Res} {ops : Array Oper} {rest : List Oper}
variable {d : Option Tmp} {ty : TypeId} {ps : String} {af : Array Edge} {g : Option (Nat × Bool)}
theorem mpR_nil (b : Nat) (a : PHeap) (h : pt b (.map #[] 0) a) : mpR K b [] a := ⟨#[], 0, h, rfl, List.nodup_nil, List.nodup_nil, fun e he => by simp at he⟩
theorem m_mkmap {t : Nat} : MV P β L f ⟨d, .makeMap t none, ty, ps, af, g⟩ (fun u L' => ∃ b, u = .map (some b) ∧ L' = mpR K b [] :: L) := fun w hw => by
 refine ⟨_, _, _, ?_, (hw.new (.map #[] 0)).conseq fun a h => mpR_nil _ a h, _, rfl, rfl⟩
 simp [execOp, Instr.makeMap]
theorem zero_mp (K : MapK P κ ν) (w : World) : (zeroValue K.et).run P w = .ok (K.encv K.zv) w := by
 have hz := K.hz
 cases hi : P.info? K.et with
 | none => rw [hi] at hz; cases hz
 | some i => rw [hi] at hz; have hz' : i.zero = some (K.encv K.zv) := by simpa using hz
       simp [zeroValue, typeInfo, hi, hz']
theorem found_mp {ks : List (κ × ν)} {es : Array MapEntry} {c : Nat} (hc : MapC K ks es c) (k : κ) (w : World) : ∃ r, (Instr.findKey K.kt (K.enc k) es.toList).run P w = .ok r w ∧
  (match r with | none => K.look ks k = none | some (j, v) => ∃ u, K.look ks k = some u ∧ v = K.encv u ∧ ks[j]? = some (k, u)) := by
 obtain ⟨r, hr, hx⟩ := K.find k (ks.map (·.1)) es.toList w hc.ks
 refine ⟨r, hr, ?_⟩
 cases r with
 | none => exact look_none.2 hx
 | some p =>
  obtain ⟨j, v⟩ := p
  obtain ⟨h1, h2⟩ := hx
  have h1 : (ks.map (·.1))[j]? = some k := h1
  have h2 : (es.toList[j]?).map (·.val) = some v := h2
  have ha := hc.at j
  rw [List.getElem?_map] at h1
  cases hj : ks[j]? with
  | none => rw [hj] at h1; cases h1
  | some q =>
   obtain ⟨k', u⟩ := q
   rw [hj] at h1 ha
   simp only [Option.map_some, Option.some.injEq] at h1
   subst h1
   cases he : es.toList[j]? with
   | none => rw [he] at h2; cases h2
   | some e =>
    rw [he] at h2 ha
    simp only [Option.map_some, Option.some.injEq, Prod.mk.injEq] at h2 ha
    exact ⟨u, look_at hc.keys hj, by rw [← h2, ha.2], hj⟩
theorem e_look2 {x y : Operand} {t b : Nat} {ks : List (κ × ν)} {k : κ} (ht : t = K.t) (hx : ev f x = .map (some b)) (hy : ev f y = K.enc k) (hm : Knows β L (mpR K b ks)) :
  EV P β L f ⟨d, .lookup t x y true, ty, ps, af, g⟩ (.tuple #[K.encv ((K.look ks k).getD K.zv), .bool (K.look ks k).isSome]) := fun w hw => by
 obtain ⟨es, c, hb, hc⟩ := hw.knows hm
 have hb : w.heap[b]? = some (.map es c) := hb
 obtain ⟨r, hr, hx'⟩ := found_mp hc k w
 have hg : (getObj b).run P w = .ok (.map es c) w := run_getM hb
 subst ht
 simp only [execOp, Instr.lookup, Sem.run_bind, run_underlying K.ht, Result.andThen_ok, hx, hy, hg, Sem.run_pure, K.chk, hr]
 cases r with
 | none =>
  have hl : K.look ks k = none := hx'
  simp [zero_mp, hl]
 | some p =>
  obtain ⟨j, v⟩ := p
  obtain ⟨u, hl, hv, _⟩ := hx'
  simp [hl, hv]
theorem e_mlen {x : Operand} {t b : Nat} {ks : List (κ × ν)} (ht : t = K.t) (hx : ev f x = .map (some b)) (hm : Knows β L (mpR K b ks)) :
  EV P β L f ⟨d, .call ⟨.builtin .len, #[x], #[t]⟩, ty, ps, af, g⟩ (Nx ks.length) := fun w hw => by
 obtain ⟨es, c, hb, hc⟩ := hw.knows hm
 have hb : w.heap[b]? = some (.map es c) := hb
 have hg : (getObj b).run P w = .ok (.map es c) w := run_getM hb
 have hl : es.size = ks.length := by have := congrArg List.length hc.cells; simpa using this
 subst ht
 simp [execOp, resolve, invoke, builtin, hx, Builtin.len_, run_underlying K.ht, hg, hl]
 rfl
theorem run_eqmap_nil (w : World) {t k e : Nat} (b : Option Nat) (h : P.underlying t = some (.map k e)) : (Op.equal t (.map b) (.map none)).run P w = .ok b.isNone w := by
 unfold Op.equal
 show (Op.equalIn (9999 + 1) t (.map b) (.map none)).run P w = _
 unfold Op.equalIn
 cases b <;> simp [run_underlying h]
theorem e_eql_mnil {t t' k e : Nat} {x y : Operand} {b : Option Nat} (hx : ev f x = .map b) (hy : ev f y = .map none) (h : P.underlying t = some (.map k e)) : EV P β L f ⟨d, .binOp .eql t x y t', ty, ps, af, g⟩ (.bool b.isNone) := fun w _ => by
 have hb : (binOp .eql t (.map b) (.map none)).run P w = .ok (.bool b.isNone) w := by
  simp only [binOp]
  simp [run_eqmap_nil w b h]
 simp [execOp, hx, hy, eqGuard, hb]
/-- a map of one's own, opened -/
theorem St.mp_open {w : World} {b : Nat} {ks : List (κ × ν)} (i : Nat) (hw : St β L w) (hi : L[i]? = some (mpR K b ks)) : ∃ es c, w.heap[b]? = some (.map es c) ∧ MapC K ks es c ∧ St β (L.set i (Sl.pt b (.map es c))) w := by
 obtain ⟨es, c, hb, hc⟩ := hw.knows (Knows.of_res i hi (mpR.mono K b ks) fun _ h => h)
 have hb : w.heap[b]? = some (.map es c) := hb
 refine ⟨es, c, hb, hc, St.back i hi <| ?_⟩
 have h := hw.front i hi
 refine h.turn rfl rfl rfl fun a ha hr => ?_
 obtain ⟨es', c', hb', hc'⟩ := hr
 have e := ha _ _ hb'
 have e' : w.heap[b]? = some (.map es' c') := e
 rw [hb] at e'
 injection e' with e'; injection e' with e1 e2; subst e1; subst e2
 exact ⟨a, hb', ha, fun _ h1 h2 => ⟨h2, rfl⟩⟩
theorem St.mp_put {w : World} {b : Nat} {ks ks' : List (κ × ν)} {es es' : Array MapEntry} {c c' : Nat} (i : Nat) (hi : L[i]? = some (mpR K b ks)) (hb : w.heap[b]? = some (.map es c)) (hw' : St β (L.set i (Sl.pt b (.map es c))) w) (hc' : MapC K ks' es' c') :
  St β (L.set i (mpR K b ks')) { w with heap := w.heap.setIfInBounds b (.map es' c') } := by
 have hli : i < L.length := (List.getElem?_eq_some_iff.1 hi).1
 have hb' : b < w.heap.size := (Array.getElem?_eq_some_iff.1 hb).1
 have h := (hw'.front i (r := Sl.pt b (.map es c)) (by simp [hli])).put (w' := { w with heap := w.heap.setIfInBounds b (.map es' c') }) (o' := .map es' c') rfl rfl rfl (by simp [hb']) fun k' hk' _ => by
  simp [Ne.symm hk']
 have h2 := h.conseq (r' := mpR K b ks') fun a ha => ⟨es', c', ha, hc'⟩
 have h3 := St.back (L := L.set i (Sl.pt b (.map es c))) i (r := Sl.pt b (.map es c)) (by simp [hli]) h2
 simpa using h3
theorem MapC.push {ks : List (κ × ν)} {es : Array MapEntry} {c : Nat} (h : MapC K ks es c) {k : κ} {v : ν} (hl : K.look ks k = none) : MapC K (K.put ks k v) (es.push { key := K.enc k, val := K.encv v, born := c }) (c + 1) := by
 have hp : K.put ks k v = ks ++ [(k, v)] := by unfold MapK.put; rw [hl]; rfl
 rw [hp]
 refine ⟨by simp [h.cells], ?_, ?_, ?_⟩
 ·rw [List.map_append, List.nodup_append]
  refine ⟨h.keys, by simp, fun a ha b hb => ?_⟩
  simp at hb
  rw [hb]
  rintro rfl
  exact look_none.1 hl ha
 ·simp only [Array.toList_push, List.map_append, List.map_cons, List.map_nil]
  rw [List.nodup_append]
  refine ⟨h.births, by simp, fun a ha b hb => ?_⟩
  simp at hb
  rw [hb]
  obtain ⟨e, he, rfl⟩ := List.mem_map.1 ha
  have := h.old e he
  omega
 ·intro e he
  simp only [Array.toList_push, List.mem_append, List.mem_singleton] at he
  rcases he with he | rfl
  ·have := h.old e he; omega
  ·show c < c + 1; omega
theorem keys_ne {ks : List (κ × ν)} (hn : (ks.map (·.1)).Nodup) {i j : Nat} {p q : κ × ν} (hi : ks[i]? = some p) (hj : ks[j]? = some q) (h : i ≠ j) : p.1 ≠ q.1 := by
 intro e
 obtain ⟨h1, e1⟩ := List.getElem?_eq_some_iff.1 hi
 obtain ⟨h2, e2⟩ := List.getElem?_eq_some_iff.1 hj
 have := List.nodup_iff_pairwise_ne.1 hn
 rw [List.pairwise_map, List.pairwise_iff_getElem] at this
 rcases Nat.lt_or_gt_of_ne h with hlt | hlt
 ·have := this i j h1 h2 hlt; rw [e1, e2] at this; exact this e
 ·have := this j i h2 h1 hlt; rw [e1, e2] at this; exact this e.symm
theorem MapC.turn {ks : List (κ × ν)} {es : Array MapEntry} {c j : Nat} (h : MapC K ks es c) {k : κ} {u v : ν} (hj : ks[j]? = some (k, u)) : MapC K (K.put ks k v) (es.modify j fun e => { e with key := K.enc k, val := K.encv v }) c := by
 have hp : K.put ks k v = ks.map (fun p => @ite _ (p.1 = k) (K.dec _ _) (k, v) p) := by unfold MapK.put; rw [look_at h.keys hj]; rfl
 have hkeys : (K.put ks k v).map (·.1) = ks.map (·.1) := by
  rw [hp, List.map_map]
  refine List.map_congr_left fun p _ => ?_
  simp only [Function.comp]
  split
  ·rename_i e; exact e.symm
  ·rfl
 have hes : (es.modify j fun e => { e with key := K.enc k, val := K.encv v }).toList = es.toList.modify j fun e => { e with key := K.enc k, val := K.encv v } := by simp
 refine ⟨?_, by rw [hkeys]; exact h.keys, ?_, ?_⟩
 ·rw [hes, hp]
  apply List.ext_getElem?
  intro i
  have ha := h.at i
  simp only [List.getElem?_map, List.getElem?_modify]
  cases hi : ks[i]? with
  | none =>
   rw [hi] at ha
   cases he : es.toList[i]? with
   | none => simp
   | some e => rw [he] at ha; cases ha
  | some p =>
   rw [hi] at ha
   cases he : es.toList[i]? with
   | none => rw [he] at ha; cases ha
   | some e =>
    rw [he] at ha
    simp only [Option.map_some, Option.some.injEq, Prod.mk.injEq] at ha
    by_cases hij : j = i
    ·subst hij
     rw [hj] at hi
     injection hi with hi
     subst hi
     simp
    ·have hne : ¬ p.1 = k := keys_ne h.keys hi hj (fun q => hij q.symm)
     simp [hij, hne, ha]
 ·rw [hes]
  have : (es.toList.modify j fun e => { e with key := K.enc k, val := K.encv v }).map (·.born) = es.toList.map (·.born) := by
   apply List.ext_getElem?
   intro i
   simp only [List.getElem?_map, List.getElem?_modify]
   by_cases hij : j = i
   ·subst hij; cases es.toList[j]? <;> simp
   ·simp [hij]
  rw [this]; exact h.births
 ·intro e he
  rw [hes] at he
  obtain ⟨i, hi⟩ := List.getElem?_of_mem he
  rw [List.getElem?_modify] at hi
  cases he2 : es.toList[i]? with
  | none => rw [he2] at hi; simp at hi
  | some e2 =>
   rw [he2] at hi
   have hb := h.old e2 (List.mem_of_getElem? he2)
   by_cases hij : j = i
   ·subst hij; simp at hi; rw [← hi]; exact hb
   ·simp [hij] at hi; rw [← hi]; exact hb
theorem m_mput {x y z : Operand} {t b : Nat} {ks : List (κ × ν)} {k : κ} {v : ν} (i : Nat) (ht : t = K.t) (hx : ev f x = .map (some b)) (hy : ev f y = K.enc k) (hv : ev f z = K.encv v) (hi : L[i]? = some (mpR K b ks)) :
  MU P β L f ⟨d, .mapUpdate t x y z, ty, ps, af, g⟩ (L.set i (mpR K b (K.put ks k v))) := fun w hw => by
 obtain ⟨es, c, hb, hc, hw'⟩ := hw.mp_open i hi
 obtain ⟨r, hr, hx'⟩ := found_mp hc k w
 have hg : (getObj b).run P w = .ok (.map es c) w := run_getM hb
 subst ht
 simp only [execOp, Instr.mapUpdate, Sem.run_bind, run_underlying K.ht, Result.andThen_ok, hx, hy, hv, hg, K.chk, hr]
 cases r with
 | none =>
  have hl : K.look ks k = none := hx'
  refine ⟨_, ?_, St.mp_put i hi hb hw' (hc.push (v := v) hl)⟩
  simp [run_setM _ hb]
 | some p =>
  obtain ⟨j, u⟩ := p
  obtain ⟨u', hl, hu, hj⟩ := hx'
  have hst : ∀ w, (Instr.keyThatStays (K.enc k) (K.enc k)).run P w = .ok (K.enc k) w := fun w => by
   unfold Instr.keyThatStays
   rw [if_pos (K.bits k)]; rfl
  have hej : ((es[j]?).map (·.key)).getD (K.enc k) = K.enc k := by
   have ha := hc.at j
   rw [hj] at ha
   cases he : es[j]? with
   | none => rfl
   | some e =>
    have he' : es.toList[j]? = some e := by simpa using he
    rw [he'] at ha
    simp only [Option.map_some, Option.some.injEq, Prod.mk.injEq] at ha
    simp [ha.1]
  refine ⟨_, ?_, St.mp_put i hi hb hw' (hc.turn (v := v) hj)⟩
  simp only [hej, Sem.run_bind, hst, Result.andThen_ok]
  simp [run_setM _ hb]
theorem erase_filter : ∀ {ks : List (κ × ν)} {j : Nat} {k : κ} {u : ν}, (ks.map (·.1)).Nodup → ks[j]? = some (k, u) → K.del ks k = ks.eraseIdx j
 | [], _, _, _, _, h => by simp at h
 | p :: ks, 0, k, u, hn, h => by
  injection h with h; subst h
  unfold MapK.del
  rw [List.filter_cons]
  simp only [decide_true, Bool.not_true, Bool.false_eq_true, if_false, List.eraseIdx_cons_zero]
  rw [List.filter_eq_self]
  intro q hq
  rw [List.map_cons, List.nodup_cons] at hn
  have : q.1 ≠ k := fun e => hn.1 (List.mem_map.2 ⟨q, hq, e⟩)
  simp [this]
 | p :: ks, j + 1, k, u, hn, h => by
  have hk : p.1 ≠ k := keys_ne hn (i := 0) (j := j + 1) rfl h (by omega)
  rw [List.map_cons, List.nodup_cons] at hn
  have ih := erase_filter hn.2 (by simpa using h)
  unfold MapK.del at ih ⊢
  rw [List.filter_cons, List.eraseIdx_cons_succ, ← ih]
  simp [hk]
theorem MapC.erase {ks : List (κ × ν)} {es : Array MapEntry} {c j : Nat} (h : MapC K ks es c) {k : κ} {u : ν} (hj : ks[j]? = some (k, u)) : MapC K (K.del ks k) (es.eraseIdxIfInBounds j) c := by
 have hl : es.toList.length = ks.length := by have := congrArg List.length h.cells; simpa using this
 have hes : (es.eraseIdxIfInBounds j).toList = es.toList.eraseIdx j := by
  unfold Array.eraseIdxIfInBounds
  split
  ·simp
  ·rw [List.eraseIdx_of_length_le (by simp; omega)]
 have hm : ∀ {α β : Type} (f : α → β) (l : List α), (l.eraseIdx j).map f = (l.map f).eraseIdx j := fun f l => Go.ChangeMaps.map_eraseIdx f l j
 refine ⟨?_, ?_, ?_, ?_⟩
 ·rw [erase_filter h.keys hj, hes, hm, hm, h.cells]
 ·rw [erase_filter h.keys hj, hm]; exact h.keys.sublist (List.eraseIdx_sublist _ _)
 ·rw [hes, hm]; exact h.births.sublist (List.eraseIdx_sublist _ _)
 ·intro e he; rw [hes] at he; exact h.old e (List.mem_of_mem_eraseIdx he)
theorem del_none {ks : List (κ × ν)} {k : κ} (h : K.look ks k = none) : K.del ks k = ks := by
 unfold MapK.del
 rw [List.filter_eq_self]
 intro p hp
 have : p.1 ≠ k := fun e => look_none.1 h (List.mem_map.2 ⟨p, hp, e⟩)
 simp [this]
theorem m_mdel {x y : Operand} {t t2 b : Nat} {ks : List (κ × ν)} {k : κ} (i : Nat) (ht : t = K.t) (hx : ev f x = .map (some b)) (hy : ev f y = K.enc k) (hi : L[i]? = some (mpR K b ks)) :
  MV P β L f ⟨d, .call ⟨.builtin .delete, #[x, y], #[t, t2]⟩, ty, ps, af, g⟩ (fun v L' => v = .tuple #[] ∧ L' = L.set i (mpR K b (K.del ks k))) := fun w hw => by
 obtain ⟨es, c, hb, hc, hw'⟩ := hw.mp_open i hi
 obtain ⟨r, hr, hx'⟩ := found_mp hc k w
 have hg : (getObj b).run P w = .ok (.map es c) w := run_getM hb
 subst ht
 simp only [execOp, resolve, invoke, builtin, Sem.run_bind, Sem.run_pure, Result.andThen_ok, List.map_toArray, List.map_cons, List.map_nil, hx, hy, Builtin.delete_, List.getElem?_toArray, List.getElem?_cons_zero, List.getElem?_cons_succ, run_underlying K.ht, hg, K.chk, hr]
 cases r with
 | none =>
  have hl : K.look ks k = none := hx'
  refine ⟨.tuple #[], _, _, ?_, St.mp_put i hi hb hw' (ks' := K.del ks k) (by rw [del_none hl]; exact hc), rfl, rfl⟩
  simp [run_setM _ hb]
 | some p =>
  obtain ⟨j, u⟩ := p
  obtain ⟨u', hl, hu, hj⟩ := hx'
  refine ⟨.tuple #[], _, _, ?_, St.mp_put i hi hb hw' (hc.erase hj), rfl, rfl⟩
  simp [run_setM _ hb]
end
end Go.Sl

namespace Go.Sl
open Go.ChangeMaps (setBlock)
section
variable {P : Program} {κ ν : Type} (K : MapK P κ ν) {ro : Option Nat} {n : Nat} {ds : List Deferred} {β : Base} {Q : Exit → Act → World → Prop} {f : Fm} {L : List Res} {ops : Array Oper} {rest : List Oper}
variable {d : Option Tmp} {ty : TypeId} {ps : String} {af : Array Edge} {g : Option (Nat × Bool)}
/-- map b and an iterator r over it that has handed out pre -/
def rgR (b r : Nat) (ks pre : List (κ × ν)) : Res := fun h => ∃ (es : Array MapEntry) (clock : Nat) (seen : Array Nat) (zs dz rz : List (MapEntry × (κ × ν))),
 h b = some (.map es clock) ∧ h r = some (.mapIter (some b) clock seen clock) ∧ b ≠ r ∧ MapC K ks es clock ∧ es.toList = zs.map (·.1) ∧ ks = zs.map (·.2) ∧ (∀ z ∈ zs, z.1.key = K.enc z.2.1 ∧ z.1.val = K.encv z.2.2) ∧
 (dz ++ rz).Perm zs ∧ seen.toList = dz.map (·.1.born) ∧ pre = dz.map (·.2)
variable {K}
theorem rgR.mono (b r : Nat) (ks pre : List (κ × ν)) : Mono (rgR K b r ks pre) := fun _ _ hs ⟨es, c, se, zs, dz, rz, h1, h2, h⟩ => ⟨es, c, se, zs, dz, rz, hs _ _ h1, hs _ _ h2, h⟩
theorem MapC.zip {ks : List (κ × ν)} {es : Array MapEntry} {c : Nat} (h : MapC K ks es c) : ∃ zs : List (MapEntry × (κ × ν)), es.toList = zs.map (·.1) ∧ ks = zs.map (·.2) ∧ ∀ z ∈ zs, z.1.key = K.enc z.2.1 ∧ z.1.val = K.encv z.2.2 := by
 have key : ∀ (es : List MapEntry) (ks : List (κ × ν)), es.map (fun e => (e.key, e.val)) = ks.map (fun p => (K.enc p.1, K.encv p.2)) → ∃ zs : List (MapEntry × (κ × ν)), es = zs.map (·.1) ∧ ks = zs.map (·.2) ∧ ∀ z ∈ zs, z.1.key = K.enc z.2.1 ∧ z.1.val = K.encv z.2.2 := by
  intro es
  induction es with
  | nil =>
   intro ks h
   cases ks with
   | nil => exact ⟨[], rfl, rfl, by simp⟩
   | cons a ks => simp at h
  | cons e es ih =>
   intro ks h
   cases ks with
   | nil => simp at h
   | cons a ks =>
    simp only [List.map_cons, List.cons.injEq, Prod.mk.injEq] at h
    obtain ⟨zs, h1, h2, h3⟩ := ih ks h.2
    refine ⟨(e, a) :: zs, by simp [h1], by simp [h2], fun z hz => ?_⟩
    rcases List.mem_cons.1 hz with rfl | hz
    ·exact h.1
    ·exact h3 z hz
 exact key _ _ h.cells
/-! interfaces around maps, and clones -/
theorem e_mkiface {x : Operand} {t : Nat} {v : Value} {dd : TypeDesc} (hx : ev f x = v) (hu : P.underlying t = some dd) (hd : (match dd with | .interface _ => false | _ => true) = true) : EV P β L f ⟨d, .makeInterface t x, ty, ps, af, g⟩ (.iface t v) := fun w _ => by
 subst hx
 simp only [execOp, Instr.makeInterface, Sem.run_bind, run_underlying hu, Result.andThen_ok]
 cases dd <;> simp_all
theorem e_assert {x : Operand} {t xt : Nat} {v : Value} {dd : TypeDesc} (hx : ev f x = .iface t v) (hu : P.underlying t = some dd) (hd : (match dd with | .interface _ => false | _ => true) = true) : EV P β L f ⟨d, .typeAssert x xt t false, ty, ps, af, g⟩ v := fun w _ => by
 simp only [execOp, Instr.typeAssert, hx, Sem.run_bind, run_underlying hu, Result.andThen_ok]
 cases dd <;> simp_all
/-- maps.clone is a function of the machine's -/
def isClone (P : Program) (h : Nat) : Prop := ∃ fn, P.funcs[h]? = some fn ∧ (fn.name == "runtime.NumGoroutine") = false ∧ fn.body.isNone = true ∧ Extern.findNext fn = none ∧ Extern.find fn = some Extern.MapsClone.clone
theorem run_clone {t b : Nat} {es : Array MapEntry} {cl : Nat} {w : World} (hg : (getObj b).run P w = .ok (.map es cl) w) : (Extern.MapsClone.clone #[.iface t (.map (some b))]).run P w = .ok (.iface t (.map (some w.heap.size))) (w.alloc (.map es cl)) := by
 have e : Extern.MapsClone.clone #[.iface t (.map (some b))] = (getObj b >>= fun o => match o with
  | .map entries clock => (newObj (.map entries clock) >>= fun r => pure (.iface t (.map (some r))))
  | _ => stuck "maps.clone: a map expected") := rfl
 rw [e]
 simp [hg]
theorem m_clone {x c : Operand} {ts : Array TypeId} {t h b : Nat} {ks : List (κ × ν)} (i : Nat) (hc : ev f c = .func (.func h) #[] #[]) (hh : isClone P h) (hx : ev f x = .iface t (.map (some b))) (hm : L[i]? = some (mpR K b ks)) :
  MV P β L f ⟨d, .call ⟨.value c, #[x], ts⟩, ty, ps, af, g⟩ (fun v L' => ∃ b', v = .iface t (.map (some b')) ∧ L' = mpR K b' ks :: L) := fun w hw => by
 obtain ⟨es, cl, hb, hk⟩ := hw.knows (Knows.of_res i hm (mpR.mono K b ks) fun _ h => h)
 have hb : w.heap[b]? = some (.map es cl) := hb
 have hg : (getObj b).run P w = .ok (.map es cl) w := run_getM hb
 obtain ⟨fn, h1, h2, h3, h4, h5⟩ := hh
 refine ⟨.iface t (.map (some w.heap.size)), w.alloc (.map es cl), _, ?_, (hw.new (.map es cl)).conseq fun a ha => ⟨es, cl, ha, hk⟩, w.heap.size, rfl, rfl⟩
 have h2' : fn.name ≠ "runtime.NumGoroutine" := by simpa using h2
 have h3' : fn.body = none := by simpa using h3
 simp [execOp, resolve, hc, Deferred.ofValue, invoke, callFunc, h1, h2', h3', h4, h5, hx, run_clone hg]
end
end Go.Sl

namespace Go.Sl
section
variable {P : Program} {n : Nat} {ds : List Deferred} {β : Base} {Q : Exit → Act → World → Prop} {f : Fm} {L : List Res}
theorem c_scope {c : Code} (h : RunC P none n ds β c (Exit.noGoto Q) f L) : RunC P none n ds β (.scope c) Q f L := fun a w ha hw =>
 wpIn_wide.2 (wp_scope_straight (wpIn_wide.1 (h a w ha hw)))
theorem c_label {ro : Option Nat} {l : Nat} (h : Fin n ds β Q .normal f L) : RunC P ro n ds β (.label l) Q f L := fun a w ha hw => wpIn_label (h a w ha hw)
theorem f_scope_ret (h : Fin n ds β Q .ret f L) : Fin n ds β (Exit.noGoto Q) .ret f L := fun a w ha hw => h a w ha hw
end
section
variable {P : Program} {β : Base} {f : Fm} {L : List Res} {d : Option Tmp} {ty : TypeId} {ps : String} {af : Array Edge} {g : Option (Nat × Bool)} {κ ν : Type} {K : MapK P κ ν}
theorem m_minsert {x y z : Operand} {t b : Nat} {ks : List (κ × ν)} {k : κ} {v : ν} (i : Nat) (ht : t = K.t) (hx : ev f x = .map (some b)) (hy : ev f y = K.enc k) (hv : ev f z = K.encv v) (hi : L[i]? = some (mpR K b ks)) :
  MU P β L f ⟨d, .insert t x y z, ty, ps, af, g⟩ (L.set i (mpR K b (K.put ks k v))) := fun w hw =>
 m_mput (d := d) (ty := ty) (ps := ps) (af := af) (g := g) i ht hx hy hv hi w hw
end
end Go.Sl

namespace Go.Td
open Go.Sl
abbrev IntF : Fl Int := ⟨1, fun x => [Ix x], fun _ => rfl, fun _ => rfl, by decide⟩
/-- amounts -/
structure KAm where
 a0 : Int
 a1 : Int
 a2 : Int
 a3 : Int
deriving DecidableEq
abbrev amE (a : KAm) : List Value := [Ix a.a0, Ix a.a1, Ix a.a2, Ix a.a3]
abbrev amC (a : KAm) : Array Value := #[Ix a.a0, Ix a.a1, Ix a.a2, Ix a.a3]
def zeroA : KAm := ⟨0, 0, 0, 0⟩
def inA (n : Int) : Bool := decide (0 ≤ n) && decide (n ≤ 2147483647)
def KAm.within (a : KAm) : Bool := inA a.a0 && inA a.a1 && inA a.a2 && inA a.a3
def KAm.plus (a b : KAm) (s : Int) : KAm := ⟨a.a0 + s * b.a0, a.a1 + s * b.a1, a.a2 + s * b.a2, a.a3 + s * b.a3⟩
/-- within some bound, so that nothing wraps -/
def KAm.bd (a : KAm) (N : Int) : Prop := (-N ≤ a.a0 ∧ a.a0 ≤ N) ∧ (-N ≤ a.a1 ∧ a.a1 ≤ N) ∧ (-N ≤ a.a2 ∧ a.a2 ≤ N) ∧ (-N ≤ a.a3 ∧ a.a3 ≤ N)
theorem am_eq {x y : KAm} : amE x = amE y ↔ x = y := by
 constructor
 ·intro h; cases x; cases y; simp at h; obtain ⟨rfl, rfl, rfl, rfl⟩ := h; rfl
 ·rintro rfl; rfl
/-- an act -/
structure KAct where
 kind : UInt8
 owner : Int
 other : Int
 hold : Int
 a : KAm
deriving DecidableEq
abbrev actE (x : KAct) : List Value := [Bx x.kind, Ix x.owner, Ix x.other, Ix x.hold, Ix x.a.a0, Ix x.a.a1, Ix x.a.a2, Ix x.a.a3]
abbrev ActF : Fl KAct := ⟨8, actE, fun _ => rfl, fun _ => rfl, by decide⟩
theorem act_eq {x y : KAct} : actE x = actE y ↔ x = y := by
 constructor
 ·intro h
  obtain ⟨k, o, p, q, a⟩ := x; obtain ⟨k', o', p', q', a'⟩ := y; cases a; cases a'
  simp only [actE, List.cons.injEq, and_true, Value.int.injEq, true_and] at h
  obtain ⟨h0, rfl, rfl, rfl, rfl, rfl, rfl, rfl⟩ := h
  have : k = k' := by apply UInt8.toNat_inj.1; omega
  rw [this]
 ·rintro rfl; rfl
def ownB (n : Int) : Bool := decide (1 ≤ n) && decide (n ≤ 65536)
/-- what is put aside -/
structure KHo where
 number : Int
 owner : Int
 a : KAm
deriving DecidableEq
abbrev hoE (x : KHo) : List Value := [Ix x.number, Ix x.owner, Ix x.a.a0, Ix x.a.a1, Ix x.a.a2, Ix x.a.a3]
abbrev HoF : Fl KHo := ⟨6, hoE, fun _ => rfl, fun _ => rfl, by decide⟩
theorem ho_eq {x y : KHo} : hoE x = hoE y ↔ x = y := by
 constructor
 ·intro h; obtain ⟨n, o, a⟩ := x; obtain ⟨m, p, b⟩ := y; cases a; cases b; simp at h; obtain ⟨rfl, rfl, rfl, rfl, rfl, rfl⟩ := h; rfl
 ·rintro rfl; rfl
def zeroH : KHo := ⟨0, 0, zeroA⟩
/-- what became of a transaction -/
structure KRes where
 done : Bool
 at_ : Int
 e : Int
 holds : List Int
deriving DecidableEq
structure KDeal where
 author : Int
 number : Int
 acts : List KAct
deriving DecidableEq
structure KMem where
 d : KDeal
 r : KRes
deriving DecidableEq
/-- the header of a memory -/
structure KMh where
 author : Int
 number : Int
 p : Option Addr
 n : Nat
 c : Nat
 done : Bool
 at_ : Int
 e : Int
 q : Option Addr
 m : Nat
 k : Nat
abbrev mhE (x : KMh) : List Value := [Ix x.author, Ix x.number, .slice x.p x.n x.c, .bool x.done, Ix x.at_, Ix x.e, .slice x.q x.m x.k]
def zeroM : KMh := ⟨0, 0, none, 0, 0, false, 0, 0, none, 0, 0⟩
end Go.Td

namespace Go.Sl
section
variable {P : Program} {β : Base} {f : Fm} {L : List Res} {d : Option Tmp} {ty : TypeId} {ps : String} {af : Array Edge} {g : Option (Nat × Bool)} {κ ν : Type} {K : MapK P κ ν}
/-- a look-up that gives the element alone -/
theorem e_look1 {x y : Operand} {t b : Nat} {ks : List (κ × ν)} {k : κ} (ht : t = K.t) (hx : ev f x = .map (some b)) (hy : ev f y = K.enc k) (hm : Knows β L (mpR K b ks)) :
  EV P β L f ⟨d, .lookup t x y false, ty, ps, af, g⟩ (K.encv ((K.look ks k).getD K.zv)) := fun w hw => by
 obtain ⟨es, c, hb, hc⟩ := hw.knows hm
 have hb : w.heap[b]? = some (.map es c) := hb
 obtain ⟨r, hr, hx'⟩ := found_mp hc k w
 have hg : (getObj b).run P w = .ok (.map es c) w := run_getM hb
 subst ht
 simp only [execOp, Instr.lookup, Sem.run_bind, run_underlying K.ht, Result.andThen_ok, hx, hy, hg, Sem.run_pure, K.chk, hr]
 cases r with
 | none =>
  have hl : K.look ks k = none := hx'
  simp [zero_mp, hl]
 | some p =>
  obtain ⟨j, v⟩ := p
  obtain ⟨u, hl, hv, _⟩ := hx'
  simp [hl, hv]
end
end Go.Sl
namespace Go.Proofs
open Go Go.Sl Go.Td
noncomputable def PuM : MapK Tryz.prog Int KAm where
 t := 84
 kt := 3
 et := 44
 dec := inferInstance
 enc := fun x => Ix x
 encv := fun a => .agg (amC a)
 zv := zeroA
 ht := by kernel_rfl
 hz := by kernel_rfl
 chk := fun e a w => by
  unfold Instr.checkKey
  simp only [Sem.run_bind, run_underlying (show Tryz.prog.underlying 3 = some (.int .i64) by kernel_rfl), Result.andThen_ok]
  rfl
 find := find_plain (d := .int .i64) (by kernel_rfl) fun a b => congrArg some (show (a == b) = decide (a = b) by by_cases h : a = b <;> simp [h])
 bits := fun a => by unfold Instr.sameBits; simp
noncomputable def HoM : MapK Tryz.prog Int KHo where
 t := 85
 kt := 3
 et := 104
 dec := inferInstance
 enc := fun x => Ix x
 encv := fun a => .agg (hoE a).toArray
 zv := zeroH
 ht := by kernel_rfl
 hz := by kernel_rfl
 chk := fun e a w => by
  unfold Instr.checkKey
  simp only [Sem.run_bind, run_underlying (show Tryz.prog.underlying 3 = some (.int .i64) by kernel_rfl), Result.andThen_ok]
  rfl
 find := find_plain (d := .int .i64) (by kernel_rfl) fun a b => congrArg some (show (a == b) = decide (a = b) by by_cases h : a = b <;> simp [h])
 bits := fun a => by unfold Instr.sameBits; simp
noncomputable def MeM : MapK Tryz.prog Int KMh where
 t := 86
 kt := 3
 et := 82
 dec := inferInstance
 enc := fun x => Ix x
 encv := fun a => .agg (mhE a).toArray
 zv := zeroM
 ht := by kernel_rfl
 hz := by kernel_rfl
 chk := fun e a w => by
  unfold Instr.checkKey
  simp only [Sem.run_bind, run_underlying (show Tryz.prog.underlying 3 = some (.int .i64) by kernel_rfl), Result.andThen_ok]
  rfl
 find := find_plain (d := .int .i64) (by kernel_rfl) fun a b => congrArg some (show (a == b) = decide (a = b) by by_cases h : a = b <;> simp [h])
 bits := fun a => by unfold Instr.sameBits; simp
end Go.Proofs
