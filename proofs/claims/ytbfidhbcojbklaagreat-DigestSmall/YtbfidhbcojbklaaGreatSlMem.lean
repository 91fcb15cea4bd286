/-
  Operations on memory. Own work; plain Lean.
-/
import Derived.Test.YtbfidhbcojbklaaGreatSlOps
namespace Go.Sl
open Go.RowKit

def cellAt (h : PHeap) (a : Addr) : Option Value :=
  match h a.block with
  | some (.cells c _ _) => if a.spot.isSome then none else c[a.off]?
  | _ => none
theorem cellAt_ph (w : World) (a : Addr) : cellAt (ph w) a = w.cell? a := rfl
theorem cellAt_mono (a : Addr) (v : Value) : Mono (fun h => cellAt h a = some v) := by
  intro h h' hs hc
  unfold cellAt at *
  cases hb : h a.block with
  | none => rw [hb] at hc; cases hc
  | some o => rw [hs _ _ hb]; rw [hb] at hc; exact hc

/-- The cells at an address. -/
def Cs (h : PHeap) (a : Addr) (cs : List Value) : Prop := ∀ j v, cs[j]? = some v → cellAt h (a.add j) = some v
theorem Cs.mono (a : Addr) (cs : List Value) : Mono (fun h => Cs h a cs) := fun h h' hs hc j v hj => cellAt_mono _ _ h h' hs (hc j v hj)
theorem Cs.of_pt {h : PHeap} {b o : Nat} {cs : Array Value} {T : TypeId} {fr : Nat × Nat} (hb : h b = some (.cells cs T fr)) {vs : List Value} (hv : (cs.toList.drop o).take vs.length = vs) : Cs h ⟨b, o, none⟩ vs := by
  intro j v hj
  have e : (⟨b, o, none⟩ : Addr).add j = ⟨b, o + j, none⟩ := by unfold Addr.add; split <;> simp_all
  rw [e]
  have hlt : j < vs.length := (List.getElem?_eq_some_iff.1 hj).1
  rw [← hv, List.getElem?_take_of_lt hlt, List.getElem?_drop] at hj
  simpa [cellAt, hb] using hj

theorem Addr.add_add' (a : Addr) (m n : Nat) : (a.add m).add n = a.add (m + n) := by
  unfold Addr.add
  by_cases hm : m = 0 <;> by_cases hn : n = 0 <;> simp [hm, hn, Nat.add_assoc]
theorem Cs.sub {h : PHeap} {a : Addr} {cs vs : List Value} (o : Nat) (hc : Cs h a cs) (hv : (cs.drop o).take vs.length = vs) : Cs h (a.add o) vs := by
  intro j v hj
  have hlt : j < vs.length := (List.getElem?_eq_some_iff.1 hj).1
  rw [← hv, List.getElem?_take_of_lt hlt, List.getElem?_drop] at hj
  rw [Addr.add_add']; exact hc _ _ hj

/-- How values of a Lean type lie in cells. -/
structure Rp (α : Type) where
  n : Nat
  rep : PHeap → List Value → α → Prop
  len : ∀ h cs x, rep h cs x → cs.length = n
  mono : ∀ cs x, Mono (fun h => rep h cs x)

/-- A type without references. -/
def Rp.flat {α : Type} (n : Nat) (enc : α → List Value) (hl : ∀ x, (enc x).length = n) : Rp α :=
  ⟨n, fun _ cs x => cs = enc x, fun _ _ x h => by rw [h]; exact hl x, fun _ _ _ _ _ h => h⟩

def ba (a : Option Addr) : Addr := a.getD ⟨0, 0, none⟩

/-- The elements of a slice. -/
def Elems {α : Type} (R : Rp α) (h : PHeap) (a : Option Addr) (xs : List α) : Prop :=
  ∀ j x, xs[j]? = some x → a = some (ba a) ∧ ∃ cs, Cs h ((ba a).add (j * R.n)) cs ∧ R.rep h cs x
theorem Elems.mono {α : Type} (R : Rp α) (a : Option Addr) (xs : List α) : Mono (fun h => Elems R h a xs) := fun h h' hs he j x hx =>
  let ⟨ha, cs, hc, hr⟩ := he j x hx; ⟨ha, cs, Cs.mono _ _ h h' hs hc, R.mono _ _ h h' hs hr⟩

structure Sl {α : Type} (R : Rp α) (h : PHeap) (v : Value) (xs : List α) : Prop where
  get : ∃ a c, v = .slice a xs.length c ∧ xs.length ≤ c ∧ c ≤ 9223372036854775807 ∧ Elems R h a xs
theorem Sl.mono {α : Type} (R : Rp α) (v : Value) (xs : List α) : Mono (fun h => Sl R h v xs) := fun h h' hs ⟨a, c, e, hl, hm, he⟩ => ⟨a, c, e, hl, hm, Elems.mono R a xs h h' hs he⟩
def Rp.slice {α : Type} (R : Rp α) : Rp (List α) :=
  ⟨1, fun h cs xs => ∃ v, cs = [v] ∧ Sl R h v xs, fun _ _ _ ⟨_, e, _⟩ => by rw [e]; rfl, fun _ _ h h' hs ⟨v, e, hv⟩ => ⟨v, e, Sl.mono R v _ h h' hs hv⟩⟩

section
variable {P : Program} {β : Base} {L : List Res} {f : Fm}
variable {d : Option Tmp} {ty : TypeId} {ps : String} {af : Array Edge} {g : Option (Nat × Bool)}

theorem e_fieldAddr {x : Operand} {s k off n : Nat} {agg : Bool} {a : Addr} (hx : ev f x = .pointer (some a)) (hf : fldB P s k off n agg = true) :
    EV P β L f ⟨d, .fieldAddr s x k, ty, ps, af, g⟩ (.pointer (some (a.add off))) := fun w _ => by
  unfold fldB at hf
  cases hu : P.underlying s with
  | none => rw [hu] at hf; cases hf
  | some dd =>
    rw [hu] at hf
    cases dd <;> simp only [] at hf <;> try (cases hf)
    rename_i fs
    cases hk : fs[k]? with
    | none => rw [hk] at hf; cases hf
    | some fl =>
      rw [hk] at hf
      simp only [Bool.and_eq_true, Bool.not_eq_true', beq_eq_false_iff_ne, ne_eq, beq_iff_eq] at hf
      obtain ⟨⟨ho, ht⟩, hn⟩ := hf
      have hs := (tyF ht).size w
      simp [execOp, hx, Instr.fieldAt, run_underlying hu, hk, Instr.sureAddr, fieldPlace, hs, hn, ho]

theorem e_fieldPt {x : Operand} {s k off n : Nat} {agg : Bool} {b o : Nat} (hx : ev f x = .pointer (some ⟨b, o, none⟩)) (hf : fldB P s k off n agg = true) :
    EV P β L f ⟨d, .fieldAddr s x k, ty, ps, af, g⟩ (.pointer (some ⟨b, o + off, none⟩)) := by
  have h := e_fieldAddr (P := P) (β := β) (L := L) (d := d) (ty := ty) (ps := ps) (af := af) (g := g) hx hf
  have e : (⟨b, o, none⟩ : Addr).add off = ⟨b, o + off, none⟩ := by unfold Addr.add; split <;> simp_all
  rwa [e] at h

theorem e_indexAddr {x y : Operand} {t e n : Nat} {k len cap : Nat} {a : Option Addr} (hx : ev f x = .slice a len cap) (hy : ev f y = .int .i64 (k : Int)) (ht : slB P t e n = true) (hk : k < len) (ha : a = some (ba a)) :
    EV P β L f ⟨d, .indexAddr t x y, ty, ps, af, g⟩ (.pointer (some ((ba a).add (k * n)))) := fun w _ => by
  unfold slB at ht
  simp only [Bool.and_eq_true] at ht
  obtain ⟨h1, h2⟩ := ht
  cases hu : P.underlying t with
  | none => rw [hu] at h1; cases h1
  | some dd =>
    rw [hu] at h1
    cases dd <;> simp only [] at h1 <;> try (cases h1)
    rename_i e'
    have he : e' = e := by simpa using h1
    subst he
    cases hi : P.info? e' with
    | none => rw [hi] at h2; cases h2
    | some i =>
      rw [hi] at h2
      have hn : i.size = n := by simpa using h2
      rw [ha] at hx
      simp only [execOp, hx, hy, Instr.indexAt, asIntOf, Sem.run_bind, run_underlying hu, Sem.run_pure, Result.andThen_ok]
      simp [hk, sizeOf, typeInfo, hi, hn]

theorem e_index_a {x y : Operand} {t len e k : Nat} {cs : Array Value} {v : Value} (hx : ev f x = .agg cs) (hy : ev f y = .int .i64 (k : Int)) (ht : arB P t len e 1 = true) (hv : cs[k]? = some v) (hk : k < len) (hne : tyB P e false 1 = true) :
    EV P β L f ⟨d, .index t x y, ty, ps, af, g⟩ v := fun w _ => by
  unfold arB at ht
  simp only [Bool.and_eq_true] at ht
  obtain ⟨h1, h2⟩ := ht
  cases hu : P.underlying t with
  | none => rw [hu] at h1; cases h1
  | some dd =>
    rw [hu] at h1
    cases dd <;> simp only [] at h1 <;> try (cases h1)
    rename_i l' e'
    simp only [Bool.and_eq_true, beq_iff_eq] at h1
    obtain ⟨rfl, rfl⟩ := h1
    have hs := (tyF hne).size w
    have ha := (tyF hne).agg w
    simp only [execOp, hx, hy, Instr.index, asIntOf, Sem.run_bind, run_underlying hu, Sem.run_pure, Result.andThen_ok]
    simp [hk, hs, part, ha, hv]
theorem run_loadVar_cs {t : TypeId} {agg : Bool} {n : Nat} (ht : TyF P t agg n) {a : Addr} {cs : List Value} {w : World} (hc : Cs (ph w) a cs) (hl : cs.length = n) :
    (agg = true → (loadVar t a).run P w = .ok (.agg cs.toArray) w) ∧ (agg = false → ∀ v, cs = [v] → (loadVar t a).run P w = .ok v w) := by
  have hcell : ∀ j v, cs[j]? = some v → w.cell? (a.add j) = some v := fun j v hj => hc j v hj
  constructor
  · rintro rfl
    have h := run_loadCells_list (P := P) w a cs hcell
    rw [hl] at h
    simp [loadVar, ht.agg w, ht.size w, h]
  · rintro rfl v rfl
    have h := hcell 0 v rfl
    rw [Addr.add_zero'] at h
    simp [loadVar, ht.agg w, run_load, h]

theorem e_load {x : Operand} {t n : Nat} {a : Addr} {cs : List Value} (ht : tyB P t true n = true) (hx : ev f x = .pointer (some a)) (hk : Knows β L (fun h => Cs h a cs)) (hl : cs.length = n) :
    EV P β L f ⟨d, .load t x, ty, ps, af, g⟩ (.agg cs.toArray) := fun w hw => by
  have h := (run_loadVar_cs (tyF ht) (hw.knows hk) hl).1 rfl
  simp [execOp, hx, Instr.loadAt, Instr.sureAddr, h]
theorem e_load1 {x : Operand} {t : Nat} {a : Addr} {v : Value} (ht : tyB P t false 1 = true) (hx : ev f x = .pointer (some a)) (hk : Knows β L (fun h => Cs h a [v])) :
    EV P β L f ⟨d, .load t x, ty, ps, af, g⟩ v := fun w hw => by
  have h := (run_loadVar_cs (tyF ht) (hw.knows hk) rfl).2 rfl v rfl
  simp [execOp, hx, Instr.loadAt, Instr.sureAddr, h]

/-- the cells of a block of one's own -/
theorem k_pt {b o : Nat} {cs : Array Value} {T : TypeId} {fr : Nat × Nat} {vs : List Value} (i : Nat) (hi : L[i]? = some (pt b (.cells cs T fr))) (hv : (cs.toList.drop o).take vs.length = vs) :
    Knows β L (fun h => Cs h ⟨b, o, none⟩ vs) := Knows.of_res i hi (Cs.mono _ _) fun _ ha => Cs.of_pt ha hv

/-- Operation o yields some value and turns the resources. -/
def MV (P : Program) (β : Base) (L : List Res) (f : Fm) (o : Oper) (Post : Value → List Res → Prop) : Prop :=
  ∀ w, St β L w → ∃ v w' L', (execOp (ev f) o).run P w = .ok (.value v) w' ∧ St β L' w' ∧ Post v L'
/-- Operation o yields nothing and turns the resources. -/
def MU (P : Program) (β : Base) (L : List Res) (f : Fm) (o : Oper) (L' : List Res) : Prop :=
  ∀ w, St β L w → ∃ w', (execOp (ev f) o).run P w = .ok .skip w' ∧ St β L' w'

def newPt (b : Nat) (o : Obj) (L : List Res) (v : Value) (L' : List Res) : Prop := v = .pointer (some ⟨b, 0, none⟩) ∧ L' = pt b o :: L

theorem m_box {x : Operand} {t : Nat} {v : Value} (hx : ev f x = v) : MV P β L f ⟨d, .box t x, ty, ps, af, g⟩ (fun u L' => ∃ b, u = .pointer (some ⟨b, 0, none⟩) ∧ L' = pt b (.cells v.cells t) :: L) := fun w hw => by
  refine ⟨_, _, _, ?_, hw.new (.cells v.cells t), _, rfl, rfl⟩
  simp [execOp, hx, Instr.box, newVar, newRow]

theorem m_alloc {t : Nat} {v : Value} (hz : (P.info? t).bind (·.zero) = some v) : MV P β L f ⟨d, .alloc t, ty, ps, af, g⟩ (fun u L' => ∃ b, u = .pointer (some ⟨b, 0, none⟩) ∧ L' = pt b (.cells v.cells t) :: L) := fun w hw => by
  refine ⟨_, _, _, ?_, hw.new (.cells v.cells t), _, rfl, rfl⟩
  cases hi : P.info? t with
  | none => rw [hi] at hz; cases hz
  | some i =>
    rw [hi] at hz
    have hz' : i.zero = some v := by simpa using hz
    simp [execOp, Instr.alloc, zeroValue, typeInfo, hi, hz', newVar, newRow]

/-- write vs over cs from place o on -/
def over (cs : Array Value) (o : Nat) (vs : List Value) : Array Value := (cs.toList.take o ++ vs ++ cs.toList.drop (o + vs.length)).toArray

theorem m_store {x y : Operand} {t T n b o : Nat} {agg : Bool} {cs cs' : Array Value} {v : Value} (i : Nat) (ht : tyB P t agg n = true) (hx : ev f x = .pointer (some ⟨b, o, none⟩)) (hi : L[i]? = some (pt b (.cells cs T)))
    (hy : ev f y = v) (hn : v.cells.size = n) (hfit : Nat.ble (o + n) cs.size = true) (h1 : v.cells.toList.all (·.oneCell') = true) (hc : over cs o v.cells.toList = cs') :
    MU P β L f ⟨d, .store t x y, ty, ps, af, g⟩ (L.set i (pt b (.cells cs' T))) := fun w hw => by
  have hb := hw.pt i hi
  have hs := (tyF ht).size w
  have hst := run_storeCells_at P b o T v.cells.toList 0 cs w hb (by simpa [hn] using hfit) (List.all_eq_true.1 h1)
  simp only [Nat.add_zero] at hst
  refine ⟨w.setRow b cs', ?_, ?_⟩
  · rw [← hc]
    simp only [execOp, hx, hy, Instr.storeAt, Instr.sureAddr, Sem.run_bind, Sem.run_pure, Result.andThen_ok, storeVar, hs, hn, ne_eq, not_true_eq_false, if_false, hst, over]
  · refine St.back i hi ((hw.front i hi).put rfl rfl rfl (setRow_heap w b cs cs' T _ hb) fun k hk _ => setRow_other w b k cs' hk)

end
end Go.Sl
