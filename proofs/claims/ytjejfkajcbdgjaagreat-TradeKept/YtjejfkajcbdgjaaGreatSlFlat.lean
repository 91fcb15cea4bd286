/-
  Own work; plain Lean (SlMap, SlEq, SlJn, DgBase, SlByte, SlRf, SlFlat).
-/
import Derived.Test.YtjejfkajcbdgjaaGreatSlFam
import Derived.MapKept
import Derived.Test.YtjejfkajcbdgjaaGreatSlNum
import Derived.ChangeKeysEq
import Derived.Laws.StructEq
import Derived.Recover
import Derived.Laws.Pointers
import Derived.Laws.Cover3
namespace Go.Sl

theorem run_getM {P : Program} {w : World} {r : Nat} {es : Array MapEntry} {clock : Nat} (hb : w.heap[r]? = some (.map es clock)) : (getObj r).run P w = .ok (.map es clock) w := by
  simp [getObj, Sem.run, hb]
theorem run_setM {P : Program} {w : World} {r : Nat} {es : Array MapEntry} {clock : Nat} (o : Obj) (hb : w.heap[r]? = some (.map es clock)) : (setObj r o).run P w = .ok () { w with heap := w.heap.setIfInBounds r o } := by
  simp [setObj, Sem.run, hb]

/-- How keys of a Lean type lie in a map. -/
structure Key (κ : Type) where
  dec : DecidableEq κ
  enc : κ → Value
  d : TypeDesc
  same : ∀ a b, Instr.sameNow d (enc a) (enc b) = some (decide (a = b))
  bits : ∀ a, Instr.sameBits 10000 (enc a) (enc a) = true
  chk : ∀ (P : Program) (t : Nat), P.underlying t = some d → ∀ e a w, (Instr.checkKey e 10000 t (enc a)).run P w = .ok () w

section
variable {κ : Type} (K : Key κ)
def mapC (ks : List (κ × Value)) (es : Array MapEntry) : Prop := es.toList.map (fun e => (e.key, e.val)) = ks.map fun p => (K.enc p.1, p.2)
/-- block b is a map that holds ks -/
def mapR (b : Nat) (ks : List (κ × Value)) : Res := fun h => ∃ es clock, h b = some (.map es clock) ∧ mapC K ks es
theorem mapR.mono (b : Nat) (ks : List (κ × Value)) : Mono (mapR K b ks) := fun _ _ hs ⟨es, c, h, k⟩ => ⟨es, c, hs _ _ h, k⟩

variable {P : Program} {ro : Option Nat} {n : Nat} {ds : List Deferred} {β : Base} {Q : Exit → Act → World → Prop} {f : Fm} {L : List Res} {ops : Array Oper} {rest : List Oper}
variable {d : Option Tmp} {ty : TypeId} {ps : String} {af : Array Edge} {g : Option (Nat × Bool)}

end
end Go.Sl

namespace Go.Sl

inductive K where
  | int (q : IntKind) | bool | str
  deriving DecidableEq
def kOf : Value → Option K
  | .int q _ => some (.int q)
  | .bool _ => some .bool
  | .string _ => some .str
  | _ => none

def szB (P : Program) (t : TypeId) (n : Nat) : Bool := match P.info? t with | some i => i.size == n | none => false
/-- the kinds of the cells of a struct's fields, in order -/
def layF (P : Program) (ly : TypeId → Option (List K)) : List Field → Nat → Option (List K)
  | [], _ => some []
  | f :: fs, off => if f.name != "_" && f.offset == off then
      match ly f.type with
      | some ks => if szB P f.type ks.length then (layF P ly fs (off + ks.length)).map (ks ++ ·) else none
      | none => none
    else none
/-- the kinds of a type's cells, in order -/
def lay (P : Program) : Nat → TypeId → Option (List K)
  | 0, _ => none
  | d + 1, t =>
    match P.underlying t with
    | some .bool => some [.bool]
    | some (.int q) => some [.int q]
    | some .string => some [.str]
    | some (.array n e) => match lay P d e with
      | some ks => if szB P e ks.length && !ks.isEmpty then some (List.replicate n ks).flatten else none
      | none => none
    | some (.struct fs) => if P.stoodInHeld t then none else layF P (lay P d) fs.toList 0
    | _ => none

def isAggT (P : Program) (t : TypeId) : Bool := match P.underlying t with | some (.struct _) | some (.array _ _) => true | _ => false
/-- the value of a type whose cells are cs -/
def valT (P : Program) (t : TypeId) (cs : List Value) : Value := if isAggT P t then .agg cs.toArray else cs.headD undef

section
variable {P : Program}

theorem szB_info {t n : Nat} (h : szB P t n = true) : ∃ i, P.info? t = some i ∧ i.size = n := by
  unfold szB at h
  cases hi : P.info? t with
  | none => rw [hi] at h; cases h
  | some i => rw [hi] at h; exact ⟨i, rfl, by simpa using h⟩

theorem run_isAggT {t : TypeId} {d : TypeDesc} (hu : P.underlying t = some d) (w : World) : (isAgg t).run P w = .ok (isAggT P t) w := by
  unfold isAgg isAggT
  rw [Sem.run_bind, run_underlying hu w, hu]
  cases d <;> rfl

theorem run_part_t {t n : Nat} {d : TypeDesc} (hu : P.underlying t = some d) (hs : szB P t n = true) (h1 : isAggT P t = false → n = 1) (cs : Array Value) (off : Nat) (hb : off + n ≤ cs.size) (w : World) :
    (part t cs off).run P w = .ok (valT P t ((cs.toList.drop off).take n)) w := by
  obtain ⟨i, hi, hn⟩ := szB_info hs
  unfold part valT
  rw [Sem.run_bind, run_isAggT hu w, Result.andThen_ok]
  cases ha : isAggT P t with
  | true =>
    simp only [if_true, Sem.run_bind, sizeOf, typeInfo, run_program, Result.andThen_ok, hi, Sem.run_pure, hn]
    congr 2
    apply Array.ext'
    simp [List.extract_eq_take_drop]
  | false =>
    have := h1 ha
    subst this
    have hlt : off < cs.size := by omega
    simp only [Bool.false_eq_true, if_false]
    rw [Array.getElem?_eq_getElem hlt]
    simp only [Sem.run_pure]
    congr 1
    rw [List.take_one, List.head?_drop]
    simp [hlt]

/-- '==' at type t is '=' on the cells -/
def EqT (P : Program) (d : Nat) (t : TypeId) (ks : List K) : Prop :=
  ∀ (w : World) (xs ys : List Value), xs.map kOf = ks.map some → ys.map kOf = ks.map some → ∃ r : Bool, (Op.equalIn d t (valT P t xs) (valT P t ys)).run P w = .ok r w ∧ (r = true ↔ xs = ys)

theorem lay_und {d : Nat} {t : TypeId} {ks : List K} (h : lay P d t = some ks) : (∃ dd, P.underlying t = some dd) ∧ (isAggT P t = false → ks.length = 1) := by
  cases d with
  | zero => cases h
  | succ d =>
    unfold lay at h
    cases hu : P.underlying t with
    | none => rw [hu] at h; cases h
    | some dd =>
      refine ⟨⟨dd, rfl⟩, fun ha => ?_⟩
      rw [hu] at h
      unfold isAggT at ha
      rw [hu] at ha
      cases dd <;> simp at h ha <;> subst h <;> rfl

theorem map_take_drop {xs : List Value} {ks : List K} (h : xs.map kOf = ks.map some) (o n : Nat) : ((xs.drop o).take n).map kOf = ((ks.drop o).take n).map some := by
  simp only [List.map_take, List.map_drop, h]

theorem eq_fields {d : Nat} (ih : ∀ t ks, lay P d t = some ks → EqT P d t ks) : ∀ (fs : List Field) (off : Nat) (ks : List K), layF P (lay P d) fs off = some ks →
    ∀ (w : World) (X Y : Array Value) (kx : List K), X.toList.map kOf = kx.map some → Y.toList.map kOf = kx.map some → (kx.drop off).take ks.length = ks → off + ks.length ≤ kx.length →
      ∃ r : Bool, (Op.eqFields d X Y fs).run P w = .ok r w ∧ (r = true ↔ (X.toList.drop off).take ks.length = (Y.toList.drop off).take ks.length)
  | [], off, ks, h, w, X, Y, kx, hX, hY, hk, hle => by
    simp [layF] at h; subst h
    exact ⟨true, rfl, by simp⟩
  | f :: fs, off, ks, h, w, X, Y, kx, hX, hY, hk, hle => by
    unfold layF at h
    cases hn : (f.name != "_" && f.offset == off) with
    | false => rw [hn] at h; simp at h
    | true =>
      rw [hn] at h
      simp only [if_true] at h
      simp only [Bool.and_eq_true, bne_iff_ne, ne_eq, beq_iff_eq] at hn
      obtain ⟨hname, rfl⟩ := hn
      cases hl : lay P d f.type with
      | none => rw [hl] at h; cases h
      | some k1 =>
        rw [hl] at h
        simp only [] at h
        cases hz : szB P f.type k1.length with
        | false => rw [hz] at h; simp at h
        | true =>
          rw [hz] at h
          simp only [if_true] at h
          cases hr : layF P (lay P d) fs (f.offset + k1.length) with
          | none => rw [hr] at h; cases h
          | some k2 =>
            rw [hr] at h
            simp only [Option.map_some, Option.some.injEq] at h
            subst h
            simp only [List.length_append] at hle hk ⊢
            have hxl : X.toList.length = kx.length := by have := congrArg List.length hX; simpa using this
            have hyl : Y.toList.length = kx.length := by have := congrArg List.length hY; simpa using this
            obtain ⟨⟨dd, hu⟩, h1⟩ := lay_und hl
            have px := run_part_t hu hz h1 X f.offset (by rw [← Array.length_toList, hxl]; omega) w
            have py := run_part_t hu hz h1 Y f.offset (by rw [← Array.length_toList, hyl]; omega) w
            have hk1 : (kx.drop f.offset).take k1.length = k1 := by
              have := congrArg (List.take k1.length) hk
              rw [List.take_take, Nat.min_eq_left (by omega)] at this
              simpa using this
            have hk2 : (kx.drop (f.offset + k1.length)).take k2.length = k2 := by
              have := congrArg (List.drop k1.length) hk
              rw [List.drop_take, List.drop_drop] at this
              simpa using this
            obtain ⟨r1, e1, i1⟩ := ih f.type k1 hl w ((X.toList.drop f.offset).take k1.length) ((Y.toList.drop f.offset).take k1.length) (by rw [map_take_drop hX, hk1]) (by rw [map_take_drop hY, hk1])
            obtain ⟨r2, e2, i2⟩ := eq_fields ih fs _ k2 hr w X Y kx hX hY hk2 (by omega)
            have split : ∀ Z : Array Value, (Z.toList.drop f.offset).take (k1.length + k2.length) = (Z.toList.drop f.offset).take k1.length ++ (Z.toList.drop (f.offset + k1.length)).take k2.length := fun Z => by
              rw [List.take_add, List.drop_drop]
            have lx : ((X.toList.drop f.offset).take k1.length).length = ((Y.toList.drop f.offset).take k1.length).length := by simp only [List.length_take, List.length_drop]; omega
            simp only [Op.eqFields, hname, ne_eq, not_false_eq_true, if_true, Sem.run_bind, px, py, Result.andThen_ok, e1]
            cases r1 with
            | false =>
              refine ⟨false, by simp, ?_⟩
              rw [split, split]
              constructor
              · intro h; cases h
              · intro h
                have := (List.append_inj h lx).1
                exact absurd (i1.2 this) (by simp)
            | true =>
              refine ⟨r2, by simpa using e2, ?_⟩
              rw [split, split, i2]
              constructor
              · intro h; rw [h, i1.1 rfl]
              · intro h; exact (List.append_inj h lx).2

theorem eq_items {d : Nat} {e : TypeId} {k1 : List K} (h0 : ¬ k1.length = 0) (ih : EqT P d e k1) (hl : lay P d e = some k1) (hz : szB P e k1.length = true) : ∀ (n j : Nat) (w : World) (X Y : Array Value) (kx : List K), X.toList.map kOf = kx.map some → Y.toList.map kOf = kx.map some →
    kx.drop (j * k1.length) = (List.replicate n k1).flatten →
      ∃ r : Bool, (Op.eqItems d e (P.cellsOf e) X Y (List.range' j n)).run P w = .ok r w ∧ (r = true ↔ X.toList.drop (j * k1.length) = Y.toList.drop (j * k1.length))
  | 0, j, w, X, Y, kx, hX, hY, hk => by
    have hx : X.toList.drop (j * k1.length) = [] := by
      have h2 : (X.toList.drop (j * k1.length)).map kOf = [] := by rw [List.map_drop, hX, ← List.map_drop, hk]; rfl
      simpa using h2
    have hy : Y.toList.drop (j * k1.length) = [] := by
      have h2 : (Y.toList.drop (j * k1.length)).map kOf = [] := by rw [List.map_drop, hY, ← List.map_drop, hk]; rfl
      simpa using h2
    exact ⟨true, rfl, by simp [hx, hy]⟩
  | n + 1, j, w, X, Y, kx, hX, hY, hk => by
    have hc : P.cellsOf e = k1.length := by
      obtain ⟨i, hi, hs⟩ := szB_info hz
      simp [Program.cellsOf, hi, hs]
    have hxl : X.toList.length = kx.length := by have := congrArg List.length hX; simpa using this
    have hyl : Y.toList.length = kx.length := by have := congrArg List.length hY; simpa using this
    rw [List.replicate_succ, List.flatten_cons] at hk
    have hkl : kx.length - j * k1.length = k1.length + (List.replicate n k1).flatten.length := by
      have := congrArg List.length hk
      simpa using this
    have hle : k1.length = 0 ∨ j * k1.length + k1.length ≤ kx.length := by omega
    obtain ⟨⟨dd, hu⟩, h1⟩ := lay_und hl
    have hk1 : (kx.drop (j * k1.length)).take k1.length = k1 := by rw [hk]; simp
    have hk2 : kx.drop ((j + 1) * k1.length) = (List.replicate n k1).flatten := by
      rw [Nat.add_mul, Nat.one_mul, ← List.drop_drop, hk]; simp
    have hle' : j * k1.length + k1.length ≤ kx.length := by omega
    have px := run_part_t hu hz h1 X (j * k1.length) (by rw [← Array.length_toList, hxl]; omega) w
    have py := run_part_t hu hz h1 Y (j * k1.length) (by rw [← Array.length_toList, hyl]; omega) w
    obtain ⟨r1, e1, i1⟩ := ih w ((X.toList.drop (j * k1.length)).take k1.length) ((Y.toList.drop (j * k1.length)).take k1.length) (by rw [map_take_drop hX, hk1]) (by rw [map_take_drop hY, hk1])
    obtain ⟨r2, e2, i2⟩ := eq_items h0 ih hl hz n (j + 1) w X Y kx hX hY hk2
    have split : ∀ Z : Array Value, Z.toList.drop (j * k1.length) = (Z.toList.drop (j * k1.length)).take k1.length ++ Z.toList.drop ((j + 1) * k1.length) := fun Z => by
      rw [Nat.add_mul, Nat.one_mul, ← List.drop_drop, List.take_append_drop]
    have lx : ((X.toList.drop (j * k1.length)).take k1.length).length = ((Y.toList.drop (j * k1.length)).take k1.length).length := by simp only [List.length_take, List.length_drop]; omega
    simp only [List.range'_succ, Op.eqItems, Sem.run_bind, hc, px, py, Result.andThen_ok, e1]
    rw [hc] at e2
    cases r1 with
    | false =>
      refine ⟨false, by simp, ?_⟩
      rw [split X, split Y]
      constructor
      · intro h; cases h
      · intro h
        have := (List.append_inj h lx).1
        exact absurd (i1.2 this) (by simp)
    | true =>
      refine ⟨r2, by simpa using e2, ?_⟩
      rw [split X, split Y, i2]
      constructor
      · intro h; rw [h, i1.1 rfl]
      · intro h; exact (List.append_inj h lx).2

theorem eq_t : ∀ (d : Nat) (t : TypeId) (ks : List K), lay P d t = some ks → EqT P d t ks
  | 0, t, ks, h => by cases h
  | d + 1, t, ks, h => by
    have ih := eq_t d
    intro w xs ys hx hy
    have h' := h
    unfold lay at h
    cases hu : P.underlying t with
    | none => rw [hu] at h; cases h
    | some dd =>
      rw [hu] at h
      have leaf : ks.length = 1 → ∃ x y, xs = [x] ∧ ys = [y] := fun h1 => by
        have lx : xs.length = 1 := by have := congrArg List.length hx; simp at this; omega
        have ly : ys.length = 1 := by have := congrArg List.length hy; simp at this; omega
        match xs, ys, lx, ly with
        | [x], [y], _, _ => exact ⟨x, y, rfl, rfl⟩
      have hxl : xs.length = ks.length := by have := congrArg List.length hx; simpa using this
      have hyl : ys.length = ks.length := by have := congrArg List.length hy; simpa using this
      cases dd <;> simp only [] at h <;> try (cases h; done)
      case bool =>
        cases h
        obtain ⟨x, y, rfl, rfl⟩ := leaf rfl
        simp at hx hy
        cases x <;> simp [kOf] at hx
        cases y <;> simp [kOf] at hy
        rename_i a b
        exact ⟨a == b, by simp [valT, isAggT, hu, Op.equalIn, run_underlying hu], by simp⟩
      case int q =>
        cases h
        obtain ⟨x, y, rfl, rfl⟩ := leaf rfl
        simp at hx hy
        cases x <;> simp [kOf] at hx
        cases y <;> simp [kOf] at hy
        subst hx; subst hy
        rename_i a j b
        exact ⟨a == b, by simp [valT, isAggT, hu, Op.equalIn, run_underlying hu], by simp⟩
      case string =>
        cases h
        obtain ⟨x, y, rfl, rfl⟩ := leaf rfl
        simp at hx hy
        cases x <;> simp [kOf] at hx
        cases y <;> simp [kOf] at hy
        rename_i a b
        exact ⟨a == b, by simp [valT, isAggT, hu, Op.equalIn, run_underlying hu], by
          rw [beq_toListBytes, ByteArray.toList_eq, ByteArray.toList_eq]
          obtain ⟨⟨a⟩⟩ := a
          obtain ⟨⟨b⟩⟩ := b
          simp⟩
      case array n e =>
        cases hl : lay P d e with
        | none => rw [hl] at h; cases h
        | some k1 =>
          rw [hl] at h
          simp only [] at h
          cases hzz : (szB P e k1.length && !k1.isEmpty) with
          | false => rw [hzz] at h; simp at h
          | true =>
            rw [hzz] at h
            simp only [if_true, Option.some.injEq] at h
            subst h
            simp only [Bool.and_eq_true, Bool.not_eq_true'] at hzz
            obtain ⟨hz, hne⟩ := hzz
            obtain ⟨i, hi, hs⟩ := szB_info hz
            have e0 : valT P t xs = .agg xs.toArray := by simp [valT, isAggT, hu]
            have e1 : valT P t ys = .agg ys.toArray := by simp [valT, isAggT, hu]
            rw [e0, e1, run_equalIn_array w d xs.toArray ys.toArray hu hi]
            obtain ⟨r, hr, hiff⟩ := eq_items (by simpa using hne) (ih e k1 hl) hl hz n 0 w xs.toArray ys.toArray _ hx hy (by simp)
            refine ⟨r, by rw [List.range_eq_range']; exact hr, by simpa using hiff⟩
      case struct fs =>
        cases hp : P.stoodInHeld t with
        | true => rw [hp] at h; simp at h
        | false =>
          rw [hp] at h
          simp only [Bool.false_eq_true, if_false] at h
          have hf : P.fieldsOf t = fs := by simp [Program.fieldsOf, hu]
          have e0 : valT P t xs = .agg xs.toArray := by simp [valT, isAggT, hu]
          have e1 : valT P t ys = .agg ys.toArray := by simp [valT, isAggT, hu]
          rw [e0, e1, run_equalIn_struct w d t xs.toArray ys.toArray (by rw [hf]; exact hu) hp, hf]
          obtain ⟨r, hr, hiff⟩ := eq_fields ih fs.toList 0 ks h w xs.toArray ys.toArray ks hx hy (by simp) (by omega)
          refine ⟨r, hr, ?_⟩
          rw [hiff]
          simp only [List.drop_zero]
          rw [List.take_of_length_le (by omega), List.take_of_length_le (by omega)]

variable {β : Base} {L : List Res} {f : Fm} {d : Option Tmp} {ty : TypeId} {ps : String} {af : Array Edge} {g : Option (Nat × Bool)}

theorem run_eql_t {t : TypeId} {ks : List K} {xs ys : List Value} (hl : lay P 10000 t = some ks) (ha : isAggT P t = true) (hx : xs.map kOf = ks.map some) (hy : ys.map kOf = ks.map some) (w : World) :
    ∃ r : Bool, (Op.equalIn 10000 t (.agg xs.toArray) (.agg ys.toArray)).run P w = .ok r w ∧ (r = true ↔ xs = ys) := by
  have h := eq_t 10000 t ks hl w xs ys hx hy
  simpa only [valT, ha, if_true] using h

theorem e_eql_t {t t' : TypeId} {x y : Operand} {ks : List K} {xs ys : List Value} {p : Prop} [Decidable p] (hl : lay P 10000 t = some ks) (ha : isAggT P t = true) (hg : P.eqGuardType P.depth t = false)
    (hx : ev f x = .agg xs.toArray) (hy : ev f y = .agg ys.toArray) (kx : xs.map kOf = ks.map some) (ky : ys.map kOf = ks.map some) (hp : xs = ys ↔ p) : EV P β L f ⟨d, .binOp .eql t x y t', ty, ps, af, g⟩ (.bool (decide p)) := fun w _ => by
  obtain ⟨r, hr, hi⟩ := run_eql_t hl ha kx ky w
  have e : r = decide p := by
    cases r
    · rw [decide_eq_false]; intro h; exact absurd (hi.2 (hp.2 h)) (by simp)
    · rw [decide_eq_true (hp.1 (hi.1 rfl))]
  simp only [execOp, hx, hy, Sem.run_bind, run_eqGuard_agg w _ t x y xs.toArray ys.toArray hg, Result.andThen_ok, run_eql_struct, hr, e]
  rfl
theorem e_neq_t {t t' : TypeId} {x y : Operand} {ks : List K} {xs ys : List Value} {p : Prop} [Decidable p] (hl : lay P 10000 t = some ks) (ha : isAggT P t = true) (hg : P.eqGuardType P.depth t = false)
    (hx : ev f x = .agg xs.toArray) (hy : ev f y = .agg ys.toArray) (kx : xs.map kOf = ks.map some) (ky : ys.map kOf = ks.map some) (hp : ¬ (xs = ys) ↔ p) : EV P β L f ⟨d, .binOp .neq t x y t', ty, ps, af, g⟩ (.bool (decide p)) := fun w _ => by
  obtain ⟨r, hr, hi⟩ := run_eql_t hl ha kx ky w
  have e : (!r) = decide p := by
    cases r
    · have h : p := hp.1 fun h => absurd (hi.2 h) (by simp)
      rw [decide_eq_true h]; rfl
    · have h : ¬ p := fun h => (hp.2 h) (hi.1 rfl)
      rw [decide_eq_false h]; rfl
  simp only [execOp, hx, hy, Sem.run_bind, run_eqGuard_agg w _ t x y xs.toArray ys.toArray hg, Result.andThen_ok, run_neq_struct, hr, e]
  rfl
end
end Go.Sl

namespace Go.Sl

section
variable {P : Program} {ro : Option Nat} {n : Nat} {ds : List Deferred} {β : Base} {Q : Exit → Act → World → Prop} {f : Fm} {L : List Res} {ops : Array Oper} {rest : List Oper}
variable {d : Option Tmp} {ty : TypeId} {ps : String} {af : Array Edge} {g : Option (Nat × Bool)}

/-! Panics. -/
theorem s_callP {o : Oper} {d : Nat} {g : FuncId} {args : Array Value} (hd : o.dst = some d) (hn : Nat.blt d n = true)
    (he : ∀ w, (execOp (ev f) o).run P w = .ok (.enter g args) w)
    (hc : ∀ w, St β L w → Calls P g args w fun e w' => (∃ ch, e = .panicked ch ∧ ∃ L', St β L' w' ∧ Fin n ds β Q (.panic ch) f L') ∨ (∃ v, e = .returned v ∧ ∃ L', St β L' w' ∧ RunL P ro n ds β ops Q rest (upd f d v) L')) :
    Step1 P ro n ds β o Q (wpListIn (Fe ro) 3 P ops Q rest) f L := by
  intro a w ha hw
  refine ⟨fun _ _ => trivial, ?_⟩
  rw [ha.eval, semAt_of (he w) (by simp), he w, Oper.uponIn_enter, hd]
  refine ⟨fun h => by simp [Fe] at h, CallsIn.mono (callsIn_fe.2 (hc w hw)) ?_⟩
  rintro e w' (⟨ch, rfl, L', hw', k⟩ | ⟨v, rfl, L', hw', k⟩)
  · exact k _ w' ha hw'
  · exact k _ w' (ha.put hn v) hw'
theorem l_callP {o : Oper} {d : Nat} {g : FuncId} {args : Array Value} (hgd : o.guard = none) (hd : o.dst = some d) (hn : Nat.blt d n = true) (he : CL P f o g args)
    (hc : ∀ w, St β L w → Calls P g args w fun e w' => (∃ ch, e = .panicked ch ∧ ∃ L', St β L' w' ∧ Fin n ds β Q (.panic ch) f L') ∨ (∃ v, e = .returned v ∧ ∃ L', St β L' w' ∧ RunL P ro n ds β ops Q rest (upd f d v) L')) : RunL P ro n ds β ops Q (o :: rest) f L :=
  l_step hgd (s_callP hd hn he hc)
theorem l_panic {x : Operand} {t : TypeId} {v : Value} (hx : ev f x = .iface t v) (k : Fin n ds β Q (.panic [{ v := .iface t v, recovered := false }]) f L) : RunL P ro n ds β ops Q (⟨d, .panic x, ty, ps, af, none⟩ :: rest) f L := by
  refine l_step rfl fun a w ha hw => ⟨fun _ _ => trivial, ?_⟩
  have hr : (execOp (ev f) ⟨d, .panic x, ty, ps, af, none⟩).run P w = .halt (.panic (.iface t v)) w := by simp [execOp, hx, Instr.panic]
  have hs : (Oper.semAt ro (ev f) ⟨d, .panic x, ty, ps, af, none⟩) = execOp (ev f) ⟨d, .panic x, ty, ps, af, none⟩ := Oper.semAt_eq ro _ _ fun c hc => by cases hc
  rw [ha.eval, show (Fe ro).round = ro from rfl, hs, hr, Oper.uponIn_panic]
  exact k a w ha hw
theorem f_then_panic {K : Act → World → Prop} {ch : List PanicEntry} (h : Fin n ds β Q (.panic ch) f L) : Fin n ds β (Exit.then K Q) (.panic ch) f L := h
theorem f_block_panic {id : Nat} {ch : List PanicEntry} (h : Fin n ds β Q (.panic ch) f L) : Fin n ds β (Exit.inBlock id Q) (.panic ch) f L := h
theorem panR {fn : Func} {R : Ending → World → Prop} {ch : List PanicEntry} (h : ∀ w, St β L w → R (.panicked ch) w) : Fin n [] β (bodyPost P fn R) (.panic ch) f L :=
  fun _ w ha hw => ⟨ha.defers, h w hw⟩

/-! Facts that need no memory. -/
def Pr (φ : Prop) : Res := fun _ => φ
theorem St.pr {φ : Prop} {w : World} (hφ : φ) (h : St β L w) : St β (Pr φ :: L) w := h.emp hφ
/-! Bundles. -/
theorem St.unbun {M : List Res} {w : World} (h : St β (Sat L :: M) w) : St β (L ++ M) w := by
  obtain ⟨ho, ht, hp, a, hd, hs, hs', hL⟩ := h
  exact ⟨ho, ht, hp, a, hd, hs, hs', Sat.append.2 hL⟩
/-- a resource that is some other one, for some x -/
theorem St.ex {α : Type} {r : α → Res} {M : List Res} {w : World} (h : St β ((fun a => ∃ x, r x a) :: M) w) : ∃ x, St β (r x :: M) w := by
  obtain ⟨ho, ht, hp, a, hd, hs, hs', p, q, h1, h2, h3, ⟨x, hx⟩, h5⟩ := h
  exact ⟨x, ho, ht, hp, a, hd, hs, hs', p, q, h1, h2, h3, hx, h5⟩
/-! Pointers and slices against nil. -/
theorem e_eql_pnil {t t' : TypeId} {x y : Operand} {p : Option Addr} (hx : ev f x = .pointer p) (hy : ev f y = .pointer none) (h : P.underlying t = some (.pointer (P.pointee t))) : EV P β L f ⟨d, .binOp .eql t x y t', ty, ps, af, g⟩ (.bool p.isNone) := fun w _ => by
  simp [execOp, hx, hy, eqGuard, run_eql_pointer_nil w t p h]
theorem e_neq_pnil {t t' : TypeId} {x y : Operand} {p : Option Addr} (hx : ev f x = .pointer p) (hy : ev f y = .pointer none) (h : P.underlying t = some (.pointer (P.pointee t))) : EV P β L f ⟨d, .binOp .neq t x y t', ty, ps, af, g⟩ (.bool (!p.isNone)) := fun w _ => by
  simp [execOp, hx, hy, eqGuard, run_neq_pointer_nil w t p h]
theorem e_eql_snil {t t' e : TypeId} {x y : Operand} {a : Option Addr} {l c : Nat} (hx : ev f x = .slice a l c) (hy : ev f y = .slice none 0 0) (h : P.underlying t = some (.slice e)) : EV P β L f ⟨d, .binOp .eql t x y t', ty, ps, af, g⟩ (.bool a.isNone) := fun w _ => by
  have hb : (binOp .eql t (.slice a l c) (.slice none 0 0)).run P w = .ok (.bool a.isNone) w := by
    simp only [binOp]
    simp [run_equal_slice_nil w t e a l c h]
  simp [execOp, hx, hy, eqGuard, hb]
theorem e_not64 {t : TypeId} {x : Operand} {a : UInt64} (hx : ev f x = Ux a) : EV P β L f ⟨d, .unOp .xor t x, ty, ps, af, g⟩ (Ux (~~~a)) := fun w _ => by
  have h1 : (Op.intBits BinOp.xor IntKind.u64 (if IntKind.u64.signed = true then -1 else IntKind.u64.max) (a.toNat : Int)).run P w = .ok (Ux (~~~a)) w := by
    have e : (IntKind.u64.max : Int) = ((18446744073709551615 : UInt64).toNat : Int) := by decide
    have e2 : (18446744073709551615 : UInt64) ^^^ a = ~~~a := by
      apply UInt64.toBitVec_inj.1
      simp
      exact BitVec.allOnes_xor
    have h := ux_xor 18446744073709551615 a
    rw [e2] at h
    rw [if_neg (by decide), e]
    simp only [Op.intBits]
    exact congrArg (fun z => Result.ok (Value.int IntKind.u64 z) w) h
  simp [execOp, hx, Op.unary, h1]

def lastAnc (sps : List Sp) (N : Nat) : Bool := (List.range N).all fun j => mem j (ancOf sps N)
theorem lastAnc_mem {sps : List Sp} {N j : Nat} (h : lastAnc sps N = true) (hj : j < N) : j ∈ ancOf sps N := mem_iff.1 (List.all_eq_true.1 h j (List.mem_range.2 hj))
def tokLt (t : Tok) (N : Nat) : Bool := oall t.prod (Nat.blt · N) && oall t.cons (Nat.blt · N)
end

section
variable {P : Program} {ro : Option Nat} {n : Nat} {ds : List Deferred} {β : Base} {Q : Exit → Act → World → Prop}
theorem inv_last {opsA : List Oper} {oN : Oper} {ops : List Oper} {sps : List Sp} {toks : List Tok} {ini : List (Nat × Value)} {fin : List Nat} {M : List Res}
    (hA : ops = opsA ++ [oN]) (hal : lastAnc sps opsA.length = true) (hno : toks.all (fun t => tokLt t opsA.length) = true) (h1 : chkOps ops sps ini = true) (h2 : toks.all (chkTok ops sps) = true) (ho : Obs P ro n ds β ops sps toks ini opsA 0) (hf : fin.all (finOk ops ini) = true)
    (hQ : ∀ f', KEv sps f' (sps.take opsA.length) → IAll ini fin f' → RunL P ro n ds β ops.toArray Q [oN] f' (rs (lastT toks) f' ++ M)) :
    ∀ (fuel : Nat) (listed : Array Bool) (f : Fm) (a : Act) (w : World), listed.size = ops.length → ((List.range ops.length).filter (fun j => !listed.getD j false)).length ≤ fuel →
      Inv ops sps toks ini n ds β M (fun j => listed.getD j false) f a w → listed.getD opsA.length false = false → wpAnyIn (Fe ro) 3 P .any ops.toArray Q fuel listed a w := by
  have hc := h1
  simp only [chkOps, Bool.and_eq_true] at hc
  obtain ⟨⟨hlen, hops⟩, hsps⟩ := hc
  have hlen := Nat.eq_of_beq_eq_true hlen
  have hop : ∀ {i : Nat} {o : Oper}, ops[i]? = some o → (∀ e ∈ o.after, Region.binds .any e = true → e.on < i) ∧ ∀ j ∈ ancOf sps i, behind sps o j = true := by
    intro i o hi
    have := allI_get hops hi
    simp only [Nat.zero_add, Bool.and_eq_true, List.all_eq_true] at this
    exact ⟨fun e he hb => by have := this.1 e (by simpa using he); rw [hb] at this; simpa using this, this.2⟩
  have hsp : ∀ {i : Nat} {s : Sp}, sps[i]? = some s → (∀ j ∈ s.need, j ∈ s.anc) ∧ (∀ x ∈ s.ini, ∀ p, ini[x]? = some p → iniOk ops sps i p.1 = true) ∧ (∀ t ∈ s.sl, ∀ (j : Nat) o, ops[j]? = some o → o.dst = some t → j = i ∨ j ∈ s.anc) := by
    intro i s hi
    have := allI_get hsps hi
    simp only [Nat.zero_add, Bool.and_eq_true, List.all_eq_true] at this
    refine ⟨fun j hj => mem_iff.1 (this.1.1 j hj), fun x hx p hp => ?_, fun t hts j o hj hd => ?_⟩
    · have := this.1.2 x hx; rw [hp] at this; exact this
    · have := allI_get (this.2 t hts) hj
      simp only [Nat.zero_add, isD_iff.2 hd, Bool.not_true, Bool.false_or, Bool.or_eq_true] at this
      rcases this with h | h
      · exact .inl (Nat.eq_of_beq_eq_true h)
      · exact .inr (mem_iff.1 h)
  have hN : ops.length = opsA.length + 1 := by rw [hA]; simp
  have hoN : ops[opsA.length]? = some oN := by rw [hA]; simp
  have done : ∀ (listed : Array Bool) (f : Fm) (a : Act) (w : World), (∀ j, j < opsA.length → listed.getD j false = true) → listed.getD opsA.length false = false → Inv ops sps toks ini n ds β M (fun j => listed.getD j false) f a w →
      wpListIn (Fe ro) 3 P ops.toArray Q [oN] a w := by
    intro listed f a w hall hlN I
    have hK : KEv sps f (sps.take opsA.length) := KEv.of fun s hs => by
      obtain ⟨j, hj⟩ := List.getElem?_of_mem hs
      have hjl : j < opsA.length := by
        have := (List.getElem?_eq_some_iff.1 hj).1
        simp at this; omega
      rw [List.getElem?_take_of_lt hjl] at hj
      exact I.k j s hj (hall j hjl)
    have hI : IAll ini fin f := IAll.of fun x hx p hp => by
      refine I.ini p (List.mem_of_getElem? hp) fun j o hj _ hd => ?_
      have := List.all_eq_true.1 hf x hx
      unfold finOk at this; rw [hp] at this
      have := List.all_eq_true.1 this o (List.mem_of_getElem? hj)
      rw [isD_iff.2 hd] at this; cases this
    have hT : toks.filter (actT fun j => listed.getD j false) = lastT toks := by
      refine List.filter_congr fun t hm => ?_
      have hlt := List.all_eq_true.1 hno t hm
      simp only [tokLt, Bool.and_eq_true] at hlt
      have hP : oall t.prod (fun j => listed.getD j false) = true := by
        cases hp : t.prod with
        | none => rfl
        | some p => have := hlt.1; rw [hp] at this; exact hall p (by simpa [oall] using this)
      unfold actT
      rw [hP]
      cases hcn : t.cons with
      | none => rfl
      | some c => have := hlt.2; rw [hcn] at this; simp [oany, hall c (by simpa [oall] using this)]
    have hst := I.st
    rw [hT] at hst
    exact hQ f hK hI a w I.hat hst
  have allSet : ∀ (fuel : Nat) (listed : Array Bool) (a : Act) (w : World), listed.size = ops.length → (∀ j, j < ops.length → listed.getD j false = true) → Q .normal a w → wpAnyIn (Fe ro) 3 P .any ops.toArray Q fuel listed a w := by
    intro fuel listed a w hsz hall hq
    have hr : Region.ready .any ops.toArray listed = [] := by
      refine List.eq_nil_iff_forall_not_mem.2 fun j hj => ?_
      obtain ⟨hl, o, ho', _⟩ := mem_ready.1 hj
      have hj' : j < ops.length := by
        have := (Array.getElem?_eq_some_iff.1 ho').1
        simpa using this
      have := hall j hj'
      simp only [Array.getD_eq_getD_getElem?, Array.getElem?_eq_getElem (by omega : j < listed.size), Option.getD_some] at hl this
      rw [hl] at this; cases this
    cases fuel with
    | zero => exact ⟨hr, hq⟩
    | succ k => exact ⟨fun _ => hq, fun i hi => by rw [hr] at hi; cases hi⟩
  intro fuel
  induction fuel with
  | zero =>
    intro listed f a w hsz hle I hlN
    have : opsA.length ∈ (List.range ops.length).filter (fun j => !listed.getD j false) := List.mem_filter.2 ⟨List.mem_range.2 (by omega), by rw [hlN]; rfl⟩
    have := List.length_pos_of_mem this
    omega
  | succ fuel ih =>
    intro listed f a w hsz hle I hlN
    refine ⟨fun hr => ?_, fun i hi => ?_⟩
    · exfalso
      have least : ∀ j, j < ops.length → listed.getD j false = true := by
        intro j
        induction j using Nat.strongRecOn with
        | _ j ihj =>
          intro hj
          cases hl : listed.getD j false with
          | true => rfl
          | false =>
            have hl' : listed.getD j true = false := by
              simp only [Array.getD_eq_getD_getElem?, Array.getElem?_eq_getElem (by omega : j < listed.size), Option.getD_some] at hl ⊢
              exact hl
            have ho := List.getElem?_eq_getElem hj
            have : j ∈ Region.ready .any ops.toArray listed := mem_ready.2 ⟨hl', _, (List.getElem?_toArray ..).trans ho, fun e he hb => ihj e.on ((hop ho).1 e he hb) (by have := (hop ho).1 e he hb; omega)⟩
            rw [hr] at this; simp at this
      have := least opsA.length (by omega)
      rw [hlN] at this; cases this
    obtain ⟨hl, o, ho', hdep⟩ := mem_ready.1 hi
    have ho'' : ops[i]? = some o := by simpa using ho'
    have hi' : i < ops.length := (List.getElem?_eq_some_iff.1 ho'').1
    have hDi : listed.getD i false = false := by
      simp only [Array.getD_eq_getD_getElem?, Array.getElem?_eq_getElem (by omega : i < listed.size), Option.getD_some] at hl ⊢
      exact hl
    have hanc : ∀ m ∈ ancOf sps i, listed.getD m false = true := by
      intro m hm
      have hb := (hop ho'').2 m hm
      unfold behind at hb
      obtain ⟨e, he, hb⟩ := List.any_eq_true.1 hb
      simp only [Bool.and_eq_true, Bool.or_eq_true] at hb
      have hd := hdep e (by simpa using he) hb.1
      rcases hb.2 with h | h
      · have := Nat.eq_of_beq_eq_true h; subst this; exact hd
      · exact I.closed e.on hd m (mem_iff.1 h)
    by_cases hiN : i = opsA.length
    · subst hiN
      rw [hoN] at ho''
      injection ho'' with ho''
      subst ho''
      have hall : ∀ j, j < opsA.length → listed.getD j false = true := fun j hj => hanc j (lastAnc_mem hal hj)
      have hob := done listed f a w hall hlN I
      have stepN : ∀ a' w', wpListIn (Fe ro) 3 P ops.toArray Q [] a' w' → wpAnyIn (Fe ro) 3 P .any ops.toArray Q fuel (listed.setIfInBounds opsA.length true) a' w' := by
        intro a' w' hq
        refine allSet fuel _ a' w' (by simp [hsz]) (fun j hj => ?_) (by simpa only [wpListIn] using hq)
        by_cases e : j = opsA.length
        · subst e; simp [Array.getD_eq_getD_getElem?, hsz, hi']
        · rw [getD_set_ne _ (Ne.symm e)]; exact hall j (by omega)
      unfold wpOpIn
      rw [ho']
      simp only
      unfold wpListIn at hob
      split at hob
      · rename_i hwn
        rw [if_pos hwn]
        exact Oper.wpIn_mono stepN hob
      · rename_i hwn
        rw [if_neg hwn]
        exact ⟨hob.1, stepN _ _ hob.2⟩
    have hiA : i < opsA.length := by omega
    have hoA : opsA[i]? = some o := by rw [hA, List.getElem?_append_left hiA] at ho''; exact ho''
    obtain ⟨s, hs⟩ : ∃ s, sps[i]? = some s := ⟨_, List.getElem?_eq_getElem (by omega)⟩
    have hsa : ancOf sps i = s.anc := by unfold ancOf; rw [hs]
    have hob := ho.get hoA
    rw [Nat.zero_add] at hob
    unfold Ob at hob
    rw [hs] at hob
    have hob := hob f (rs (toks.filter (fun t => actT (fun j => listed.getD j false) t && !mem i t.by_)) f ++ M)
      (KAll.of fun j hj s' hs' => I.k j s' hs' (hanc j (by rw [hsa]; exact (hsp hs).1 j hj)))
      (IAll.of fun x hx p hp => I.ini p (List.mem_of_getElem? hp) fun j oj hj hD hd => by
        have := allI_get ((hsp hs).2.1 x hx p hp) hj
        simp only [Nat.zero_add, isD_iff.2 hd, Bool.not_true, Bool.false_or, Bool.or_eq_true] at this
        rcases this with h | h
        · have := Nat.eq_of_beq_eq_true h; subst this; rw [hDi] at hD; cases hD
        · have := I.closed j hD i (mem_iff.1 h); exact absurd (hDi.symm.trans this) (by simp))
    have hsplit := act_split (ops := ops) (D := fun j => listed.getD j false) I.closed hDi hanc h2
    have hst : St β (rs (usesT toks i) f ++ (rs (toks.filter (fun t => actT (fun j => listed.getD j false) t && !mem i t.by_)) f ++ M)) w := by
      have := I.st.perm (List.Perm.append_right M (List.Perm.map (fun t : Tok => t.r (cut t.sl f)) hsplit.1))
      simpa [rs, List.append_assoc] using this
    have hD' : (fun j => (listed.setIfInBounds i true).getD j false) = setD (fun j => listed.getD j false) i := by
      funext j
      unfold setD
      by_cases e : j = i
      · subst e
        simp [Array.getD_eq_getD_getElem?, hsz, hi']
      · have : Nat.beq j i = false := by
          cases h : Nat.beq j i with
          | false => rfl
          | true => exact absurd (Nat.eq_of_beq_eq_true h) e
        rw [this, getD_set_ne _ (Ne.symm e)]; rfl
    have step : ∀ a' w', Owes n ds β o.dst (fun f => s.k (cut s.sl f)) f (rs (outsT toks i)) (rs (toks.filter (fun t => actT (fun j => listed.getD j false) t && !mem i t.by_)) f ++ M) a' w' →
        wpAnyIn (Fe ro) 3 P .any ops.toArray Q fuel (listed.setIfInBounds i true) a' w' := by
      rintro a' w' ⟨f', hff, hat', hk', hst'⟩
      refine ih _ f' a' w' (by simp [hsz]) ?_ ?_ (by rw [getD_set_ne _ (by omega)]; exact hlN)
      · have := filter_lt (p := fun j => !listed.getD j false) (q := fun j => !(listed.setIfInBounds i true).getD j false) (i := i) (l := List.range ops.length) ?_ (by simp only [hDi]; rfl) ?_ (List.mem_range.2 hi')
        · omega
        · intro x hx
          by_cases e : x = i
          · subst e; rw [hDi]; rfl
          · rw [getD_set_ne _ (Ne.symm e)] at hx; exact hx
        · have := congrFun hD' i
          simp only [setD, Nat.beq_refl, Bool.true_or] at this
          simp only [this]; rfl
      · rw [hD']
        refine ⟨?_, ?_, ?_, hat', ?_⟩
        · intro j hj m hm
          simp only [setD, Bool.or_eq_true] at hj ⊢
          rcases hj with hj | hj
          · have := Nat.eq_of_beq_eq_true hj; subst this; exact .inr (hanc m hm)
          · exact .inr (I.closed j hj m hm)
        · intro j s' hs' hj
          simp only [setD, Bool.or_eq_true] at hj
          by_cases e : j = i
          · subst e; rw [hs] at hs'; injection hs' with hs'; subst hs'; exact hk'
          · have hj : listed.getD j false = true := by
              rcases hj with hj | hj
              · exact absurd (Nat.eq_of_beq_eq_true hj) e
              · exact hj
            rw [cut_eq (f := f') (g := f) (fun x hx => hff x fun hd => ?_)]; exact I.k j s' hs' hj
            rcases (hsp hs').2.2 x hx i o ho'' hd with h | h
            · exact e h.symm
            · have := I.closed j hj i (by unfold ancOf; rw [hs']; exact h); exact absurd (hDi.symm.trans this) (by simp)
        · intro p hp hno
          rw [hff p.1 fun hd => hno i o ho'' (by simp [setD]) hd]
          exact I.ini p hp fun j oj hj hD => hno j oj hj (by simp only [setD, hD, Bool.or_true])
        · have h3 : rs (toks.filter (fun t => actT (fun j => listed.getD j false) t && !mem i t.by_)) f' = rs (toks.filter (fun t => actT (fun j => listed.getD j false) t && !mem i t.by_)) f := by
            unfold rs
            refine List.map_congr_left fun t ht' => ?_
            obtain ⟨hm, hact⟩ := List.mem_filter.1 ht'
            rw [cut_eq (f := f') (g := f) fun x hx => hff x fun hd => ?_]
            have hc := List.all_eq_true.1 h2 t hm
            simp only [chkTok, Bool.and_eq_true, List.all_eq_true] at hc
            have := allI_get (hc.2 x hx) ho''
            simp only [Nat.zero_add, isD_iff.2 hd, Bool.not_true, Bool.false_or] at this
            simp only [Bool.and_eq_true, actT] at hact
            cases hp : t.prod with
            | none => rw [hp] at this; cases this
            | some q =>
              rw [hp] at this hact
              simp only [oany, Bool.or_eq_true] at this
              have hq : listed.getD q false = true := hact.1.1
              rcases this with h | h
              · have := Nat.eq_of_beq_eq_true h; subst this; rw [hDi] at hq; cases hq
              · have := I.closed q hq i (mem_iff.1 h); exact absurd (hDi.symm.trans this) (by simp)
          have := hst'.perm (L' := rs (toks.filter (actT (setD (fun j => listed.getD j false) i))) f' ++ M) ?_
          · exact this
          · have hp := List.Perm.append_right M (List.Perm.map (fun t : Tok => t.r (cut t.sl f')) hsplit.2)
            refine List.Perm.trans ?_ hp.symm
            rw [← h3]
            simp [rs, List.append_assoc]
    have hob := hob a w I.hat hst
    unfold wpOpIn
    rw [ho']
    unfold wpListIn at hob
    simp only
    split at hob
    · rename_i hwn
      rw [if_pos hwn]
      exact Oper.wpIn_mono step (wpIn_qn (K := Owes n ds β o.dst (fun f => s.k (cut s.sl f)) f (rs (outsT toks i)) (rs (toks.filter (fun t => actT (fun j => listed.getD j false) t && !mem i t.by_)) f ++ M)) (by
        have hfun : (wpListIn (Fe ro) 3 P ops.toArray (Qn (Owes n ds β o.dst (fun f => s.k (cut s.sl f)) f (rs (outsT toks i)) (rs (toks.filter (fun t => actT (fun j => listed.getD j false) t && !mem i t.by_)) f ++ M))) []) = Owes n ds β o.dst (fun f => s.k (cut s.sl f)) f (rs (outsT toks i)) (rs (toks.filter (fun t => actT (fun j => listed.getD j false) t && !mem i t.by_)) f ++ M) := by
          funext a w; simp only [wpListIn, Qn]
        rw [hfun] at hob
        exact hob))
    · rename_i hwn
      rw [if_neg hwn]
      refine ⟨hob.1, step _ _ ?_⟩
      have := hob.2
      simp only [wpListIn, Qn] at this
      exact this

theorem c_any_last {id : Nat} {opsA : List Oper} {oN : Oper} {f : Fm} {L : List Res} (sps : List Sp) (toks : List Tok) (ini : List (Nat × Value)) (fin : List Nat) (M : List Res) (hm : P.follows .mixedOrders = true)
    (hal : lastAnc sps opsA.length = true) (hno : toks.all (fun t => tokLt t opsA.length) = true)
    (h1 : chkOps (opsA ++ [oN]) sps ini = true) (h2 : toks.all (chkTok (opsA ++ [oN]) sps) = true) (hf : fin.all (finOk (opsA ++ [oN]) ini) = true) (hL : L = rs (firstT toks) f ++ M) (hi : IniAt f ini)
    (ho : Obs P ro n ds β (opsA ++ [oN]) sps toks ini opsA 0)
    (hQ : ∀ f', KEv sps f' (sps.take opsA.length) → IAll ini fin f' → RunL P ro n ds β (opsA ++ [oN]).toArray Q [oN] f' (rs (lastT toks) f' ++ M)) : RunC P ro n ds β (.region id (opsA ++ [oN]).toArray true) Q f L := by
  intro a w ha hw
  have hD0 : ∀ j, (Array.replicate (opsA ++ [oN]).length false).getD j false = false := by
    intro j
    by_cases hj : j < (opsA ++ [oN]).length
    · rw [Array.getD_eq_getD_getElem?, Array.getElem?_eq_getElem (by simpa using hj)]; simp
    · rw [Array.getD_eq_getD_getElem?, Array.getElem?_eq_none (by simpa using hj)]; rfl
  refine wpIn_region_any hm (inv_last rfl hal hno h1 h2 ho hf hQ _ _ f a _ (by simp) ?_ ?_ (hD0 _))
  · have := List.length_filter_le (fun j => !(Array.replicate (opsA ++ [oN]).toArray.size false).getD j false) (List.range (opsA ++ [oN]).length)
    simpa using this
  · refine ⟨fun j hj => ?_, fun j s _ hj => ?_, fun p hp _ => hi.get p hp, ha, ?_⟩
    · have := hD0 j; exact absurd (hj.symm.trans this) (by simp)
    · have := hD0 j; exact absurd (hj.symm.trans this) (by simp)
    · have hT : toks.filter (actT fun j => (Array.replicate (opsA ++ [oN]).toArray.size false).getD j false) = firstT toks := by
        refine List.filter_congr fun t _ => ?_
        unfold actT
        have hD1 : ∀ j, (Array.replicate (opsA ++ [oN]).toArray.size false).getD j false = false := hD0
        cases t.prod <;> cases t.cons <;> simp only [oall, oany, hD1] <;> rfl
      rw [hT, ← hL]
      exact hw.drew
/-- the same, the operations being written as one list -/
theorem c_any_end {id : Nat} {ops : List Oper} {oN : Oper} {f : Fm} {L : List Res} (N : Nat) (hl : ops.length = N + 1) (hoN : ops[N]? = some oN) (sps : List Sp) (toks : List Tok) (ini : List (Nat × Value)) (fin : List Nat) (M : List Res) (hm : P.follows .mixedOrders = true)
    (hal : lastAnc sps N = true) (hno : toks.all (fun t => tokLt t N) = true)
    (h1 : chkOps ops sps ini = true) (h2 : toks.all (chkTok ops sps) = true) (hf : fin.all (finOk ops ini) = true) (hL : L = rs (firstT toks) f ++ M) (hi : IniAt f ini)
    (ho : Obs P ro n ds β ops sps toks ini (ops.take N) 0)
    (hQ : ∀ f', KEv sps f' (sps.take N) → IAll ini fin f' → RunL P ro n ds β ops.toArray Q [oN] f' (rs (lastT toks) f' ++ M)) : RunC P ro n ds β (.region id ops.toArray true) Q f L := by
  have he : ops = ops.take N ++ [oN] := by
    have h := List.take_add_one (l := ops) (i := N)
    rw [hoN, ← hl, List.take_length] at h
    simpa using h
  have hlen : (ops.take N).length = N := by simp; omega
  generalize ops.take N = opsA at *
  subst he
  subst hlen
  exact c_any_last sps toks ini fin M hm hal hno h1 h2 hf hL hi ho hQ
theorem l_rebase {d : Nat} {v : Value} {f : Fm} {L : List Res} {ops : Array Oper} {rest : List Oper} (h : f d = v) (k : RunL P ro n ds β ops Q rest (upd f d v) L) : RunL P ro n ds β ops Q rest f L := by rw [← upd_eq h]; exact k
end
end Go.Sl

namespace Go.Sl

structure KComp where
  kind : UInt8
  v0 : Int
  v1 : Int
  v2 : Int
  v3 : Int
  deriving DecidableEq
structure KEnt where
  id : Int
  comps : List KComp
  deriving DecidableEq
structure KWorld where
  tick : Int
  ents : List KEnt
  deriving DecidableEq

def U8R : Rp UInt8 := Rp.flat 1 (fun x => [Bx x]) (fun _ => rfl)
theorem bool_f {p : Prop} [Decidable p] (h : ¬ p) : Ending.returned (.bool false) = .returned (.bool (decide p)) := by rw [decide_eq_false h]
theorem take_succ {α : Type} {xs : List α} {k : Nat} {a : α} (h : xs[k]? = some a) : xs.take (k + 1) = xs.take k ++ [a] := by
  rw [List.take_add_one, h]; rfl
theorem take_prefix {α : Type} {xs : List α} {k : Nat} {a : α} (h : xs[k]? = some a) : xs.take k ++ [a] <+: xs := by
  rw [← take_succ h]; exact List.take_prefix _ _
end Go.Sl

namespace Go.Sl
open Go.RowKit
abbrev Bs := List UInt8
abbrev BX (bs : Bs) : List Value := bs.map fun c => Bx c
def BsR : Rp Bs := Rp.slice U8R
abbrev str (bs : Bs) : ByteArray := ⟨bs.toArray⟩

theorem row_len {p : Option Addr} {m c T : Nat} {vs : List Value} {h : PHeap} (hr : row (.slice p m c) T 1 m vs h) : vs.length = m ∧ m ≤ c ∧ c ≤ maxLen := by
  obtain ⟨hl, ⟨e, h0⟩ | ⟨b, cap, cur, e, hb, h1, h2, _⟩⟩ := hr
  · injection e with _ _ e3
    subst e3; subst h0; refine ⟨by simpa using hl, by omega, by unfold maxLen; omega⟩
  · injection e with _ _ e3
    subst e3; exact ⟨by simpa using hl, h1, h2⟩

theorem row_flat {α : Type} {enc : α → Value} {p : Option Addr} {m c T : Nat} {xs : List α} {h : PHeap} (hr : row (.slice p m c) T 1 m (xs.map enc) h) : m = xs.length ∧ Elems (Rp.flat 1 (fun x => [enc x]) (fun _ => rfl)) h p xs := by
  have hl := (row_len hr).1
  rw [List.length_map] at hl
  refine ⟨hl.symm, fun j x hj => ?_⟩
  have hlt := (List.getElem?_eq_some_iff.1 hj).1
  obtain ⟨b, cur, rfl, hb, _⟩ := row_open hr (by omega)
  refine ⟨rfl, [enc x], ?_, rfl⟩
  show Cs h ((ba (some ⟨b, 0, none⟩)).add (j * 1)) _
  rw [Nat.mul_one]
  refine row_cs hr ?_ (Nat.succ_pos _)
  rw [List.drop_eq_getElem_cons (by simpa using hlt)]
  have := (List.getElem?_eq_some_iff.1 hj).2
  simp [this]

theorem row_u8e {p : Option Addr} {m c T : Nat} {bs : Bs} {h : PHeap} (hr : row (.slice p m c) T 1 m (BX bs) h) : Elems U8R h p bs := (row_flat (enc := fun x : UInt8 => Bx x) hr).2
theorem row_u8 {p : Option Addr} {m c T : Nat} {bs : Bs} {h : PHeap} (hr : row (.slice p m c) T 1 m (BX bs) h) : Sl U8R h (.slice p m c) bs := by
  have h1 := (row_flat (enc := fun x : UInt8 => Bx x) hr).1
  have h2 := row_len hr
  exact ⟨p, c, by rw [h1], by omega, by have := h2.2.2; unfold maxLen at this; omega, row_u8e hr⟩
theorem elems_cells {α : Type} {enc : α → Value} {h : PHeap} {a : Option Addr} {xs : List α} (he : Elems (Rp.flat 1 (fun x => [enc x]) (fun _ => rfl)) h a xs) : Cs h (ba a) (xs.map enc) := by
  intro j v hj
  rw [List.getElem?_map] at hj
  cases hx : xs[j]? with
  | none => rw [hx] at hj; cases hj
  | some x =>
    rw [hx] at hj
    injection hj with hj
    obtain ⟨_, cs, hc, hr⟩ := he j x hx
    have hr : cs = [enc x] := hr
    subst hr
    have hc : Cs h ((ba a).add (j * 1)) [enc x] := hc
    rw [Nat.mul_one] at hc
    have := hc 0 (enc x) rfl
    rw [Addr.add_zero'] at this
    rw [← hj]; exact this
theorem elems_cs {h : PHeap} {a : Option Addr} {xs : Bs} (he : Elems U8R h a xs) : Cs h (ba a) (BX xs) := elems_cells (enc := fun x : UInt8 => Bx x) he
theorem elems_some {α : Type} {R : Rp α} {h : PHeap} {a : Option Addr} {xs : List α} (he : Elems R h a xs) (hx : 0 < xs.length) : a = some (ba a) := (he 0 _ (List.getElem?_eq_getElem hx)).1

theorem overL_bx {bs : Bs} {j : Nat} {b : UInt8} (hj : j < bs.length) : overL (BX bs) (j * 1) [Bx b] = BX (bs.set j b) := by
  unfold overL BX
  rw [Nat.mul_one, List.map_set]
  rw [List.set_eq_take_append_cons_drop, if_pos (by simpa using hj)]
  simp
theorem row_takeB {p : Option Addr} {m c T h : Nat} {bs : Bs} {a : PHeap} (hr : row (.slice p m c) T 1 m (BX bs) a) (hh : h ≤ m) : row (.slice p h c) T 1 (bs.take h).length (BX (bs.take h)) a := by
  have hlen := (row_flat (enc := fun x : UInt8 => Bx x) hr).1
  have e : (bs.take h).length = h := by simp; omega
  rw [e]
  obtain ⟨hl, ⟨e1, h0⟩ | ⟨b, cap, cur, e1, hb, h1, h2, h3, h4⟩⟩ := hr
  · have : h = 0 := by omega
    subst this
    injection e1 with e1 e2 e3
    subst e1; subst e3
    exact ⟨by simp, .inl ⟨rfl, rfl⟩⟩
  · injection e1 with e1 e2 e3
    subst e1; subst e3
    refine ⟨by simp; omega, .inr ⟨b, c, cur, rfl, hb, by omega, h2, h3, ?_⟩⟩
    have e5 : cur.toList.take (h * 1) = (cur.toList.take (m * 1)).take (h * 1) := by rw [List.take_take, Nat.min_eq_left (by omega)]
    rw [e5, h4]; simp [List.map_take]

/-- slices of bytes, kept in a row of slices -/
def inn (us : List Value) (xs : List Bs) : Res := fun h => us.length = xs.length ∧ ∀ (i : Nat) x u, xs[i]? = some x → us[i]? = some u → Sl U8R h u x
theorem inn.mono (us : List Value) (xs : List Bs) : Mono (inn us xs) := fun _ _ hs ⟨h1, h2⟩ => ⟨h1, fun i x u hx hu => Sl.mono U8R u x _ _ hs (h2 i x u hx hu)⟩
theorem inn_nil (h : PHeap) : inn [] [] h := ⟨rfl, fun i x u hx _ => by simp at hx⟩
theorem inn_snoc {us : List Value} {xs : List Bs} {u : Value} {x : Bs} {h : PHeap} (hi : inn us xs h) (hu : Sl U8R h u x) : inn (us ++ [u]) (xs ++ [x]) h := by
  refine ⟨by simp [hi.1], fun i y v hy hv => ?_⟩
  by_cases hlt : i < xs.length
  · rw [List.getElem?_append_left hlt] at hy
    rw [List.getElem?_append_left (by rw [hi.1]; exact hlt)] at hv
    exact hi.2 i y v hy hv
  · have h1 := (List.getElem?_eq_some_iff.1 hy).1
    have : i = xs.length := by simp at h1; omega
    subst this
    rw [List.getElem?_append_right (Nat.le_refl _)] at hy
    rw [← hi.1, List.getElem?_append_right (Nat.le_refl _)] at hv
    simp at hy hv
    subst hy; subst hv; exact hu
/-- slices each of which has a block of bytes of its own, or none -/
def shp (us : List Value) : Res := fun h => ∀ u ∈ us, u = .slice none 0 0 ∨ ∃ g m c cur, u = .slice (some ⟨g, 0, none⟩) m c ∧ h g = some (.cells cur 5 (0, 0)) ∧ m ≤ c ∧ c ≤ maxLen ∧ cur.size = c
theorem shp.mono (us : List Value) : Mono (shp us) := fun _ _ hs h u hu => (h u hu).imp id fun ⟨g, m, c, cur, e, hg, r⟩ => ⟨g, m, c, cur, e, hs _ _ hg, r⟩
theorem row_shp {v : Value} {m : Nat} {vs : List Value} {h : PHeap} (hr : row v 5 1 m vs h) : shp [v] h := fun u hu => by
  simp only [List.mem_singleton] at hu
  subst hu
  obtain ⟨_, ⟨e, _⟩ | ⟨g, cap, cur, e, hg, h1, h2, h3, _⟩⟩ := hr
  · exact .inl e
  · exact .inr ⟨g, m, cap, cur, e, hg, h1, h2, by omega⟩
/-- slices of bytes with blocks of their own, kept in a row of slices -/
def ins (us : List Value) (xs : List Bs) : Res := fun h => inn us xs h ∧ shp us h
theorem ins.mono (us : List Value) (xs : List Bs) : Mono (ins us xs) := fun _ _ hs ⟨h1, h2⟩ => ⟨inn.mono _ _ _ _ hs h1, shp.mono _ _ _ hs h2⟩
theorem ins_nil (h : PHeap) : ins [] [] h := ⟨inn_nil h, fun _ hu => by cases hu⟩
theorem ins_snoc {us : List Value} {xs : List Bs} {u : Value} {x : Bs} {h : PHeap} (hi : ins us xs h) (hu : Sl U8R h u x) (hs : shp [u] h) : ins (us ++ [u]) (xs ++ [x]) h :=
  ⟨inn_snoc hi.1 hu, fun v hv => by
    rcases List.mem_append.1 hv with h1 | h1
    · exact hi.2 v h1
    · exact hs v h1⟩
/-- T: the type of the row's elements -/
def recsR (T : Nat) (p : Option Addr) (c : Nat) (xs : List Bs) : Res := fun h => ∃ us, Sat [row (.slice p xs.length c) T 1 xs.length us, ins us xs] h
theorem recs_sl {T : Nat} {p : Option Addr} {c : Nat} {xs : List Bs} {h : PHeap} (hr : recsR T p c xs h) : Sl BsR h (.slice p xs.length c) xs := by
  obtain ⟨us, a, b, _, ha, hb, hr, a', b', _, ha', _, hi, _⟩ := hr
  have hl := row_len hr
  have hi : inn us xs h := inn.mono _ _ _ _ (ha'.trans hb) hi.1
  refine ⟨p, c, rfl, hl.2.1, by have := hl.2.2; unfold maxLen at this; omega, fun j x hj => ?_⟩
  have hlt := (List.getElem?_eq_some_iff.1 hj).1
  obtain ⟨q, cur, rfl, hq, _⟩ := row_open hr (by omega)
  obtain ⟨u, hu⟩ : ∃ u, us[j]? = some u := ⟨_, List.getElem?_eq_getElem (by rw [hi.1]; exact hlt)⟩
  refine ⟨rfl, [u], Cs.mono _ _ _ _ ha (?_ : Cs a _ _), u, rfl, hi.2 j x u hj hu⟩
  show Cs a ((ba (some ⟨q, 0, none⟩)).add (j * 1)) _
  rw [Nat.mul_one]
  refine row_cs hr ?_ (Nat.succ_pos _)
  rw [List.drop_eq_getElem_cons (by omega)]
  have := (List.getElem?_eq_some_iff.1 hu).2
  simp [this]
theorem recs_nil (T : Nat) (h : PHeap) : recsR T none 0 [] h :=
  ⟨[], fun _ => none, h, fun _ => .inl rfl, fun _ _ h => (by cases h), Sub.refl _, row_nil _ _ _, fun _ => none, h, fun _ => .inl rfl, fun _ _ h => (by cases h), Sub.refl _, ins_nil _, trivial⟩

theorem Sl.parts {α : Type} {R : Rp α} {h : PHeap} {p : Option Addr} {n c : Nat} {xs : List α} (hs : Sl R h (.slice p n c) xs) : n = xs.length ∧ xs.length ≤ c ∧ c ≤ 9223372036854775807 ∧ Elems R h p xs := by
  obtain ⟨a, c', e, h1, h2, h3⟩ := hs.get
  injection e with e1 e2 e3
  subst e1; subst e2; subst e3
  exact ⟨rfl, h1, h2, h3⟩
end Go.Sl

namespace Go.Sl
section
variable {P : Program} {ro : Option Nat} {n : Nat} {ds : List Deferred} {β : Base} {Q : Exit → Act → World → Prop} {f : Fm} {L : List Res} {ops : Array Oper} {rest : List Oper}
variable {d : Option Tmp} {ty : TypeId} {ps : String} {af : Array Edge} {g : Option (Nat × Bool)}

/-! Memory that is only read from here on: a resource that is a fact of its heap. -/
/-- what a list of resources says of its heap, one after the other -/
theorem Sat.head {r : Res} {rs : List Res} {h : PHeap} (hL : Sat (r :: rs) h) : ∃ a, Sub a h ∧ r a := let ⟨a, _, _, ha, _, hr, _⟩ := hL; ⟨a, ha, hr⟩
end
end Go.Sl
namespace Go.Sl
end Go.Sl
namespace Go.Sl
theorem perm_range {α : Type _} (L : List α) : L.Perm ((List.range L.length).filterMap (L[·]?)) := by
  have : (List.range L.length).filterMap (L[·]?) = L := by
    induction L with
    | nil => rfl
    | cons a l ih =>
      rw [List.length_cons, List.range_succ_eq_map, List.filterMap_cons, List.filterMap_map]
      simp only [List.getElem?_cons_zero]
      congr 1
  rw [this]
/-- a list in another order, by indices -/
theorem perm_ix {α : Type _} {L L' : List α} (ix : List Nat) (n : Nat) (hn : L.length = n) (h : (List.range n).isPerm ix = true) (e : ix.filterMap (L[·]?) = L') : L.Perm L' := by
  subst e; subst hn
  exact (perm_range L).trans ((List.isPerm_iff.1 h).filterMap _)
end Go.Sl

namespace Go.Sl
/-- a struct without references -/
structure Fl (α : Type) where
  n : Nat
  enc : α → List Value
  len : ∀ x, (enc x).length = n
  one : ∀ x, (enc x).all (·.oneCell') = true
  pos : 0 < n
abbrev Fl.R {α : Type} (F : Fl α) : Rp α := Rp.flat F.n F.enc F.len
abbrev rowF {α : Type} (F : Fl α) (T : Nat) (p : Option Addr) (c : Nat) (xs : List α) : Res := row (.slice p xs.length c) T F.n xs.length (xs.flatMap F.enc)
section
variable {α : Type} {F : Fl α}
theorem fl_len (xs : List α) : (xs.flatMap F.enc).length = xs.length * F.n := by
  induction xs with
  | nil => simp
  | cons x xs ih => rw [List.flatMap_cons, List.length_append, ih, List.length_cons, F.len, Nat.add_mul]; omega
theorem fl_one (xs : List α) : (xs.flatMap F.enc).all (·.oneCell') = true := by
  rw [List.all_eq_true]
  intro v hv
  obtain ⟨x, _, hx⟩ := List.mem_flatMap.1 hv
  exact List.all_eq_true.1 (F.one x) v hx
theorem fl_drop (xs : List α) (k : Nat) : (xs.flatMap F.enc).drop (k * F.n) = (xs.drop k).flatMap F.enc := by
  induction k generalizing xs with
  | zero => simp
  | succ k ih =>
    cases xs with
    | nil => simp
    | cons x xs =>
      rw [List.flatMap_cons, Nat.add_mul, Nat.one_mul, Nat.add_comm, ← List.drop_drop, List.drop_left' (F.len x), ih]; rfl
theorem fl_take (xs : List α) (k : Nat) : (xs.flatMap F.enc).take (k * F.n) = (xs.take k).flatMap F.enc := by
  induction k generalizing xs with
  | zero => simp
  | succ k ih =>
    cases xs with
    | nil => simp
    | cons x xs =>
      rw [List.flatMap_cons, List.take_succ_cons, List.flatMap_cons, List.take_append, F.len, ← ih, List.take_of_length_le (by rw [F.len]; rw [Nat.add_mul]; omega)]
      congr 2
      rw [Nat.add_mul]; omega
theorem fl_at {xs : List α} {k : Nat} {x : α} (hx : xs[k]? = some x) : ((xs.flatMap F.enc).drop (k * F.n)).take (F.enc x).length = F.enc x := by
  obtain ⟨h, e⟩ := List.getElem?_eq_some_iff.1 hx
  rw [fl_drop, List.drop_eq_getElem_cons h, e, List.flatMap_cons, List.take_left]
theorem fl_set {xs : List α} {k : Nat} (h : k < xs.length) (x : α) : overL (xs.flatMap F.enc) (k * F.n) (F.enc x) = (xs.set k x).flatMap F.enc := by
  have e : xs.set k x = xs.take k ++ x :: xs.drop (k + 1) := List.set_eq_take_append_cons_drop .. |>.trans (if_pos h)
  rw [e, List.flatMap_append, List.flatMap_cons]
  unfold overL
  rw [fl_take, F.len, show k * F.n + F.n = (k + 1) * F.n by rw [Nat.add_mul]; omega, fl_drop, List.append_assoc]
theorem elems_fl {h : PHeap} {a : Option Addr} {xs : List α} (he : Elems F.R h a xs) : Cs h (ba a) (xs.flatMap F.enc) := by
  intro j v hj
  have hjl := (List.getElem?_eq_some_iff.1 hj).1
  rw [fl_len] at hjl
  have hn := F.pos
  have hq : j / F.n < xs.length := Nat.div_lt_of_lt_mul (by rw [Nat.mul_comm]; exact hjl)
  obtain ⟨ha, cs, hc, hr⟩ := he (j / F.n) _ (List.getElem?_eq_getElem hq)
  have hr : cs = F.enc xs[j / F.n] := hr
  subst hr
  have hjm : j / F.n * F.n + j % F.n = j := by rw [Nat.mul_comm]; exact Nat.div_add_mod j F.n
  have key : (F.enc xs[j / F.n])[j % F.n]? = some v := by
    rw [← fl_at (F := F) (List.getElem?_eq_getElem hq), List.getElem?_take_of_lt (by rw [F.len]; exact Nat.mod_lt _ hn), List.getElem?_drop, hjm]; exact hj
  have h2 := hc (j % F.n) v key
  rw [Addr.add_add', show j / F.n * F.R.n + j % F.n = j from hjm] at h2
  exact h2
theorem rowF_sl {T : Nat} {p : Option Addr} {c : Nat} {xs : List α} {a : PHeap} (h : rowF F T p c xs a) : Sl F.R a (.slice p xs.length c) xs := by
  rcases Nat.eq_zero_or_pos xs.length with h0 | h0
  · have hx : xs = [] := List.eq_nil_of_length_eq_zero h0
    subst hx
    obtain ⟨_, ⟨e, _⟩ | ⟨b, cap, cur, e, hb, h1, h2, h3, h4⟩⟩ := h
    · injection e with e1 e2 e3
      exact ⟨p, c, rfl, by omega, by omega, fun j x hj => by simp at hj⟩
    · injection e with e1 e2 e3
      subst e3
      exact ⟨p, c, rfl, h1, by unfold maxLen at h2; exact h2, fun j x hj => by simp at hj⟩
  · have h' := h
    obtain ⟨b, cur, rfl, hb, h1, h2, h3, h4, h5⟩ := row_open h h0
    refine ⟨_, c, rfl, h1, by unfold maxLen at h2; exact h2, fun j x hj => ⟨rfl, F.enc x, ?_, rfl⟩⟩
    exact row_cs h' (fl_at hj) (by rw [F.len]; exact F.pos)
end
section
variable {P : Program} {ro : Option Nat} {n : Nat} {ds : List Deferred} {β : Base} {Q : Exit → Act → World → Prop} {f : Fm} {L : List Res} {ops : Array Oper} {rest : List Oper}
variable {d : Option Tmp} {ty : TypeId} {ps : String} {af : Array Edge} {g : Option (Nat × Bool)}
variable {α : Type} {F : Fl α}
theorem k_fl {T c : Nat} {p : Option Addr} {xs : List α} (i : Nat) (hi : L[i]? = some (rowF F T p c xs)) : Knows β L (fun h => Sl F.R h (.slice p xs.length c) xs) := Knows.of_res i hi (Sl.mono _ _ _) fun _ h => rowF_sl h
theorem k_flAt {T c k : Nat} {p : Option Addr} {xs : List α} {x : α} (i : Nat) (hi : L[i]? = some (rowF F T p c xs)) (hx : xs[k]? = some x) : Knows β L (fun h => Cs h ((ba p).add (k * F.n)) (F.enc x)) :=
  k_row i hi (fl_at hx) (by rw [F.len]; exact F.pos)
theorem m_storeFl {x y : Operand} {t k c T : Nat} {agg : Bool} {p : Option Addr} {xs : List α} {z : α} {v : Value} (i : Nat) (ht : tyB P t agg F.n = true) (hx : ev f x = .pointer (some ((ba p).add (k * F.n)))) (hy : ev f y = v) (hv : v.cells.toList = F.enc z)
    (hi : L[i]? = some (rowF F T p c xs)) (hk : k < xs.length) : MU P β L f ⟨d, .store t x y, ty, ps, af, g⟩ (L.set i (rowF F T p c (xs.set k z))) := by
  have hn : v.cells.size = F.n := by rw [← Array.length_toList, hv, F.len]
  have h := m_storeRow (P := P) (β := β) (d := d) (ty := ty) (ps := ps) (af := af) (g := g) (o := k * F.n) i ht hx hy hi hn (by rw [hv]; exact F.one z) (by have := Nat.mul_le_mul_right F.n (show k + 1 ≤ xs.length from hk); rw [Nat.add_mul] at this; omega) (by omega)
  rw [hv, fl_set hk] at h
  have e : rowF F T p c (xs.set k z) = row (.slice p xs.length c) T F.n xs.length ((xs.set k z).flatMap F.enc) := by show row (.slice p (xs.set k z).length c) T F.n (xs.set k z).length _ = _; rw [List.length_set]
  rw [e]; exact h
theorem m_appendFl {x y : Operand} {t e bytes k c c0 : Nat} {p : Option Addr} {xs ys : List α} {ao : Option Addr} (i : Nat) (hsl : slB P t e F.n = true) (hel : elB P e F.n bytes = true) (hx : ev f x = .slice p xs.length c0) (hi : L[i]? = some (rowF F e p c0 xs))
    (hy : ev f y = .slice ao k c) (hl : ys.length = k) (hk : Knows β L (fun h => Elems F.R h ao ys)) (hby : (xs.length + k) * bytes ≤ 140737488355328) (h63 : xs.length + k ≤ 140737488355328) :
    MV P β L f ⟨d, .call ⟨.builtin .append, #[x, y], #[t, t]⟩, ty, ps, af, g⟩ (fun v' L' => ∃ p c, v' = .slice p (xs ++ ys).length c ∧ L' = L.set i (rowF F e p c (xs ++ ys))) := fun w hw => by
  have hkk := hw.knows hk
  have hcs : Knows β L (fun h => Cs h (ba ao) (ys.flatMap F.enc)) := fun h hb hr => elems_fl (hk h hb hr)
  have hsome : 0 < k → ao = some (ba ao) := fun h0 => by
    cases ys with
    | nil => simp at hl; omega
    | cons a l => exact (hkk 0 a rfl).1
  obtain ⟨v', w', L', g1, g2, p', c', rfl, rfl⟩ := m_append_w (P := P) (ty := ty) (ps := ps) (af := af) (g := g) (d := d) i hsl hel hx hi hy (by rw [fl_len, hl]) hcs (fl_one ys) hsome (by unfold maxLen; omega) hby w hw
  have e1 : (xs ++ ys).length = xs.length + k := by simp [hl]
  refine ⟨_, w', _, g1, g2, p', c', by rw [e1], ?_⟩
  show _ = L.set i (row (.slice p' (xs ++ ys).length c') e F.n (xs ++ ys).length ((xs ++ ys).flatMap F.enc))
  rw [e1, List.flatMap_append]
theorem e_indexFlN {x y : Operand} {t e : Nat} {j m cap T : Nat} {p : Option Addr} {xs : List α} (i : Nat) (hx : ev f x = .slice p m cap) (hm : m = xs.length) (hy : ev f y = .int .i64 (j : Int)) (ht : slB P t e F.n = true) (hj : j < m)
    (hi : L[i]? = some (rowF F T p cap xs)) : EV P β L f ⟨d, .indexAddr t x y, ty, ps, af, g⟩ (.pointer (some ((ba p).add (j * F.n)))) := e_indexRow i hx hy ht hj (by omega) hi
theorem k_flN {T c m : Nat} {p : Option Addr} {xs : List α} (i : Nat) (hi : L[i]? = some (rowF F T p c xs)) (hm : m = xs.length) : Knows β L (fun h => Sl F.R h (.slice p m c) xs) := by subst hm; exact k_fl i hi
theorem k_ptFl {b T : Nat} {fr : Nat × Nat} {z : α} {cs : Array Value} (i : Nat) (hi : L[i]? = some (pt b (.cells cs T fr))) (hz : cs.toList = F.enc z) : Knows β L (fun h => Elems F.R h (some ⟨b, 0, none⟩) [z]) :=
  Knows.of_res i hi (Elems.mono _ _ _) fun a h j x hx => by
    cases j with
    | zero =>
      have e : z = x := by simpa using hx
      subst e
      refine ⟨rfl, F.enc z, ?_, rfl⟩
      rw [Nat.zero_mul]
      have e0 : (ba (some ⟨b, 0, none⟩)).add 0 = ⟨b, 0, none⟩ := rfl
      rw [e0]
      exact Cs.of_pt h (by rw [List.drop_zero, hz, List.take_length])
    | succ j => simp at hx
end
end Go.Sl
namespace Go.Sl
section
variable {P : Program} {ro : Option Nat} {n : Nat} {ds : List Deferred} {β : Base} {Q : Exit → Act → World → Prop} {f : Fm} {L : List Res}
theorem pt_rowF {α : Type} {F : Fl α} {b T : Nat} {cs : Array Value} {xs : List α} (hx : cs.toList = xs.flatMap F.enc) (hl : xs.length ≤ 1048576) (a : PHeap) (h : pt b (.cells cs T) a) : rowF F T (some ⟨b, 0, none⟩) xs.length xs a := by
  have hs : cs.size = xs.length * F.n := by rw [← Array.length_toList, hx, fl_len]
  have := pt_row (m := xs.length) (n := F.n) (by unfold maxLen; omega) hs a h
  rwa [hx] at this
end
end Go.Sl
namespace Go.Sl
section
variable {P : Program} {ro : Option Nat} {n : Nat} {ds : List Deferred} {β : Base} {Q : Exit → Act → World → Prop} {f : Fm} {L : List Res}
variable {d : Option Tmp} {ty : TypeId} {ps : String} {af : Array Edge} {g : Option (Nat × Bool)} {α : Type} {F : Fl α}
theorem m_appendFlN {x y : Operand} {t e bytes k c c0 m : Nat} {p : Option Addr} {xs ys : List α} {ao : Option Addr} (i : Nat) (hsl : slB P t e F.n = true) (hel : elB P e F.n bytes = true) (hx : ev f x = .slice p m c0) (hm : m = xs.length) (hi : L[i]? = some (rowF F e p c0 xs))
    (hy : ev f y = .slice ao k c) (hl : ys.length = k) (hk : Knows β L (fun h => Elems F.R h ao ys)) (hby : (xs.length + k) * bytes ≤ 140737488355328) (h63 : xs.length + k ≤ 140737488355328) :
    MV P β L f ⟨d, .call ⟨.builtin .append, #[x, y], #[t, t]⟩, ty, ps, af, g⟩ (fun v' L' => ∃ p c, v' = .slice p (xs ++ ys).length c ∧ L' = L.set i (rowF F e p c (xs ++ ys))) := by
  subst hm; exact m_appendFl i hsl hel hx hi hy hl hk hby h63
end
end Go.Sl
