/-
  Slices that are one's own: they may be appended to. Own work; plain Lean.
-/
import Derived.Test.YtbfidhbcojbklaaGreatSlMem
import Derived.Laws.AppendOwnNone
namespace Go.Sl
open Go.RowKit

/-- v is a slice of one's own: m elements of type T, of n cells each, the cells being vs. -/
def row (v : Value) (T n m : Nat) (vs : List Value) : Res := fun h =>
  vs.length = m * n ∧ (v = .slice none 0 0 ∧ m = 0 ∨
    ∃ g cap cur, v = .slice (some ⟨g, 0, none⟩) m cap ∧ h g = some (.cells cur T (0, 0)) ∧ m ≤ cap ∧ cap ≤ maxLen ∧ cur.size = cap * n ∧ cur.toList.take (m * n) = vs)

theorem row.owns {v : Value} {T n m : Nat} {vs : List Value} {a : PHeap} {w : World} (h : row v T n m vs a) (ha : Sub a (ph w)) : w.ownsRow 0 T n v m vs := by
  obtain ⟨hl, h | ⟨g, cap, cur, e, hg, h1, h2, h3, h4⟩⟩ := h
  · exact ⟨hl, .inl h⟩
  · exact ⟨hl, .inr ⟨g, cap, cur, e, Nat.zero_le _, ha _ _ hg, h1, h2, h3, h4⟩⟩

theorem row_nil (T n : Nat) (a : PHeap) : row (.slice none 0 0) T n 0 [] a := ⟨by simp, .inl ⟨rfl, rfl⟩⟩

theorem St.conseq {β : Base} {r r' : Res} {L : List Res} {w : World} (h : St β (r :: L) w) (hr : ∀ a, r a → r' a) : St β (r' :: L) w := by
  obtain ⟨a, b, c, hh, hd, hs, hs', p, q, hpq, hp, hq, hrp, hL⟩ := h
  exact ⟨a, b, c, hh, hd, hs, hs', p, q, hpq, hp, hq, hr _ hrp, hL⟩

theorem St.conseq_at {β : Base} {r r' : Res} {L : List Res} {w : World} (h : St β L w) (i : Nat) (hi : L[i]? = some r) (hr : ∀ a, r a → r' a) : St β (L.set i r') w :=
  St.back i hi ((h.front i hi).conseq hr)

/-- A resource that holds of no memory. -/
theorem St.emp {β : Base} {r : Res} {L : List Res} {w : World} (h : St β L w) (hr : r fun _ => none) : St β (r :: L) w :=
  h.grow rfl rfl rfl (fun _ _ => rfl) ⟨fun _ => none, hr, fun _ _ h => (by cases h), fun _ _ => rfl⟩

/-- A block just made is a row of one's own. -/
theorem pt_row {b T n m : Nat} {cs : Array Value} (hm : m ≤ maxLen) (hs : cs.size = m * n) (a : PHeap) (h : pt b (.cells cs T) a) : row (.slice (some ⟨b, 0, none⟩) m m) T n m cs.toList a :=
  ⟨by rw [Array.length_toList]; exact hs, .inr ⟨b, m, cs, rfl, h, Nat.le_refl _, hm, hs, by rw [← hs, ← Array.length_toList, List.take_length]⟩⟩

section
variable {P : Program} {β : Base} {L : List Res} {f : Fm}
variable {d : Option Tmp} {ty : TypeId} {ps : String} {af : Array Edge} {g : Option (Nat × Bool)}

/-- closed facts on an element type: its row of the table -/
def elB (P : Program) (e n bytes : Nat) : Bool :=
  match P.info? e with
  | some i => i.size == n && i.bytes == bytes && (match i.zero with | some z => z.cells.size == n | none => false) && !(n == 0)
  | none => false

/-- what turns behind an append to a row -/
theorem St.grown {T n m m' : Nat} {v v' : Value} {vs vs' : List Value} {L : List Res} {w w' : World} (h : St β (row v T n m vs :: L) w) (ho : w'.ownsRow 0 T n v' m' vs') (hg : w.grownBy w' v.ownBlock)
    (hnew : v'.ownBlock = none ∨ v'.ownBlock = v.ownBlock ∨ ∀ k, v'.ownBlock = some k → w.heap.size ≤ k) : St β (row v' T n m' vs' :: L) w' := by
  refine h.turn hg.os hg.tape hg.output fun a ha hr => ?_
  have keep : ∀ k, k < w.heap.size → a k = none → w'.heap[k]? = w.heap[k]? := fun k hk hak => hg.block k hk fun e => by
    obtain ⟨_, ⟨rfl, _⟩ | ⟨b, cap, cur, rfl, hb, _⟩⟩ := hr
    · cases e
    · simp only [Value.ownBlock, Option.some.injEq] at e
      subst e; rw [hb] at hak; cases hak
  obtain ⟨hl, ⟨rfl, hm0⟩ | ⟨b', cap', cur', rfl, _, hb', h1, h2, h3, h4⟩⟩ := ho
  · exact ⟨fun _ => none, ⟨hl, .inl ⟨rfl, hm0⟩⟩, fun _ _ h => (by cases h), fun k hk hak => ⟨rfl, keep k hk hak⟩⟩
  · refine ⟨fun k => if k = b' then some (.cells cur' T (0, 0)) else none, ⟨hl, .inr ⟨b', cap', cur', rfl, by simp, h1, h2, h3, h4⟩⟩, ?_, ?_⟩
    · intro k o ho
      by_cases e : k = b'
      · subst e; simp at ho; subst ho; exact hb'
      · simp [e] at ho
    · intro k hk hak
      refine ⟨?_, keep k hk hak⟩
      have : k ≠ b' := by
        rintro rfl
        rcases hnew with h | h | h
        · cases h
        · obtain ⟨_, ⟨rfl, _⟩ | ⟨b, cap, cur, rfl, hb, _⟩⟩ := hr
          · cases h
          · simp only [Value.ownBlock, Option.some.injEq] at h
            subst h; rw [hb] at hak; cases hak
        · have := h k rfl; omega
      simp [this]

theorem run_append_row {t e n bytes : Nat} (hsl : slB P t e n = true) (hel : elB P e n bytes = true) {v : Value} {m : Nat} {vs : List Value} {w : World} (hown : w.ownsRow 0 e n v m vs)
    (ad : Addr) (k c : Nat) (news : List Value) (hl : news.length = k * n) (hnews : Cs (ph w) ad news) (h1 : news.all (·.oneCell') = true) (h63 : m + k ≤ maxLen) (hby : (m + k) * bytes ≤ 140737488355328) (ty : TypeId) :
    ∃ v' w', (Builtin.append_ #[t, t] ty #[v, .slice (some ad) k c]).run P w = .ok v' w' ∧ w'.ownsRow 0 e n v' (m + k) (vs ++ news) ∧ w.grownBy w' v.ownBlock ∧ (v' = .slice none 0 0 ↔ v = .slice none 0 0 ∧ k = 0) ∧
      (v'.ownBlock = none ∨ v'.ownBlock = v.ownBlock ∨ ∀ b, v'.ownBlock = some b → w.heap.size ≤ b) := by
  unfold slB at hsl
  simp only [Bool.and_eq_true] at hsl
  obtain ⟨hs1, hs2⟩ := hsl
  unfold elB at hel
  cases hu : P.underlying t with
  | none => rw [hu] at hs1; cases hs1
  | some dd =>
    rw [hu] at hs1
    cases dd <;> simp only [] at hs1 <;> try (cases hs1)
    rename_i e'
    have he : e' = e := by simpa using hs1
    subst he
    cases hi : P.info? e' with
    | none => rw [hi] at hs2; cases hs2
    | some i =>
      rw [hi] at hel
      simp only [Bool.and_eq_true, beq_iff_eq, Bool.not_eq_true', beq_eq_false_iff_ne, ne_eq] at hel
      obtain ⟨⟨⟨hn, hb⟩, hz⟩, hn0⟩ := hel
      cases hzz : i.zero with
      | none => rw [hzz] at hz; cases hz
      | some z =>
        rw [hzz] at hz
        have hz' : z.cells.size = n := by simpa using hz
        -- where there is room the value is known; else a new block was made
        have hsub : ∃ v' w', (Builtin.append_ #[t, t] ty #[v, .slice (some ad) k c]).run P w = .ok v' w' ∧ w'.ownsRow 0 e' n v' (m + k) (vs ++ news) ∧ w.grownBy w' v.ownBlock ∧ (v' = .slice none 0 0 ↔ v = .slice none 0 0 ∧ k = 0) :=
          run_append_own (P := P) w 0 t ty e' i z n bytes hu hi hzz hn hb hz' (by omega) v m vs hown ad k c news hl hnews (List.all_eq_true.1 h1) h63 hby (Nat.zero_le _)
        obtain ⟨v', w', hr, ho, hg, hnil⟩ := hsub
        refine ⟨v', w', hr, ho, hg, hnil, ?_⟩
        have hown' := hown
        subst hn
        subst hb
        rcases hown.2 with ⟨rfl, rfl⟩ | ⟨g, cap, cur, rfl, hbg, hgg, hnc, hcm, hcs, htake⟩
        · by_cases hk : k = 0
          · have := hnil.2 ⟨rfl, hk⟩
            subst this
            exact .inl rfl
          · have hby' : k * i.bytes ≤ 281474976710656 := by simp only [Nat.zero_add] at hby; omega
            have h63' : k ≤ 9223372036854775807 := by simp only [maxLen] at h63; omega
            have hx := run_append_nil (P := P) w t ty e' i z hu hi hzz ad k c news hl hnews (by omega) (by omega) hby'
            rw [hr] at hx
            injection hx with hx1 hx2
            subst hx1
            exact .inr (.inr fun b hb => by simp [Value.ownBlock] at hb; omega)
        · by_cases hroom : m + k ≤ cap
          · have hfit : m * i.size + news.length ≤ cur.size := by rw [hl, hcs, ← Nat.add_mul]; exact Nat.mul_le_mul_right _ hroom
            have hx := run_append_room (P := P) w t ty e' i hu hi g m cap cur hgg ad k c news hl hnews (List.all_eq_true.1 h1) hroom hfit
            rw [hr] at hx
            injection hx with hx1 hx2
            subst hx1
            exact .inr (.inl rfl)
          · have holds : ∀ j u, vs[j]? = some u → w.cell? ((⟨g, 0, none⟩ : Addr).add j) = some u := hown'.cells (g := g) rfl
            have h63' : m + k ≤ 9223372036854775807 := by simp only [maxLen] at h63; omega
            have hx := run_append_grow (P := P) w t ty e' i z hu hi hzz ⟨g, 0, none⟩ m cap vs hown'.1 holds ad k c news hl hnews (by omega) (by omega) (growslice_fits (by omega) hby)
            rw [hr] at hx
            injection hx with hx1 hx2
            subst hx1
            exact .inr (.inr fun b hb => by simp [Value.ownBlock] at hb; omega)

/-- append to a row of one's own, from cells that are known -/
theorem m_append {x y : Operand} {t e n bytes m k c : Nat} {v : Value} {vs news : List Value} {ad : Addr} (i : Nat) (hsl : slB P t e n = true) (hel : elB P e n bytes = true) (hx : ev f x = v) (hi : L[i]? = some (row v e n m vs))
    (hy : ev f y = .slice (some ad) k c) (hl : news.length = k * n) (hnews : Knows β L (fun h => Cs h ad news)) (h1 : news.all (·.oneCell') = true) (h63 : m + k ≤ maxLen) (hby : (m + k) * bytes ≤ 140737488355328) :
    MV P β L f ⟨d, .call ⟨.builtin .append, #[x, y], #[t, t]⟩, ty, ps, af, g⟩ (fun v' L' => (v' = .slice none 0 0 ↔ v = .slice none 0 0 ∧ k = 0) ∧ L' = L.set i (row v' e n (m + k) (vs ++ news))) := fun w hw => by
  have hown : w.ownsRow 0 e n v m vs := hw.knows (F := fun h => row v e n m vs h ∨ True) (fun _ _ _ => .inr trivial) |> fun _ => by
    obtain ⟨a, ha, hr⟩ : ∃ a, Sub a (ph w) ∧ row v e n m vs a := by
      obtain ⟨_, _, _, hh, hd, hs, hs', hL⟩ := hw
      obtain ⟨a, ha, hr⟩ := hL.each _ (List.mem_of_getElem? hi)
      exact ⟨a, ha.trans hs', hr⟩
    exact hr.owns ha
  obtain ⟨v', w', hr, ho, hg, hnil, hnew⟩ := run_append_row (P := P) hsl hel hown ad k c news hl (hw.knows hnews) h1 h63 hby ty
  refine ⟨v', w', _, ?_, St.back i hi ((hw.front i hi).grown ho hg hnew), hnil, rfl⟩
  simp only [execOp, resolve, invoke, builtin, Sem.run_bind, Sem.run_pure, Result.andThen_ok, List.map_toArray, List.map_cons, List.map_nil, hx, hy, hr]

/-- append of a nil or empty slice of nothing -/
theorem m_append_nil {x y : Operand} {t e n m : Nat} {v : Value} {vs : List Value} {ao : Option Addr} {c : Nat} (i : Nat) (hsl : slB P t e n = true) (hx : ev f x = v) (hi : L[i]? = some (row v e n m vs)) (hy : ev f y = .slice ao 0 c) :
    MV P β L f ⟨d, .call ⟨.builtin .append, #[x, y], #[t, t]⟩, ty, ps, af, g⟩ (fun v' L' => v' = v ∧ L' = L) := fun w hw => by
  refine ⟨v, w, L, ?_, hw, rfl, rfl⟩
  obtain ⟨a, ha, hr⟩ : ∃ a, Sub a (ph w) ∧ row v e n m vs a := by
    obtain ⟨_, _, _, hh, hd, hs, hs', hL⟩ := hw
    obtain ⟨a, ha, hr⟩ := hL.each _ (List.mem_of_getElem? hi)
    exact ⟨a, ha.trans hs', hr⟩
  unfold slB at hsl
  simp only [Bool.and_eq_true] at hsl
  obtain ⟨hs1, hs2⟩ := hsl
  cases hu : P.underlying t with
  | none => rw [hu] at hs1; cases hs1
  | some dd =>
    rw [hu] at hs1
    cases dd <;> simp only [] at hs1 <;> try (cases hs1)
    rename_i e'
    have he : e' = e := by simpa using hs1
    subst he
    cases hii : P.info? e' with
    | none => rw [hii] at hs2; cases hs2
    | some i =>
      have hfirst : ∀ w, (Builtin.firstCells i.size 0 (.slice ao 0 c)).run P w = .ok #[] w := fun w => by
        cases ao <;> simp [Builtin.firstCells, loadCells, loadCellsFrom]
      have key : ∀ (b : Option Addr) (m cap : Nat), m ≤ cap → (Builtin.append_ #[t, t] ty #[.slice b m cap, .slice ao 0 c]).run P w = .ok (.slice b m cap) w := fun b m cap hm => by
        simp [Builtin.append_, run_underlying hu, sizeOf, typeInfo, hii, Builtin.lenOf, hm, hfirst]
        cases b <;> simp [storeCells]
      have hv : (Builtin.append_ #[t, t] ty #[v, .slice ao 0 c]).run P w = .ok v w := by
        obtain ⟨_, ⟨rfl, _⟩ | ⟨b, cap, cur, rfl, _, hm, _⟩⟩ := hr
        · exact key none 0 0 (Nat.le_refl _)
        · exact key _ m cap hm
      simp only [execOp, resolve, invoke, builtin, Sem.run_bind, Sem.run_pure, Result.andThen_ok, List.map_toArray, List.map_cons, List.map_nil, hx, hy, hv]

theorem slB_split {t e n : Nat} (h : slB P t e n = true) : P.underlying t = some (.slice e) ∧ ∃ i, P.info? e = some i ∧ i.size = n := by
  unfold slB at h
  simp only [Bool.and_eq_true] at h
  obtain ⟨h1, h2⟩ := h
  cases hu : P.underlying t with
  | none => rw [hu] at h1; cases h1
  | some dd =>
    rw [hu] at h1
    cases dd <;> simp only [] at h1 <;> try (cases h1)
    rename_i e'
    have he : e' = e := by simpa using h1
    subst he
    cases hi : P.info? e' with
    | none => rw [hi] at h2; cases h2
    | some i => rw [hi] at h2; exact ⟨rfl, i, rfl, by simpa using h2⟩

/-- a slice literal -/
theorem m_slice {t e n len : Nat} {parts : List (Nat × Operand)} {z : Value} {vs : List (Nat × Value)} {cells : Array Value} (hsl : slB P t e n = true) (hz : (P.info? e).bind (·.zero) = some z)
    (hp : (parts.map fun (i, x) => (i, ev f x)) = vs) (hs : (Nat.ble 1 (len * n) && Nat.ble (len * n) 16777216) = true)
    (hf : Instr.fill (fun i => some (i * n, n)) ((Array.range (len * n)).map (z.cells[· % z.cells.size]!)) vs = some cells) :
    MV P β L f ⟨d, .buildSlice t len parts.toArray, ty, ps, af, g⟩ (fun u L' => ∃ b, u = .slice (some ⟨b, 0, none⟩) len len ∧ L' = pt b (.cells cells e) :: L) := fun w hw => by
  obtain ⟨hu, i, hi, hn⟩ := slB_split hsl
  simp only [Bool.and_eq_true, Nat.ble_eq] at hs
  have hz' : i.zero = some z := by rw [hi] at hz; simpa using hz
  refine ⟨_, _, _, ?_, hw.new (.cells cells e), _, rfl, rfl⟩
  have h1 : ¬ (16777216 < len * n) := by omega
  have h2 : ¬ (len * n = 0) := by omega
  have hzv : ∀ w, (zeroValue e).run P w = .ok z w := fun w => by simp [zeroValue, typeInfo, hi, hz']
  simp only [execOp, Instr.buildSlice, Sem.run_bind, run_underlying hu, Result.andThen_ok, sizeOf, typeInfo, run_program, hi, Sem.run_pure, hn, Nat.reducePow, gt_iff_lt, h1, if_false, h2, hzv, Array.toList_map] at hf ⊢
  simp only [hp, hf]
  simp [newRow]

theorem m_slice0 {t e n : Nat} (hsl : slB P t e n = true) :
    MV P β L f ⟨d, .buildSlice t 0 #[], ty, ps, af, g⟩ (fun u L' => ∃ b, u = .slice (some ⟨b, 0, none⟩) 0 0 ∧ L' = pt b (.cells #[] e) :: L) := fun w hw => by
  obtain ⟨hu, i, hi, hn⟩ := slB_split hsl
  refine ⟨_, _, _, ?_, hw.new (.cells #[] e), _, rfl, rfl⟩
  simp [execOp, Instr.buildSlice, run_underlying hu, sizeOf, typeInfo, hi, Instr.fill, newRow, show (Array.range 0 : Array Nat) = #[] from by simp [Array.range]]

end
end Go.Sl
