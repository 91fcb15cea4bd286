/-
  Own work; plain Lean (SlMore, SlMake, SlFam).
-/
import Derived.Test.YtbfidhbcojbklaaGreatSlCells
namespace Go.Sl
section
variable {P : Program} {ro : Option Nat} {n : Nat} {ds : List Deferred} {β : Base} {Q : Exit → Act → World → Prop} {f : Fm} {L : List Res} {ops : Array Oper} {rest : List Oper}
variable {d : Option Tmp} {ty : TypeId} {ps : String} {af : Array Edge} {g : Option (Nat × Bool)}

theorem e_indexArr {x y : Operand} {t len e n k : Nat} {a : Addr} (hx : ev f x = .pointer (some a)) (hy : ev f y = .int .i64 (k : Int)) (ht : arB P t len e n = true) (hk : k < len) :
    EV P β L f ⟨d, .indexAddr t x y, ty, ps, af, g⟩ (.pointer (some (a.add (k * n)))) := fun w _ => by
  unfold arB at ht
  simp only [Bool.and_eq_true] at ht
  obtain ⟨h1, h2⟩ := ht
  cases hu : P.underlying t with
  | none => rw [hu] at h1; cases h1
  | some dd =>
    rw [hu] at h1
    cases dd <;> simp only [] at h1 <;> try (cases h1)
    rename_i l' e'
    have he : l' = len ∧ e' = e := by simpa using h1
    obtain ⟨rfl, rfl⟩ := he
    cases hi : P.info? e' with
    | none => rw [hi] at h2; cases h2
    | some i =>
      rw [hi] at h2
      have hn : i.size = n := by simpa using h2
      simp only [execOp, hx, hy, Instr.indexAt, Instr.sureAddr, asIntOf, Sem.run_bind, run_underlying hu, Sem.run_pure, Result.andThen_ok]
      simp [hk, sizeOf, typeInfo, hi, hn]
theorem e_indexArrPt {x y : Operand} {t len e n k b o : Nat} (hx : ev f x = .pointer (some ⟨b, o, none⟩)) (hy : ev f y = .int .i64 (k : Int)) (ht : arB P t len e n = true) (hk : k < len) :
    EV P β L f ⟨d, .indexAddr t x y, ty, ps, af, g⟩ (.pointer (some ⟨b, o + k * n, none⟩)) := by
  have h := e_indexArr (P := P) (β := β) (L := L) (d := d) (ty := ty) (ps := ps) (af := af) (g := g) hx hy ht hk
  have e : (⟨b, o, none⟩ : Addr).add (k * n) = ⟨b, o + k * n, none⟩ := by unfold Addr.add; split <;> simp_all
  rwa [e] at h
end
theorem U_wrap (z : Int) : U (IntKind.i64.wrap z) = U z := by
  have h1 := ux_of (IntKind.i64.wrap z)
  have h2 := ux_of z
  have h3 : IntKind.u64.wrap (IntKind.i64.wrap z) = IntKind.u64.wrap z := by
    rw [u64w, u64w]
    simp only [IntKind.wrap, IntKind.bits, IntKind.signed]
    simp
    omega
  rw [h3, h2] at h1
  exact (UInt64.toNat_inj.1 (Int.ofNat_inj.1 h1)).symm
theorem U_add (a b : Int) : U (a + b) = U a + U b := by
  have h1 := ux_of (a + b)
  have h2 := ux_of a
  have h3 := ux_of b
  have h4 := ux_add (U a) (U b)
  rw [← h2, ← h3] at h4
  have h5 : IntKind.u64.wrap (IntKind.u64.wrap a + IntKind.u64.wrap b) = IntKind.u64.wrap (a + b) := by
    rw [u64w, u64w, u64w, u64w]; omega
  rw [h5, h1] at h4
  exact UInt64.toNat_inj.1 (Int.ofNat_inj.1 h4)
theorem U_ne {b : Int} (hb : -9223372036854775808 ≤ b ∧ b ≤ 9223372036854775807) (h0 : b ≠ 0) : U b ≠ 0 := by
  intro h
  have h1 := ux_of b
  rw [h, u64w] at h1
  have h2 : ((0 : UInt64).toNat : Int) = 0 := rfl
  rw [h2] at h1
  omega
/-- a number to which one that is not 0 is added has another word -/
theorem U_changed {a b : Int} (hb : -9223372036854775808 ≤ b ∧ b ≤ 9223372036854775807) (h0 : b ≠ 0) : U a ≠ U (IntKind.i64.wrap (a + b)) := by
  rw [U_wrap, U_add]
  intro h
  have h1 : U a + 0 = U a + U b := by rw [← h, UInt64.add_zero]
  rw [UInt64.add_right_inj] at h1
  exact U_ne hb h0 h1.symm
theorem ux_rem (x y : UInt64) : ((x.toNat : Int)).tmod (y.toNat : Int) = ((x % y).toNat : Int) := by
  rw [nat_tmod]; simp
end Go.Sl

namespace Go.Sl
section
variable {P : Program} {ro : Option Nat} {n : Nat} {ds : List Deferred} {β : Base} {Q : Exit → Act → World → Prop} {f : Fm} {L : List Res} {ops : Array Oper} {rest : List Oper}
variable {d : Option Tmp} {ty : TypeId} {ps : String} {af : Array Edge} {g : Option (Nat × Bool)}

theorem m_make0 {x y : Operand} {t e n bytes c : Nat} {z : Value} (hsl : slB P t e n = true) (hel : elB P e n bytes = true) (hz : (P.info? e).bind (·.zero) = some z) (hx : ev f x = .int .i64 0) (hy : ev f y = .int .i64 (c : Int))
    (h0 : 0 < c * n) (hc : c ≤ maxLen) (hb : c * bytes ≤ 140737488355328) :
    MV P β L f ⟨d, .makeSlice t x y, ty, ps, af, g⟩ (fun u L' => ∃ b, u = .slice (some ⟨b, 0, none⟩) 0 c ∧ L' = row (.slice (some ⟨b, 0, none⟩) 0 c) e n 0 [] :: L) := fun w hw => by
  obtain ⟨hu, i, hi, hn2⟩ := slB_split hsl
  have hz' : i.zero = some z := by rw [hi] at hz; simpa using hz
  have hbytes : i.bytes = bytes := by
    unfold elB at hel; rw [hi] at hel; simp only [Bool.and_eq_true] at hel
    simp only [beq_iff_eq] at hel
    exact hel.1.1.2
  have hw1 : IntKind.i64.wrap (c : Int) = (c : Int) := i64w (by unfold maxLen at hc; omega)
  have hw0 : IntKind.i64.wrap 0 = 0 := by decide
  have hroom : ¬ (roomBytes < c * i.bytes) := by rw [hbytes]; unfold roomBytes; omega
  have hbig : ¬ ((281474976710656 : Int) < (i.bytes : Int) * (c : Int)) := by
    rw [hbytes, Int.mul_comm]
    have h1 : ((c * bytes : Nat) : Int) ≤ 140737488355328 := by omega
    rw [Int.natCast_mul] at h1
    omega
  have hne : ¬ (c * n = 0) := by omega
  have hzv : ∀ w, (zeroValue e).run P w = .ok z w := fun w => by simp [zeroValue, typeInfo, hi, hz']
  refine ⟨.slice (some ⟨w.heap.size, 0, none⟩) 0 c, w.alloc (.cells ((Array.range (c * n)).map (z.cells[· % z.cells.size]!)) e (0, 0)), _, ?_, (hw.new (.cells ((Array.range (c * n)).map (z.cells[· % z.cells.size]!)) e)).conseq (r' := row (.slice (some ⟨w.heap.size, 0, none⟩) 0 c) e n 0 []) (fun a ha => ?_), _, rfl, rfl⟩
  · simp only [execOp, Instr.makeSlice, hx, hy, Sem.run_bind, run_underlying hu, Result.andThen_ok, asInt, asIntOf, sizeOf, typeInfo, run_program, hi, Sem.run_pure, hw0, hw1]
    have hcn : ¬ ((c : Int) < 0) := by omega
    simp [hcn, hbig, askRoom, hroom, hi, hn2, hne, hzv, newRow]
  · refine ⟨by simp, .inr ⟨w.heap.size, c, _, rfl, ha, by omega, hc, by simp, by simp⟩⟩
theorem m_make00 {x y : Operand} {t e n : Nat} (hsl : slB P t e n = true) (hx : ev f x = .int .i64 0) (hy : ev f y = .int .i64 0) :
    MV P β L f ⟨d, .makeSlice t x y, ty, ps, af, g⟩ (fun u L' => ∃ b, u = .slice (some ⟨b, 0, none⟩) 0 0 ∧ L' = pt b (.cells #[] e) :: L) := fun w hw => by
  obtain ⟨hu, i, hi, hn2⟩ := slB_split hsl
  have hw0 : IntKind.i64.wrap 0 = 0 := by decide
  refine ⟨_, _, _, ?_, hw.new (.cells #[] e), _, rfl, rfl⟩
  simp only [execOp, Instr.makeSlice, hx, hy, Sem.run_bind, run_underlying hu, Result.andThen_ok, asInt, asIntOf, sizeOf, typeInfo, run_program, hi, Sem.run_pure, hw0]
  simp [askRoom, hi, newRow, show (Array.range 0 : Array Nat) = #[] from by simp [Array.range]]
end
end Go.Sl

namespace Go.Sl
section
variable {P : Program} {ro : Option Nat} {n : Nat} {ds : List Deferred} {β : Base} {Q : Exit → Act → World → Prop} {f : Fm} {L : List Res} {ops : Array Oper} {rest : List Oper}
variable {d : Option Tmp} {ty : TypeId} {ps : String} {af : Array Edge} {g : Option (Nat × Bool)}

theorem run_append_two {t e n bytes : Nat} (hsl : slB P t e n = true) (hel : elB P e n bytes = true) {v : Value} {m : Nat} {vs : List Value} {w : World} (hown : w.ownsRow 0 e n v m vs)
    (ad : Addr) (k c : Nat) (news : List Value) (hl : news.length = k * n) (hnews : Cs (ph w) ad news) (h1 : news.all (·.oneCell') = true) (h63 : m + k ≤ maxLen) (hby : (m + k) * bytes ≤ 140737488355328) (ty : TypeId) (hk : 0 < k) :
    ∃ v' w', (Builtin.append_ #[t, t] ty #[v, .slice (some ad) k c]).run P w = .ok v' w' ∧ w'.ownsRow 0 e n v' (m + k) (vs ++ news) ∧ w.grownBy w' v.ownBlock ∧
      ((∃ b cap cur cur', v = .slice (some ⟨b, 0, none⟩) m cap ∧ v' = .slice (some ⟨b, 0, none⟩) (m + k) cap ∧ w.heap[b]? = some (.cells cur e (0, 0)) ∧ w'.heap[b]? = some (.cells cur' e (0, 0)) ∧ cur'.size = cur.size ∧ cur'.toList.take (m * n) = cur.toList.take (m * n)) ∨
       ((∀ b, v'.ownBlock = some b → w.heap.size ≤ b) ∧ ∀ b, b < w.heap.size → w'.heap[b]? = w.heap[b]?)) := by
  obtain ⟨v', w', hr, ho, hg, hnil, hnew⟩ := run_append_row (P := P) hsl hel hown ad k c news hl hnews h1 h63 hby ty
  refine ⟨v', w', hr, ho, hg, ?_⟩
  unfold slB at hsl
  simp only [Bool.and_eq_true] at hsl
  obtain ⟨hs1, hs2⟩ := hsl
  unfold elB at hel
  cases hu : P.underlying t with
  | none => rw [hu] at hs1; cases hs1
  | some dd =>
    rw [hu] at hs1
    cases dd <;> simp only [] at hs1 <;> try (cases hs1)
    rename_i e'
    have he : e' = e := by simpa using hs1
    subst he
    cases hi : P.info? e' with
    | none => rw [hi] at hs2; cases hs2
    | some i =>
      rw [hi] at hel
      simp only [Bool.and_eq_true, beq_iff_eq, Bool.not_eq_true', beq_eq_false_iff_ne, ne_eq] at hel
      obtain ⟨⟨⟨hn, hb⟩, hz⟩, hn0⟩ := hel
      cases hzz : i.zero with
      | none => rw [hzz] at hz; cases hz
      | some z =>
        subst hn
        subst hb
        rcases hown.2 with ⟨rfl, rfl⟩ | ⟨g, cap, cur, rfl, hbg, hgg, hnc, hcm, hcs, htake⟩
        · have hby' : k * i.bytes ≤ 281474976710656 := by simp only [Nat.zero_add] at hby; omega
          have h63' : k ≤ 9223372036854775807 := by simp only [maxLen] at h63; omega
          have hx := run_append_nil (P := P) w t ty e' i z hu hi hzz ad k c news hl hnews (by omega) (by omega) hby'
          rw [hr] at hx
          injection hx with hx1 hx2
          subst hx1
          exact .inr ⟨fun b hb => by simp [Value.ownBlock] at hb; omega, fun b hb => hg.block b hb (by simp [Value.ownBlock])⟩
        · by_cases hroom : m + k ≤ cap
          · have hfit : m * i.size + news.length ≤ cur.size := by rw [hl, hcs, ← Nat.add_mul]; exact Nat.mul_le_mul_right _ hroom
            have hx := run_append_room (P := P) w t ty e' i hu hi g m cap cur hgg ad k c news hl hnews (List.all_eq_true.1 h1) hroom hfit
            rw [hr] at hx
            injection hx with hx1 hx2
            subst hx1; subst hx2
            refine .inl ⟨g, cap, cur, _, rfl, rfl, hgg, setRow_heap w g cur _ e' _ hgg, ?_, ?_⟩
            · simp; omega
            · have : m * i.size ≤ cur.size := by omega
              simp [Nat.min_eq_left, List.length_take, this]
          · have holds : ∀ j u, vs[j]? = some u → w.cell? ((⟨g, 0, none⟩ : Addr).add j) = some u := hown.cells (g := g) rfl
            have h63' : m + k ≤ 9223372036854775807 := by simp only [maxLen] at h63; omega
            have hx := run_append_grow (P := P) w t ty e' i z hu hi hzz ⟨g, 0, none⟩ m cap vs hown.1 holds ad k c news hl hnews (by omega) (by omega) (growslice_fits (by omega) hby)
            rw [hr] at hx
            injection hx with hx1 hx2
            subst hx1; subst hx2
            refine .inr ⟨fun b hb => by simp [Value.ownBlock] at hb; omega, fun b hb => ?_⟩
            show (w.drew.alloc _).heap[b]? = _
            simp only [World.alloc]
            rw [Array.getElem?_push_lt (by exact hb)]
            exact (Array.getElem?_eq_getElem hb).symm

/-- v with its n elements, and u with its m, that may lie in one block -/
def fam (v u : Value) (T n m : Nat) (vs us : List Value) : Res := fun h => row v T 1 n vs h ∧ row u T 1 m us h ∧ n ≤ m
theorem fam_start {v : Value} {T n : Nat} {vs : List Value} (a : PHeap) (h : row v T 1 n vs a) : fam v v T n n vs vs a := ⟨h, h, Nat.le_refl _⟩
theorem fam_first {v u : Value} {T n m : Nat} {vs us : List Value} (a : PHeap) (h : fam v u T n m vs us a) : row v T 1 n vs a := h.1

theorem St.fam {T n m m' : Nat} {v u u' : Value} {vs us us' : List Value} {L : List Res} {w w' : World} (h : St β (fam v u T n m vs us :: L) w) (ho : w'.ownsRow 0 T 1 u' m' us') (hm : m ≤ m') (hp : 0 < m') (hg : w.grownBy w' u.ownBlock)
    (hc : (∃ b cap cur cur', u = .slice (some ⟨b, 0, none⟩) m cap ∧ u' = .slice (some ⟨b, 0, none⟩) m' cap ∧ w.heap[b]? = some (.cells cur T (0, 0)) ∧ w'.heap[b]? = some (.cells cur' T (0, 0)) ∧ cur'.size = cur.size ∧ cur'.toList.take (m * 1) = cur.toList.take (m * 1)) ∨
       ((∀ b, u'.ownBlock = some b → w.heap.size ≤ b) ∧ ∀ b, b < w.heap.size → w'.heap[b]? = w.heap[b]?)) : St β (Sl.fam v u' T n m' vs us' :: L) w' := by
  refine h.turn hg.os hg.tape hg.output fun a ha hr => ?_
  obtain ⟨rv, ru, hnm⟩ := hr
  rcases hc with ⟨b, cap, cur, cur', rfl, rfl, h1, h2, h3, h4⟩ | ⟨h1, h2⟩
  · have hab : a b = some (.cells cur T (0, 0)) := by
      obtain ⟨_, ⟨e, _⟩ | ⟨b2, cap2, cur2, e, hb2, _⟩⟩ := ru
      · cases e
      · injection e with e1 e2 e3
        injection e1 with e1
        injection e1 with e1
        subst e1
        have := ha _ _ hb2
        rw [show ph w b = w.heap[b]? from rfl, h1] at this
        injection this with this
        rw [hb2, this]
    have hne : ∀ k, k < w.heap.size → k ≠ b → w'.heap[k]? = w.heap[k]? := fun k hk hkb => hg.block k hk (by simp only [Value.ownBlock, ne_eq, Option.some.injEq]; exact fun e => hkb e)
    refine ⟨fun k => if k = b then some (.cells cur' T (0, 0)) else a k, ⟨?_, ?_, by omega⟩, ?_, ?_⟩
    · obtain ⟨hl, ⟨rfl, h0⟩ | ⟨bv, capv, curv, rfl, hbv, g1, g2, g3, g4⟩⟩ := rv
      · exact ⟨hl, .inl ⟨rfl, h0⟩⟩
      · by_cases e : bv = b
        · subst e
          rw [hab] at hbv
          injection hbv with hbv
          injection hbv with hbv
          subst hbv
          refine ⟨hl, .inr ⟨bv, capv, cur', rfl, by simp, g1, g2, by rw [h3]; exact g3, ?_⟩⟩
          have e1 : cur'.toList.take (n * 1) = (cur'.toList.take (m * 1)).take (n * 1) := by rw [List.take_take, Nat.min_eq_left (by omega)]
          rw [e1, h4, List.take_take, Nat.min_eq_left (by omega)]
          exact g4
        · exact ⟨hl, .inr ⟨bv, capv, curv, rfl, by simp [e, hbv], g1, g2, g3, g4⟩⟩
    · obtain ⟨hl, ⟨e, _⟩ | ⟨b', cap', cur2, e, _, hb', g1, g2, g3, g4⟩⟩ := ho
      · cases e
      · injection e with e1 e2 e3
        injection e1 with e1
        injection e1 with e1
        subst e1; subst e3
        rw [h2] at hb'
        injection hb' with hb'
        injection hb' with hb'
        subst hb'
        exact ⟨hl, .inr ⟨b, cap, cur', rfl, by simp, g1, g2, g3, g4⟩⟩
    · intro k o hk
      by_cases e : k = b
      · subst e; simp at hk; subst hk; exact h2
      · simp [e] at hk
        have hk2 := ha _ _ hk
        have hlt : k < w.heap.size := (Array.getElem?_eq_some_iff.1 hk2).1
        show w'.heap[k]? = some o
        rw [hne k hlt e]; exact hk2
    · intro k hk hak
      have e : k ≠ b := by rintro rfl; rw [hab] at hak; cases hak
      exact ⟨by simp [e, hak], hne k hk e⟩
  · obtain ⟨hl, ⟨rfl, h0⟩ | ⟨b', cap', cur', rfl, _, hb', g1, g2, g3, g4⟩⟩ := ho
    · omega
    · have hnew := h1 b' rfl
      refine ⟨fun k => if k = b' then some (.cells cur' T (0, 0)) else a k, ⟨?_, ⟨hl, .inr ⟨b', cap', cur', rfl, by simp, g1, g2, g3, g4⟩⟩, by omega⟩, ?_, ?_⟩
      · obtain ⟨hlv, ⟨rfl, h0⟩ | ⟨bv, capv, curv, rfl, hbv, k1, k2, k3, k4⟩⟩ := rv
        · exact ⟨hlv, .inl ⟨rfl, h0⟩⟩
        · have hlt : bv < w.heap.size := (Array.getElem?_eq_some_iff.1 (ha _ _ hbv)).1
          have e : bv ≠ b' := by omega
          exact ⟨hlv, .inr ⟨bv, capv, curv, rfl, by simp [e, hbv], k1, k2, k3, k4⟩⟩
      · intro k o hk
        by_cases e : k = b'
        · subst e; simp at hk; subst hk; exact hb'
        · simp [e] at hk
          have hk2 := ha _ _ hk
          have hlt : k < w.heap.size := (Array.getElem?_eq_some_iff.1 hk2).1
          show w'.heap[k]? = some o
          rw [h2 k hlt]; exact hk2
      · intro k hk hak
        have e : k ≠ b' := by omega
        exact ⟨by simp [e, hak], h2 k hk⟩

/-- append to the second of two -/
theorem m_append_fam {x y : Operand} {t e bytes m k c q : Nat} {v u : Value} {vs us news : List Value} {ad : Addr} (i : Nat) (hsl : slB P t e 1 = true) (hel : elB P e 1 bytes = true) (hx : ev f x = u) (hi : L[i]? = some (fam v u e q m vs us))
    (hy : ev f y = .slice (some ad) k c) (hl : news.length = k * 1) (hnews : Knows β L (fun h => Cs h ad news)) (h1 : news.all (·.oneCell') = true) (hk : 0 < k) (h63 : m + k ≤ maxLen) (hby : (m + k) * bytes ≤ 140737488355328) :
    MV P β L f ⟨d, .call ⟨.builtin .append, #[x, y], #[t, t]⟩, ty, ps, af, g⟩ (fun v' L' => ∃ p c, v' = .slice p (m + k) c ∧ L' = L.set i (fam v (.slice p (m + k) c) e q (m + k) vs (us ++ news))) := fun w hw => by
  have hown : w.ownsRow 0 e 1 u m us := by
    obtain ⟨a, ha, hr⟩ : ∃ a, Sub a (ph w) ∧ fam v u e q m vs us a := by
      obtain ⟨_, _, _, hh, hd, hs, hs', hL⟩ := hw
      obtain ⟨a, ha, hr⟩ := hL.each _ (List.mem_of_getElem? hi)
      exact ⟨a, ha.trans hs', hr⟩
    exact hr.2.1.owns ha
  obtain ⟨v', w', hr, ho, hg, hcase⟩ := run_append_two (P := P) hsl hel hown ad k c news hl (hw.knows hnews) h1 h63 hby ty hk
  have hc : ∃ p c, v' = .slice p (m + k) c := by
    rcases ho.2 with ⟨e1, e2⟩ | ⟨b, cap, cur, e1, _⟩
    · omega
    · exact ⟨_, _, e1⟩
  obtain ⟨p, c', rfl⟩ := hc
  refine ⟨_, w', _, ?_, St.back i hi ((hw.front i hi).fam ho (by omega) (by omega) hg hcase), p, c', rfl, rfl⟩
  simp only [execOp, resolve, invoke, builtin, Sem.run_bind, Sem.run_pure, Result.andThen_ok, List.map_toArray, List.map_cons, List.map_nil, hx, hy, hr]
end
end Go.Sl
namespace Go.Sl
section
variable {P : Program} {ro : Option Nat} {n : Nat} {ds : List Deferred} {β : Base} {Q : Exit → Act → World → Prop} {f : Fm} {L : List Res} {ops : Array Oper} {rest : List Oper}
variable {d : Option Tmp} {ty : TypeId} {ps : String} {af : Array Edge} {g : Option (Nat × Bool)}
/-- a loop, round after round -/
def Un (P : Program) (ro : Option Nat) (n : Nat) (ds : List Deferred) (β : Base) (c : Code) (Q : Exit → Act → World → Prop) : Nat → Fm → List Res → Prop
  | 0, _, _ => False
  | m + 1, f, L => RunC P ro n ds β c (Exit.then (Cut n ds β fun f' L' => Un P ro n ds β c Q m f' L') Q) f L
theorem un_succ {c : Code} (m : Nat) (h : RunC P ro n ds β c (Exit.then (Cut n ds β fun f' L' => Un P ro n ds β c Q m f' L') Q) f L) : Un P ro n ds β c Q (m + 1) f L := h
theorem c_unroll {c : Code} (m : Nat) (h : Un P ro n ds β c Q m f L) : RunC P ro n ds β (.loop c) Q f L :=
  c_loop (fun (x : Nat) f L => Un P ro n ds β c Q x f L) id m h fun x f' L' hI => by
    cases x with
    | zero => exact hI.elim
    | succ x =>
      intro a w ha hw b k cs hro hb hr
      obtain ⟨e, a₁, w₁, hq, harr⟩ := hI a w ha hw b k cs hro hb hr
      refine ⟨e, a₁, w₁, ?_, harr⟩
      cases e with
      | normal =>
        obtain ⟨f'', L'', hu, h1, h2⟩ := hq
        exact ⟨f'', L'', ⟨x, hu, Nat.lt_succ_self x⟩, h1, h2⟩
      | _ => exact hq
theorem fam_open2 {p : Option Addr} {v : Value} {T q m c : Nat} {vs us : List Value} {a : PHeap} (h : fam v (.slice p m c) T q m vs us a) : row (.slice p m c) T 1 m us a := h.2.1
theorem e_indexFam2 {x y : Operand} {t e : Nat} {j len cap m c T q : Nat} {p : Option Addr} {v : Value} {vs us : List Value} (i : Nat) (hx : ev f x = .slice p len cap) (hy : ev f y = .int .i64 (j : Int)) (ht : slB P t e 1 = true) (hj : j < len) (hlm : len ≤ m)
    (hi : L[i]? = some (fam v (.slice p m c) T q m vs us)) : EV P β L f ⟨d, .indexAddr t x y, ty, ps, af, g⟩ (.pointer (some ((ba p).add (j * 1)))) := fun w hw =>
  e_indexAddr hx hy ht hj (hw.knows (F := fun _ => p = some (ba p)) (Knows.of_res i hi (fun _ _ _ h => h) fun a h => by
    obtain ⟨b, cur, rfl, _⟩ := row_open h.2.1 (by omega)
    rfl)) w hw
theorem e_indexFam1 {x y : Operand} {t e : Nat} {j len cap m c T q : Nat} {p : Option Addr} {u : Value} {vs us : List Value} (i : Nat) (hx : ev f x = .slice p len cap) (hy : ev f y = .int .i64 (j : Int)) (ht : slB P t e 1 = true) (hj : j < len) (hlm : len ≤ q)
    (hi : L[i]? = some (fam (.slice p q c) u T q m vs us)) : EV P β L f ⟨d, .indexAddr t x y, ty, ps, af, g⟩ (.pointer (some ((ba p).add (j * 1)))) := fun w hw =>
  e_indexAddr hx hy ht hj (hw.knows (F := fun _ => p = some (ba p)) (Knows.of_res i hi (fun _ _ _ h => h) fun a h => by
    obtain ⟨b, cur, rfl, _⟩ := row_open h.1 (by omega)
    rfl)) w hw
theorem k_fam2 {p : Option Addr} {v : Value} {m c T q o : Nat} {vs us zs : List Value} (i : Nat) (hi : L[i]? = some (fam v (.slice p m c) T q m vs us)) (hu : (us.drop o).take zs.length = zs) (h0 : 0 < zs.length) : Knows β L (fun h => Cs h ((ba p).add o) zs) :=
  Knows.of_res i hi (Cs.mono _ _) fun _ h => row_cs h.2.1 hu h0
theorem k_fam1 {p : Option Addr} {u : Value} {m c T q o : Nat} {vs us zs : List Value} (i : Nat) (hi : L[i]? = some (fam (.slice p q c) u T q m vs us)) (hu : (vs.drop o).take zs.length = zs) (h0 : 0 < zs.length) : Knows β L (fun h => Cs h ((ba p).add o) zs) :=
  Knows.of_res i hi (Cs.mono _ _) fun _ h => row_cs h.1 hu h0

/-- make of elements that are zero -/
theorem m_makeN {x y : Operand} {t e n bytes c : Nat} {z : Value} (hsl : slB P t e n = true) (hel : elB P e n bytes = true) (hz : (P.info? e).bind (·.zero) = some z) (hzn : z.cells.size = n) (hx : ev f x = .int .i64 (c : Int)) (hy : ev f y = .int .i64 (c : Int))
    (h0 : 0 < c * n) (hc : c ≤ maxLen) (hb : c * bytes ≤ 140737488355328) :
    MV P β L f ⟨d, .makeSlice t x y, ty, ps, af, g⟩ (fun u L' => ∃ b, u = .slice (some ⟨b, 0, none⟩) c c ∧ L' = row (.slice (some ⟨b, 0, none⟩) c c) e n c (repL z.cells.toList c) :: L) := fun w hw => by
  obtain ⟨hu, i, hi, hn2⟩ := slB_split hsl
  have hz' : i.zero = some z := by rw [hi] at hz; simpa using hz
  have hbytes : i.bytes = bytes := by
    unfold elB at hel; rw [hi] at hel; simp only [Bool.and_eq_true] at hel
    simp only [beq_iff_eq] at hel
    exact hel.1.1.2
  have hw1 : IntKind.i64.wrap (c : Int) = (c : Int) := i64w (by unfold maxLen at hc; omega)
  have hroom : ¬ (roomBytes < c * i.bytes) := by rw [hbytes]; unfold roomBytes; omega
  have hbig : ¬ ((281474976710656 : Int) < (i.bytes : Int) * (c : Int)) := by
    rw [hbytes, Int.mul_comm]
    have h1 : ((c * bytes : Nat) : Int) ≤ 140737488355328 := by omega
    rw [Int.natCast_mul] at h1
    omega
  have hne : ¬ (c * n = 0) := by omega
  have hzv : ∀ w, (zeroValue e).run P w = .ok z w := fun w => by simp [zeroValue, typeInfo, hi, hz']
  subst hzn
  refine ⟨.slice (some ⟨w.heap.size, 0, none⟩) c c, w.alloc (.cells (repL z.cells.toList c).toArray e (0, 0)), _, ?_, (hw.new (.cells (repL z.cells.toList c).toArray e)).conseq (r' := row (.slice (some ⟨w.heap.size, 0, none⟩) c c) e z.cells.size c (repL z.cells.toList c)) (fun a ha => ?_), _, rfl, rfl⟩
  · simp only [execOp, Instr.makeSlice, hx, hy, Sem.run_bind, run_underlying hu, Result.andThen_ok, asInt, asIntOf, sizeOf, typeInfo, run_program, hi, Sem.run_pure, hw1]
    have hcn : ¬ ((c : Int) < 0) := by omega
    rw [← rep_eq]
    simp [hcn, hbig, askRoom, hroom, hi, hn2, hne, hzv, newRow]
  · refine ⟨by rw [repL_length]; simp, .inr ⟨w.heap.size, c, _, rfl, ha, Nat.le_refl _, hc, by simp [repL_length], ?_⟩⟩
    rw [List.take_of_length_le (by simp [repL_length])]
end
end Go.Sl
