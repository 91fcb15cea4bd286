/-
  Elements of a row of one's own: pointers, loads, stores. Own work; plain Lean.
-/
import Derived.Test.YtbfidhbcojbklaaGreatSlSlice
namespace Go.Sl
section
variable {P : Program} {ro : Option Nat} {n : Nat} {ds : List Deferred} {β : Base} {Q : Exit → Act → World → Prop} {f : Fm} {L : List Res} {ops : Array Oper} {rest : List Oper}
variable {d : Option Tmp} {ty : TypeId} {ps : String} {af : Array Edge} {g : Option (Nat × Bool)}

theorem row_open {p : Option Addr} {m c T k : Nat} {vs : List Value} {a : PHeap} (h : row (.slice p m c) T k m vs a) (hm : 0 < m) :
    ∃ b cur, p = some ⟨b, 0, none⟩ ∧ a b = some (.cells cur T (0, 0)) ∧ m ≤ c ∧ c ≤ maxLen ∧ cur.size = c * k ∧ cur.toList.take (m * k) = vs ∧ vs.length = m * k := by
  obtain ⟨hl, ⟨e, h0⟩ | ⟨b, cap, cur, e, hb, h1, h2, h3, h4⟩⟩ := h
  · omega
  · injection e with e1 e2 e3
    subst e3
    exact ⟨b, cur, e1, hb, h1, h2, h3, h4, hl⟩

theorem row_some {p : Option Addr} {m c T k : Nat} {vs : List Value} {w : World} (i : Nat) (hi : L[i]? = some (row (.slice p m c) T k m vs)) (hm : 0 < m) (hw : St β L w) : p = some (ba p) :=
  hw.knows (F := fun _ => p = some (ba p)) (Knows.of_res i hi (fun _ _ _ h => h) fun a h => by
    obtain ⟨b, cur, rfl, _⟩ := row_open h hm
    rfl)

theorem e_indexRow {x y : Operand} {t e : Nat} {j len cap m c T k : Nat} {p : Option Addr} {vs : List Value} (i : Nat) (hx : ev f x = .slice p len cap) (hy : ev f y = .int .i64 (j : Int)) (ht : slB P t e k = true) (hj : j < len) (hlm : len ≤ m)
    (hi : L[i]? = some (row (.slice p m c) T k m vs)) : EV P β L f ⟨d, .indexAddr t x y, ty, ps, af, g⟩ (.pointer (some ((ba p).add (j * k)))) := fun w hw =>
  e_indexAddr hx hy ht hj (row_some i hi (by omega) hw) w hw

theorem row_cs {p : Option Addr} {m c T k o : Nat} {vs us : List Value} {a : PHeap} (h : row (.slice p m c) T k m vs a) (hu : (vs.drop o).take us.length = us) (h0 : 0 < us.length) : Cs a ((ba p).add o) us := by
  have hm : 0 < m := by
    rcases Nat.eq_zero_or_pos m with rfl | hm
    · have hl := h.1
      have : vs = [] := List.eq_nil_of_length_eq_zero (by rw [hl]; simp)
      subst this
      have hu' : us.length = 0 := by rw [← hu]; simp
      omega
    · exact hm
  obtain ⟨b, cur, rfl, hb, _, _, _, h4, _⟩ := row_open h hm
  have hc : Cs a ⟨b, 0, none⟩ vs := Cs.of_pt (o := 0) hb (by simp only [List.drop_zero]; rw [← h4]; simp)
  exact Cs.sub o hc hu

theorem k_row {p : Option Addr} {m c T k o : Nat} {vs us : List Value} (i : Nat) (hi : L[i]? = some (row (.slice p m c) T k m vs)) (hu : (vs.drop o).take us.length = us) (h0 : 0 < us.length) : Knows β L (fun h => Cs h ((ba p).add o) us) :=
  Knows.of_res i hi (Cs.mono _ _) fun _ h => row_cs h hu h0

theorem over_take (cur us : List Value) (o M : Nat) (h : o + us.length ≤ M) (hM : M ≤ cur.length) :
    (cur.take o ++ us ++ cur.drop (o + us.length)).take M = (cur.take M).take o ++ us ++ (cur.take M).drop (o + us.length) := by
  have hl : (cur.take o ++ us).length = o + us.length := by simp; omega
  rw [List.take_append, List.take_of_length_le (by omega), hl, List.take_take, Nat.min_eq_left (by omega), List.drop_take]
/-- a list with a part written over -/
def overL (vs : List Value) (o : Nat) (us : List Value) : List Value := vs.take o ++ us ++ vs.drop (o + us.length)
theorem overL_length {vs us : List Value} {o : Nat} (h : o + us.length ≤ vs.length) : (overL vs o us).length = vs.length := by
  simp [overL]; omega

theorem m_storeRow {x y : Operand} {t m c T k o q : Nat} {agg : Bool} {p : Option Addr} {vs : List Value} {v : Value} (i : Nat) (ht : tyB P t agg q = true) (hx : ev f x = .pointer (some ((ba p).add o))) (hy : ev f y = v)
    (hi : L[i]? = some (row (.slice p m c) T k m vs)) (hn : v.cells.size = q) (h1 : v.cells.toList.all (·.oneCell') = true) (hfit : o + q ≤ m * k) (hm : 0 < m) :
    MU P β L f ⟨d, .store t x y, ty, ps, af, g⟩ (L.set i (row (.slice p m c) T k m (overL vs o v.cells.toList))) := fun w hw => by
  have hex : ∃ a, Sub a (ph w) ∧ row (.slice p m c) T k m vs a := by
    obtain ⟨_, _, _, hh, hd, hs, hs', hL⟩ := hw
    obtain ⟨a, ha, hr⟩ := hL.each _ (List.mem_of_getElem? hi)
    exact ⟨a, ha.trans hs', hr⟩
  obtain ⟨a, ha, hr⟩ := hex
  obtain ⟨b, cur, rfl, hb, h2, h3, h4, h5, h6⟩ := row_open hr hm
  have hbw : w.heap[b]? = some (.cells cur T (0, 0)) := ha _ _ hb
  have hs := (tyF ht).size w
  have hmc : m * k ≤ c * k := Nat.mul_le_mul_right k h2
  have hst := run_storeCells_at P b o T v.cells.toList 0 cur w hbw (by simp [hn]; omega) (List.all_eq_true.1 h1)
  simp only [Nat.add_zero] at hst
  have hadd : (ba (some (⟨b, 0, none⟩ : Addr))).add o = ⟨b, o, none⟩ := by unfold ba Addr.add; split <;> simp_all
  rw [hadd] at hx
  refine ⟨w.setRow b (over cur o v.cells.toList), ?_, ?_⟩
  · simp only [execOp, hx, hy, Instr.storeAt, Instr.sureAddr, Sem.run_bind, Sem.run_pure, Result.andThen_ok, storeVar, hs, hn, ne_eq, not_true_eq_false, if_false, hst, over]
  · refine St.back i hi ((hw.front i hi).turn rfl rfl rfl fun a' ha' hr' => ?_)
    obtain ⟨b', cur', e1, hb', g2, g3, g4, g5, g6⟩ := row_open hr' hm
    injection e1 with e1
    injection e1 with e1
    subst e1
    have hbw' : w.heap[b]? = some (.cells cur' T (0, 0)) := ha' _ _ hb'
    rw [hbw] at hbw'
    injection hbw' with e2
    injection e2 with e2
    subst e2
    have hol : (overL vs o v.cells.toList).length = m * k := by rw [overL_length (by simp [hn]; omega), h6]
    have hvl : vs.length = m * k := h6
    refine ⟨fun k' => if k' = b then some (.cells (over cur o v.cells.toList) T (0, 0)) else none, ?_, ?_, ?_⟩
    · refine ⟨hol, .inr ⟨b, c, over cur o v.cells.toList, rfl, by simp, h2, h3, ?_, ?_⟩⟩
      · simp [over, hn]; omega
      · subst h5
        have hvn : v.cells.toList.length = q := by simp [hn]
        exact over_take cur.toList v.cells.toList o (m * k) (by omega) (by simp; omega)
    · intro k' z hz
      by_cases e : k' = b
      · subst e; simp at hz; subst hz; exact setRow_heap w k' cur _ T _ hbw
      · simp [e] at hz
    · intro k' hlt hak
      have hne : k' ≠ b := by rintro rfl; rw [hb'] at hak; cases hak
      exact ⟨by simp [hne], setRow_other w b k' _ hne⟩

theorem c_freeze2 {c : Code} {M K : List Res} (hL : L = M ++ K) (k : ∀ β', Ext β β' → (∀ F, Knows β K F → F β'.heap) → (∀ L' w', St β' L' w' → St β (L' ++ K) w') → RunC P ro n ds β' c Q f M) : RunC P ro n ds β c Q f L := fun a w ha hw => by
  subst hL
  obtain ⟨β₁, ext, kn, hw1, back⟩ := hw.frameX
  exact k β₁ ext kn back a w ha hw1

theorem c_rowcap {code : Code} {p : Option Addr} {m c T k : Nat} {vs : List Value} (i : Nat) (hi : L[i]? = some (row (.slice p m c) T k m vs)) (h : m ≤ c → c ≤ maxLen → RunC P ro n ds β code Q f L) : RunC P ro n ds β code Q f L := fun a w ha hw => by
  have hc : m ≤ c ∧ c ≤ maxLen := hw.knows (F := fun _ => m ≤ c ∧ c ≤ maxLen) (Knows.of_res i hi (fun _ _ _ h => h) fun _ hr => by
    obtain ⟨_, ⟨e, h0⟩ | ⟨b, cap, cur, e, hb, h1, h2, _⟩⟩ := hr
    · injection e with _ _ e3
      subst e3; subst h0; unfold maxLen; omega
    · injection e with _ _ e3
      subst e3; exact ⟨h1, h2⟩)
  exact h hc.1 hc.2 a w ha hw

theorem c_rowform {code : Code} {v : Value} {m T k : Nat} {vs : List Value} (i : Nat) (hi : L[i]? = some (row v T k m vs)) (h : ∀ p c, v = .slice p m c → m ≤ c → c ≤ maxLen → RunC P ro n ds β code Q f L) : RunC P ro n ds β code Q f L := fun a w ha hw => by
  have hc : ∃ p c, v = .slice p m c ∧ m ≤ c ∧ c ≤ maxLen := hw.knows (F := fun _ => ∃ p c, v = .slice p m c ∧ m ≤ c ∧ c ≤ maxLen) (Knows.of_res i hi (fun _ _ _ h => h) fun _ hr => by
    obtain ⟨_, ⟨e, h0⟩ | ⟨b, cap, cur, e, hb, h1, h2, _⟩⟩ := hr
    · subst h0; exact ⟨_, _, e, Nat.le_refl _, by unfold maxLen; omega⟩
    · exact ⟨_, _, e, h1, h2⟩)
  obtain ⟨p, c, h1, h2, h3⟩ := hc
  exact h p c h1 h2 h3 a w ha hw

/-- append of a slice, empty or not -/
theorem m_append_any {x y : Operand} {t e n bytes m k c : Nat} {v : Value} {vs news : List Value} {ao : Option Addr} (i : Nat) (hsl : slB P t e n = true) (hel : elB P e n bytes = true) (hx : ev f x = v) (hi : L[i]? = some (row v e n m vs))
    (hy : ev f y = .slice ao k c) (hl : news.length = k * n) (hnews : Knows β L (fun h => Cs h (ba ao) news)) (h1 : news.all (·.oneCell') = true) (ha : 0 < k → ao = some (ba ao)) (h63 : m + k ≤ maxLen) (hby : (m + k) * bytes ≤ 140737488355328) :
    MV P β L f ⟨d, .call ⟨.builtin .append, #[x, y], #[t, t]⟩, ty, ps, af, g⟩ (fun v' L' => (v' = .slice none 0 0 ↔ v = .slice none 0 0 ∧ k = 0) ∧ L' = L.set i (row v' e n (m + k) (vs ++ news))) := by
  rcases Nat.eq_zero_or_pos k with rfl | hk
  · have hz : news = [] := List.eq_nil_of_length_eq_zero (by simpa using hl)
    subst hz
    intro w hw
    obtain ⟨v', w', L', h1, h2, rfl, rfl⟩ := m_append_nil (P := P) (ty := ty) (ps := ps) (af := af) (g := g) (d := d) i hsl hx hi hy w hw
    refine ⟨v', w', _, h1, h2, by simp, ?_⟩
    rw [List.append_nil, Nat.add_zero]
    obtain ⟨hlt, he⟩ := List.getElem?_eq_some_iff.1 hi
    rw [← he, List.set_getElem_self]
  · rw [ha hk] at hy
    exact m_append i hsl hel hx hi hy hl hnews h1 h63 hby

/-- the same; what comes of it is written out -/
theorem m_append_w {x y : Operand} {t e n bytes m k c : Nat} {v : Value} {vs news : List Value} {ao : Option Addr} (i : Nat) (hsl : slB P t e n = true) (hel : elB P e n bytes = true) (hx : ev f x = v) (hi : L[i]? = some (row v e n m vs))
    (hy : ev f y = .slice ao k c) (hl : news.length = k * n) (hnews : Knows β L (fun h => Cs h (ba ao) news)) (h1 : news.all (·.oneCell') = true) (ha : 0 < k → ao = some (ba ao)) (h63 : m + k ≤ maxLen) (hby : (m + k) * bytes ≤ 140737488355328) :
    MV P β L f ⟨d, .call ⟨.builtin .append, #[x, y], #[t, t]⟩, ty, ps, af, g⟩ (fun v' L' => ∃ p c, v' = .slice p (m + k) c ∧ L' = L.set i (row (.slice p (m + k) c) e n (m + k) (vs ++ news))) := fun w hw => by
  obtain ⟨v', w', L', g1, g2, _, rfl⟩ := m_append_any (P := P) (ty := ty) (ps := ps) (af := af) (g := g) (d := d) i hsl hel hx hi hy hl hnews h1 ha h63 hby w hw
  have hi' : (L.set i (row v' e n (m + k) (vs ++ news)))[i]? = some (row v' e n (m + k) (vs ++ news)) := by
    have := (List.getElem?_eq_some_iff.1 hi).1
    rw [List.getElem?_set_self this]
  have hc : ∃ p c, v' = .slice p (m + k) c := g2.knows (F := fun _ => ∃ p c, v' = .slice p (m + k) c) (Knows.of_res i hi' (fun _ _ _ h => h) fun _ hr => by
    obtain ⟨_, ⟨e, h0⟩ | ⟨b, cap, cur, e, hb, h1, h2, _⟩⟩ := hr
    · rw [h0]; exact ⟨_, _, e⟩
    · exact ⟨_, _, e⟩)
  obtain ⟨p, c, rfl⟩ := hc
  exact ⟨_, w', _, g1, g2, p, c, rfl, rfl⟩
end
end Go.Sl
