/-
  Own work; plain Lean (SlJn, DgBase, SlByte, SlRf, SlFlat).
-/
import Derived.Test.YtoijanalppaplaaGreatSlFam
import Derived.Recover
import Derived.Laws.Pointers
import Derived.Laws.Cover3
import Derived.Test.YtoijanalppaplaaGreatSlNum
namespace Go.Sl

section
variable {P : Program} {ro : Option Nat} {n : Nat} {ds : List Deferred} {β : Base} {Q : Exit → Act → World → Prop} {f : Fm} {L : List Res} {ops : Array Oper} {rest : List Oper}
variable {d : Option Tmp} {ty : TypeId} {ps : String} {af : Array Edge} {g : Option (Nat × Bool)}

/-! Panics. -/
/-! Facts that need no memory. -/
/-! Bundles. -/
theorem St.unbun {M : List Res} {w : World} (h : St β (Sat L :: M) w) : St β (L ++ M) w := by
  obtain ⟨ho, ht, hp, a, hd, hs, hs', hL⟩ := h
  exact ⟨ho, ht, hp, a, hd, hs, hs', Sat.append.2 hL⟩
/-- a resource that is some other one, for some x -/
theorem St.ex {α : Type} {r : α → Res} {M : List Res} {w : World} (h : St β ((fun a => ∃ x, r x a) :: M) w) : ∃ x, St β (r x :: M) w := by
  obtain ⟨ho, ht, hp, a, hd, hs, hs', p, q, h1, h2, h3, ⟨x, hx⟩, h5⟩ := h
  exact ⟨x, ho, ht, hp, a, hd, hs, hs', p, q, h1, h2, h3, hx, h5⟩
theorem c_conseq {c : Code} {r r' : Res} (i : Nat) (hi : L[i]? = some r) (hr : ∀ a, r a → r' a) (k : RunC P ro n ds β c Q f (L.set i r')) : RunC P ro n ds β c Q f L := fun a w ha hw => k a w ha (hw.conseq_at i hi hr)
/-! Pointers and slices against nil. -/
theorem e_eql_snil {t t' e : TypeId} {x y : Operand} {a : Option Addr} {l c : Nat} (hx : ev f x = .slice a l c) (hy : ev f y = .slice none 0 0) (h : P.underlying t = some (.slice e)) : EV P β L f ⟨d, .binOp .eql t x y t', ty, ps, af, g⟩ (.bool a.isNone) := fun w _ => by
  have hb : (binOp .eql t (.slice a l c) (.slice none 0 0)).run P w = .ok (.bool a.isNone) w := by
    simp only [binOp]
    simp [run_equal_slice_nil w t e a l c h]
  simp [execOp, hx, hy, eqGuard, hb]
end

section
variable {P : Program} {ro : Option Nat} {n : Nat} {ds : List Deferred} {β : Base} {Q : Exit → Act → World → Prop}
end
end Go.Sl

namespace Go.Sl

structure KComp where
  kind : UInt8
  v0 : Int
  v1 : Int
  v2 : Int
  v3 : Int
  deriving DecidableEq
structure KEnt where
  id : Int
  comps : List KComp
  deriving DecidableEq
structure KWorld where
  tick : Int
  ents : List KEnt
  deriving DecidableEq

def IntR : Rp Int := Rp.flat 1 (fun x => [Ix x]) (fun _ => rfl)
def U8R : Rp UInt8 := Rp.flat 1 (fun x => [Bx x]) (fun _ => rfl)
theorem take_succ {α : Type} {xs : List α} {k : Nat} {a : α} (h : xs[k]? = some a) : xs.take (k + 1) = xs.take k ++ [a] := by
  rw [List.take_add_one, h]; rfl
theorem take_prefix {α : Type} {xs : List α} {k : Nat} {a : α} (h : xs[k]? = some a) : xs.take k ++ [a] <+: xs := by
  rw [← take_succ h]; exact List.take_prefix _ _
end Go.Sl

namespace Go.Sl
open Go.RowKit
abbrev Bs := List UInt8
abbrev BX (bs : Bs) : List Value := bs.map fun c => Bx c
abbrev str (bs : Bs) : ByteArray := ⟨bs.toArray⟩

/-- slices of bytes, kept in a row of slices -/
def inn (us : List Value) (xs : List Bs) : Res := fun h => us.length = xs.length ∧ ∀ (i : Nat) x u, xs[i]? = some x → us[i]? = some u → Sl U8R h u x
theorem inn.mono (us : List Value) (xs : List Bs) : Mono (inn us xs) := fun _ _ hs ⟨h1, h2⟩ => ⟨h1, fun i x u hx hu => Sl.mono U8R u x _ _ hs (h2 i x u hx hu)⟩
/-- slices each of which has a block of bytes of its own, or none -/
def shp (us : List Value) : Res := fun h => ∀ u ∈ us, u = .slice none 0 0 ∨ ∃ g m c cur, u = .slice (some ⟨g, 0, none⟩) m c ∧ h g = some (.cells cur 5 (0, 0)) ∧ m ≤ c ∧ c ≤ maxLen ∧ cur.size = c
theorem shp.mono (us : List Value) : Mono (shp us) := fun _ _ hs h u hu => (h u hu).imp id fun ⟨g, m, c, cur, e, hg, r⟩ => ⟨g, m, c, cur, e, hs _ _ hg, r⟩
/-- slices of bytes with blocks of their own, kept in a row of slices -/
def ins (us : List Value) (xs : List Bs) : Res := fun h => inn us xs h ∧ shp us h
theorem ins.mono (us : List Value) (xs : List Bs) : Mono (ins us xs) := fun _ _ hs ⟨h1, h2⟩ => ⟨inn.mono _ _ _ _ hs h1, shp.mono _ _ _ hs h2⟩
theorem Sl.parts {α : Type} {R : Rp α} {h : PHeap} {p : Option Addr} {n c : Nat} {xs : List α} (hs : Sl R h (.slice p n c) xs) : n = xs.length ∧ xs.length ≤ c ∧ c ≤ 9223372036854775807 ∧ Elems R h p xs := by
  obtain ⟨a, c', e, h1, h2, h3⟩ := hs.get
  injection e with e1 e2 e3
  subst e1; subst e2; subst e3
  exact ⟨rfl, h1, h2, h3⟩
end Go.Sl

namespace Go.Sl
section
variable {P : Program} {ro : Option Nat} {n : Nat} {ds : List Deferred} {β : Base} {Q : Exit → Act → World → Prop} {f : Fm} {L : List Res} {ops : Array Oper} {rest : List Oper}
variable {d : Option Tmp} {ty : TypeId} {ps : String} {af : Array Edge} {g : Option (Nat × Bool)}

/-! Memory that is only read from here on: a resource that is a fact of its heap. -/
/-- what a list of resources says of its heap, one after the other -/
theorem Sat.head {r : Res} {rs : List Res} {h : PHeap} (hL : Sat (r :: rs) h) : ∃ a, Sub a h ∧ r a := let ⟨a, _, _, ha, _, hr, _⟩ := hL; ⟨a, ha, hr⟩
end
end Go.Sl
namespace Go.Sl
end Go.Sl
namespace Go.Sl
theorem perm_range {α : Type _} (L : List α) : L.Perm ((List.range L.length).filterMap (L[·]?)) := by
  have : (List.range L.length).filterMap (L[·]?) = L := by
    induction L with
    | nil => rfl
    | cons a l ih =>
      rw [List.length_cons, List.range_succ_eq_map, List.filterMap_cons, List.filterMap_map]
      simp only [List.getElem?_cons_zero]
      congr 1
  rw [this]
/-- a list in another order, by indices -/
theorem perm_ix {α : Type _} {L L' : List α} (ix : List Nat) (n : Nat) (hn : L.length = n) (h : (List.range n).isPerm ix = true) (e : ix.filterMap (L[·]?) = L') : L.Perm L' := by
  subst e; subst hn
  exact (perm_range L).trans ((List.isPerm_iff.1 h).filterMap _)
end Go.Sl

namespace Go.Sl
/-- a struct without references -/
structure Fl (α : Type) where
  n : Nat
  enc : α → List Value
  len : ∀ x, (enc x).length = n
  one : ∀ x, (enc x).all (·.oneCell') = true
  pos : 0 < n
abbrev Fl.R {α : Type} (F : Fl α) : Rp α := Rp.flat F.n F.enc F.len
abbrev rowF {α : Type} (F : Fl α) (T : Nat) (p : Option Addr) (c : Nat) (xs : List α) : Res := row (.slice p xs.length c) T F.n xs.length (xs.flatMap F.enc)
section
variable {α : Type} {F : Fl α}
theorem fl_len (xs : List α) : (xs.flatMap F.enc).length = xs.length * F.n := by
  induction xs with
  | nil => simp
  | cons x xs ih => rw [List.flatMap_cons, List.length_append, ih, List.length_cons, F.len, Nat.add_mul]; omega
theorem fl_one (xs : List α) : (xs.flatMap F.enc).all (·.oneCell') = true := by
  rw [List.all_eq_true]
  intro v hv
  obtain ⟨x, _, hx⟩ := List.mem_flatMap.1 hv
  exact List.all_eq_true.1 (F.one x) v hx
theorem fl_drop (xs : List α) (k : Nat) : (xs.flatMap F.enc).drop (k * F.n) = (xs.drop k).flatMap F.enc := by
  induction k generalizing xs with
  | zero => simp
  | succ k ih =>
    cases xs with
    | nil => simp
    | cons x xs =>
      rw [List.flatMap_cons, Nat.add_mul, Nat.one_mul, Nat.add_comm, ← List.drop_drop, List.drop_left' (F.len x), ih]; rfl
theorem fl_take (xs : List α) (k : Nat) : (xs.flatMap F.enc).take (k * F.n) = (xs.take k).flatMap F.enc := by
  induction k generalizing xs with
  | zero => simp
  | succ k ih =>
    cases xs with
    | nil => simp
    | cons x xs =>
      rw [List.flatMap_cons, List.take_succ_cons, List.flatMap_cons, List.take_append, F.len, ← ih, List.take_of_length_le (by rw [F.len]; rw [Nat.add_mul]; omega)]
      congr 2
      rw [Nat.add_mul]; omega
theorem fl_at {xs : List α} {k : Nat} {x : α} (hx : xs[k]? = some x) : ((xs.flatMap F.enc).drop (k * F.n)).take (F.enc x).length = F.enc x := by
  obtain ⟨h, e⟩ := List.getElem?_eq_some_iff.1 hx
  rw [fl_drop, List.drop_eq_getElem_cons h, e, List.flatMap_cons, List.take_left]
theorem fl_set {xs : List α} {k : Nat} (h : k < xs.length) (x : α) : overL (xs.flatMap F.enc) (k * F.n) (F.enc x) = (xs.set k x).flatMap F.enc := by
  have e : xs.set k x = xs.take k ++ x :: xs.drop (k + 1) := List.set_eq_take_append_cons_drop .. |>.trans (if_pos h)
  rw [e, List.flatMap_append, List.flatMap_cons]
  unfold overL
  rw [fl_take, F.len, show k * F.n + F.n = (k + 1) * F.n by rw [Nat.add_mul]; omega, fl_drop, List.append_assoc]
theorem over_mid {A E B us : List Value} {o : Nat} (h : o + us.length ≤ E.length) : overL (A ++ (E ++ B)) (A.length + o) us = A ++ (overL E o us ++ B) := by
  unfold overL
  rw [List.take_length_add_append, Nat.add_assoc, List.drop_length_add_append, List.take_append_of_le_length (by omega), List.drop_append_of_le_length h]
  simp only [List.append_assoc]
theorem fl_part {xs : List α} {k o : Nat} {x x' : α} {us : List Value} (hx : xs[k]? = some x) (ho : o + us.length ≤ F.n) (hu : overL (F.enc x) o us = F.enc x') : overL (xs.flatMap F.enc) (k * F.n + o) us = (xs.set k x').flatMap F.enc := by
  obtain ⟨h, e⟩ := List.getElem?_eq_some_iff.1 hx
  have hs : xs.flatMap F.enc = (xs.take k).flatMap F.enc ++ (F.enc x ++ (xs.drop (k + 1)).flatMap F.enc) := by
    rw [← List.flatMap_cons, ← List.flatMap_append, ← e, List.getElem_cons_drop, List.take_append_drop]
  have hp : ((xs.take k).flatMap F.enc).length = k * F.n := by rw [fl_len, List.length_take, Nat.min_eq_left (by omega)]
  have e2 : xs.set k x' = xs.take k ++ x' :: xs.drop (k + 1) := List.set_eq_take_append_cons_drop .. |>.trans (if_pos h)
  rw [hs, ← hp, over_mid (by rw [F.len]; exact ho), hu, e2, List.flatMap_append, List.flatMap_cons]
theorem elems_fl {h : PHeap} {a : Option Addr} {xs : List α} (he : Elems F.R h a xs) : Cs h (ba a) (xs.flatMap F.enc) := by
  intro j v hj
  have hjl := (List.getElem?_eq_some_iff.1 hj).1
  rw [fl_len] at hjl
  have hn := F.pos
  have hq : j / F.n < xs.length := Nat.div_lt_of_lt_mul (by rw [Nat.mul_comm]; exact hjl)
  obtain ⟨ha, cs, hc, hr⟩ := he (j / F.n) _ (List.getElem?_eq_getElem hq)
  have hr : cs = F.enc xs[j / F.n] := hr
  subst hr
  have hjm : j / F.n * F.n + j % F.n = j := by rw [Nat.mul_comm]; exact Nat.div_add_mod j F.n
  have key : (F.enc xs[j / F.n])[j % F.n]? = some v := by
    rw [← fl_at (F := F) (List.getElem?_eq_getElem hq), List.getElem?_take_of_lt (by rw [F.len]; exact Nat.mod_lt _ hn), List.getElem?_drop, hjm]; exact hj
  have h2 := hc (j % F.n) v key
  rw [Addr.add_add', show j / F.n * F.R.n + j % F.n = j from hjm] at h2
  exact h2
theorem rowF_sl {T : Nat} {p : Option Addr} {c : Nat} {xs : List α} {a : PHeap} (h : rowF F T p c xs a) : Sl F.R a (.slice p xs.length c) xs := by
  rcases Nat.eq_zero_or_pos xs.length with h0 | h0
  · have hx : xs = [] := List.eq_nil_of_length_eq_zero h0
    subst hx
    obtain ⟨_, ⟨e, _⟩ | ⟨b, cap, cur, e, hb, h1, h2, h3, h4⟩⟩ := h
    · injection e with e1 e2 e3
      exact ⟨p, c, rfl, by omega, by omega, fun j x hj => by simp at hj⟩
    · injection e with e1 e2 e3
      subst e3
      exact ⟨p, c, rfl, h1, by unfold maxLen at h2; exact h2, fun j x hj => by simp at hj⟩
  · have h' := h
    obtain ⟨b, cur, rfl, hb, h1, h2, h3, h4, h5⟩ := row_open h h0
    refine ⟨_, c, rfl, h1, by unfold maxLen at h2; exact h2, fun j x hj => ⟨rfl, F.enc x, ?_, rfl⟩⟩
    exact row_cs h' (fl_at hj) (by rw [F.len]; exact F.pos)
end
section
variable {P : Program} {ro : Option Nat} {n : Nat} {ds : List Deferred} {β : Base} {Q : Exit → Act → World → Prop} {f : Fm} {L : List Res} {ops : Array Oper} {rest : List Oper}
variable {d : Option Tmp} {ty : TypeId} {ps : String} {af : Array Edge} {g : Option (Nat × Bool)}
variable {α : Type} {F : Fl α}
theorem k_fl {T c : Nat} {p : Option Addr} {xs : List α} (i : Nat) (hi : L[i]? = some (rowF F T p c xs)) : Knows β L (fun h => Sl F.R h (.slice p xs.length c) xs) := Knows.of_res i hi (Sl.mono _ _ _) fun _ h => rowF_sl h
theorem k_flAt {T c k : Nat} {p : Option Addr} {xs : List α} {x : α} (i : Nat) (hi : L[i]? = some (rowF F T p c xs)) (hx : xs[k]? = some x) : Knows β L (fun h => Cs h ((ba p).add (k * F.n)) (F.enc x)) :=
  k_row i hi (fl_at hx) (by rw [F.len]; exact F.pos)
/-- a part of an element -/
theorem k_flPart {T c k o : Nat} {p : Option Addr} {xs : List α} {x : α} {us : List Value} (i : Nat) (hi : L[i]? = some (rowF F T p c xs)) (hx : xs[k]? = some x) (hu : ((F.enc x).drop o).take us.length = us) : Knows β L (fun h => Cs h ((ba p).add (k * F.n + o)) us) :=
  Knows.imp (k_flAt i hi hx) fun h hc => by have := Cs.sub o hc hu; rwa [Addr.add_add'] at this
theorem m_storeFl {x y : Operand} {t k c T : Nat} {agg : Bool} {p : Option Addr} {xs : List α} {z : α} {v : Value} (i : Nat) (ht : tyB P t agg F.n = true) (hx : ev f x = .pointer (some ((ba p).add (k * F.n)))) (hy : ev f y = v) (hv : v.cells.toList = F.enc z)
    (hi : L[i]? = some (rowF F T p c xs)) (hk : k < xs.length) : MU P β L f ⟨d, .store t x y, ty, ps, af, g⟩ (L.set i (rowF F T p c (xs.set k z))) := by
  have hn : v.cells.size = F.n := by rw [← Array.length_toList, hv, F.len]
  have h := m_storeRow (P := P) (β := β) (d := d) (ty := ty) (ps := ps) (af := af) (g := g) (o := k * F.n) i ht hx hy hi hn (by rw [hv]; exact F.one z) (by have := Nat.mul_le_mul_right F.n (show k + 1 ≤ xs.length from hk); rw [Nat.add_mul] at this; omega) (by omega)
  rw [hv, fl_set hk] at h
  have e : rowF F T p c (xs.set k z) = row (.slice p xs.length c) T F.n xs.length ((xs.set k z).flatMap F.enc) := by show row (.slice p (xs.set k z).length c) T F.n (xs.set k z).length _ = _; rw [List.length_set]
  rw [e]; exact h
theorem m_storeFlPart {x y : Operand} {t k c T o q : Nat} {agg : Bool} {p : Option Addr} {xs : List α} {z0 z : α} {v : Value} (i : Nat) (ht : tyB P t agg q = true) (hx : ev f x = .pointer (some ((ba p).add (k * F.n + o)))) (hy : ev f y = v) (hn : v.cells.size = q) (h1 : v.cells.toList.all (·.oneCell') = true)
    (hi : L[i]? = some (rowF F T p c xs)) (hk : xs[k]? = some z0) (ho : o + q ≤ F.n) (hu : overL (F.enc z0) o v.cells.toList = F.enc z) : MU P β L f ⟨d, .store t x y, ty, ps, af, g⟩ (L.set i (rowF F T p c (xs.set k z))) := by
  have hkl := (List.getElem?_eq_some_iff.1 hk).1
  have h := m_storeRow (P := P) (β := β) (d := d) (ty := ty) (ps := ps) (af := af) (g := g) (o := k * F.n + o) i ht hx hy hi hn h1 (by have := Nat.mul_le_mul_right F.n (show k + 1 ≤ xs.length from hkl); rw [Nat.add_mul] at this; omega) (by omega)
  rw [fl_part hk (by simp; omega) hu] at h
  have e : rowF F T p c (xs.set k z) = row (.slice p xs.length c) T F.n xs.length ((xs.set k z).flatMap F.enc) := by show row (.slice p (xs.set k z).length c) T F.n (xs.set k z).length _ = _; rw [List.length_set]
  rw [e]; exact h
theorem m_appendFl {x y : Operand} {t e bytes k c c0 : Nat} {p : Option Addr} {xs ys : List α} {ao : Option Addr} (i : Nat) (hsl : slB P t e F.n = true) (hel : elB P e F.n bytes = true) (hx : ev f x = .slice p xs.length c0) (hi : L[i]? = some (rowF F e p c0 xs))
    (hy : ev f y = .slice ao k c) (hl : ys.length = k) (hk : Knows β L (fun h => Elems F.R h ao ys)) (hby : (xs.length + k) * bytes ≤ 140737488355328) (h63 : xs.length + k ≤ 140737488355328) :
    MV P β L f ⟨d, .call ⟨.builtin .append, #[x, y], #[t, t]⟩, ty, ps, af, g⟩ (fun v' L' => ∃ p c, v' = .slice p (xs ++ ys).length c ∧ L' = L.set i (rowF F e p c (xs ++ ys))) := fun w hw => by
  have hkk := hw.knows hk
  have hcs : Knows β L (fun h => Cs h (ba ao) (ys.flatMap F.enc)) := fun h hb hr => elems_fl (hk h hb hr)
  have hsome : 0 < k → ao = some (ba ao) := fun h0 => by
    cases ys with
    | nil => simp at hl; omega
    | cons a l => exact (hkk 0 a rfl).1
  obtain ⟨v', w', L', g1, g2, p', c', rfl, rfl⟩ := m_append_w (P := P) (ty := ty) (ps := ps) (af := af) (g := g) (d := d) i hsl hel hx hi hy (by rw [fl_len, hl]) hcs (fl_one ys) hsome (by unfold maxLen; omega) hby w hw
  have e1 : (xs ++ ys).length = xs.length + k := by simp [hl]
  refine ⟨_, w', _, g1, g2, p', c', by rw [e1], ?_⟩
  show _ = L.set i (row (.slice p' (xs ++ ys).length c') e F.n (xs ++ ys).length ((xs ++ ys).flatMap F.enc))
  rw [e1, List.flatMap_append]
theorem e_indexFlN {x y : Operand} {t e : Nat} {j m cap T : Nat} {p : Option Addr} {xs : List α} (i : Nat) (hx : ev f x = .slice p m cap) (hm : m = xs.length) (hy : ev f y = .int .i64 (j : Int)) (ht : slB P t e F.n = true) (hj : j < m)
    (hi : L[i]? = some (rowF F T p cap xs)) : EV P β L f ⟨d, .indexAddr t x y, ty, ps, af, g⟩ (.pointer (some ((ba p).add (j * F.n)))) := e_indexRow i hx hy ht hj (by omega) hi
theorem k_flN {T c m : Nat} {p : Option Addr} {xs : List α} (i : Nat) (hi : L[i]? = some (rowF F T p c xs)) (hm : m = xs.length) : Knows β L (fun h => Sl F.R h (.slice p m c) xs) := by subst hm; exact k_fl i hi
theorem k_ptFl {b T : Nat} {fr : Nat × Nat} {z : α} {cs : Array Value} (i : Nat) (hi : L[i]? = some (pt b (.cells cs T fr))) (hz : cs.toList = F.enc z) : Knows β L (fun h => Elems F.R h (some ⟨b, 0, none⟩) [z]) :=
  Knows.of_res i hi (Elems.mono _ _ _) fun a h j x hx => by
    cases j with
    | zero =>
      have e : z = x := by simpa using hx
      subst e
      refine ⟨rfl, F.enc z, ?_, rfl⟩
      rw [Nat.zero_mul]
      have e0 : (ba (some ⟨b, 0, none⟩)).add 0 = ⟨b, 0, none⟩ := rfl
      rw [e0]
      exact Cs.of_pt h (by rw [List.drop_zero, hz, List.take_length])
    | succ j => simp at hx
theorem k_ptFls {b T m : Nat} {fr : Nat × Nat} {xs : List α} {cs : Array Value} (i : Nat) (hi : L[i]? = some (pt b (.cells cs T fr))) (hz : cs.toList = xs.flatMap F.enc) (hm : m = xs.length) (hl : xs.length ≤ 1048576) : Knows β L (fun h => Sl F.R h (.slice (some ⟨b, 0, none⟩) m m) xs) := by
  subst hm
  refine Knows.of_res i hi (Sl.mono _ _ _) fun a h => ⟨_, _, rfl, Nat.le_refl _, by omega, fun j x hx => ⟨rfl, F.enc x, ?_, rfl⟩⟩
  have e : (ba (some ⟨b, 0, none⟩)).add (j * F.R.n) = ⟨b, j * F.n, none⟩ := by
    show (⟨b, 0, none⟩ : Addr).add (j * F.n) = _
    unfold Addr.add; split <;> simp_all
  rw [e]
  exact Cs.of_pt h (by rw [hz]; exact fl_at hx)
end
end Go.Sl
namespace Go.Sl
section
variable {P : Program} {ro : Option Nat} {n : Nat} {ds : List Deferred} {β : Base} {Q : Exit → Act → World → Prop} {f : Fm} {L : List Res}
theorem pt_rowF {α : Type} {F : Fl α} {b T : Nat} {cs : Array Value} {xs : List α} (hx : cs.toList = xs.flatMap F.enc) (hl : xs.length ≤ 1048576) (a : PHeap) (h : pt b (.cells cs T) a) : rowF F T (some ⟨b, 0, none⟩) xs.length xs a := by
  have hs : cs.size = xs.length * F.n := by rw [← Array.length_toList, hx, fl_len]
  have := pt_row (m := xs.length) (n := F.n) (by unfold maxLen; omega) hs a h
  rwa [hx] at this
end
end Go.Sl
namespace Go.Sl
section
variable {P : Program} {ro : Option Nat} {n : Nat} {ds : List Deferred} {β : Base} {Q : Exit → Act → World → Prop} {f : Fm} {L : List Res}
variable {d : Option Tmp} {ty : TypeId} {ps : String} {af : Array Edge} {g : Option (Nat × Bool)} {α : Type} {F : Fl α}
theorem m_appendFlN {x y : Operand} {t e bytes k c c0 m : Nat} {p : Option Addr} {xs ys : List α} {ao : Option Addr} (i : Nat) (hsl : slB P t e F.n = true) (hel : elB P e F.n bytes = true) (hx : ev f x = .slice p m c0) (hm : m = xs.length) (hi : L[i]? = some (rowF F e p c0 xs))
    (hy : ev f y = .slice ao k c) (hl : ys.length = k) (hk : Knows β L (fun h => Elems F.R h ao ys)) (hby : (xs.length + k) * bytes ≤ 140737488355328) (h63 : xs.length + k ≤ 140737488355328) :
    MV P β L f ⟨d, .call ⟨.builtin .append, #[x, y], #[t, t]⟩, ty, ps, af, g⟩ (fun v' L' => ∃ p c, v' = .slice p (xs ++ ys).length c ∧ L' = L.set i (rowF F e p c (xs ++ ys))) := by
  subst hm; exact m_appendFl i hsl hel hx hi hy hl hk hby h63
end
end Go.Sl
