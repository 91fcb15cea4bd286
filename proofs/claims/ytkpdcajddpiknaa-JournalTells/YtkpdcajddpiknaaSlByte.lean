/-
  Rows of bytes and of texts, one's own or only read. Own work; plain Lean.
-/
import Derived.Test.YtkpdcajddpiknaaSlJn
import Derived.Test.YtkpdcajddpiknaaDgBase
namespace Go.Sl
open Go.RowKit
abbrev Bs := List UInt8
abbrev BX (bs : Bs) : List Value := bs.map fun c => Bx c
def StrR : Rp ByteArray := Rp.flat 1 (fun s => [.string s]) (fun _ => rfl)
def BsR : Rp Bs := Rp.slice U8R
abbrev str (bs : Bs) : ByteArray := ⟨bs.toArray⟩

theorem row_len {p : Option Addr} {m c T : Nat} {vs : List Value} {h : PHeap} (hr : row (.slice p m c) T 1 m vs h) : vs.length = m ∧ m ≤ c ∧ c ≤ maxLen := by
  obtain ⟨hl, ⟨e, h0⟩ | ⟨b, cap, cur, e, hb, h1, h2, _⟩⟩ := hr
  · injection e with _ _ e3
    subst e3; subst h0; refine ⟨by simpa using hl, by omega, by unfold maxLen; omega⟩
  · injection e with _ _ e3
    subst e3; exact ⟨by simpa using hl, h1, h2⟩

theorem row_flat {α : Type} {enc : α → Value} {p : Option Addr} {m c T : Nat} {xs : List α} {h : PHeap} (hr : row (.slice p m c) T 1 m (xs.map enc) h) : m = xs.length ∧ Elems (Rp.flat 1 (fun x => [enc x]) (fun _ => rfl)) h p xs := by
  have hl := (row_len hr).1
  rw [List.length_map] at hl
  refine ⟨hl.symm, fun j x hj => ?_⟩
  have hlt := (List.getElem?_eq_some_iff.1 hj).1
  obtain ⟨b, cur, rfl, hb, _⟩ := row_open hr (by omega)
  refine ⟨rfl, [enc x], ?_, rfl⟩
  show Cs h ((ba (some ⟨b, 0, none⟩)).add (j * 1)) _
  rw [Nat.mul_one]
  refine row_cs hr ?_ (Nat.succ_pos _)
  rw [List.drop_eq_getElem_cons (by simpa using hlt)]
  have := (List.getElem?_eq_some_iff.1 hj).2
  simp [this]

theorem row_u8e {p : Option Addr} {m c T : Nat} {bs : Bs} {h : PHeap} (hr : row (.slice p m c) T 1 m (BX bs) h) : Elems U8R h p bs := (row_flat (enc := fun x : UInt8 => Bx x) hr).2
theorem row_u8 {p : Option Addr} {m c T : Nat} {bs : Bs} {h : PHeap} (hr : row (.slice p m c) T 1 m (BX bs) h) : Sl U8R h (.slice p m c) bs := by
  have h1 := (row_flat (enc := fun x : UInt8 => Bx x) hr).1
  have h2 := row_len hr
  exact ⟨p, c, by rw [h1], by omega, by have := h2.2.2; unfold maxLen at this; omega, row_u8e hr⟩
theorem row_stre {p : Option Addr} {m c T : Nat} {xs : List ByteArray} {h : PHeap} (hr : row (.slice p m c) T 1 m (xs.map fun s => .string s) h) : Elems StrR h p xs := (row_flat (enc := fun x : ByteArray => .string x) hr).2
theorem row_str {p : Option Addr} {m c T : Nat} {xs : List ByteArray} {h : PHeap} (hr : row (.slice p m c) T 1 m (xs.map fun s => .string s) h) : Sl StrR h (.slice p m c) xs := by
  have h1 := (row_flat (enc := fun x : ByteArray => .string x) hr).1
  have h2 := row_len hr
  exact ⟨p, c, by rw [h1], by omega, by have := h2.2.2; unfold maxLen at this; omega, row_stre hr⟩

theorem elems_cells {α : Type} {enc : α → Value} {h : PHeap} {a : Option Addr} {xs : List α} (he : Elems (Rp.flat 1 (fun x => [enc x]) (fun _ => rfl)) h a xs) : Cs h (ba a) (xs.map enc) := by
  intro j v hj
  rw [List.getElem?_map] at hj
  cases hx : xs[j]? with
  | none => rw [hx] at hj; cases hj
  | some x =>
    rw [hx] at hj
    injection hj with hj
    obtain ⟨_, cs, hc, hr⟩ := he j x hx
    have hr : cs = [enc x] := hr
    subst hr
    have hc : Cs h ((ba a).add (j * 1)) [enc x] := hc
    rw [Nat.mul_one] at hc
    have := hc 0 (enc x) rfl
    rw [Addr.add_zero'] at this
    rw [← hj]; exact this
theorem elems_cs {h : PHeap} {a : Option Addr} {xs : Bs} (he : Elems U8R h a xs) : Cs h (ba a) (BX xs) := elems_cells (enc := fun x : UInt8 => Bx x) he
theorem elems_some {α : Type} {R : Rp α} {h : PHeap} {a : Option Addr} {xs : List α} (he : Elems R h a xs) (hx : 0 < xs.length) : a = some (ba a) := (he 0 _ (List.getElem?_eq_getElem hx)).1

theorem overL_bx {bs : Bs} {j : Nat} {b : UInt8} (hj : j < bs.length) : overL (BX bs) (j * 1) [Bx b] = BX (bs.set j b) := by
  unfold overL BX
  rw [Nat.mul_one, List.map_set]
  rw [List.set_eq_take_append_cons_drop, if_pos (by simpa using hj)]
  simp
theorem row_takeB {p : Option Addr} {m c T h : Nat} {bs : Bs} {a : PHeap} (hr : row (.slice p m c) T 1 m (BX bs) a) (hh : h ≤ m) : row (.slice p h c) T 1 (bs.take h).length (BX (bs.take h)) a := by
  have hlen := (row_flat (enc := fun x : UInt8 => Bx x) hr).1
  have e : (bs.take h).length = h := by simp; omega
  rw [e]
  obtain ⟨hl, ⟨e1, h0⟩ | ⟨b, cap, cur, e1, hb, h1, h2, h3, h4⟩⟩ := hr
  · have : h = 0 := by omega
    subst this
    injection e1 with e1 e2 e3
    subst e1; subst e3
    exact ⟨by simp, .inl ⟨rfl, rfl⟩⟩
  · injection e1 with e1 e2 e3
    subst e1; subst e3
    refine ⟨by simp; omega, .inr ⟨b, c, cur, rfl, hb, by omega, h2, h3, ?_⟩⟩
    have e5 : cur.toList.take (h * 1) = (cur.toList.take (m * 1)).take (h * 1) := by rw [List.take_take, Nat.min_eq_left (by omega)]
    rw [e5, h4]; simp [List.map_take]

/-- slices of bytes, kept in a row of slices -/
def inn (us : List Value) (xs : List Bs) : Res := fun h => us.length = xs.length ∧ ∀ (i : Nat) x u, xs[i]? = some x → us[i]? = some u → Sl U8R h u x
theorem inn.mono (us : List Value) (xs : List Bs) : Mono (inn us xs) := fun _ _ hs ⟨h1, h2⟩ => ⟨h1, fun i x u hx hu => Sl.mono U8R u x _ _ hs (h2 i x u hx hu)⟩
theorem inn_nil (h : PHeap) : inn [] [] h := ⟨rfl, fun i x u hx _ => by simp at hx⟩
theorem inn_snoc {us : List Value} {xs : List Bs} {u : Value} {x : Bs} {h : PHeap} (hi : inn us xs h) (hu : Sl U8R h u x) : inn (us ++ [u]) (xs ++ [x]) h := by
  refine ⟨by simp [hi.1], fun i y v hy hv => ?_⟩
  by_cases hlt : i < xs.length
  · rw [List.getElem?_append_left hlt] at hy
    rw [List.getElem?_append_left (by rw [hi.1]; exact hlt)] at hv
    exact hi.2 i y v hy hv
  · have h1 := (List.getElem?_eq_some_iff.1 hy).1
    have : i = xs.length := by simp at h1; omega
    subst this
    rw [List.getElem?_append_right (Nat.le_refl _)] at hy
    rw [← hi.1, List.getElem?_append_right (Nat.le_refl _)] at hv
    simp at hy hv
    subst hy; subst hv; exact hu
/-- slices each of which has a block of bytes of its own, or none -/
def shp (us : List Value) : Res := fun h => ∀ u ∈ us, u = .slice none 0 0 ∨ ∃ g m c cur, u = .slice (some ⟨g, 0, none⟩) m c ∧ h g = some (.cells cur 5 (0, 0)) ∧ m ≤ c ∧ c ≤ maxLen ∧ cur.size = c
theorem shp.mono (us : List Value) : Mono (shp us) := fun _ _ hs h u hu => (h u hu).imp id fun ⟨g, m, c, cur, e, hg, r⟩ => ⟨g, m, c, cur, e, hs _ _ hg, r⟩
theorem row_shp {v : Value} {m : Nat} {vs : List Value} {h : PHeap} (hr : row v 5 1 m vs h) : shp [v] h := fun u hu => by
  simp only [List.mem_singleton] at hu
  subst hu
  obtain ⟨_, ⟨e, _⟩ | ⟨g, cap, cur, e, hg, h1, h2, h3, _⟩⟩ := hr
  · exact .inl e
  · exact .inr ⟨g, m, cap, cur, e, hg, h1, h2, by omega⟩
/-- slices of bytes with blocks of their own, kept in a row of slices -/
def ins (us : List Value) (xs : List Bs) : Res := fun h => inn us xs h ∧ shp us h
theorem ins.mono (us : List Value) (xs : List Bs) : Mono (ins us xs) := fun _ _ hs ⟨h1, h2⟩ => ⟨inn.mono _ _ _ _ hs h1, shp.mono _ _ _ hs h2⟩
theorem ins_nil (h : PHeap) : ins [] [] h := ⟨inn_nil h, fun _ hu => by cases hu⟩
theorem ins_snoc {us : List Value} {xs : List Bs} {u : Value} {x : Bs} {h : PHeap} (hi : ins us xs h) (hu : Sl U8R h u x) (hs : shp [u] h) : ins (us ++ [u]) (xs ++ [x]) h :=
  ⟨inn_snoc hi.1 hu, fun v hv => by
    rcases List.mem_append.1 hv with h1 | h1
    · exact hi.2 v h1
    · exact hs v h1⟩
/-- T: the type of the row's elements -/
def recsR (T : Nat) (p : Option Addr) (c : Nat) (xs : List Bs) : Res := fun h => ∃ us, Sat [row (.slice p xs.length c) T 1 xs.length us, ins us xs] h
theorem recs_sl {T : Nat} {p : Option Addr} {c : Nat} {xs : List Bs} {h : PHeap} (hr : recsR T p c xs h) : Sl BsR h (.slice p xs.length c) xs := by
  obtain ⟨us, a, b, _, ha, hb, hr, a', b', _, ha', _, hi, _⟩ := hr
  have hl := row_len hr
  have hi : inn us xs h := inn.mono _ _ _ _ (ha'.trans hb) hi.1
  refine ⟨p, c, rfl, hl.2.1, by have := hl.2.2; unfold maxLen at this; omega, fun j x hj => ?_⟩
  have hlt := (List.getElem?_eq_some_iff.1 hj).1
  obtain ⟨q, cur, rfl, hq, _⟩ := row_open hr (by omega)
  obtain ⟨u, hu⟩ : ∃ u, us[j]? = some u := ⟨_, List.getElem?_eq_getElem (by rw [hi.1]; exact hlt)⟩
  refine ⟨rfl, [u], Cs.mono _ _ _ _ ha (?_ : Cs a _ _), u, rfl, hi.2 j x u hj hu⟩
  show Cs a ((ba (some ⟨q, 0, none⟩)).add (j * 1)) _
  rw [Nat.mul_one]
  refine row_cs hr ?_ (Nat.succ_pos _)
  rw [List.drop_eq_getElem_cons (by omega)]
  have := (List.getElem?_eq_some_iff.1 hu).2
  simp [this]
theorem recs_nil (T : Nat) (h : PHeap) : recsR T none 0 [] h :=
  ⟨[], fun _ => none, h, fun _ => .inl rfl, fun _ _ h => (by cases h), Sub.refl _, row_nil _ _ _, fun _ => none, h, fun _ => .inl rfl, fun _ _ h => (by cases h), Sub.refl _, ins_nil _, trivial⟩

theorem Sl.parts {α : Type} {R : Rp α} {h : PHeap} {p : Option Addr} {n c : Nat} {xs : List α} (hs : Sl R h (.slice p n c) xs) : n = xs.length ∧ xs.length ≤ c ∧ c ≤ 9223372036854775807 ∧ Elems R h p xs := by
  obtain ⟨a, c', e, h1, h2, h3⟩ := hs.get
  injection e with e1 e2 e3
  subst e1; subst e2; subst e3
  exact ⟨rfl, h1, h2, h3⟩
end Go.Sl
