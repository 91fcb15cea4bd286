/-
  A small separation logic over the model's heap (blocks of objects), and what holds of worlds in it. Own work; plain Lean.
-/
import Derived.WalkKit
namespace Go.Sl
open Go.RowKit

abbrev PHeap := Nat → Option Obj

def Sub (a b : PHeap) : Prop := ∀ k o, a k = some o → b k = some o
def Disj (a b : PHeap) : Prop := ∀ k, a k = none ∨ b k = none
def un (a b : PHeap) : PHeap := fun k => (a k).or (b k)

theorem Sub.refl (a : PHeap) : Sub a a := fun _ _ h => h
theorem Sub.trans {a b c : PHeap} (h : Sub a b) (k : Sub b c) : Sub a c := fun i o hi => k i o (h i o hi)
theorem Disj.symm {a b : PHeap} (h : Disj a b) : Disj b a := fun k => (h k).symm
theorem Disj.mono {a b a' b' : PHeap} (h : Disj a b) (ha : Sub a' a) (hb : Sub b' b) : Disj a' b' := by
  intro k
  rcases h k with h | h
  · left
    cases h' : a' k with
    | none => rfl
    | some o => rw [ha k o h'] at h; cases h
  · right
    cases h' : b' k with
    | none => rfl
    | some o => rw [hb k o h'] at h; cases h
theorem sub_un_left (a b : PHeap) : Sub a (un a b) := fun k o h => by simp [un, h]
theorem sub_un_right {a b : PHeap} (hd : Disj a b) : Sub b (un a b) := fun k o h => by
  rcases hd k with h' | h'
  · simp [un, h', h]
  · rw [h'] at h; cases h
theorem un_sub {a b c : PHeap} (ha : Sub a c) (hb : Sub b c) : Sub (un a b) c := fun k o h => by
  simp only [un] at h
  cases h' : a k with
  | some x => rw [h'] at h; simp at h; subst h; exact ha k _ h'
  | none => rw [h'] at h; simp at h; exact hb k _ h
theorem disj_un {a b c : PHeap} (h1 : Disj a c) (h2 : Disj b c) : Disj (un a b) c := fun k => by
  rcases h1 k with h | h
  · rcases h2 k with h' | h'
    · left; simp [un, h, h']
    · right; exact h'
  · right; exact h
theorem disj_un_left {a b c : PHeap} (h : Disj (un a b) c) : Disj a c := h.mono (sub_un_left a b) (Sub.refl c)
theorem un_none {a b : PHeap} {k : Nat} : un a b k = none ↔ a k = none ∧ b k = none := by
  unfold un; cases a k <;> simp

abbrev Res := PHeap → Prop

/-- The resources of a list lie in disjoint parts of a heap. -/
def Sat : List Res → PHeap → Prop
  | [], _ => True
  | r :: rs, h => ∃ a b, Disj a b ∧ Sub a h ∧ Sub b h ∧ r a ∧ Sat rs b

theorem Sat.mono {L : List Res} {h h' : PHeap} (hs : Sub h h') (hL : Sat L h) : Sat L h' := by
  cases L with
  | nil => trivial
  | cons r rs => obtain ⟨a, b, hd, ha, hb, hr, hrs⟩ := hL; exact ⟨a, b, hd, ha.trans hs, hb.trans hs, hr, hrs⟩

theorem Sat.swap {r s : Res} {L : List Res} {h : PHeap} (hL : Sat (r :: s :: L) h) : Sat (s :: r :: L) h := by
  obtain ⟨a, b, hd, ha, hb, hr, a', b', hd', ha', hb', hs, hL'⟩ := hL
  refine ⟨a', un a b', ?_, ha'.trans hb, un_sub ha (hb'.trans hb), hs, a, b', hd.mono (Sub.refl _) hb', sub_un_left _ _, sub_un_right (hd.mono (Sub.refl _) hb'), hr, hL'⟩
  exact (disj_un (hd.mono (Sub.refl _) ha') hd'.symm).symm

theorem Sat.perm {L L' : List Res} (hp : L.Perm L') : ∀ {h : PHeap}, Sat L h → Sat L' h := by
  induction hp with
  | nil => exact fun h => h
  | cons r _ ih => intro h hL; obtain ⟨a, b, hd, ha, hb, hr, hrs⟩ := hL; exact ⟨a, b, hd, ha, hb, hr, ih hrs⟩
  | swap r s l => exact fun hL => hL.swap
  | trans _ _ ih1 ih2 => exact fun hL => ih2 (ih1 hL)

theorem Sat.tail {r : Res} {L : List Res} {h : PHeap} (hL : Sat (r :: L) h) : Sat L h := by
  obtain ⟨a, b, hd, ha, hb, hr, hrs⟩ := hL
  exact hrs.mono hb

theorem Sat.drop {L L' : List Res} (hp : L'.Sublist L) : ∀ {h : PHeap}, Sat L h → Sat L' h := by
  induction hp with
  | slnil => exact fun h => h
  | cons r _ ih => exact fun h => ih h.tail
  | cons_cons r _ ih => intro h hL; obtain ⟨a, b, hd, ha, hb, hr, hrs⟩ := hL; exact ⟨a, b, hd, ha, hb, hr, ih hrs⟩

theorem Sat.append {L M : List Res} : ∀ {h : PHeap}, Sat (L ++ M) h ↔ ∃ a b, Disj a b ∧ Sub a h ∧ Sub b h ∧ Sat L a ∧ Sat M b := by
  induction L with
  | nil =>
    intro h
    refine ⟨fun hM => ⟨fun _ => none, h, fun _ => .inl rfl, fun _ _ h => (by cases h), Sub.refl h, trivial, hM⟩, fun ⟨a, b, _, _, hb, _, hM⟩ => hM.mono hb⟩
  | cons r L ih =>
    intro h
    constructor
    · rintro ⟨a, b, hd, ha, hb, hr, hrs⟩
      obtain ⟨c, d, hcd, hc, hd', hL, hM⟩ := ih.1 hrs
      exact ⟨un a c, d, disj_un (hd.mono (Sub.refl _) hd') hcd, un_sub ha (hc.trans hb), hd'.trans hb, ⟨a, c, hd.mono (Sub.refl _) hc, sub_un_left _ _, sub_un_right (hd.mono (Sub.refl _) hc), hr, hL⟩, hM⟩
    · rintro ⟨c, d, hcd, hc, hd', ⟨a, b, hd, ha, hb, hr, hrs⟩, hM⟩
      refine ⟨a, un b d, ?_, ha.trans hc, un_sub (hb.trans hc) hd', hr, ih.2 ⟨b, d, hcd.mono hb (Sub.refl _), sub_un_left _ _, sub_un_right (hcd.mono hb (Sub.refl _)), hrs, hM⟩⟩
      exact (disj_un hd.symm (hcd.mono ha (Sub.refl _)).symm).symm

/-- What a call leaves alone: old memory, the streams, the tape. -/
structure Base where
  heap : PHeap
  os : Os
  tape : Nat → Question → Nat
  output : Array (Nat × ByteArray)

def ph (w : World) : PHeap := fun k => w.heap[k]?

def World.base (w : World) : Base := ⟨ph w, w.os, w.tape, w.output⟩

/-- The world holds the base, and beside it the resources. -/
structure St (β : Base) (L : List Res) (w : World) : Prop where
  os : w.os = β.os
  tape : w.tape = β.tape
  output : w.output = β.output
  heap : ∃ h, Disj β.heap h ∧ Sub β.heap (ph w) ∧ Sub h (ph w) ∧ Sat L h

theorem St.base (w : World) : St (World.base w) [] w := ⟨rfl, rfl, rfl, fun _ => none, fun _ => .inr rfl, Sub.refl _, fun _ _ h => (by cases h), trivial⟩

theorem St.perm {β : Base} {L L' : List Res} {w : World} (h : St β L w) (hp : L.Perm L') : St β L' w := by
  obtain ⟨a, b, c, hh, hd, hs, hs', hL⟩ := h
  exact ⟨a, b, c, hh, hd, hs, hs', hL.perm hp⟩

theorem St.drop {β : Base} {L L' : List Res} {w : World} (h : St β L w) (hp : L'.Sublist L) : St β L' w := by
  obtain ⟨a, b, c, hh, hd, hs, hs', hL⟩ := h
  exact ⟨a, b, c, hh, hd, hs, hs', hL.drop hp⟩

/-- A fact that every heap has which holds the base and each of the resources. -/
def Knows (β : Base) (L : List Res) (F : PHeap → Prop) : Prop := ∀ h, Sub β.heap h → (∀ r ∈ L, ∃ a, Sub a h ∧ r a) → F h

theorem Sat.each {L : List Res} : ∀ {h : PHeap}, Sat L h → ∀ r ∈ L, ∃ a, Sub a h ∧ r a := by
  induction L with
  | nil => intro h _ r hr; cases hr
  | cons s L ih =>
    rintro h ⟨a, b, hd, ha, hb, hr, hrs⟩ r hm
    cases hm with
    | head => exact ⟨a, ha, hr⟩
    | tail _ hm => obtain ⟨c, hc, hr'⟩ := ih hrs r hm; exact ⟨c, hc.trans hb, hr'⟩

theorem St.knows {β : Base} {L : List Res} {w : World} {F : PHeap → Prop} (h : St β L w) (hF : Knows β L F) : F (ph w) := by
  obtain ⟨a, b, c, hh, hd, hs, hs', hL⟩ := h
  exact hF _ hs fun r hr => let ⟨a, ha, hra⟩ := hL.each r hr; ⟨a, ha.trans hs', hra⟩

/-- A fact on heaps that every larger heap has too. -/
def Mono (F : PHeap → Prop) : Prop := ∀ h h', Sub h h' → F h → F h'

theorem Knows.of_base {β : Base} {L : List Res} {F : PHeap → Prop} (hm : Mono F) (h : F β.heap) : Knows β L F := fun _ hs _ => hm _ _ hs h
theorem Knows.of_res {β : Base} {L : List Res} {F : PHeap → Prop} {r : Res} (i : Nat) (hi : L[i]? = some r) (hm : Mono F) (h : ∀ a, r a → F a) : Knows β L F :=
  fun _ _ hr => let ⟨_, ha, hra⟩ := hr r (List.mem_of_getElem? hi); hm _ _ ha (h _ hra)
theorem Knows.imp {β : Base} {L : List Res} {F G : PHeap → Prop} (h : Knows β L F) (hi : ∀ a, F a → G a) : Knows β L G := fun a hs hr => hi a (h a hs hr)

/-- ONE STEP OF MEMORY: the first resource is turned, all others are kept. -/
theorem St.turn {β : Base} {r r' : Res} {L : List Res} {w w' : World} (h : St β (r :: L) w) (hos : w'.os = w.os) (htape : w'.tape = w.tape) (hout : w'.output = w.output)
    (ht : ∀ a, Sub a (ph w) → r a → ∃ a', r' a' ∧ Sub a' (ph w') ∧ ∀ k, k < w.heap.size → a k = none → a' k = none ∧ w'.heap[k]? = w.heap[k]?) : St β (r' :: L) w' := by
  obtain ⟨a, b, c, hh, hd, hs, hs', p, q, hpq, hp, hq, hr, hL⟩ := h
  obtain ⟨p', hr', hp', hk⟩ := ht p (hp.trans hs') hr
  have lt : ∀ {k o}, ph w k = some o → k < w.heap.size := fun h => by
    have := Array.getElem?_eq_some_iff.1 h; exact this.1
  have keep : ∀ (x : PHeap), Disj p x → Sub x (ph w) → Sub x (ph w') ∧ Disj p' x := by
    intro x hx hxs
    refine ⟨fun k o ho => ?_, fun k => ?_⟩
    · have hw := hxs k o ho
      have hpk : p k = none := by rcases hx k with h | h; exact h; rw [ho] at h; cases h
      show w'.heap[k]? = some o
      rw [(hk k (lt hw) hpk).2]; exact hw
    · cases ho : x k with
      | none => exact .inr rfl
      | some o =>
        have hw := hxs k o ho
        have hpk : p k = none := by rcases hx k with h | h; exact h; rw [ho] at h; cases h
        exact .inl (hk k (lt hw) hpk).1
  have hβ := keep β.heap ((hd.mono (Sub.refl _) hp).symm) hs
  have hq' := keep q hpq (hq.trans hs')
  refine ⟨hos.trans a, htape.trans b, hout.trans c, un p' q, ?_, hβ.1, un_sub hp' hq'.1, p', q, hq'.2, sub_un_left _ _, sub_un_right hq'.2, hr', hL⟩
  exact (disj_un hβ.2 (hd.mono (Sub.refl _) hq).symm).symm

/-- A step that turns nothing of what there was. -/
theorem St.grow {β : Base} {r' : Res} {L : List Res} {w w' : World} (h : St β L w) (hos : w'.os = w.os) (htape : w'.tape = w.tape) (hout : w'.output = w.output)
    (hk : ∀ k, k < w.heap.size → w'.heap[k]? = w.heap[k]?) (hr : ∃ a', r' a' ∧ Sub a' (ph w') ∧ ∀ k, k < w.heap.size → a' k = none) : St β (r' :: L) w' := by
  have h' : St β ((fun _ => True) :: L) w := by
    obtain ⟨a, b, c, hh, hd, hs, hs', hL⟩ := h
    exact ⟨a, b, c, hh, hd, hs, hs', fun _ => none, hh, fun _ => .inl rfl, fun _ _ h => (by cases h), Sub.refl _, trivial, hL⟩
  obtain ⟨a', hr', hs', hn⟩ := hr
  exact h'.turn hos htape hout fun a _ _ => ⟨a', hr', hs', fun k hlt _ => ⟨hn k hlt, hk k hlt⟩⟩

theorem St.same {β : Base} {L : List Res} {w w' : World} (h : St β L w) (hos : w'.os = w.os) (htape : w'.tape = w.tape) (hout : w'.output = w.output)
    (hk : ∀ k, k < w.heap.size → w'.heap[k]? = w.heap[k]?) : St β L w' :=
  (h.grow (r' := fun _ => True) hos htape hout hk ⟨fun _ => none, trivial, fun _ _ h => (by cases h), fun _ _ => rfl⟩).drop (List.sublist_cons_self _ _)

theorem St.drew {β : Base} {L : List Res} {w : World} (h : St β L w) : St β L w.drew := h.same rfl rfl rfl fun _ _ => rfl

/-- One whole block. -/
def pt (b : Nat) (o : Obj) : Res := fun h => h b = some o

theorem St.new {β : Base} {L : List Res} {w : World} (h : St β L w) (o : Obj) : St β (pt w.heap.size o :: L) (w.alloc o) := by
  refine h.grow rfl rfl rfl (fun k hk => Below.heap_alloc w o k hk) ⟨fun k => if k = w.heap.size then some o else none, by simp [pt], ?_, ?_⟩
  · intro k o' h
    by_cases e : k = w.heap.size
    · subst e; simp at h; subst h; exact heap_alloc_new w o
    · simp [e] at h
  · intro k hk
    have : k ≠ w.heap.size := by omega
    simp [this]

theorem St.pt {β : Base} {L : List Res} {w : World} {b : Nat} {o : Obj} (h : St β L w) (i : Nat) (hi : L[i]? = some (pt b o)) : w.heap[b]? = some o :=
  h.knows (F := fun h => h b = some o) (Knows.of_res i hi (fun _ _ hs hb => hs _ _ hb) fun _ ha => ha)

/-- Write over a whole block. -/
theorem St.put {β : Base} {L : List Res} {w w' : World} {b : Nat} {o o' : Obj} (h : St β (Sl.pt b o :: L) w) (hos : w'.os = w.os) (htape : w'.tape = w.tape) (hout : w'.output = w.output)
    (hb : w'.heap[b]? = some o') (hk : ∀ k, k ≠ b → k < w.heap.size → w'.heap[k]? = w.heap[k]?) : St β (Sl.pt b o' :: L) w' := by
  refine h.turn hos htape hout fun a _ hr => ⟨fun k => if k = b then some o' else none, by simp [Sl.pt], ?_, ?_⟩
  · intro k x hx
    by_cases e : k = b
    · subst e; simp at hx; subst hx; exact hb
    · simp [e] at hx
  · intro k hlt hak
    have hne : k ≠ b := by rintro rfl; rw [Sl.pt] at hr; rw [hr] at hak; cases hak
    exact ⟨by simp [hne], hk k hne hlt⟩

/-- From a place of the list to its front, and back. -/
theorem perm_front {α : Type _} {L : List α} {r : α} (i : Nat) (hi : L[i]? = some r) : L.Perm (r :: L.eraseIdx i) := by
  induction L generalizing i with
  | nil => simp at hi
  | cons s L ih =>
    cases i with
    | zero => simp at hi; subst hi; exact List.Perm.refl _
    | succ i =>
      simp at hi
      exact ((ih i hi).cons s).trans (List.Perm.swap _ _ _)

theorem perm_set {α : Type _} {L : List α} {r r' : α} (i : Nat) (hi : L[i]? = some r) : (r' :: L.eraseIdx i).Perm (L.set i r') := by
  induction L generalizing i with
  | nil => simp at hi
  | cons s L ih =>
    cases i with
    | zero => exact List.Perm.refl _
    | succ i =>
      simp at hi
      exact (List.Perm.swap _ _ _).trans ((ih i hi).cons s)

theorem St.front {β : Base} {L : List Res} {w : World} {r : Res} (h : St β L w) (i : Nat) (hi : L[i]? = some r) : St β (r :: L.eraseIdx i) w := h.perm (perm_front i hi)
theorem St.back {β : Base} {L : List Res} {w : World} {r r' : Res} (i : Nat) (hi : L[i]? = some r) (h : St β (r' :: L.eraseIdx i) w) : St β (L.set i r') w := h.perm (perm_set i hi)

/-- FRAMING: of the resources some are handed over, the others are set beside the base till the call is back. -/
theorem St.frame {β : Base} {L M : List Res} {w : World} (h : St β (L ++ M) w) :
    ∃ β₁ : Base, Sub β.heap β₁.heap ∧ (∀ F, Knows β M F → F β₁.heap) ∧ St β₁ L w ∧ ∀ L' w', St β₁ L' w' → St β (L' ++ M) w' := by
  obtain ⟨ho, ht, hp, hh, hd, hs, hs', hL⟩ := h
  obtain ⟨a, b, hab, ha, hb, hLa, hMb⟩ := Sat.append.1 hL
  have hdb : Disj β.heap b := hd.mono (Sub.refl _) hb
  refine ⟨⟨un β.heap b, β.os, β.tape, β.output⟩, sub_un_left _ _, ?_, ⟨ho, ht, hp, a, disj_un (hd.mono (Sub.refl _) ha) hab.symm, un_sub hs (hb.trans hs'), ha.trans hs', hLa⟩, ?_⟩
  · intro F hF
    exact hF _ (sub_un_left _ _) fun r hr => let ⟨c, hc, hrc⟩ := hMb.each r hr; ⟨c, hc.trans (sub_un_right hdb), hrc⟩
  · rintro L' w' ⟨ho', ht', hp', h', hd', hs1, hs2, hL'⟩
    refine ⟨ho', ht', hp', un h' b, ?_, (sub_un_left _ _).trans hs1, un_sub hs2 ((sub_un_right hdb).trans hs1), ?_⟩
    · exact (disj_un (disj_un_left hd').symm hdb.symm).symm
    · have hd2 : Disj h' b := (hd'.mono (sub_un_right hdb) (Sub.refl _)).symm
      exact Sat.append.2 ⟨h', b, hd2, sub_un_left _ _, sub_un_right hd2, hL', hMb⟩

/-- What lay in the base when it was all the world lies there still. -/
theorem St.below {L : List Res} {w w' : World} (h : St (World.base w) L w') : Below w.heap.size w w' := by
  obtain ⟨ho, ht, hp, hh, hd, hs, hs', hL⟩ := h
  refine ⟨ho, ht, hp, ?_, fun k hk => ?_⟩
  · by_cases e : w.heap.size = 0
    · omega
    · have hlt : w.heap.size - 1 < w.heap.size := by omega
      have := hs (w.heap.size - 1) _ (Array.getElem?_eq_getElem hlt)
      have h2 := (Array.getElem?_eq_some_iff.1 this).1
      omega
  · rw [Array.getElem?_eq_getElem hk]; exact hs k _ (Array.getElem?_eq_getElem hk)

end Go.Sl
