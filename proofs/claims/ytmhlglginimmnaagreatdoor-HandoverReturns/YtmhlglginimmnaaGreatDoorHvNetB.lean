/-
  Own work; plain Lean (HvOrd, HvNet, HvPass, HvMove, HvNetR, HvRet, HvNetB).
-/
import Derived.Test.YtmhlglginimmnaaGreatDoorHv27
set_option linter.unusedVariables false
set_option linter.unusedSimpArgs false
namespace Go.Hv
open Go Go.Sl Go.Proofs
theorem right_thE {id tag : Int} (h : 1 ≤ id ∧ id ≤ 65536) (h2 : -2147483648 ≤ tag ∧ tag ≤ 2147483647) : rightE (thE id tag) = true := by
  unfold rightE
  rw [decide_eq_true h.1, decide_eq_true h.2]
  have h3 : fitC ⟨10, tag, 0, 0, 0⟩ = true := by
    unfold fitC
    rw [if_neg (show ¬ ((10 : UInt8).toNat < 1 ∨ 10 < (10 : UInt8).toNat) by decide)]
    show fitK (rg4 (-2147483648) 2147483647) ⟨10, tag, 0, 0, 0⟩ = true
    unfold fitK outR
    simp [h2.1, h2.2]
  simp [risB, h3]
end Go.Hv

namespace Go.Hv
open Go Go.Sl Go.Proofs
def gt (Xs : List KG) (a : Nat) : KG := Xs.getD a (freshG 0)
theorem gt_of {Xs : List KG} {a : Nat} {X : KG} (h : Xs[a]? = some X) : gt Xs a = X := by unfold gt; rw [List.getD_eq_getElem?_getD, h]; rfl
theorem gt_get {Xs : List KG} {a : Nat} (h : a < Xs.length) : Xs[a]? = some (gt Xs a) := by unfold gt; rw [List.getD_eq_getElem?_getD, List.getElem?_eq_getElem h]; rfl
theorem gt_self {Xs : List KG} {a : Nat} {X : KG} (h : a < Xs.length) : gt (Xs.set a X) a = X := gt_of (List.getElem?_set_self h)
theorem gt_ne {Xs : List KG} {a b : Nat} {X : KG} (h : a ≠ b) : gt (Xs.set a X) b = gt Xs b := by
  unfold gt; rw [List.getD_eq_getElem?_getD, List.getD_eq_getElem?_getD, List.getElem?_set_ne h]
theorem gt_setSame {Xs : List KG} {a : Nat} (h : a < Xs.length) : Xs.set a (gt Xs a) = Xs := by
  refine List.ext_getElem? fun i => ?_
  by_cases e : a = i
  · subst e; rw [List.getElem?_set_self h, gt_get h]
  · rw [List.getElem?_set_ne e]
abbrev ix (a : Nat) : Int := ((a + 1 : Nat) : Int)
/-- a message that is on the way -/
def Way (Xs : List KG) (a : Nat) (m : KMs) : Prop := m ∈ (gt Xs a).out ∧ (gt Xs (m.to.toNat - 1)).lv.at (a + 1) < m.number
theorem ixto {b : Nat} {t : Int} (h : t = ix b) : t.toNat - 1 = b := by subst h; show ((b + 1 : Nat) : Int).toNat - 1 = b; omega
structure Net (n : Nat) (Xs : List KG) : Prop where
  n6 : n ≤ 6
  len : Xs.length = n
  ok : ∀ a, a < n → (∃ N, XOk (gt Xs a) N) ∧ (gt Xs a).zone = ix a
  le : ∀ a b, a < n → b < n → a ≠ b → (gt Xs b).lv.at (a + 1) ≤ (gt Xs a).gv.at (b + 1)
  all : ∀ a b, a < n → b < n → a ≠ b → ∀ k : Int, (gt Xs b).lv.at (a + 1) < k → k ≤ (gt Xs a).gv.at (b + 1) → ∃ m ∈ (gt Xs a).out, m.to = ix b ∧ m.number = k
  to : ∀ a, a < n → ∀ m ∈ (gt Xs a).out, ∃ b, b < n ∧ b ≠ a ∧ m.to = ix b
  lz : ∀ a, a < n → ∀ z, z < 7 → 0 < (gt Xs a).lv.at z → ∃ b, b < n ∧ b ≠ a ∧ z = b + 1
  hh : ∀ a b e d, a < n → b < n → e ∈ (gt Xs a).here → d ∈ (gt Xs b).here → e.id = d.id → a = b
  hw : ∀ a b e m, a < n → b < n → e ∈ (gt Xs a).here → Way Xs b m → e.id ≠ m.e.id
  ww : ∀ a b m m', a < n → b < n → Way Xs a m → Way Xs b m' → m.e.id = m'.e.id → a = b ∧ m = m'
  small : ∀ a, a < n → (∀ e ∈ (gt Xs a).here, e.id ≤ 8) ∧ ∀ m ∈ (gt Xs a).out, m.e.id ≤ 8
/-- what the arrival of messages makes of the gates -/
structure Flow (n : Nat) (Xs Ys : List KG) : Prop where
  gv : ∀ b, (gt Ys b).gv = (gt Xs b).gv
  lv : ∀ b z, z < 7 → (gt Xs b).lv.at z ≤ (gt Ys b).lv.at z
  out : ∀ b, ∀ m ∈ (gt Ys b).out, m ∈ (gt Xs b).out
  p1 : ∀ b, ∀ e ∈ (gt Xs b).here, e ∈ (gt Ys b).here
  p2 : ∀ b m, b < n → Way Xs b m → Way Ys b m ∨ m.e ∈ (gt Ys (m.to.toNat - 1)).here
  p3 : ∀ b, ∀ e ∈ (gt Ys b).here, e ∈ (gt Xs b).here ∨ ∃ c m, c < n ∧ Way Xs c m ∧ m.to = ix b ∧ m.e = e
theorem Flow.refl (n : Nat) (Xs : List KG) : Flow n Xs Xs := ⟨fun _ => rfl, fun _ _ _ => Int.le_refl _, fun _ _ h => h, fun _ _ h => h, fun _ _ _ h => .inl h, fun _ _ h => .inl h⟩
theorem Flow.way {n : Nat} {Xs Ys : List KG} (h : Flow n Xs Ys) {c : Nat} {m : KMs} (hc : c < n) (hn : n ≤ 6) (hm : Way Ys c m) : Way Xs c m := ⟨h.out _ _ hm.1, Int.lt_of_le_of_lt (h.lv _ _ (by omega)) hm.2⟩
theorem Flow.trans {n : Nat} {Xs Ys Zs : List KG} (hn : n ≤ 6) (h : Flow n Xs Ys) (g : Flow n Ys Zs) : Flow n Xs Zs where
  gv b := (g.gv b).trans (h.gv b)
  lv b z hz := Int.le_trans (h.lv b z hz) (g.lv b z hz)
  out b m hm := h.out b m (g.out b m hm)
  p1 b e he := g.p1 b e (h.p1 b e he)
  p2 b m hb hm := by
    rcases h.p2 b m hb hm with h1 | h1
    · exact g.p2 b m hb h1
    · exact .inr (g.p1 _ _ h1)
  p3 b e he := by
    rcases g.p3 b e he with h1 | ⟨c, m, hc, h1, h2⟩
    · exact h.p3 b e h1
    · exact .inr ⟨c, m, hc, h.way hc hn h1, h2⟩
theorem sort_len : ∀ {l : List KEnt} {lo hi : Int}, SortE l → (∀ e ∈ l, lo ≤ e.id ∧ e.id ≤ hi) → lo ≤ hi + 1 → (l.length : Int) ≤ hi - lo + 1
  | [], lo, hi, _, _, h => by simp; omega
  | a :: l, lo, hi, hs, hb, h => by
    rw [SortE, List.pairwise_cons] at hs
    have h1 := hb a List.mem_cons_self
    have := sort_len (l := l) (lo := a.id + 1) (hi := hi) hs.2 (fun e he => ⟨by have := hs.1 e he; omega, (hb e (List.mem_cons_of_mem _ he)).2⟩) (by omega)
    rw [List.length_cons]; push_cast; omega
theorem osort_uni : ∀ {l : List KMs} {m s : KMs}, l.Pairwise (fun a b => a.to < b.to ∨ (a.to = b.to ∧ a.number < b.number)) → m ∈ l → s ∈ l → m.to = s.to → m.number = s.number → m = s
  | a :: l, m, s, hp, hm, hs, h1, h2 => by
    rw [List.pairwise_cons] at hp
    rcases List.mem_cons.1 hm with rfl | hm' <;> rcases List.mem_cons.1 hs with rfl | hs'
    · rfl
    · have := hp.1 _ hs'; omega
    · have := hp.1 _ hm'; omega
    · exact osort_uni hp.2 hm' hs' h1 h2
section
variable {n : Nat} {Xs : List KG}
theorem Net.few (h : Net n Xs) {a : Nat} (ha : a < n) : (gt Xs a).here.length ≤ 8 := by
  obtain ⟨⟨N, hx⟩, _⟩ := h.ok a ha
  have := sort_len (lo := 1) (hi := 8) hx.sort (fun e he => ⟨(hx.right e he).id.1, (h.small a ha).1 e he⟩) (by decide)
  omega
/-- what a gate makes of a message -/
def TookTo (X : KG) (s : KMs) (Y : KG) : Prop := (takeF X s = some 0 ∧ Y = X) ∨ (takeF X s = none ∧ Y = playX X (takeO s))
theorem other_ix {a b : Nat} (ha : a < 6) (h : a ≠ b) : otherB (ix b) (ix a) = true := other_iff.2 ⟨by show 1 ≤ ((a + 1 : Nat) : Int); omega, by show ((a + 1 : Nat) : Int) ≤ 6; omega, by show ((a + 1 : Nat) : Int) ≠ ((b + 1 : Nat) : Int); omega⟩
/-- an entity arrives -/
theorem Net.take (h : Net n Xs) {a b : Nat} (ha : a < n) (hb : b < n) (hab : a ≠ b) {s : KMs} (hs : s ∈ (gt Xs a).out) (ht : s.to = ix b) (hn : s.number ≤ (gt Xs b).lv.at (a + 1) + 1) :
    ∃ Y, TookTo (gt Xs b) s Y ∧ Net n (Xs.set b Y) ∧ Flow n Xs (Xs.set b Y) ∧ s.number ≤ (gt (Xs.set b Y) b).lv.at (a + 1) := by
  have n6 := h.n6
  obtain ⟨⟨Na, hxa⟩, hza⟩ := h.ok a ha
  obtain ⟨⟨Nb, hxb⟩, hzb⟩ := h.ok b hb
  obtain ⟨hsrc, hack, _, hn1, hng⟩ := hxa.ohd s hs
  have hsrc : s.src = ix a := hsrc.trans hza
  have hbl : b < Xs.length := by rw [h.len]; exact hb
  have ho : otherB (gt Xs b).zone s.src = true := by rw [hzb, hsrc]; exact other_ix (by omega) hab
  have hsn : s.src.toNat = a + 1 := by rw [hsrc]; rfl
  have h0 : takeF (gt Xs b) s = takeE (gt Xs b) s := by
    unfold takeF
    rw [if_neg (by rw [ho, hzb, ht]; simp), hack, if_neg (by decide)]
  by_cases hold : s.number ≤ (gt Xs b).lv.at (a + 1)
  · refine ⟨gt Xs b, .inl ⟨?_, rfl⟩, ?_⟩
    · rw [h0]; unfold takeE; rw [hsn, if_pos hold]
    · rw [gt_setSame hbl]; exact ⟨h, Flow.refl n Xs, hold⟩
  · have hnum : s.number = (gt Xs b).lv.at (a + 1) + 1 := by omega
    have hway : Way Xs a s := ⟨hs, by rw [ixto ht]; omega⟩
    have hno : hereB (gt Xs b) s.e.id = false := by
      refine List.any_eq_false.2 fun e he => ?_
      have := h.hw b a e s hb ha he hway
      simp [this]
    have hr : rightE s.e = true := right_iff.2 (hxa.oright s hs)
    have hlen := h.few hb
    have hq : takeF (gt Xs b) s = none := by
      rw [h0]; unfold takeE
      rw [hsn, if_neg hold, if_neg (by omega), if_neg (by rw [hr, hno]; decide), if_neg (by omega)]
    have hop : takeO s = .take (ix a) s.e := by unfold takeO; rw [hack, if_neg (by decide), hsrc]
    refine ⟨playX (gt Xs b) (takeO s), .inr ⟨hq, rfl⟩, ?_⟩
    rw [hop]
    let Y : KG := playX (gt Xs b) (.take (ix a) s.e)
    have hY : Y = { gt Xs b with here := insE s.e (gt Xs b).here, lv := (gt Xs b).lv.upd (a + 1) ((gt Xs b).lv.at (a + 1) + 1) } := rfl
    have gs : gt (Xs.set b Y) b = Y := gt_self hbl
    have gn : ∀ c, c ≠ b → gt (Xs.set b Y) c = gt Xs c := fun c hc => gt_ne (Ne.symm hc)
    have a7 : a + 1 < 7 := by omega
    have lvY : ∀ z, z < 7 → Y.lv.at z = if z = a + 1 then (gt Xs b).lv.at (a + 1) + 1 else (gt Xs b).lv.at z := fun z hz => by
      show ((gt Xs b).lv.upd (a + 1) ((gt Xs b).lv.at (a + 1) + 1)).at z = _
      rw [KN7.at_upd a7 hz]
    have lvA : ∀ c z, z < 7 → (gt (Xs.set b Y) c).lv.at z = if c = b ∧ z = a + 1 then (gt Xs b).lv.at (a + 1) + 1 else (gt Xs c).lv.at z := fun c z hz => by
      by_cases hc : c = b
      · subst hc; rw [gs, lvY z hz]
        by_cases e : z = a + 1 <;> simp [e]
      · rw [gn c hc, if_neg (fun q => hc q.1)]
    have outA : ∀ c, (gt (Xs.set b Y) c).out = (gt Xs c).out := fun c => by
      by_cases hc : c = b
      · subst hc; rw [gs]; rfl
      · rw [gn c hc]
    have gvA : ∀ c, (gt (Xs.set b Y) c).gv = (gt Xs c).gv := fun c => by
      by_cases hc : c = b
      · subst hc; rw [gs]; rfl
      · rw [gn c hc]
    have hereA : ∀ c e, e ∈ (gt (Xs.set b Y) c).here ↔ e ∈ (gt Xs c).here ∨ (c = b ∧ e = s.e) := fun c e => by
      by_cases hc : c = b
      · subst hc; rw [gs]
        show e ∈ insE s.e (gt Xs c).here ↔ _
        rw [insE_mem hxb.sort]
        constructor
        · rintro (rfl | ⟨h1, _⟩)
          · exact .inr ⟨rfl, rfl⟩
          · exact .inl h1
        · rintro (h1 | ⟨_, rfl⟩)
          · exact .inr ⟨h1, fun q => h.hw c a e s hb ha h1 hway q⟩
          · exact .inl rfl
      · rw [gn c hc]; exact ⟨.inl, fun q => q.elim id fun q => absurd q.1 hc⟩
    have wayA : ∀ c m, c < n → (Way (Xs.set b Y) c m ↔ Way Xs c m ∧ ¬ (c = a ∧ m = s)) := fun c m hc => by
      unfold Way
      rw [outA, lvA _ _ (by omega)]
      constructor
      · rintro ⟨h1, h2⟩
        obtain ⟨d, hd, hdc, hmt⟩ := h.to c hc m h1
        rw [ixto hmt] at h2
        by_cases e : d = b ∧ c + 1 = a + 1
        · obtain ⟨rfl, e2⟩ := e
          have : c = a := by omega
          subst this
          rw [if_pos ⟨rfl, rfl⟩] at h2
          refine ⟨⟨h1, by rw [ixto hmt]; omega⟩, fun q => ?_⟩
          rw [q.2] at h2; omega
        · rw [if_neg e] at h2
          refine ⟨⟨h1, by rw [ixto hmt]; exact h2⟩, fun q => ?_⟩
          obtain ⟨rfl, rfl⟩ := q
          rw [ht] at hmt
          have : b = d := by have : ((b + 1 : Nat) : Int) = ((d + 1 : Nat) : Int) := hmt; omega
          exact e ⟨this.symm, rfl⟩
      · rintro ⟨⟨h1, h2⟩, h3⟩
        obtain ⟨d, hd, hdc, hmt⟩ := h.to c hc m h1
        refine ⟨h1, ?_⟩
        rw [ixto hmt] at h2 ⊢
        by_cases e : d = b ∧ c + 1 = a + 1
        · obtain ⟨rfl, e2⟩ := e
          have : c = a := by omega
          subst this
          rw [if_pos ⟨rfl, rfl⟩]
          rcases Int.lt_or_eq_of_le (show (gt Xs d).lv.at (c + 1) + 1 ≤ m.number by omega) with h4 | h4
          · exact h4
          · refine absurd ⟨rfl, ?_⟩ h3
            exact (h.ww c c m s hc hc ⟨h1, by rw [ixto hmt]; exact h2⟩ hway (by
              have : m = s := osort_uni hxa.osort h1 hs (hmt.trans ht.symm) (by rw [hnum, ← h4])
              rw [this])).2
        · rw [if_neg e]; exact h2
    refine ⟨⟨n6, by rw [List.length_set]; exact h.len, fun c hc => ?_, fun c d hc hd hcd => ?_, fun c d hc hd hcd k hk1 hk2 => ?_, fun c hc m hm => ?_, fun c hc z hz hp => ?_, fun c d e f hc hd he hf hid => ?_, fun c d e m hc hd he hm => ?_, fun c d m m' hc hd hm hm' hid => ?_, fun c hc => ?_⟩, ⟨gvA, fun c z hz => ?_, fun c m hm => by rw [outA] at hm; exact hm, fun c e he => (hereA c e).2 (.inl he), fun c m hc hm => ?_, fun c e he => ?_⟩, ?_⟩
    · by_cases e : c = b
      · subst e
        rw [gs]
        exact ⟨⟨Nb + 1, hxb.play (o := .take (ix a) s.e) ⟨hxa.oright s hs, ⟨by show 1 ≤ ((a + 1 : Nat) : Int); omega, by show ((a + 1 : Nat) : Int) ≤ 6; omega⟩, by omega⟩ (fun _ q => by cases q)⟩, hzb⟩
      · rw [gn c e]; exact h.ok c hc
    · rw [lvA _ _ (by omega), gvA]
      split
      · rename_i e
        obtain ⟨rfl, e2⟩ := e
        have : c = a := by omega
        subst this
        rw [ht] at hng
        rw [← hnum]; exact hng
      · exact h.le c d hc hd hcd
    · rw [lvA _ _ (by omega)] at hk1
      rw [gvA] at hk2
      rw [outA]
      refine h.all c d hc hd hcd k ?_ hk2
      split at hk1
      · rename_i e
        obtain ⟨rfl, e2⟩ := e
        have : c = a := by omega
        subst this
        omega
      · exact hk1
    · rw [outA] at hm; exact h.to c hc m hm
    · rw [lvA _ _ hz] at hp
      split at hp
      · rename_i e
        exact ⟨a, ha, by rw [e.1]; exact hab, e.2⟩
      · exact h.lz c hc z hz hp
    · rcases (hereA c e).1 he with h1 | ⟨rfl, rfl⟩ <;> rcases (hereA d f).1 hf with h2 | ⟨rfl, rfl⟩
      · exact h.hh c d e f hc hd h1 h2 hid
      · exact absurd hid (h.hw c a e s hc ha h1 hway)
      · exact absurd hid.symm (h.hw d a f s hd ha h2 hway)
      · rfl
    · obtain ⟨h2, h3⟩ := (wayA d m hd).1 hm
      rcases (hereA c e).1 he with h1 | ⟨rfl, rfl⟩
      · exact h.hw c d e m hc hd h1 h2
      · intro q
        obtain ⟨h4, h5⟩ := h.ww a d s m ha hd hway h2 q
        exact h3 ⟨h4.symm, h5.symm⟩
    · exact h.ww c d m m' hc hd ((wayA c m hc).1 hm).1 ((wayA d m' hd).1 hm').1 hid
    · refine ⟨fun e he => ?_, fun m hm => ?_⟩
      · rcases (hereA c e).1 he with h1 | ⟨_, rfl⟩
        · exact (h.small c hc).1 e h1
        · exact (h.small a ha).2 s hs
      · rw [outA] at hm; exact (h.small c hc).2 m hm
    · rw [lvA _ _ hz]
      split
      · rename_i e; rw [e.1, e.2]; omega
      · exact Int.le_refl _
    · by_cases e : c = a ∧ m = s
      · refine .inr ?_
        rw [e.2, ixto ht]
        exact (hereA b s.e).2 (.inr ⟨rfl, rfl⟩)
      · exact .inl ((wayA c m hc).2 ⟨hm, e⟩)
    · rcases (hereA c e).1 he with h1 | ⟨rfl, rfl⟩
      · exact .inl h1
      · exact .inr ⟨a, s, ha, hway, ht, rfl⟩
    · rw [lvA _ _ (by omega), if_pos ⟨rfl, rfl⟩, ← hnum]; exact Int.le_refl _
end
end Go.Hv

namespace Go.Hv
open Go Go.Sl Go.Proofs
section
variable {n : Nat} {Xs : List KG}
/-- an acknowledgement arrives -/
theorem Net.ack (h : Net n Xs) {a b : Nat} (ha : a < n) (hb : b < n) (hab : a ≠ b) {s : KMs} (hsrc : s.src = ix a) (hack : s.ack = true) (ht : s.to = ix b) (hn : s.number ≤ (gt Xs a).lv.at (b + 1)) (hp : 0 < s.number) :
    ∃ Y, TookTo (gt Xs b) s Y ∧ Net n (Xs.set b Y) ∧ Flow n Xs (Xs.set b Y) ∧ (∀ m ∈ Y.out, ¬ (m.to = ix a ∧ m.number ≤ s.number)) ∧
      ∀ c m, c < n → m ∈ (gt Xs c).out → (gt Xs (m.to.toNat - 1)).lv.at (c + 1) < m.number → m ∈ (gt (Xs.set b Y) c).out := by
  have n6 := h.n6
  obtain ⟨⟨Nb, hxb⟩, hzb⟩ := h.ok b hb
  have hbl : b < Xs.length := by rw [h.len]; exact hb
  have ho : otherB (gt Xs b).zone s.src = true := by rw [hzb, hsrc]; exact other_ix (by omega) hab
  have hsn : s.src.toNat = a + 1 := by rw [hsrc]; rfl
  have hle := h.le b a hb ha (Ne.symm hab)
  have h0 : takeF (gt Xs b) s = takeA (gt Xs b) s := by
    unfold takeF
    rw [if_neg (by rw [ho, hzb, ht]; simp), if_pos hack]
  have h1 : takeA (gt Xs b) s = if (!(gt Xs b).out.any (ackB s.src s.number)) = true then some 0 else none := by
    unfold takeA
    rw [if_neg]
    rw [hsn]
    simp only [Bool.or_eq_true, decide_eq_true_eq]
    omega
  by_cases hany : (gt Xs b).out.any (ackB s.src s.number) = true
  · refine ⟨playX (gt Xs b) (takeO s), .inr ⟨by rw [h0, h1, hany]; rfl, rfl⟩, ?_⟩
    have hop : takeO s = .ack (ix a) s.number := by unfold takeO; rw [if_pos hack, hsrc]
    rw [hop]
    let Y : KG := playX (gt Xs b) (.ack (ix a) s.number)
    have gs : gt (Xs.set b Y) b = Y := gt_self hbl
    have gn : ∀ c, c ≠ b → gt (Xs.set b Y) c = gt Xs c := fun c hc => gt_ne (Ne.symm hc)
    have hereA : ∀ c, (gt (Xs.set b Y) c).here = (gt Xs c).here := fun c => by
      by_cases hc : c = b
      · subst hc; rw [gs]; rfl
      · rw [gn c hc]
    have gvA : ∀ c, (gt (Xs.set b Y) c).gv = (gt Xs c).gv := fun c => by
      by_cases hc : c = b
      · subst hc; rw [gs]; rfl
      · rw [gn c hc]
    have lvA : ∀ c, (gt (Xs.set b Y) c).lv = (gt Xs c).lv := fun c => by
      by_cases hc : c = b
      · subst hc; rw [gs]; rfl
      · rw [gn c hc]
    have outB_ : ∀ m, m ∈ Y.out ↔ m ∈ (gt Xs b).out ∧ ¬ (m.to = ix a ∧ m.number ≤ s.number) := fun m => by
      show m ∈ (gt Xs b).out.filter _ ↔ _
      rw [List.mem_filter]
      unfold ackB
      simp only [Bool.not_eq_true', Bool.and_eq_false_iff, decide_eq_false_iff_not]
      refine and_congr Iff.rfl ⟨fun q r => q.elim (fun q => q r.1) fun q => q r.2, fun q => ?_⟩
      by_cases e : m.to = ix a
      · exact .inr fun r => q ⟨e, r⟩
      · exact .inl e
    have outA : ∀ c m, m ∈ (gt (Xs.set b Y) c).out → m ∈ (gt Xs c).out := fun c m hm => by
      by_cases hc : c = b
      · subst hc; rw [gs] at hm; exact ((outB_ m).1 hm).1
      · rw [gn c hc] at hm; exact hm
    have outW : ∀ c m, c < n → m ∈ (gt Xs c).out → (gt Xs (m.to.toNat - 1)).lv.at (c + 1) < m.number → m ∈ (gt (Xs.set b Y) c).out := fun c m hc hm hl => by
      by_cases hcb : c = b
      · subst hcb; rw [gs]
        refine (outB_ m).2 ⟨hm, fun q => ?_⟩
        rw [ixto q.1] at hl
        have := q.2
        omega
      · rw [gn c hcb]; exact hm
    have wayA : ∀ c m, c < n → (Way (Xs.set b Y) c m ↔ Way Xs c m) := fun c m hc => by
      unfold Way
      rw [lvA]
      exact ⟨fun q => ⟨outA c m q.1, q.2⟩, fun q => ⟨outW c m hc q.1 q.2, q.2⟩⟩
    refine ⟨⟨n6, by rw [List.length_set]; exact h.len, fun c hc => ?_, fun c d hc hd hcd => by rw [lvA, gvA]; exact h.le c d hc hd hcd, fun c d hc hd hcd k hk1 hk2 => ?_, fun c hc m hm => h.to c hc m (outA c m hm), fun c hc z hz hp => h.lz c hc z hz (by rw [lvA] at hp; exact hp), fun c d e f hc hd he hf hid => h.hh c d e f hc hd (by rw [hereA] at he; exact he) (by rw [hereA] at hf; exact hf) hid,
      fun c d e m hc hd he hm => h.hw c d e m hc hd (by rw [hereA] at he; exact he) ((wayA d m hd).1 hm), fun c d m m' hc hd hm hm' hid => h.ww c d m m' hc hd ((wayA c m hc).1 hm) ((wayA d m' hd).1 hm') hid, fun c hc => ⟨fun e he => (h.small c hc).1 e (by rw [hereA] at he; exact he), fun m hm => (h.small c hc).2 m (outA c m hm)⟩⟩,
      ⟨gvA, fun c z hz => by rw [lvA]; exact Int.le_refl _, outA, fun c e he => by rw [hereA]; exact he, fun c m hc hm => .inl ((wayA c m hc).2 hm), fun c e he => .inl (by rw [hereA] at he; exact he)⟩, fun m hm => ((outB_ m).1 hm).2, outW⟩
    · by_cases e : c = b
      · subst e
        rw [gs]
        exact ⟨⟨Nb, hxb.zone, hxb.sort, hxb.right, hxb.few, hxb.osort.filter _, fun m hm => hxb.oright m (List.mem_filter.1 hm).1, fun m hm => hxb.ohd m (List.mem_filter.1 hm).1, Nat.le_trans (List.length_filter_le ..) hxb.ofew, hxb.gv, hxb.lv⟩, hzb⟩
      · rw [gn c e]; exact h.ok c hc
    · rw [lvA] at hk1
      rw [gvA] at hk2
      obtain ⟨m, hm, h3, h4⟩ := h.all c d hc hd hcd k hk1 hk2
      exact ⟨m, outW c m hc hm (by rw [ixto h3, h4]; exact hk1), h3, h4⟩
  · have hf : (gt Xs b).out.any (ackB s.src s.number) = false := by simpa using hany
    refine ⟨gt Xs b, .inl ⟨by rw [h0, h1, hf]; rfl, rfl⟩, ?_⟩
    rw [gt_setSame hbl]
    refine ⟨h, Flow.refl n Xs, fun m hm q => ?_, fun _ _ _ q _ => q⟩
    have := List.any_eq_false.1 hf m hm
    unfold ackB at this
    rw [hsrc] at this
    simp [q.1, q.2] at this
/-- the first j messages of gate a have arrived -/
structure PassIn (n : Nat) (X0 Xs : List KG) (a j : Nat) : Prop where
  net : Net n Xs
  flow : Flow n X0 Xs
  same : gt Xs a = gt X0 a
  done : ∀ i s, i < j → (msgsX (gt X0 a))[i]? = some s → (s.ack = false → s.number ≤ (gt Xs (s.to.toNat - 1)).lv.at (a + 1)) ∧ (s.ack = true → ∀ m ∈ (gt Xs (s.to.toNat - 1)).out, ¬ (m.to = ix a ∧ m.number ≤ s.number))
theorem PassIn.start {X0 : List KG} (h : Net n X0) (a : Nat) : PassIn n X0 X0 a 0 := ⟨h, Flow.refl n X0, rfl, fun i s hi => absurd hi (Nat.not_lt_zero i)⟩
theorem acks_mem {X : KG} {s : KMs} (h : s ∈ acksTo X 7) : s.src = X.zone ∧ s.ack = true ∧ ∃ z, z < 7 ∧ 0 < X.lv.at z ∧ s.to = ((z : Nat) : Int) ∧ s.number = X.lv.at z := by
  unfold acksTo at h
  obtain ⟨z, hz, rfl⟩ := List.mem_map.1 h
  obtain ⟨h1, h2⟩ := List.mem_filter.1 hz
  exact ⟨rfl, rfl, z, List.mem_range.1 h1, of_decide_eq_true h2, rfl, rfl⟩
theorem PassIn.next {X0 Xs : List KG} {a j : Nat} (h : PassIn n X0 Xs a j) (ha : a < n) {s : KMs} (hs : (msgsX (gt X0 a))[j]? = some s) :
    ∃ b Y, b < n ∧ s.to = ix b ∧ TookTo (gt Xs b) s Y ∧ PassIn n X0 (Xs.set b Y) a (j + 1) := by
  have hn := h.net
  have n6 := hn.n6
  have key : ∃ b Y, b < n ∧ b ≠ a ∧ s.to = ix b ∧ TookTo (gt Xs b) s Y ∧ Net n (Xs.set b Y) ∧ Flow n Xs (Xs.set b Y) ∧ (s.ack = false → s.number ≤ (gt (Xs.set b Y) b).lv.at (a + 1)) ∧ (s.ack = true → ∀ m ∈ (gt (Xs.set b Y) b).out, ¬ (m.to = ix a ∧ m.number ≤ s.number)) := by
    obtain ⟨⟨N, hx⟩, hz⟩ := hn.ok a ha
    rw [← h.same] at hs
    by_cases hj : j < (gt Xs a).out.length
    · unfold msgsX at hs
      rw [List.getElem?_append_left hj] at hs
      have hm := List.mem_of_getElem? hs
      obtain ⟨b, hb, hba, ht⟩ := hn.to a ha s hm
      obtain ⟨_, hack, _, h1, hg⟩ := hx.ohd s hm
      have hle : s.number ≤ (gt Xs b).lv.at (a + 1) + 1 := by
        refine Decidable.byContradiction fun hc => ?_
        rw [ht] at hg
        obtain ⟨m, hmo, hmt, hmn⟩ := hn.all a b ha hb (Ne.symm hba) ((gt Xs b).lv.at (a + 1) + 1) (by omega) (by have : (ix b).toNat = b + 1 := rfl; rw [this] at hg; omega)
        obtain ⟨i, hi, hmi⟩ := List.mem_iff_getElem.1 hmo
        obtain ⟨hj2, hsj⟩ := List.getElem?_eq_some_iff.1 hs
        have hp := List.pairwise_iff_getElem.1 hx.osort
        have hij : i < j := by
          rcases Nat.lt_trichotomy i j with q | q | q
          · exact q
          · subst q; rw [hmi] at hsj; rw [hsj] at hmn; omega
          · have := hp j i hj2 hi q
            rw [hsj, hmi, ht, hmt] at this
            rcases this with q2 | ⟨_, q2⟩ <;> omega
        have hd := (h.done i m hij (by rw [← h.same]; unfold msgsX; rw [List.getElem?_append_left hi, List.getElem?_eq_getElem hi, hmi])).1 (hx.ohd m hmo).2.1
        rw [ixto hmt] at hd
        omega
      obtain ⟨Y, t1, t2, t3, t4⟩ := hn.take ha hb (Ne.symm hba) hm ht hle
      exact ⟨b, Y, hb, hba, ht, t1, t2, t3, fun _ => t4, fun q => by rw [hack] at q; cases q⟩
    · unfold msgsX at hs
      rw [List.getElem?_append_right (by omega)] at hs
      obtain ⟨h1, h2, z, hz7, hzp, h3, h4⟩ := acks_mem (List.mem_of_getElem? hs)
      obtain ⟨b, hb, hba, rfl⟩ := hn.lz a ha z hz7 hzp
      obtain ⟨Y, t1, t2, t3, t4, _⟩ := hn.ack ha hb (Ne.symm hba) (h1.trans hz) h2 h3 (Int.le_of_eq h4) (by rw [h4]; exact hzp)
      exact ⟨b, Y, hb, hba, h3, t1, t2, t3, fun q => (by rw [h2] at q; cases q), fun _ => by rw [gt_self (by rw [hn.len]; exact hb)]; exact t4⟩
  obtain ⟨b, Y, hb, hba, ht, t1, t2, t3, t4, t5⟩ := key
  refine ⟨b, Y, hb, ht, t1, t2, h.flow.trans n6 t3, by rw [gt_ne hba]; exact h.same, fun i m hi hm => ?_⟩
  by_cases e : i = j
  · subst e
    rw [hs] at hm; injection hm with hm; subst hm
    rw [ixto ht]; exact ⟨t4, t5⟩
  · obtain ⟨d1, d2⟩ := h.done i m (by omega) hm
    refine ⟨fun q => Int.le_trans (d1 q) (t3.lv _ _ (by omega)), fun q y hy => d2 q y (t3.out _ y hy)⟩
/-- all messages of the first a gates have arrived; L: all had arrived before -/
structure PassTo (n : Nat) (X0 Xs : List KG) (a : Nat) : Prop where
  net : Net n Xs
  flow : Flow n X0 Xs
  eq : ∀ c d, c < a → c < n → d < n → c ≠ d → (gt Xs d).lv.at (c + 1) = (gt Xs c).gv.at (d + 1)
  out : (∀ c d, c < n → d < n → c ≠ d → (gt X0 d).lv.at (c + 1) = (gt X0 c).gv.at (d + 1)) → ∀ c d, c < a → c < n → d < n → ∀ m ∈ (gt Xs d).out, m.to ≠ ix c
theorem PassTo.start {X0 : List KG} (h : Net n X0) : PassTo n X0 X0 0 := ⟨h, Flow.refl n X0, fun c d hc => absurd hc (Nat.not_lt_zero c), fun _ c d hc => absurd hc (Nat.not_lt_zero c)⟩
theorem PassTo.next {X0 X1 Xs : List KG} {a : Nat} (h : PassTo n X0 X1 a) (ha : a < n) (g : PassIn n X1 Xs a (msgsX (gt X1 a)).length) : PassTo n X0 Xs (a + 1) := by
  have hn := g.net
  have n6 := hn.n6
  obtain ⟨⟨N, hx⟩, hz⟩ := hn.ok a ha
  have hx1 : XOk (gt X1 a) N := by rw [← g.same]; exact hx
  have heq : ∀ d, d < n → a ≠ d → (gt Xs d).lv.at (a + 1) = (gt Xs a).gv.at (d + 1) := fun d hd had => by
    refine Int.le_antisymm (hn.le a d ha hd had) (Decidable.byContradiction fun hc => ?_)
    obtain ⟨m, hm, ht, hk⟩ := hn.all a d ha hd had ((gt Xs d).lv.at (a + 1) + 1) (by omega) (by omega)
    rw [g.same] at hm
    obtain ⟨i, hi, hmi⟩ := List.mem_iff_getElem.1 hm
    have := (g.done i m (by unfold msgsX; rw [List.length_append]; omega) (by unfold msgsX; rw [List.getElem?_append_left hi, List.getElem?_eq_getElem hi, hmi])).1 (hx1.ohd m hm).2.1
    rw [ixto ht] at this
    omega
  refine ⟨hn, h.flow.trans n6 g.flow, fun c d hc hcn hd hcd => ?_, fun hL c d hc hcn hd m hm hmt => ?_⟩
  · by_cases e : c = a
    · subst e; exact heq d hd hcd
    · have h1 := h.eq c d (by omega) hcn hd hcd
      have h2 := g.flow.lv d (c + 1) (by omega)
      have h3 := hn.le c d hcn hd hcd
      rw [g.flow.gv] at h3 ⊢
      omega
  · by_cases e : c = a
    · subst e
      obtain ⟨b, _, hbd, hb⟩ := hn.to d hd m hm
      have hdc : c ≠ d := fun q => by
        subst q
        rw [hmt] at hb
        have : ((c + 1 : Nat) : Int) = ((b + 1 : Nat) : Int) := hb
        omega
      have f1 := h.flow.trans n6 g.flow
      have hl : (gt Xs c).lv.at (d + 1) = (gt Xs d).gv.at (c + 1) := by
        have h1 := hL d c hd hcn (Ne.symm hdc)
        have h2 := f1.lv c (d + 1) (by omega)
        have h3 := hn.le d c hd hcn (Ne.symm hdc)
        rw [f1.gv] at h3 ⊢
        omega
      obtain ⟨⟨Nd, hxd⟩, hzd⟩ := hn.ok d hd
      obtain ⟨_, _, _, hp, hg⟩ := hxd.ohd m hm
      rw [hmt] at hg
      have hg : m.number ≤ (gt Xs d).gv.at (c + 1) := hg
      have hpos : 0 < (gt X1 c).lv.at (d + 1) := by rw [← g.same]; omega
      have hmem : (⟨(gt X1 c).zone, ((d + 1 : Nat) : Int), (gt X1 c).lv.at (d + 1), true, ⟨0, []⟩⟩ : KMs) ∈ msgsX (gt X1 c) :=
        List.mem_append_right _ (List.mem_map.2 ⟨d + 1, List.mem_filter.2 ⟨List.mem_range.2 (by omega), decide_eq_true hpos⟩, rfl⟩)
      obtain ⟨i, hi, hmi⟩ := List.mem_iff_getElem.1 hmem
      have := (g.done i _ hi (by rw [List.getElem?_eq_getElem hi, hmi])).2 rfl m (by rw [ixto (b := d) rfl]; exact hm)
      exact this ⟨hmt, by show m.number ≤ (gt X1 c).lv.at (d + 1); rw [← g.same]; omega⟩
    · exact h.out hL c d (by omega) hcn hd m (g.flow.out d m hm) hmt
/-- all has arrived -/
def Done (n : Nat) (Xs : List KG) : Prop := ∀ c d, c < n → d < n → c ≠ d → (gt Xs d).lv.at (c + 1) = (gt Xs c).gv.at (d + 1)
/-- nothing is out -/
def Quiet (n : Nat) (Xs : List KG) : Prop := ∀ d, d < n → (gt Xs d).out = []
theorem PassTo.done {X0 Xs : List KG} (h : PassTo n X0 Xs n) : Done n Xs := fun c d hc hd hcd => h.eq c d hc hc hd hcd
theorem PassTo.quiet {X0 Xs : List KG} (h : PassTo n X0 Xs n) (hL : Done n X0) : Quiet n Xs := fun d hd => by
  refine List.eq_nil_iff_forall_not_mem.2 fun m hm => ?_
  obtain ⟨b, hb, _, ht⟩ := h.net.to d hd m hm
  exact h.out hL b d hb hb hd m hm ht
theorem Quiet.way {Xs : List KG} (h : Quiet n Xs) {c : Nat} (hc : c < n) {m : KMs} : ¬ Way Xs c m := fun q => by
  have := q.1; rw [h c hc] at this; cases this
end
end Go.Hv

namespace Go.Hv
open Go Go.Sl Go.Proofs
section
variable {n : Nat} {Xs : List KG}
/-- what is true of a net of which gate a puts an entity -/
structure Putted (n : Nat) (Xs Ys : List KG) (a : Nat) (e : KEnt) : Prop where
  net : Net n Ys
  here : ∀ c f, f ∈ (gt Ys c).here ↔ (f ∈ (gt Xs c).here ∧ ¬ (c = a ∧ f.id = e.id)) ∨ (c = a ∧ f = e)
  out : ∀ c, (gt Ys c).out = (gt Xs c).out
  way : ∀ c m, Way Ys c m ↔ Way Xs c m
theorem Net.put (h : Net n Xs) {a : Nat} (ha : a < n) {e : KEnt} (hr : rightE e = true) (h8 : e.id ≤ 8) (hno : ∀ b f, b < n → b ≠ a → f ∈ (gt Xs b).here → f.id ≠ e.id) (hnw : ∀ b m, b < n → Way Xs b m → m.e.id ≠ e.id) :
    Putted n Xs (Xs.set a (playX (gt Xs a) (.put e))) a e := by
  obtain ⟨⟨N, hx⟩, hz⟩ := h.ok a ha
  have hal : a < Xs.length := by rw [h.len]; exact ha
  let Y : KG := playX (gt Xs a) (.put e)
  have gs : gt (Xs.set a Y) a = Y := gt_self hal
  have gn : ∀ c, c ≠ a → gt (Xs.set a Y) c = gt Xs c := fun c hc => gt_ne (Ne.symm hc)
  have sm : ∀ c, (gt (Xs.set a Y) c).out = (gt Xs c).out ∧ (gt (Xs.set a Y) c).gv = (gt Xs c).gv ∧ (gt (Xs.set a Y) c).lv = (gt Xs c).lv := fun c => by
    by_cases hc : c = a
    · subst hc; rw [gs]; exact ⟨rfl, rfl, rfl⟩
    · rw [gn c hc]; exact ⟨rfl, rfl, rfl⟩
  have hereA : ∀ c f, f ∈ (gt (Xs.set a Y) c).here ↔ (f ∈ (gt Xs c).here ∧ ¬ (c = a ∧ f.id = e.id)) ∨ (c = a ∧ f = e) := fun c f => by
    by_cases hc : c = a
    · subst hc; rw [gs]
      show f ∈ insE e (gt Xs c).here ↔ _
      rw [insE_mem hx.sort]
      constructor
      · rintro (rfl | ⟨h1, h2⟩)
        · exact .inr ⟨rfl, rfl⟩
        · exact .inl ⟨h1, fun q => h2 q.2⟩
      · rintro (⟨h1, h2⟩ | ⟨_, rfl⟩)
        · exact .inr ⟨h1, fun q => h2 ⟨rfl, q⟩⟩
        · exact .inl rfl
    · rw [gn c hc]
      exact ⟨fun q => .inl ⟨q, fun r => hc r.1⟩, fun q => q.elim (·.1) fun r => absurd r.1 hc⟩
  have wayA : ∀ c m, Way (Xs.set a Y) c m ↔ Way Xs c m := fun c m => by unfold Way; rw [(sm c).1, (sm _).2.2]
  have few := h.few ha
  refine ⟨⟨h.n6, by rw [List.length_set]; exact h.len, fun c hc => ?_, fun c d hc hd hcd => ?_, fun c d hc hd hcd k hk1 hk2 => ?_, fun c hc m hm => ?_, fun c hc z hz hp => ?_, fun c d f g hc hd hf hg hid => ?_, fun c d f m hc hd hf hm => ?_, fun c d m m' hc hd hm hm' hid => ?_, fun c hc => ?_⟩, hereA, fun c => (sm c).1, wayA⟩
  · by_cases q : c = a
    · subst q; rw [gs]
      exact ⟨⟨N + 1, hx.play (o := .put e) ⟨right_iff.1 hr, .inr (by omega)⟩ (fun _ q => by cases q)⟩, hz⟩
    · rw [gn c q]; exact h.ok c hc
  · rw [(sm d).2.2, (sm c).2.1]; exact h.le c d hc hd hcd
  · rw [(sm d).2.2] at hk1; rw [(sm c).2.1] at hk2; rw [(sm c).1]; exact h.all c d hc hd hcd k hk1 hk2
  · rw [(sm c).1] at hm; exact h.to c hc m hm
  · rw [(sm c).2.2] at hp; exact h.lz c hc z hz hp
  · rcases (hereA c f).1 hf with ⟨h1, h2⟩ | ⟨rfl, rfl⟩ <;> rcases (hereA d g).1 hg with ⟨h3, h4⟩ | ⟨rfl, rfl⟩
    · exact h.hh c d f g hc hd h1 h3 hid
    · exact Classical.byContradiction fun q => hno c f hc q h1 hid
    · exact Classical.byContradiction fun q => hno d g hd (Ne.symm q) h3 hid.symm
    · rfl
  · have hm2 := (wayA d m).1 hm
    rcases (hereA c f).1 hf with ⟨h1, h2⟩ | ⟨rfl, rfl⟩
    · exact h.hw c d f m hc hd h1 hm2
    · exact (hnw d m hd hm2).symm
  · exact h.ww c d m m' hc hd ((wayA c m).1 hm) ((wayA d m').1 hm') hid
  · refine ⟨fun f hf => ?_, fun m hm => ?_⟩
    · rcases (hereA c f).1 hf with ⟨h1, _⟩ | ⟨_, rfl⟩
      · exact (h.small c hc).1 f h1
      · exact h8
    · rw [(sm c).1] at hm; exact (h.small c hc).2 m hm
/-- what is true of a net of which gate a gives an entity -/
structure Given (n : Nat) (Xs Ys : List KG) (a : Nat) (id : Int) (s : KMs) : Prop where
  net : Net n Ys
  here : ∀ c f, f ∈ (gt Ys c).here ↔ f ∈ (gt Xs c).here ∧ ¬ (c = a ∧ f.id = id)
  out : ∀ c, (gt Ys c).out.length ≤ (gt Xs c).out.length + 1
  way : ∀ c m, c < n → (Way Ys c m ↔ Way Xs c m ∨ (c = a ∧ m = s))
theorem Net.give (h : Net n Xs) {a b : Nat} (ha : a < n) (hb : b < n) (hab : a ≠ b) {id : Int} (hi : hereB (gt Xs a) id = true) (h64 : (gt Xs a).out.length < 64) :
    Given n Xs (Xs.set a (playX (gt Xs a) (.give id (ix b)))) a id (gMsg (gt Xs a) id (ix b)) := by
  obtain ⟨⟨N, hx⟩, hz⟩ := h.ok a ha
  have n6 := h.n6
  have hal : a < Xs.length := by rw [h.len]; exact ha
  obtain ⟨hf1, hf2⟩ := find_spec (X := gt Xs a) (id := id) (by
    obtain ⟨x, hx, hi⟩ := List.any_eq_true.1 hi; exact ⟨x, hx, of_decide_eq_true hi⟩)
  let Y : KG := playX (gt Xs a) (.give id (ix b))
  let s : KMs := gMsg (gt Xs a) id (ix b)
  have hse : s.e.id = id := hf2
  have hst : s.to = ix b := rfl
  have hsn : s.number = (gt Xs a).gv.at (b + 1) + 1 := rfl
  have gs : gt (Xs.set a Y) a = Y := gt_self hal
  have gn : ∀ c, c ≠ a → gt (Xs.set a Y) c = gt Xs c := fun c hc => gt_ne (Ne.symm hc)
  have b7 : b + 1 < 7 := by omega
  have lvA : ∀ c, (gt (Xs.set a Y) c).lv = (gt Xs c).lv := fun c => by
    by_cases hc : c = a
    · subst hc; rw [gs]; rfl
    · rw [gn c hc]
  have gvA : ∀ c z, z < 7 → (gt (Xs.set a Y) c).gv.at z = if c = a ∧ z = b + 1 then (gt Xs a).gv.at (b + 1) + 1 else (gt Xs c).gv.at z := fun c z hz7 => by
    by_cases hc : c = a
    · subst hc; rw [gs]
      show ((gt Xs c).gv.upd (b + 1) ((gt Xs c).gv.at (b + 1) + 1)).at z = _
      rw [KN7.at_upd b7 hz7]
      by_cases e : z = b + 1 <;> simp [e]
    · rw [gn c hc, if_neg (fun q => hc q.1)]
  have outA : ∀ c m, m ∈ (gt (Xs.set a Y) c).out ↔ m ∈ (gt Xs c).out ∨ (c = a ∧ m = s) := fun c m => by
    by_cases hc : c = a
    · subst hc; rw [gs]
      show m ∈ insB ltM s (gt Xs c).out ↔ _
      rw [insB_mem]
      exact ⟨fun q => q.elim (fun q => .inr ⟨rfl, q⟩) .inl, fun q => q.elim .inr fun q => .inl q.2⟩
    · rw [gn c hc]; exact ⟨.inl, fun q => q.elim (fun x => x) fun q => absurd q.1 hc⟩
  have hereA : ∀ c f, f ∈ (gt (Xs.set a Y) c).here ↔ f ∈ (gt Xs c).here ∧ ¬ (c = a ∧ f.id = id) := fun c f => by
    by_cases hc : c = a
    · subst hc; rw [gs]
      show f ∈ delE id (gt Xs c).here ↔ _
      rw [delE_mem]
      exact and_congr Iff.rfl ⟨fun q r => q r.2, fun q r => q ⟨rfl, r⟩⟩
    · rw [gn c hc]; exact ⟨fun q => ⟨q, fun r => hc r.1⟩, fun q => q.1⟩
  have hlt : (gt Xs b).lv.at (a + 1) < s.number := by have := h.le a b ha hb hab; omega
  have wayA : ∀ c m, c < n → (Way (Xs.set a Y) c m ↔ Way Xs c m ∨ (c = a ∧ m = s)) := fun c m hc => by
    unfold Way
    rw [lvA, outA]
    constructor
    · rintro ⟨h1 | h1, h2⟩
      · exact .inl ⟨h1, h2⟩
      · exact .inr h1
    · rintro (⟨h1, h2⟩ | ⟨rfl, rfl⟩)
      · exact ⟨.inl h1, h2⟩
      · exact ⟨.inr ⟨rfl, rfl⟩, by rw [ixto hst]; exact hlt⟩
  refine ⟨⟨n6, by rw [List.length_set]; exact h.len, fun c hc => ?_, fun c d hc hd hcd => ?_, fun c d hc hd hcd k hk1 hk2 => ?_, fun c hc m hm => ?_, fun c hc z hz hp => ?_, fun c d f g hc hd hf hg hid => ?_, fun c d f m hc hd hf hm => ?_, fun c d m m' hc hd hm hm' hid => ?_, fun c hc => ?_⟩, hereA, fun c => ?_, wayA⟩
  · by_cases q : c = a
    · subst q; rw [gs]
      exact ⟨⟨N + 1, hx.play (o := .give id (ix b)) ⟨⟨_, hf1, hf2⟩, ⟨by show 1 ≤ ((b + 1 : Nat) : Int); omega, by show ((b + 1 : Nat) : Int) ≤ 6; omega⟩, h64⟩ (fun _ q => by cases q)⟩, hz⟩
    · rw [gn c q]; exact h.ok c hc
  · rw [lvA, gvA _ _ (by omega)]
    have := h.le c d hc hd hcd
    split
    · rename_i e
      obtain ⟨rfl, e2⟩ := e
      have : d = b := by omega
      subst this; omega
    · exact this
  · rw [lvA] at hk1
    rw [gvA _ _ (by omega)] at hk2
    split at hk2
    · rename_i e
      obtain ⟨rfl, e2⟩ := e
      have : d = b := by omega
      subst this
      by_cases hk : k = (gt Xs c).gv.at (d + 1) + 1
      · exact ⟨s, (outA c s).2 (.inr ⟨rfl, rfl⟩), hst, by rw [hsn, hk]⟩
      · obtain ⟨m, hm, h1⟩ := h.all c d hc hd hcd k hk1 (by omega)
        exact ⟨m, (outA c m).2 (.inl hm), h1⟩
    · obtain ⟨m, hm, h1⟩ := h.all c d hc hd hcd k hk1 hk2
      exact ⟨m, (outA c m).2 (.inl hm), h1⟩
  · rcases (outA c m).1 hm with h1 | ⟨rfl, rfl⟩
    · exact h.to c hc m h1
    · exact ⟨b, hb, Ne.symm hab, hst⟩
  · rw [lvA] at hp; exact h.lz c hc z hz hp
  · exact h.hh c d f g hc hd ((hereA c f).1 hf).1 ((hereA d g).1 hg).1 hid
  · obtain ⟨h1, h2⟩ := (hereA c f).1 hf
    rcases (wayA d m hd).1 hm with h3 | ⟨rfl, rfl⟩
    · exact h.hw c d f m hc hd h1 h3
    · intro q
      rw [hse] at q
      have := h.hh c d f _ hc hd h1 hf1 (q.trans hf2.symm)
      exact h2 ⟨this, q⟩
  · rcases (wayA c m hc).1 hm with h3 | ⟨rfl, rfl⟩ <;> rcases (wayA d m' hd).1 hm' with h4 | ⟨rfl, rfl⟩
    · exact h.ww c d m m' hc hd h3 h4 hid
    · rw [hse] at hid
      exact absurd (hf2.trans hid.symm) (h.hw d c _ m hd hc hf1 h3)
    · rw [hse] at hid
      exact absurd (hf2.trans hid) (h.hw c d _ m' hc hd hf1 h4)
    · exact ⟨rfl, rfl⟩
  · refine ⟨fun f hf => (h.small c hc).1 f ((hereA c f).1 hf).1, fun m hm => ?_⟩
    rcases (outA c m).1 hm with h1 | ⟨rfl, rfl⟩
    · exact (h.small c hc).2 m h1
    · exact (h.small c hc).1 _ hf1
  · by_cases hc : c = a
    · subst hc; rw [gs]
      show (insB ltM s (gt Xs c).out).length ≤ _
      rw [insB_len]; exact Nat.le_refl _
    · rw [gn c hc]; omega
end
end Go.Hv

namespace Go.Sl
section
variable {P : Program} {β : Base} {f : Fm} {L : List Res}
variable {d : Option Tmp} {ty : TypeId} {ps : String} {af : Array Edge} {g : Option (Nat × Bool)}
theorem e_index1 {xs : List Value} {x y : Operand} {t len e k : Nat} {ik : IntKind} {z : Value} (hx : ev f x = .agg xs.toArray) (hy : ev f y = .int ik (k : Int)) (ht : arB P t len e 1 = true) (hz : xs[k]? = some z) (hk : k < len) (hne : tyB P e false 1 = true) :
    EV P β L f ⟨d, .index t x y, ty, ps, af, g⟩ z := fun w _ => by
  unfold arB at ht
  simp only [Bool.and_eq_true] at ht
  obtain ⟨h1, h2⟩ := ht
  cases hu : P.underlying t with
  | none => rw [hu] at h1; cases h1
  | some dd =>
    rw [hu] at h1
    cases dd <;> simp only [] at h1 <;> try (cases h1)
    rename_i l' e'
    simp only [Bool.and_eq_true, beq_iff_eq] at h1
    obtain ⟨rfl, rfl⟩ := h1
    have hs := (tyF hne).size w
    have ha := (tyF hne).agg w
    simp only [execOp, hx, hy, Instr.index, asIntOf, Sem.run_bind, run_underlying hu, Sem.run_pure, Result.andThen_ok]
    simp [hk, hs, part, ha]
    obtain ⟨h3, rfl⟩ := List.getElem?_eq_some_iff.1 hz
    simp [h3]
end
end Go.Sl
namespace Go.Hv
open Go Go.Sl Go.Proofs Go.Jn
abbrev PtF : Fl Nat := ⟨1, fun g => [.pointer (some ⟨g, 0, none⟩)], fun _ => rfl, fun _ => rfl, by decide⟩
def netL : List Nat → List Nat → List KG → Nat → Bool → List Res
  | G :: Gs, S :: Ss, X :: Xs, N, m => gateR G S X N m :: netL Gs Ss Xs N m
  | _, _, _, _, _ => []
def netR (Gs Ss : List Nat) (Xs : List KG) (N : Nat) (m : Bool) : Res := Sat (netL Gs Ss Xs N m)
structure NetLen (Gs Ss : List Nat) (Xs : List KG) (n : Nat) : Prop where
  g : Gs.length = n
  s : Ss.length = n
  x : Xs.length = n
theorem NetLen.set {Gs Ss : List Nat} {Xs : List KG} {n k : Nat} {X : KG} (h : NetLen Gs Ss Xs n) : NetLen Gs Ss (Xs.set k X) n := ⟨h.g, h.s, by rw [List.length_set]; exact h.x⟩
theorem netL_mono {N N' : Nat} {m : Bool} (hN : N ≤ N') : ∀ {Gs Ss : List Nat} {Xs : List KG} {a : PHeap}, Sat (netL Gs Ss Xs N m) a → Sat (netL Gs Ss Xs N' m) a
  | G :: Gs, S :: Ss, X :: Xs, a, h => by
    obtain ⟨b, c, hd, h1, h2, h3, h4⟩ := h
    exact ⟨b, c, hd, h1, h2, gate_mono hN b h3, netL_mono hN h4⟩
  | [], _, _, _, _ => trivial
  | _ :: _, [], _, _, _ => trivial
  | _ :: _, _ :: _, [], _, _ => trivial
theorem netL_at {N : Nat} {m : Bool} : ∀ {Gs Ss : List Nat} {Xs : List KG} {k G S : Nat} {X : KG}, Gs[k]? = some G → Ss[k]? = some S → Xs[k]? = some X → (gateR G S X N m :: netL (Gs.eraseIdx k) (Ss.eraseIdx k) (Xs.eraseIdx k) N m).Perm (netL Gs Ss Xs N m)
  | [], _, _, _, _, _, _, h, _, _ => by simp at h
  | _ :: _, [], _, _, _, _, _, _, h, _ => by simp at h
  | _ :: _, _ :: _, [], _, _, _, _, _, _, h => by simp at h
  | G :: Gs, S :: Ss, X :: Xs, 0, G', S', X', h1, h2, h3 => by
    injection h1 with h1; injection h2 with h2; injection h3 with h3
    subst h1; subst h2; subst h3
    exact .refl _
  | G :: Gs, S :: Ss, X :: Xs, k + 1, G', S', X', h1, h2, h3 => by
    have := netL_at (N := N) (m := m) (Gs := Gs) (Ss := Ss) (Xs := Xs) (k := k) h1 h2 h3
    exact (List.Perm.swap _ _ _).trans (this.cons _)
section
variable {β : Base} {Gs Ss : List Nat} {Xs : List KG} {N N' n k G S : Nat} {X : KG} {m : Bool} {M : List Res} {w : World}
theorem St.netAt (h1 : Gs[k]? = some G) (h2 : Ss[k]? = some S) (h3 : Xs[k]? = some X) (h : St β (netR Gs Ss Xs N m :: M) w) : St β (gateR G S X N m :: netR (Gs.eraseIdx k) (Ss.eraseIdx k) (Xs.eraseIdx k) N m :: M) w := by
  have h4 : St β (netL Gs Ss Xs N m ++ M) w := h.unbun
  have h5 := h4.perm ((netL_at h1 h2 h3).symm.append_right M)
  have h6 : St β (netL (Gs.eraseIdx k) (Ss.eraseIdx k) (Xs.eraseIdx k) N m ++ (gateR G S X N m :: M)) w := h5.perm (by
    show (gateR G S X N m :: (netL _ _ _ N m ++ M)).Perm _
    exact List.perm_middle.symm)
  have h7 := h6.merge (r := netR (Gs.eraseIdx k) (Ss.eraseIdx k) (Xs.eraseIdx k) N m) fun _ q => q
  exact h7.perm (List.Perm.swap _ _ _)
theorem St.netBack {X' : KG} (h1 : Gs[k]? = some G) (h2 : Ss[k]? = some S) (h3 : k < Xs.length) (hN : N ≤ N') (h : St β (gateR G S X' N' m :: netR (Gs.eraseIdx k) (Ss.eraseIdx k) (Xs.eraseIdx k) N m :: M) w) : St β (netR Gs Ss (Xs.set k X') N' m :: M) w := by
  refine St.merge (L := [gateR G S X' N' m, netR (Gs.eraseIdx k) (Ss.eraseIdx k) (Xs.eraseIdx k) N m]) h fun a ha => ?_
  have hp := netL_at (N := N') (m := m) (Xs := Xs.set k X') h1 h2 (List.getElem?_set_self h3)
  rw [List.eraseIdx_set_eq] at hp
  refine Sat.perm hp ?_
  obtain ⟨a1, b1, d1, s1, s2, r1, a2, b2, d2, s3, s4, r2, _⟩ := ha
  exact ⟨a1, b1, d1, s1, s2, r1, Sat.mono s3 (netL_mono hN r2)⟩
end
theorem NetLen.at_ {Gs Ss : List Nat} {Xs : List KG} {n k : Nat} (h : NetLen Gs Ss Xs n) (hk : k < n) : ∃ G S, Gs[k]? = some G ∧ Ss[k]? = some S ∧ Xs[k]? = some (gt Xs k) :=
  ⟨_, _, List.getElem?_eq_getElem (by rw [h.g]; exact hk), List.getElem?_eq_getElem (by rw [h.s]; exact hk), gt_get (by rw [h.x]; exact hk)⟩
section
variable {β : Base} {Gs Ss : List Nat} {Xs : List KG} {N n k G : Nat} {m : Bool} {w : World} {fid : FuncId} {args : Array Value}
/-- a method of one of the gates -/
theorem net_act {q : Option Int} {X1 Y : KG} {c : Int} (hw : St β [netR Gs Ss Xs N true] w) (hl : NetLen Gs Ss Xs n) (hk : Gs[k]? = some G) (hq : (q = some c ∧ Y = gt Xs k) ∨ (q = none ∧ c = 0 ∧ X1 = Y))
    (h : ∀ (β1 : Base) w S, Sub β.heap β1.heap → St β1 [gateR G S (gt Xs k) N true] w → Calls Tryz.prog fid args w fun r w' => ∃ e, r = .returned (Ix e) ∧ St β1 [actG q e G S (gt Xs k) X1 N true] w') :
    Calls Tryz.prog fid args w fun r w' => r = .returned (Ix c) ∧ St β [netR Gs Ss (Xs.set k Y) (N + 300) true] w' := by
  have hkn : k < n := by rw [← hl.g]; exact (List.getElem?_eq_some_iff.1 hk).1
  obtain ⟨G', S, h1, h2, h3⟩ := hl.at_ hkn
  obtain rfl := Option.some.inj (hk.symm.trans h1)
  obtain ⟨β1, sb, kn, hw1, back⟩ := St.frame (L := [gateR G S (gt Xs k) N true]) (M := [netR (Gs.eraseIdx k) (Ss.eraseIdx k) (Xs.eraseIdx k) N true]) (St.netAt hk h2 h3 hw)
  refine (h β1 w S sb hw1).mono ?_
  intro r w' hr
  have hx : k < Xs.length := by rw [hl.x]; exact hkn
  rcases hq with ⟨hq, rfl⟩ | ⟨hq, rfl, hY⟩
  · obtain ⟨e1, e2⟩ := act_no hq hr
    exact ⟨e1, St.netBack hk h2 hx (by omega) ((back _ _ e2).conseq (gate_mono (by omega)))⟩
  · obtain ⟨e1, e2⟩ := act_yes hq hY (Nat.le_refl _) hr
    exact ⟨e1, St.netBack hk h2 hx (by omega) (back _ _ e2)⟩
theorem net_keep {R : Option Addr → Nat → Res} {len : Nat} (hw : St β [netR Gs Ss Xs N m] w) (hl : NetLen Gs Ss Xs n) (hk : Gs[k]? = some G)
    (h : ∀ (β1 : Base) w S, St β1 [gateR G S (gt Xs k) N m] w → Calls Tryz.prog fid args w fun r w' => ∃ p c, r = .returned (.slice p len c) ∧ St β1 [R p c, gateR G S (gt Xs k) N m] w') :
    Calls Tryz.prog fid args w fun r w' => ∃ p c, r = .returned (.slice p len c) ∧ St β [R p c, netR Gs Ss Xs N m] w' := by
  have hkn : k < n := by rw [← hl.g]; exact (List.getElem?_eq_some_iff.1 hk).1
  obtain ⟨G', S, h1, h2, h3⟩ := hl.at_ hkn
  obtain rfl := Option.some.inj (hk.symm.trans h1)
  obtain ⟨β1, sb, kn, hw1, back⟩ := St.frame (L := [gateR G S (gt Xs k) N m]) (M := [netR (Gs.eraseIdx k) (Ss.eraseIdx k) (Xs.eraseIdx k) N m]) (St.netAt hk h2 h3 hw)
  refine (h β1 w S hw1).mono ?_
  rintro r w' ⟨p, c, e1, e2⟩
  refine ⟨p, c, e1, ?_⟩
  have hx : k < Xs.length := by rw [hl.x]; exact hkn
  have h4 : St β (gateR G S (gt Xs k) N m :: netR (Gs.eraseIdx k) (Ss.eraseIdx k) (Xs.eraseIdx k) N m :: [R p c]) w' := (back _ _ e2).perm (perm_ix (L := [R p c, gateR G S (gt Xs k) N m, netR (Gs.eraseIdx k) (Ss.eraseIdx k) (Xs.eraseIdx k) N m]) (L' := [gateR G S (gt Xs k) N m, netR (Gs.eraseIdx k) (Ss.eraseIdx k) (Xs.eraseIdx k) N m, R p c]) [1, 2, 0] 3 rfl (by kernel_rfl) (by kernel_rfl))
  have h5 := St.netBack hk h2 hx (Nat.le_refl _) h4
  rw [gt_setSame hx] at h5
  exact swp h5
end
end Go.Hv

namespace Go.Hv
open Go Go.Sl Go.Proofs
/-- gates that are new -/
def freshN (n : Nat) : List KG := (List.range n).map fun i => freshG (ix i)
theorem gt_fresh {n a : Nat} (h : a < n) : gt (freshN n) a = freshG (ix a) := gt_of (by unfold freshN; rw [List.getElem?_map, List.getElem?_range h]; rfl)
theorem zero7_at (i : Nat) : zero7.at i = 0 := by
  unfold KN7.at zero7
  split <;> rfl
theorem net_fresh {n : Nat} (hn : n ≤ 6) : Net n (freshN n) := by
  have gf : ∀ a, a < n → gt (freshN n) a = freshG (ix a) := fun a ha => gt_fresh ha
  refine ⟨hn, by unfold freshN; rw [List.length_map, List.length_range], fun a ha => ?_, fun a b ha hb _ => ?_, fun a b ha hb _ k h1 h2 => ?_, fun a ha m hm => ?_, fun a ha z _ hp => ?_, fun a b e d ha _ he => ?_, fun a b e m ha _ he => ?_, fun a b m m' ha _ hm => ?_, fun a ha => ?_⟩
  · rw [gf a ha]; exact ⟨⟨0, freshG_ok ⟨by show 1 ≤ ((a + 1 : Nat) : Int); omega, by show ((a + 1 : Nat) : Int) ≤ 6; omega⟩ (Int.le_refl _)⟩, rfl⟩
  · rw [gf a ha, gf b hb]; show zero7.at _ ≤ zero7.at _; rw [zero7_at, zero7_at]; exact Int.le_refl _
  · rw [gf b hb] at h1; rw [gf a ha] at h2
    have h1 : zero7.at _ < k := h1
    have h2 : k ≤ zero7.at _ := h2
    rw [zero7_at] at h1 h2; omega
  · rw [gf a ha] at hm; cases hm
  · rw [gf a ha] at hp
    have hp : 0 < zero7.at z := hp
    rw [zero7_at] at hp; omega
  · rw [gf a ha] at he; cases he
  · rw [gf a ha] at he; cases he
  · have := hm.1; rw [gf a ha] at this; cases this
  · rw [gf a ha]; exact ⟨fun e he => (by cases he), fun m hm => (by cases hm)⟩
theorem quiet_fresh {n : Nat} : Quiet n (freshN n) := fun d hd => by rw [gt_fresh hd]; rfl
/-- one entity, at one gate -/
structure RetOk (at_ : Nat) (tag : Int) (Xs : List KG) : Prop where
  net : Net 6 Xs
  quiet : Quiet 6 Xs
  here : (gt Xs at_).here = [thE 8 tag]
  none_ : ∀ b, b < 6 → b ≠ at_ → (gt Xs b).here = []
theorem ret_start : putF (gt (freshN 6) 0) (thE 8 1) = none ∧ RetOk 0 1 ((freshN 6).set 0 (playX (gt (freshN 6) 0) (.put (thE 8 1)))) := by
  refine ⟨by decide +kernel, ?_⟩
  have hn := net_fresh (n := 6) (by decide)
  have h := hn.put (a := 0) (e := thE 8 1) (by decide) (by decide +kernel) (by decide) (fun b f hb _ hf => by rw [gt_fresh hb] at hf; cases hf) (fun b m hb hm => absurd hm (quiet_fresh.way hb))
  refine ⟨h.net, fun d hd => by rw [h.out]; exact quiet_fresh d hd, ?_, fun b hb hb0 => ?_⟩
  · rw [gt_self (by rw [hn.len]; decide), gt_fresh (by decide)]; rfl
  · rw [gt_ne (Ne.symm hb0), gt_fresh hb]; rfl
theorem ret_same {at_ : Nat} {tag : Int} {Xs : List KG} (h : RetOk at_ tag Xs) (ha : at_ < 6) : giveF (gt Xs at_) 8 (ix at_) = some 2 := by
  unfold giveF
  rw [if_pos]
  have : otherB (gt Xs at_).zone (ix at_) = false := by
    rw [(h.net.ok at_ ha).2]
    cases e : otherB (ix at_) (ix at_) with
    | false => rfl
    | true => exact absurd rfl (other_iff.1 e).2.2
  rw [this]; rfl
theorem ret_give {at_ to : Nat} {tag : Int} {Xs : List KG} (h : RetOk at_ tag Xs) (ha : at_ < 6) (ht : to < 6) (hne : at_ ≠ to) : giveF (gt Xs at_) 8 (ix to) = none ∧ Given 6 Xs (Xs.set at_ (playX (gt Xs at_) (.give 8 (ix to)))) at_ 8 (gMsg (gt Xs at_) 8 (ix to)) ∧ findE (gt Xs at_) 8 = thE 8 tag := by
  have hh : hereB (gt Xs at_) 8 = true := by unfold hereB; rw [h.here]; rfl
  have ho := h.quiet at_ ha
  refine ⟨?_, h.net.give ha ht hne hh (by rw [ho]; decide), by unfold findE; rw [h.here]; rfl⟩
  unfold giveF
  rw [if_neg (by rw [(h.net.ok at_ ha).2, other_ix ht (Ne.symm hne)]; decide), if_neg (by rw [hh]; decide), if_neg (by rw [ho]; decide)]
/-- p times all messages of all gates arrive -/
def Passes (n : Nat) (X0 : List KG) : Nat → List KG → Prop
  | 0, Xs => Xs = X0
  | p + 1, Xs => ∃ X1, Passes n X0 p X1 ∧ PassTo n X1 Xs n
theorem Passes.net {n : Nat} {X0 : List KG} (h0 : Net n X0) : ∀ {p : Nat} {Xs : List KG}, Passes n X0 p Xs → Net n Xs ∧ Flow n X0 Xs
  | 0, _, h => by have h : _ = X0 := h; subst h; exact ⟨h0, Flow.refl n _⟩
  | p + 1, Xs, ⟨X1, h1, h2⟩ => ⟨h2.net, (Passes.net h0 h1).2.trans h0.n6 h2.flow⟩
theorem Passes.quiet {n : Nat} {X0 Xs : List KG} (h : Passes n X0 2 Xs) : Quiet n Xs := by
  obtain ⟨X1, ⟨X2, _, h2⟩, h3⟩ := h
  exact h3.quiet h2.done
theorem single_of {l : List KEnt} {e : KEnt} (hs : SortE l) (h1 : e ∈ l) (h2 : ∀ f ∈ l, f = e) : l = [e] := by
  match l, hs, h1, h2 with
  | [a], _, _, h2 => rw [h2 a List.mem_cons_self]
  | a :: b :: l, hs, _, h2 =>
    rw [SortE, List.pairwise_cons] at hs
    have := hs.1 b List.mem_cons_self
    rw [h2 a List.mem_cons_self, h2 b (List.mem_cons_of_mem _ List.mem_cons_self)] at this
    omega
theorem ret_pass {at_ to : Nat} {tag : Int} {Xs Ys Zs : List KG} (h : RetOk at_ tag Xs) (ha : at_ < 6) (ht : to < 6) (g : Given 6 Xs Ys at_ 8 (gMsg (gt Xs at_) 8 (ix to))) (hf : findE (gt Xs at_) 8 = thE 8 tag) (hp : Passes 6 Ys 2 Zs) : RetOk to tag Zs := by
  obtain ⟨hn, fl⟩ := Passes.net g.net hp
  have hq := hp.quiet
  have hin : thE 8 tag ∈ (gt Zs to).here := by
    rcases fl.p2 at_ _ ha ((g.way at_ _ ha).2 (.inr ⟨rfl, rfl⟩)) with h1 | h1
    · exact absurd h1 (hq.way ha)
    · have h1 : findE (gt Xs at_) 8 ∈ (gt Zs ((ix to).toNat - 1)).here := h1
      rw [hf, ixto rfl] at h1; exact h1
  have hall : ∀ b, b < 6 → ∀ f ∈ (gt Zs b).here, f = thE 8 tag ∧ b = to := fun b hb f hf1 => by
    rcases fl.p3 b f hf1 with h1 | ⟨c, m, hc, h1, h2, h3⟩
    · obtain ⟨h4, h5⟩ := (g.here b f).1 h1
      by_cases e : b = at_
      · subst e; rw [h.here] at h4
        have : f = thE 8 tag := by simpa using h4
        exact absurd ⟨rfl, by rw [this]⟩ h5
      · rw [h.none_ b hb e] at h4; cases h4
    · rcases (g.way c m hc).1 h1 with h4 | ⟨rfl, rfl⟩
      · exact absurd h4 (h.quiet.way hc)
      · refine ⟨by rw [← h3]; exact hf, ?_⟩
        have h2 : ((to + 1 : Nat) : Int) = ((b + 1 : Nat) : Int) := h2
        omega
  refine ⟨hn, hq, ?_, fun b hb hbt => List.eq_nil_iff_forall_not_mem.2 fun f hf1 => hbt (hall b hb f hf1).2⟩
  obtain ⟨⟨N, hx⟩, _⟩ := hn.ok to ht
  exact single_of hx.sort hin fun f hf1 => (hall to ht f hf1).1
theorem ret_save {at_ : Nat} {tag t : Int} {Xs : List KG} (h : RetOk at_ tag Xs) (ha : at_ < 6) (ht : 0 ≤ t ∧ t ≤ 1000) : saveF (gt Xs at_) (thE 8 t) = none ∧ RetOk at_ t (Xs.set at_ (playX (gt Xs at_) (.put (thE 8 t)))) := by
  have hr : rightE (thE 8 t) = true := right_thE (by decide) ⟨by omega, by omega⟩
  have hh : hereB (gt Xs at_) 8 = true := by unfold hereB; rw [h.here]; rfl
  have g := h.net.put ha (e := thE 8 t) hr (show (8:Int) ≤ 8 by decide) (fun b f hb hba hf => by rw [h.none_ b hb hba] at hf; cases hf) (fun b m hb hm => absurd hm (h.quiet.way hb))
  refine ⟨?_, g.net, fun d hd => by rw [g.out]; exact h.quiet d hd, ?_, fun b hb hba => by rw [gt_ne (Ne.symm hba)]; exact h.none_ b hb hba⟩
  · unfold saveF
    rw [if_neg (by rw [hr]; decide), if_neg (by rw [show hereB (gt Xs at_) (thE 8 t).id = true from hh]; decide)]
  · rw [gt_self (by rw [h.net.len]; exact ha)]
    show insE (thE 8 t) (gt Xs at_).here = _
    rw [h.here]; rfl
end Go.Hv

namespace Go.Hv
open Go Go.Sl Go.Proofs Go.Jn
abbrev gp (G : Nat) : Value := .pointer (some ⟨G, 0, none⟩)
abbrev gvX (Xs : List KG) (a b : Nat) : List KG := Xs.set a (playX (gt Xs a) (.give 8 (ix b)))
abbrev ptX (Xs : List KG) (a : Nat) (t : Int) : List KG := Xs.set a (playX (gt Xs a) (.put (thE 8 t)))
theorem took_or {X Y : KG} {s : KMs} (h : TookTo X s Y) : (takeF X s = some 0 ∧ Y = X) ∨ (takeF X s = none ∧ (0 : Int) = 0 ∧ playX X (takeO s) = Y) := h.imp id fun z => ⟨z.1, rfl, z.2.symm⟩
theorem msgs_len {n a : Nat} {Xs : List KG} (h : Net n Xs) (ha : a < n) : (msgsX (gt Xs a)).length ≤ 71 := by
  obtain ⟨⟨N, hx⟩, _⟩ := h.ok a ha
  have h1 := hx.ofew
  have h2 : (acksTo (gt Xs a) 7).length ≤ 7 := by unfold acksTo; rw [List.length_map]; exact Nat.le_trans (List.length_filter_le ..) (Nat.le_of_eq List.length_range)
  unfold msgsX; rw [List.length_append]; omega
theorem ret_n {n1 n2 n5 i p : Nat} (h1 : n1 ≤ 300 + 300000 * i) (h2 : n2 ≤ n1 + 300 + 140000 * p) (hp : p ≤ 2) (h5 : n5 ≤ n2 + 300) : n5 ≤ 300 + 300000 * (i + 1) := by
  have h : n5 ≤ 300 + 300000 * i + 300000 := by omega
  rw [Nat.mul_succ, ← Nat.add_assoc]; exact h
theorem net_no {β : Base} {Gs Ss : List Nat} {Xs : List KG} {N n k G : Nat} {w : World} {fid : FuncId} {args : Array Value} {q : Option Int} {X1 : KG} {c : Int} (hw : St β [netR Gs Ss Xs N true] w) (hl : NetLen Gs Ss Xs n) (hk : Gs[k]? = some G) (hq : q = some c)
    (h : ∀ (β1 : Base) w S, Sub β.heap β1.heap → St β1 [gateR G S (gt Xs k) N true] w → Calls Tryz.prog fid args w fun r w' => ∃ e, r = .returned (Ix e) ∧ St β1 [actG q e G S (gt Xs k) X1 N true] w') :
    Calls Tryz.prog fid args w fun r w' => r = .returned (Ix c) ∧ St β [netR Gs Ss Xs (N + 300) true] w' := by
  have h1 := net_act (Y := gt Xs k) hw hl hk (.inl ⟨hq, rfl⟩) h
  rwa [gt_setSame (by rw [hl.x, ← hl.g]; exact (List.getElem?_eq_some_iff.1 hk).1)] at h1
end Go.Hv
