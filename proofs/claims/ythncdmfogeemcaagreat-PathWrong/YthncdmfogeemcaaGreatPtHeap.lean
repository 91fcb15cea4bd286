/-
  A heap in a list: what up and down do. Own work; plain Lean.
-/

namespace Go.Pth
/-- a mark: a node, the length of the way to the end, how many points it has -/
structure KM where
  node : Nat
  len : Nat
  pts : Nat
def leM (a b : KM) : Prop := a.len < b.len ∨ (a.len = b.len ∧ a.pts ≤ b.pts)
instance (a b : KM) : Decidable (leM a b) := inferInstanceAs (Decidable (_ ∨ _))
def zM : KM := ⟨0, 0, 0⟩
def mAt (l : List KM) (k : Nat) : KM := l.getD k zM
def swp (l : List KM) (i j : Nat) : List KM := (l.set i (mAt l j)).set j (mAt l i)
theorem leM.refl (a : KM) : leM a a := .inr ⟨rfl, Nat.le_refl _⟩
theorem leM.trans {a b c : KM} (h : leM a b) (g : leM b c) : leM a c := by unfold leM at *; omega
theorem leM.tot {a b : KM} (h : ¬ leM a b) : leM b a := by unfold leM at *; omega
theorem mAt_some {l : List KM} {k : Nat} (h : k < l.length) : l[k]? = some (mAt l k) := by
  unfold mAt; rw [List.getD_eq_getElem?_getD, List.getElem?_eq_getElem h]; rfl
theorem mAt_of {l : List KM} {k : Nat} {x : KM} (h : l[k]? = some x) : mAt l k = x := by
  unfold mAt; rw [List.getD_eq_getElem?_getD, h]; rfl
theorem swp_len (l : List KM) (i j : Nat) : (swp l i j).length = l.length := by unfold swp; simp
theorem swp_at {l : List KM} {i j k : Nat} (hi : i < l.length) (hj : j < l.length) (hk : k < l.length) :
    mAt (swp l i j) k = if k = j then mAt l i else if k = i then mAt l j else mAt l k := by
  refine mAt_of ?_
  unfold swp
  rw [List.getElem?_set, List.getElem?_set]
  by_cases h1 : j = k
  · rw [if_pos h1, if_pos h1.symm, if_pos (by simpa using hj)]
  · rw [if_neg h1, if_neg (show ¬ k = j from fun h => h1 h.symm)]
    by_cases h2 : i = k
    · rw [if_pos h2, if_pos (show k = i from h2.symm), if_pos hi]
    · rw [if_neg h2, if_neg (show ¬ k = i from fun h => h2 h.symm), mAt_some hk]
theorem swp_perm {l : List KM} {i j : Nat} (hi : i < l.length) (hj : j < l.length) : (swp l i j).Perm l := by
  have h := List.set_set_perm (as := l) hi hj
  have e1 : mAt l j = l[j] := mAt_of (List.getElem?_eq_getElem hj)
  have e2 : mAt l i = l[i] := mAt_of (List.getElem?_eq_getElem hi)
  unfold swp; rw [e1, e2]; exact h
/-- the first n are a heap -/
def Hp (l : List KM) (n : Nat) : Prop := ∀ k, 0 < k → k < n → leM (mAt l ((k - 1) / 2)) (mAt l k)
theorem Hp.min {l : List KM} {n : Nat} (h : Hp l n) : ∀ k, k < n → leM (mAt l 0) (mAt l k) := by
  intro k
  induction k using Nat.strongRecOn with
  | ind k ih =>
    intro hk
    by_cases h0 : k = 0
    · rw [h0]; exact leM.refl _
    · exact (ih ((k - 1) / 2) (by omega) (by omega)).trans (h k (by omega) hk)
/-- a heap but for j, which may be too small -/
structure UpI (l : List KM) (n j : Nat) : Prop where
  lt : j < n
  le : n ≤ l.length
  a : ∀ k, 0 < k → k < n → k ≠ j → leM (mAt l ((k - 1) / 2)) (mAt l k)
  b : ∀ k, 0 < k → k < n → (k - 1) / 2 = j → 0 < j → leM (mAt l ((j - 1) / 2)) (mAt l k)
theorem UpI.start {l : List KM} {x : KM} (h : Hp l l.length) : UpI (l ++ [x]) (l.length + 1) l.length := by
  have e : ∀ k, k < l.length → mAt (l ++ [x]) k = mAt l k := fun k hk => mAt_of (by rw [List.getElem?_append_left hk, mAt_some hk])
  refine ⟨by omega, by simp, fun k h0 hk hj => ?_, fun k h0 hk hj hp => by omega⟩
  rw [e k (by omega), e _ (by omega)]; exact h k h0 (by omega)
theorem UpI.step {l : List KM} {n j : Nat} (h : UpI l n j) (h0 : 0 < j) (hlt : ¬ leM (mAt l ((j - 1) / 2)) (mAt l j)) : UpI (swp l ((j - 1) / 2) j) n ((j - 1) / 2) := by
  obtain ⟨hjn, hnl, ha, hb⟩ := h
  have hl := leM.tot hlt
  have hi : (j - 1) / 2 < l.length := by omega
  have hj : j < l.length := by omega
  generalize hie : (j - 1) / 2 = i at *
  refine ⟨by omega, by rw [swp_len]; exact hnl, fun k k0 hk hki => ?_, fun k k0 hk hki hi0 => ?_⟩
  · rw [swp_at hi hj (show (k - 1) / 2 < l.length by omega), swp_at hi hj (show k < l.length by omega)]
    by_cases hkj : k = j
    · subst hkj; rw [if_pos rfl, hie, if_neg (by omega), if_pos rfl]; exact hl
    · rw [if_neg hkj, if_neg hki]
      by_cases hpj : (k - 1) / 2 = j
      · rw [if_pos hpj]; exact hb k k0 hk hpj h0
      · rw [if_neg hpj]
        by_cases hpi : (k - 1) / 2 = i
        · rw [if_pos hpi]; have := ha k k0 hk hkj; rw [hpi] at this; exact hl.trans this
        · rw [if_neg hpi]; exact ha k k0 hk hkj
  · rw [swp_at hi hj (show (i - 1) / 2 < l.length by omega), swp_at hi hj (show k < l.length by omega), if_neg (show ¬ (i - 1) / 2 = j by omega), if_neg (show ¬ (i - 1) / 2 = i by omega)]
    have hpi := ha i hi0 (by omega) (by omega)
    by_cases hkj : k = j
    · rw [if_pos hkj]; exact hpi
    · rw [if_neg hkj, if_neg (by omega)]; have := ha k k0 hk hkj; rw [hki] at this; exact hpi.trans this
theorem UpI.done {l : List KM} {n j : Nat} (h : UpI l n j) (hd : j = 0 ∨ leM (mAt l ((j - 1) / 2)) (mAt l j)) : Hp l n := fun k k0 hk => by
  by_cases hkj : k = j
  · subst hkj
    rcases hd with hd | hd
    · omega
    · exact hd
  · exact h.a k k0 hk hkj
/-- a heap but for i, which may be too great -/
structure DnI (l : List KM) (n i : Nat) : Prop where
  le : n ≤ l.length
  a : ∀ k, 0 < k → k < n → (k - 1) / 2 ≠ i → leM (mAt l ((k - 1) / 2)) (mAt l k)
  b : ∀ k, 0 < k → k < n → (k - 1) / 2 = i → 0 < i → leM (mAt l ((i - 1) / 2)) (mAt l k)
theorem DnI.start {l : List KM} {n : Nat} (hl : l.length = n + 1) (h : Hp l (n + 1)) : DnI (swp l 0 n) n 0 := by
  refine ⟨by rw [swp_len]; omega, fun k k0 hk hp => ?_, fun k k0 hk hp h0 => by omega⟩
  rw [swp_at (by omega) (by omega) (by omega), swp_at (by omega) (by omega) (by omega), if_neg (by omega), if_neg hp, if_neg (by omega), if_neg (by omega)]
  exact h k k0 (by omega)
theorem DnI.step {l : List KM} {n i j : Nat} (h : DnI l n i) (hj : j < n) (hp : (j - 1) / 2 = i) (h0 : 0 < j) (hlt : ¬ leM (mAt l i) (mAt l j)) (hs : ∀ k, 0 < k → k < n → (k - 1) / 2 = i → leM (mAt l j) (mAt l k)) : DnI (swp l i j) n j := by
  obtain ⟨hnl, ha, hb⟩ := h
  have hl := leM.tot hlt
  have hi : i < l.length := by omega
  have hjl : j < l.length := by omega
  refine ⟨by rw [swp_len]; exact hnl, fun k k0 hk hkp => ?_, fun k k0 hk hkp _ => ?_⟩
  · rw [swp_at hi hjl (show (k - 1) / 2 < l.length by omega), swp_at hi hjl (show k < l.length by omega), if_neg hkp]
    by_cases hkj : k = j
    · subst hkj; rw [if_pos hp, if_pos rfl]; exact hl
    · rw [if_neg hkj]
      by_cases hki : k = i
      · subst hki; rw [if_neg (by omega), if_pos rfl]; exact hb j h0 hj hp k0
      · rw [if_neg hki]
        by_cases hpi : (k - 1) / 2 = i
        · rw [if_pos hpi]; exact hs k k0 hk hpi
        · rw [if_neg hpi]; exact ha k k0 hk hpi
  · rw [hp, swp_at hi hjl (show i < l.length by omega), swp_at hi hjl (show k < l.length by omega), if_neg (by omega), if_pos rfl, if_neg (by omega), if_neg (by omega)]
    have := ha k k0 hk (by omega); rw [hkp] at this; exact this
theorem DnI.done {l : List KM} {n i : Nat} (h : DnI l n i) (hd : ∀ k, 0 < k → k < n → (k - 1) / 2 = i → leM (mAt l i) (mAt l k)) : Hp l n := fun k k0 hk => by
  by_cases hp : (k - 1) / 2 = i
  · have := hd k k0 hk hp; rw [hp]; exact this
  · exact h.a k k0 hk hp
/-- nothing past n is touched -/
theorem swp_past {l : List KM} {n i j k : Nat} (hi : i < n) (hj : j < n) (hn : n ≤ k) (hk : k < l.length) : mAt (swp l i j) k = mAt l k := by
  rw [swp_at (by omega) (by omega) hk, if_neg (by omega), if_neg (by omega)]
end Go.Pth
