/-
  An area of which one byte was changed. Own work; plain Lean.
-/
import Derived.Test.YtkpdcajddpiknaaJnLaw5
namespace Go.Jn
open Go.Sl

def baseOf (i : KI) : Nat := if i.epoch = 0 then 0 else 24 + i.state.length
theorem encI_len (i : KI) : (encI i).length = baseOf i + sizes i.recs := by
  unfold encI baseOf
  rw [List.length_append, encR_length]
  split
  · simp
  · rw [formB_length]
theorem sizes_split (l : List Bs) (w : Nat) : sizes l = sizes (l.take w) + sizes (l.drop w) := by
  induction l generalizing w with
  | nil => simp [sizes]
  | cons a l ih =>
    cases w with
    | zero => simp [sizes]
    | succ w => simp only [List.take_succ_cons, List.drop_succ_cons, sizes]; rw [ih w]; omega
theorem sizes_take_succ {l : List Bs} {w : Nat} {r : Bs} (h : l[w]? = some r) : sizes (l.take (w + 1)) = sizes (l.take w) + (24 + r.length) := by
  rw [take_succ h]
  have : ∀ (l : List Bs) (b : Bs), sizes (l ++ [b]) = sizes l + (24 + b.length) := fun l b => by
    induction l with
    | nil => simp [sizes]
    | cons a l ih => simp only [List.cons_append, sizes, ih]; omega
  exact this _ _
/-- the record in which a byte lies -/
theorem find_rec : ∀ (l : List Bs) (k : Nat), k < sizes l → ∃ w r, l[w]? = some r ∧ sizes (l.take w) ≤ k ∧ k < sizes (l.take w) + 24 + r.length
  | [], k, h => by simp [sizes] at h
  | a :: l, k, h => by
    by_cases hk : k < 24 + a.length
    · exact ⟨0, a, rfl, by simp [sizes], by simp [sizes]; omega⟩
    · obtain ⟨w, r, h1, h2, h3⟩ := find_rec l (k - (24 + a.length)) (by simp only [sizes] at h; omega)
      refine ⟨w + 1, r, by simpa using h1, ?_, ?_⟩
      · simp only [List.take_succ_cons, sizes]; omega
      · simp only [List.take_succ_cons, sizes]; omega
theorem sizes_take_mono {l : List Bs} {v w : Nat} (h : v ≤ w) : sizes (l.take v) ≤ sizes (l.take w) := by
  have := sizes_split (l.take w) v
  rw [List.take_take, Nat.min_eq_left h] at this
  omega
theorem find_uniq {l : List Bs} {v w k : Nat} {r s : Bs} (hv : l[v]? = some r) (hw : l[w]? = some s) (h1 : sizes (l.take v) ≤ k) (h2 : k < sizes (l.take v) + 24 + r.length) (h3 : sizes (l.take w) ≤ k) (h4 : k < sizes (l.take w) + 24 + s.length) : v = w := by
  rcases Nat.lt_trichotomy v w with h | h | h
  · have a := sizes_take_mono (l := l) (show v + 1 ≤ w from h)
    rw [sizes_take_succ hv] at a; omega
  · exact h
  · have a := sizes_take_mono (l := l) (show w + 1 ≤ v from h)
    rw [sizes_take_succ hw] at a; omega
theorem encR_app (e : Nat) (l m : List Bs) : ∀ n, encR e n (l ++ m) = encR e n l ++ encR e (n + l.length) m := by
  induction l with
  | nil => intro n; rw [encR_nil, List.nil_append, List.nil_append, List.length_nil, Nat.add_zero]
  | cons a l ih => intro n; rw [List.cons_append, encR_cons, ih (n + 1), encR_cons, List.append_assoc, List.length_cons, show n + 1 + l.length = n + (l.length + 1) by omega]
theorem torn_read {K K' : KS} {I : KI} {N k : Nat} {x y : UInt8} {b : Bool} (h : Inv K I N b) (hx : (encI I)[k]? = some x) (hxy : x ≠ y) (hh : K'.head = K.head) (ha : K'.area I.epoch = (encI I).set k y) :
    ((I.epoch ≠ 0 ∧ k < 24 + I.state.length) ∧ readI K' = none) ∨
    (¬ (I.epoch ≠ 0 ∧ k < 24 + I.state.length) ∧ ∃ w r, I.recs[w]? = some r ∧ baseOf I + sizes (I.recs.take w) ≤ k ∧ k < baseOf I + sizes (I.recs.take w) + 24 + r.length ∧
      readI K' = some ⟨I.epoch, I.next - I.recs.length + w, I.state, I.recs.take w, baseOf I + sizes (I.recs.take w)⟩) := by
  have wf := h.wf
  have hep : epochF K'.head = I.epoch := by rw [hh]; exact h.head.epoch
  have hlt : k < baseOf I + sizes I.recs := by
    have := (List.getElem?_eq_some_iff.1 hx).1
    rwa [encI_len] at this
  by_cases hA : I.epoch ≠ 0 ∧ k < 24 + I.state.length
  · left
    refine ⟨hA, ?_⟩
    have e1 : encI I = formB I.epoch ((I.next - I.recs.length : Nat) : Int) I.state ++ encR I.epoch (I.next - I.recs.length) I.recs := by unfold encI; rw [if_neg hA.1]
    rw [e1] at ha hx
    rw [set_app_l (by rw [formB_length]; exact hA.2)] at ha
    have hx' : (formB I.epoch ((I.next - I.recs.length : Nat) : Int) I.state)[k]? = some x := by rwa [List.getElem?_append_left (by rw [formB_length]; exact hA.2)] at hx
    have hc := rec_changed (e := I.epoch) (n := I.next - I.recs.length) (rest := encR I.epoch (I.next - I.recs.length) I.recs) wf.state hx' hxy (by have := wf.big; omega)
    unfold readI
    simp only [hep, ha]
    rw [if_neg hA.1, if_neg (by rw [hc]; simp)]
  · right
    refine ⟨hA, ?_⟩
    have hb : baseOf I ≤ k := by unfold baseOf; split <;> omega
    obtain ⟨w, r, h1, h2, h3⟩ := find_rec I.recs (k - baseOf I) (by omega)
    refine ⟨w, r, h1, by omega, by omega, ?_⟩
    have hw := (List.getElem?_eq_some_iff.1 h1).1
    have hsp : I.recs = I.recs.take w ++ r :: I.recs.drop (w + 1) := by
      have h4 := List.take_append_drop (w + 1) I.recs
      rw [take_succ h1] at h4
      simpa using h4.symm
    have hwl : (I.recs.take w).length = w := by simp; omega
    -- the area in parts
    have hn : I.next - I.recs.length + w < 4611686018427387904 := by have := wf.big; have := wf.next; omega
    have hrb : r.length ≤ 65536 := wf.recs r (List.mem_of_getElem? h1)
    have e2 : encR I.epoch (I.next - I.recs.length) I.recs = encR I.epoch (I.next - I.recs.length) (I.recs.take w) ++ (formB I.epoch ((I.next - I.recs.length + w : Nat) : Int) r ++ encR I.epoch (I.next - I.recs.length + w + 1) (I.recs.drop (w + 1))) := by
      have h5 := encR_app I.epoch (I.recs.take w) (r :: I.recs.drop (w + 1)) (I.next - I.recs.length)
      rw [← hsp, hwl, encR_cons] at h5
      exact h5
    have key : ∀ (pre : Bs), pre.length = baseOf I → encI I = pre ++ encR I.epoch (I.next - I.recs.length) I.recs →
        K'.area I.epoch = pre ++ (encR I.epoch (I.next - I.recs.length) (I.recs.take w) ++ ((formB I.epoch ((I.next - I.recs.length + w : Nat) : Int) r).set (k - baseOf I - sizes (I.recs.take w)) y ++ encR I.epoch (I.next - I.recs.length + w + 1) (I.recs.drop (w + 1)))) ∧
        (formB I.epoch ((I.next - I.recs.length + w : Nat) : Int) r)[k - baseOf I - sizes (I.recs.take w)]? = some x := by
      intro pre hpl hpe
      have hfl := formB_length I.epoch ((I.next - I.recs.length + w : Nat) : Int) r
      have hel := encR_length I.epoch (I.recs.take w) (I.next - I.recs.length)
      constructor
      · rw [ha, hpe, e2, set_app_r (by omega), hpl, set_app_r (by omega), hel, set_app_l (by omega)]
      · rw [hpe, e2, List.getElem?_append_right (by omega), hpl, List.getElem?_append_right (by omega), hel, List.getElem?_append_left (by omega)] at hx
        exact hx
    have htl : recB I.epoch ((formB I.epoch ((I.next - I.recs.length + w : Nat) : Int) r).set (k - baseOf I - sizes (I.recs.take w)) y ++ encR I.epoch (I.next - I.recs.length + w + 1) (I.recs.drop (w + 1))) = false := by
      by_cases h0 : I.epoch = 0
      · obtain ⟨_, k2⟩ := key [] (by unfold baseOf; rw [if_pos h0]; rfl) (by unfold encI; rw [if_pos h0])
        exact rec_changed hrb k2 hxy (by omega)
      · obtain ⟨_, k2⟩ := key (formB I.epoch ((I.next - I.recs.length : Nat) : Int) I.state) (by unfold baseOf; rw [if_neg h0, formB_length]) (by unfold encI; rw [if_neg h0])
        exact rec_changed hrb k2 hxy (by omega)
    have hrec : ∀ b ∈ I.recs.take w, b.length ≤ 65536 := fun b hb => wf.recs b (List.mem_of_mem_take hb)
    have hF := recsF_enc (e := I.epoch) (n := I.next - I.recs.length) hrec (by rw [hwl]; omega) htl
    by_cases h0 : I.epoch = 0
    · obtain ⟨k1, _⟩ := key [] (by unfold baseOf; rw [if_pos h0]; rfl) (by unfold encI; rw [if_pos h0])
      obtain ⟨z1, z2⟩ := wf.zero h0
      rw [List.nil_append] at k1
      rw [h0] at hF k1 hep ⊢
      unfold readI
      simp only [hep, k1]
      have hz : I.next - I.recs.length = 0 := by omega
      rw [hz] at hF ⊢
      simp only [if_true]
      rw [hF, hwl, z1]
      simp [baseOf, h0]
    · obtain ⟨k1, _⟩ := key (formB I.epoch ((I.next - I.recs.length : Nat) : Int) I.state) (by unfold baseOf; rw [if_neg h0, formB_length]) (by unfold encI; rw [if_neg h0])
      have hR := rec_form (e := I.epoch) (n := I.next - I.recs.length) (p := I.state) (rest := encR I.epoch (I.next - I.recs.length) (I.recs.take w) ++ ((formB I.epoch ((I.next - I.recs.length + w : Nat) : Int) r).set (k - baseOf I - sizes (I.recs.take w)) y ++ encR I.epoch (I.next - I.recs.length + w + 1) (I.recs.drop (w + 1)))) wf.state (by omega)
      unfold readI
      simp only [hep, k1]
      rw [if_neg h0, if_pos hR.1, hR.2.1, hR.2.2, dr (formB_length _ _ _), hF, hwl]
      simp [baseOf, h0]
theorem bx_max (x y : UInt8) : max (x.toNat : Int) (y.toNat : Int) = ((max x y).toNat : Int) := by
  rw [Int.max_def]
  show _ = (((if x ≤ y then y else x : UInt8)).toNat : Int)
  by_cases h : x ≤ y
  · have h' : x.toNat ≤ y.toNat := UInt8.le_iff_toNat_le.1 h
    rw [if_pos h, if_pos (by omega)]
  · have h' : ¬ x.toNat ≤ y.toNat := fun e => h (UInt8.le_iff_toNat_le.2 e)
    rw [if_neg h, if_neg (by omega)]
theorem max8_ne (b : UInt8) : max b 1 ≠ 0 := by
  intro h
  have h1 : (max b 1).toNat = 0 := by rw [h]; rfl
  have h2 := bx_max b 1
  rw [h1] at h2
  have h3 : ((1 : UInt8).toNat : Int) = 1 := rfl
  omega
theorem bx_xor (x y : UInt8) : IntKind.u8.wrap ((BitVec.ofInt IntKind.u8.bits (x.toNat : Int) ^^^ BitVec.ofInt IntKind.u8.bits (y.toNat : Int)).toNat : Int) = ((x ^^^ y).toNat : Int) := by
  have e : ∀ z : UInt8, BitVec.ofInt IntKind.u8.bits (z.toNat : Int) = z.toBitVec := fun z => by
    apply BitVec.eq_of_toNat_eq; simp [IntKind.bits]
  rw [e, e, u8w]
  have h := (x ^^^ y).toNat_lt
  show (((x ^^^ y).toNat : Nat) : Int) % 256 = _
  omega
theorem xor8_ne {x c : UInt8} (hc : c ≠ 0) : x ≠ x ^^^ c := fun h => hc (by
  have := congrArg (fun z => x ^^^ z) h
  simp only [← UInt8.xor_assoc, UInt8.xor_self, UInt8.zero_xor] at this
  exact this.symm)
end Go.Jn
