/-
  The reference's reading of records and heads, against the journal's. Own work; plain Lean.
-/
import Derived.Test.YtkpdcajddpiknaaJnLaw7
import Derived.Test.YtkpdcajddpiknaaJn5
namespace Go.Jn
open Go Go.Sl

def rbadR (xs : Bs) : Prop := ((xs.length : Nat) : Int) < (24 : Int) ∨ (65536 : Int) < ((rsz xs).toNat : Int) ∨ ((U ((xs.length : Nat) : Int)).toNat : Int) < ((rsz xs + (24 : UInt64)).toNat : Int) ∨ (4611686018427387904 : Int) < ((rno xs).toNat : Int)
instance (xs : Bs) : Decidable (rbadR xs) := by unfold rbadR; infer_instance
theorem sz24 {s : UInt64} (h : s.toNat ≤ 65536) : (s + (24 : UInt64)).toNat = s.toNat + 24 := by
  have e : (24 : UInt64).toNat = 24 := rfl
  rw [UInt64.toNat_add, e]; omega
theorem sz16 {s : UInt64} (h : s.toNat ≤ 65536) : ((16 : UInt64) + s).toNat = 16 + s.toNat := by
  have e : (16 : UInt64).toNat = 16 := rfl
  rw [UInt64.toNat_add, e]; omega
theorem rbadR_sub {xs : Bs} (hl : xs.length < 4611686018427387904) (h : rbadR xs) : rbad xs := by
  have hU : (U ((xs.length : Nat) : Int)).toNat = xs.length := U_toNat (by omega)
  unfold rbadR at h
  unfold rbad
  rw [hU] at h
  by_cases h6 : (65536 : Int) < ((rsz xs).toNat : Int)
  · exact .inr (.inr (.inl h6))
  · rw [sz24 (by omega)] at h
    rcases h with h | h | h | h
    · exact .inl h
    · exact absurd h h6
    · exact .inr (.inr (.inr (.inl (by omega))))
    · exact .inr (.inr (.inr (.inr h)))
theorem split5 (xs : Bs) (s : Nat) : xs.take (24 + s) = xs.take 4 ++ (xs.take 8).drop 4 ++ (xs.take 16).drop 8 ++ (xs.take (16 + s)).drop 16 ++ (xs.take (24 + s)).drop (16 + s) := by
  have e : ∀ a b, a ≤ b → xs.take b = xs.take a ++ (xs.take b).drop a := fun a b h => by
    conv => lhs; rw [← List.take_append_drop a (xs.take b)]
    rw [List.take_take, Nat.min_eq_left h]
  rw [← e 4 8 (by omega), ← e 8 16 (by omega), ← e 16 (16 + s) (by omega), ← e (16 + s) (24 + s) (by omega)]
/-- the reference's test says what the journal's says -/
theorem rec_ref {e : Int} {xs : Bs} (hl : xs.length < 4611686018427387904) (hb : ¬ rbadR xs) : decide (xs.take ((rsz xs).toNat + 24) = formB e ((rno xs).toNat : Int) (rpl xs)) = recB e xs := by
  have hU : (U ((xs.length : Nat) : Int)).toNat = xs.length := U_toNat (by omega)
  unfold rbadR at hb
  simp only [not_or, Int.not_lt] at hb
  obtain ⟨b1, b2, b3, b4⟩ := hb
  rw [hU, sz24 (by omega)] at b3
  have hpl : (rpl xs).length = (rsz xs).toNat := by simp [rpl]; omega
  rw [Nat.add_comm]
  by_cases h : xs.take (24 + (rsz xs).toNat) = formB e ((rno xs).toNat : Int) (rpl xs)
  · rw [decide_eq_true h]
    obtain ⟨n, hn⟩ : ∃ n, n = (rno xs).toNat := ⟨_, rfl⟩
    obtain ⟨p, hp⟩ : ∃ p, p = rpl xs := ⟨_, rfl⟩
    obtain ⟨s, hs⟩ : ∃ s, s = (rsz xs).toNat := ⟨_, rfl⟩
    rw [← hn, ← hp, ← hs] at h
    rw [← hp, ← hs] at hpl
    have hx : xs = formB e n p ++ xs.drop (24 + s) := by rw [← h, List.take_append_drop]
    rw [hx]
    exact ((rec_form (by omega) (by omega)).1).symm
  · rw [decide_eq_false h]
    symm
    cases hr : recB e xs with
    | false => rfl
    | true =>
      exfalso
      apply h
      have hnb : ¬ rbad xs := fun q => by rw [recB, if_pos q] at hr; cases hr
      have hsum : rsum xs = chkU e ((rno xs).toNat : Int) (rpl xs) := by
        rw [recB, if_neg hnb] at hr; exact of_decide_eq_true hr
      have hxor : rsz xs ^^^ rin xs = 4294967295 := by
        unfold rbad at hnb
        simp only [not_or] at hnb
        have := Decidable.not_not.1 hnb.2.1
        apply UInt64.toNat_inj.1
        have h7 : ((4294967295 : UInt64).toNat : Int) = 4294967295 := rfl
        omega
      rw [split5, form_eq]
      have hs : U (((rpl xs).length : Nat) : Int) = rsz xs := UInt64.toNat_inj.1 (by rw [U_toNat (by omega), hpl])
      have hn : U (((rno xs).toNat : Nat) : Int) = rno xs := UInt64.toNat_inj.1 (U_toNat (rno xs).toNat_lt)
      have l1 : (xs.take 4).length = 4 := by simp; omega
      have l2 : ((xs.take 8).drop 4).length = 4 := by simp; omega
      have l3 : ((xs.take 16).drop 8).length = 8 := by simp; omega
      have l5 : ((xs.take (24 + (rsz xs).toNat)).drop (16 + (rsz xs).toNat)).length = 8 := by simp; omega
      have e1 : xs.take 4 = be 4 (rsz xs) := wordU_inj (by omega) (by rw [l1, be_length]) (by
        apply UInt64.toNat_inj.1
        rw [wordU_be4]
        have : wordU (xs.take 4) = rsz xs := rfl
        rw [this]; omega)
      have e2 : (xs.take 8).drop 4 = be 4 (~~~ (rsz xs)) := wordU_inj (by omega) (by rw [l2, be_length]) (by
        have h1 : rsz xs ^^^ wordU ((xs.take 8).drop 4) = 4294967295 := hxor
        have h2 := xor_comp (x := rsz xs) (by omega)
        have h3 := congrArg (fun z => rsz xs ^^^ z) (h1.trans h2.symm)
        simpa only [← UInt64.xor_assoc, UInt64.xor_self, UInt64.zero_xor] using h3)
      have e3 : (xs.take 16).drop 8 = be 8 (rno xs) := (be_word l3).symm
      have e5 : (xs.take (24 + (rsz xs).toNat)).drop (16 + (rsz xs).toNat) = be 8 (rsum xs) := (be_word l5).symm
      rw [hs, hn, e1, e2, e3, e5, hsum]
      rfl

def rNr (xs : Bs) : Nat := if rbadR xs then 0 else (rno xs).toNat
def rPr (xs : Bs) : Bs := if rbadR xs then [] else rpl xs
def rAr (a : Option Addr) (c : Nat) (xs : Bs) : Option Addr := if rbadR xs then none else adv a c 16 1
def rCr (c : Nat) (xs : Bs) : Nat := if rbadR xs then 0 else c - 16
theorem rec_same {e : Int} {xs : Bs} (hl : xs.length < 4611686018427387904) (h : recB e xs = true) : rNr xs = recN xs ∧ rPr xs = recP xs := by
  have hnb : ¬ rbad xs := fun q => by rw [recB, if_pos q] at h; cases h
  have hnR : ¬ rbadR xs := fun q => hnb (rbadR_sub hl q)
  rw [rNr, rPr, recN, recP, if_neg hnb, if_neg hnb, if_neg hnR, if_neg hnR]
  exact ⟨rfl, rfl⟩
theorem rPr_small {xs : Bs} : (rPr xs).length ≤ 65536 := by
  unfold rPr
  split
  · simp
  · rename_i hb
    unfold rbadR at hb
    simp only [not_or, Int.not_lt] at hb
    simp [rpl]; omega
theorem rNr_small {xs : Bs} : rNr xs ≤ 4611686018427387904 := by
  unfold rNr
  split
  · omega
  · rename_i hb
    unfold rbadR at hb
    simp only [not_or, Int.not_lt] at hb
    omega
theorem rec_slR {h : PHeap} {a : Option Addr} {c : Nat} {xs : Bs} (hc : xs.length ≤ c) (hm : c ≤ 9223372036854775807) (he : Elems U8R h a xs) : Sl U8R h (.slice (rAr a c xs) (rPr xs).length (rCr c xs)) (rPr xs) := by
  refine ⟨_, _, rfl, ?_, by unfold rCr; split <;> omega, ?_⟩
  · unfold rPr rCr
    split
    · simp
    · rename_i hb
      unfold rbadR at hb
      simp only [not_or, Int.not_lt] at hb
      simp [rpl]; omega
  · unfold rAr rPr
    split
    · intro j x hx; simp at hx
    · rename_i hb
      unfold rbadR at hb
      simp only [not_or, Int.not_lt] at hb
      exact Elems.drop 16 (by simp; omega) (Elems.take _ he)
theorem rd_snoc {us : List Value} {rs : List Bs} {AD : Option Addr} {c s : Nat} {ar : Bs} (hin : ∀ h, Elems U8R h AD ar → inn us rs h) (hc : ar.length ≤ c) (hm : c ≤ 9223372036854775807) :
    ∀ h, Elems U8R h AD ar → inn (us ++ [.slice (rAr (adv AD c s 1) (c - s) (ar.drop s)) (rPr (ar.drop s)).length (rCr (c - s) (ar.drop s))]) (rs ++ [rPr (ar.drop s)]) h := fun h he =>
  inn_snoc (hin h he) (rec_slR (by simp; omega) (by omega) (Elems.drop s hc he))
theorem rec_badR {e : Int} {xs : Bs} {a : Option Addr} {c : Nat} (hl : xs.length < 4611686018427387904) (h : rbadR xs) : Ending.returned (.tuple #[.int .i64 0, .slice none 0 0, .bool false]) = .returned (.tuple #[Nx (rNr xs), .slice (rAr a c xs) (rPr xs).length (rCr c xs), .bool (recB e xs)]) := by
  have hb := rbadR_sub hl h
  unfold rNr rAr rPr rCr recB
  simp [h, hb]
theorem rec_goodR {e : Int} {xs : Bs} {a : Option Addr} {c : Nat} (hl : xs.length < 4611686018427387904) (h : ¬ rbadR xs) :
    Ending.returned (.tuple #[Nx (rno xs).toNat, .slice (adv a c 16 1) (rpl xs).length (c - 16), .bool (decide (xs.take ((rsz xs).toNat + 24) = formB e ((rno xs).toNat : Int) (rpl xs)))]) =
    .returned (.tuple #[Nx (rNr xs), .slice (rAr a c xs) (rPr xs).length (rCr c xs), .bool (recB e xs)]) := by
  rw [rec_ref hl h]
  unfold rNr rAr rPr rCr
  simp only [if_neg h]

/-! the head -/
theorem ep_refY {xs : Bs} {j : Nat} (hl : xs.length = 32) (hj : j < 2) (h2 : ((wordU ((xs.take (16 * j + 8)).drop (16 * j))).toNat : Int) < (4611686018427387904 : Int))
    (h3 : ((wordU ((xs.take (16 * j + 8)).drop (16 * j)) % (2 : UInt64)).toNat : Int) = (j : Int)) (h4 : (xs.take (16 * j + 16)).drop (16 * j) = be 8 (U ((wordU ((xs.take (16 * j + 8)).drop (16 * j))).toNat : Int)) ++ be 8 (tickU ((wordU ((xs.take (16 * j + 8)).drop (16 * j))).toNat : Int)))
    (h1 : ((epLoop xs j).toNat : Int) < ((wordU ((xs.take (16 * j + 8)).drop (16 * j))).toNat : Int)) :
    (epLoop xs (j + 1)).toNat = (wordU ((xs.take (16 * j + 8)).drop (16 * j))).toNat := by
  rw [Nat.mul_comm] at *
  have e1 : U ((((j * 16) / 16 : Nat)) : Int) = U (j : Int) := by rw [Nat.mul_div_cancel _ (by decide)]
  rw [ep_yes h1 h2 (by rw [e1, U_toNat (by omega)]; exact h3) ?_]
  have h5 := congrArg (List.drop 8) h4
  rw [List.drop_left' (be_length _ _), List.drop_drop] at h5
  rw [show j * 16 + 8 = j * 16 + 8 from rfl] at h5
  rw [h5, wordU_be8]
theorem ep_refN {xs : Bs} {j : Nat} (hl : xs.length = 32) (hj : j < 2) (h : ¬ (((wordU ((xs.take (16 * j + 8)).drop (16 * j))).toNat : Int) < (4611686018427387904 : Int) ∧ ((wordU ((xs.take (16 * j + 8)).drop (16 * j)) % (2 : UInt64)).toNat : Int) = (j : Int) ∧
    (xs.take (16 * j + 16)).drop (16 * j) = be 8 (U ((wordU ((xs.take (16 * j + 8)).drop (16 * j))).toNat : Int)) ++ be 8 (tickU ((wordU ((xs.take (16 * j + 8)).drop (16 * j))).toNat : Int)) ∧ ((epLoop xs j).toNat : Int) < ((wordU ((xs.take (16 * j + 8)).drop (16 * j))).toNat : Int))) :
    epLoop xs (j + 1) = epLoop xs j := by
  rw [Nat.mul_comm] at h
  rw [epLoop, epStep, if_neg]
  rintro ⟨c1, c2, c3, c4⟩
  apply h
  have q1 := UInt64.lt_iff_toNat_lt.1 c1
  have q2 := UInt64.lt_iff_toNat_lt.1 c2
  have e0 : (4611686018427387904 : UInt64).toNat = 4611686018427387904 := rfl
  have l8 : ((xs.take (j * 16 + 8)).drop (j * 16)).length = 8 := by simp; omega
  have l8' : ((xs.take (j * 16 + 16)).drop (j * 16 + 8)).length = 8 := by simp; omega
  refine ⟨by omega, ?_, ?_, by omega⟩
  · rw [c3, Nat.mul_div_cancel _ (by decide), U_toNat (by omega)]
  · rw [show U (((wordU ((xs.take (j * 16 + 8)).drop (j * 16))).toNat : Nat) : Int) = wordU ((xs.take (j * 16 + 8)).drop (j * 16)) from UInt64.toNat_inj.1 (U_toNat (UInt64.toNat_lt _)), be_word l8, ← c4, be_word l8']
    have e : xs.take (j * 16 + 16) = xs.take (j * 16 + 8) ++ (xs.take (j * 16 + 16)).drop (j * 16 + 8) := by
      conv => lhs; rw [← List.take_append_drop (j * 16 + 8) (xs.take (j * 16 + 16))]
      rw [List.take_take, Nat.min_eq_left (by omega)]
    conv => lhs; rw [e]
    rw [List.drop_append_of_le_length (by simp; omega)]
end Go.Jn
