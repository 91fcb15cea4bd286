/-
 Records: what is read of a record that was written, torn, or changed. Own work; plain Lean.
-/
import Derived.Test.YtjejfkajcbdgjaaGreatJnLaw
import Derived.Test.YtjejfkajcbdgjaaGreatJnDig
namespace Go.Jn
open Go.Sl

theorem tk {a b : Bs} {k : Nat} (h : a.length = k) : (a ++ b).take k = a := by rw [← h]; simp
theorem dr {a b : Bs} {k : Nat} (h : a.length = k) : (a ++ b).drop k = b := by rw [← h]; simp
theorem rec_parts {A B C p D rest : Bs} (hA : A.length = 4) (hB : B.length = 4) (hC : C.length = 8) (hD : D.length = 8) :
  rsz (A ++ B ++ C ++ p ++ D ++ rest) = wordU A ∧ rin (A ++ B ++ C ++ p ++ D ++ rest) = wordU B ∧ rno (A ++ B ++ C ++ p ++ D ++ rest) = wordU C ∧
  ((wordU A).toNat = p.length → rpl (A ++ B ++ C ++ p ++ D ++ rest) = p ∧ rsum (A ++ B ++ C ++ p ++ D ++ rest) = wordU D) := by
 have e0 : (A ++ B ++ C ++ p ++ D ++ rest).take 4 = A := by simp only [List.append_assoc]; exact tk hA
 have e1 : rsz (A ++ B ++ C ++ p ++ D ++ rest) = wordU A := by rw [rsz, e0]
 refine ⟨e1, ?_, ?_, fun hl => ⟨?_, ?_⟩⟩
 ·rw [rin, List.drop_take, show (8 : Nat) - 4 = 4 from rfl]
  simp only [List.append_assoc]
  rw [dr hA, tk hB]
 ·rw [rno, List.drop_take, show (16 : Nat) - 8 = 8 from rfl]
  rw [show A ++ B ++ C ++ p ++ D ++ rest = (A ++ B) ++ (C ++ (p ++ (D ++ rest))) by simp, dr (by simp [hA, hB]), tk hC]
 ·rw [rpl, e1, hl, List.drop_take, show 16 + p.length - 16 = p.length by omega]
  rw [show A ++ B ++ C ++ p ++ D ++ rest = (A ++ B ++ C) ++ (p ++ (D ++ rest)) by simp, dr (by simp [hA, hB, hC]), tk rfl]
 ·rw [rsum, e1, hl, List.drop_take, show 24 + p.length - (16 + p.length) = 8 by omega]
  rw [show A ++ B ++ C ++ p ++ D ++ rest = (A ++ B ++ C ++ p) ++ (D ++ rest) by simp, dr (by simp [hA, hB, hC]; omega), tk hD]
theorem form_eq (e n : Int) (p : Bs) : formB e n p = be 4 (U (p.length : Int)) ++ be 4 (~~~(U (p.length : Int))) ++ be 8 (U n) ++ p ++ be 8 (chkU e n p) := rfl
theorem rec_form {e : Int} {n : Nat} {p rest : Bs} (hp : p.length ≤ 65536) (hn : n ≤ 4611686018427387904) : recB e (formB e n p ++ rest) = true ∧ recN (formB e n p ++ rest) = n ∧ recP (formB e n p ++ rest) = p := by
 have hU : (U (p.length : Int)).toNat = p.length := U_toNat (by omega)
 have hs : wordU (be 4 (U (p.length : Int))) = U (p.length : Int) := by
  apply UInt64.toNat_inj.1
  rw [wordU_be4, hU]; omega
 have h := rec_parts (A := be 4 (U (p.length : Int))) (B := be 4 (~~~(U (p.length : Int)))) (C := be 8 (U n)) (p := p) (D := be 8 (chkU e n p)) (rest := rest) (be_length _ _) (be_length _ _) (be_length _ _) (be_length _ _)
 rw [← form_eq] at h
 obtain ⟨h1, h2, h3, h4⟩ := h
 obtain ⟨h5, h6⟩ := h4 (by rw [hs, hU])
 rw [hs] at h1
 rw [wordU_be8] at h3 h6
 have hno : (U (n : Int)).toNat = n := U_toNat (by omega)
 have hok : ¬ rbad (formB e n p ++ rest) := by
  unfold rbad
  rw [h1, h2, h3, hU, hno, xor_comp (by rw [hU]; omega)]
  have hl : (formB e n p ++ rest).length = 24 + p.length + rest.length := by simp [formB_length]
  rw [hl]
  have h7 : ((4294967295 : UInt64).toNat : Int) = 4294967295 := rfl
  omega
 refine ⟨?_, ?_, ?_⟩
 ·rw [recB, if_neg hok, h6, h3, h5, hno]; simp
 ·rw [recN, if_neg hok, h3, hno]
 ·rw [recP, if_neg hok, h5]
theorem rec_torn {e e' : Int} {n m : Nat} {p : Bs} (hp : p.length ≤ 65536) (hm : m < 24 + p.length) : recB e' ((formB e n p).take m) = false := by
 have hb : rbad ((formB e n p).take m) := by
  unfold rbad
  have hlen : ((formB e n p).take m).length = m := by simp [formB_length]; omega
  rw [hlen]
  by_cases h24 : m < 24
  ·left; omega
  ·have hU : (U (p.length : Int)).toNat = p.length := U_toNat (by omega)
   have hs : rsz ((formB e n p).take m) = U (p.length : Int) := by
    rw [rsz, List.take_take, Nat.min_eq_left (by omega)]
    have : (formB e n p).take 4 = be 4 (U (p.length : Int)) := by
     simp only [formB, List.append_assoc]; exact tk (be_length _ _)
    rw [this]
    apply UInt64.toNat_inj.1
    rw [wordU_be4, hU]; omega
   rw [hs, hU]
   right; right; right; left; omega
 rw [recB, if_pos hb]
theorem rec_nil (e : Int) : recB e [] = false := by
 rw [recB, if_pos (.inl (by simp))]
end Go.Jn
