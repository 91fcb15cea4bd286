/-
  Stores with power for all: heads in full, changed heads, changed areas. Own work; plain Lean.
-/
import Derived.Test.YtkpdcajddpiknaaJnLaw4
namespace Go.Jn
open Go.Sl

theorem pw_neg (m : Nat) : Jn.pw (-1) m = m := by unfold Jn.pw; rw [if_pos (by decide)]
theorem pl_neg (m : Nat) : pl (-1) m = -1 := by unfold pl; rw [if_pos (by decide)]
theorem wr_neg {p : Int} {bs : Bs} (h : p = -1) : wrOk p bs := by subst h; exact pw_neg _
theorem ap_neg {k : KS} {i : KI} {bs : Bs} (h : k.power = -1) : apOk k i bs := wr_neg h
theorem apS_neg {k : KS} {i : KI} {bs : Bs} (h : k.power = -1) : (apS k i bs).power = -1 := by show pl k.power _ = -1; rw [h, pl_neg]
theorem ck1_neg {k : KS} {e : Nat} (h : k.power = -1) : (ck1 k e).power = -1 := by
  show cutP _ k.power _ = -1
  unfold cutP spendP; rw [h]; split <;> rfl
theorem ck2_neg {k : KS} {e n : Nat} {bs : Bs} (h : k.power = -1) : (ck2 k e n bs).power = -1 := by show pl (ck1 k e).power _ = -1; rw [ck1_neg h, pl_neg]
theorem ck3_neg {k : KS} {e n : Nat} {bs : Bs} (h : k.power = -1) : (ck3 k e n bs).power = -1 := by
  have := ck2_neg (e := e) (n := n) (bs := bs) h
  unfold ck3; simp only; split <;> exact this
theorem ck_neg {k : KS} {e n : Nat} {bs : Bs} (h : k.power = -1) : ckOk k e n bs := ⟨.inr (by rw [h]; decide), wr_neg (ck1_neg h), wr_neg (ck3_neg h)⟩
theorem ckS_all {k : KS} {e n : Nat} {bs : Bs} (h : k.power = -1) : ckS k e n bs = ck4 k e n bs := by
  have hc := ck_neg (e := e) (n := n) (bs := bs) h
  rw [ckS, if_pos hc.1, if_pos hc.2.1]
theorem ckS_neg {k : KS} {e n : Nat} {bs : Bs} (h : k.power = -1) : (ckS k e n bs).power = -1 := by
  rw [ckS_all h]
  show pl (ck3 k e n bs).power _ = -1
  rw [ck3_neg h, pl_neg]

/-- a copy in full; nothing for epoch 0 -/
def copyZ (e : Nat) : Bs := if e = 0 then List.replicate 16 0 else copyB e
theorem copyZ_len (e : Nat) : (copyZ e).length = 16 := by unfold copyZ; split; simp; exact copy_len e
def HeadX (head : Bs) (e : Nat) : Prop := (e = 0 ∧ head = []) ∨ (1 ≤ e ∧ head = if e % 2 = 0 then copyZ e ++ copyZ (e - 1) else copyZ (e - 1) ++ copyZ e)
theorem headX_nil : HeadX [] 0 := .inl ⟨rfl, rfl⟩
theorem headX_ap {k : KS} {i : KI} {bs : Bs} (h : HeadX k.head i.epoch) : HeadX (apS k i bs).head (apI i bs).epoch := by
  show HeadX (k.setArea _ _).head _
  rw [set_head]; exact h
theorem Inv.headX_ck {k : KS} {i : KI} {N : Nat} {bs : Bs} {x : Bool} (_ : Inv k i N x) (hp : k.power = -1) (_ : N ≤ 100) (h : HeadX k.head i.epoch) : HeadX (ckS k (i.epoch + 1) i.next bs).head (ckI i bs).epoch := by
  rw [ckS_all hp]
  show HeadX (wrA (ck3 k (i.epoch + 1) i.next bs).head (ck3 k (i.epoch + 1) i.next bs).power _ _) (i.epoch + 1)
  rw [wrA, ck3_neg hp, pw_neg, List.take_length]
  have hl := copy_len (i.epoch + 1)
  have e1 := ck2_head k (i.epoch + 1) i.next bs
  refine .inr ⟨by omega, ?_⟩
  rcases h with ⟨h0, hh⟩ | ⟨h1, hh⟩
  · have e2 : (ck3 k (i.epoch + 1) i.next bs).head = copyZ 0 ++ copyZ 0 := by
      unfold ck3; simp only; rw [if_pos (by rw [e1, hh]; rfl)]; rfl
    rw [e2, h0, wr_full (by simp [copyZ_len, copy_len])]
    simp only [Nat.zero_add, Nat.one_mod, Nat.one_mul, Nat.sub_self]
    rw [if_neg (by omega), tk (copyZ_len 0), show copyZ 1 = copyB 1 from rfl, List.drop_of_length_le (by simp [copyZ_len, copy_len]), List.append_nil]
  · have hlen : k.head.length = 32 := by rw [hh]; split <;> simp [copyZ_len]
    have e2 : (ck3 k (i.epoch + 1) i.next bs).head = k.head := by
      unfold ck3; simp only; rw [if_neg (by rw [e1]; omega), e1]
    rw [e2, wr_full (by rw [hlen, hl]; omega), hl]
    have ez : copyZ (i.epoch + 1) = copyB (i.epoch + 1) := by unfold copyZ; rw [if_neg (by omega)]
    rw [hh]
    by_cases hp : i.epoch % 2 = 0
    · rw [if_pos hp, if_neg (by omega), show (i.epoch + 1) % 2 = 1 by omega, Nat.one_mul, tk (copyZ_len _), List.drop_of_length_le (by simp [copyZ_len]), List.append_nil, ez]
      simp
    · rw [if_neg hp, if_pos (by omega), show (i.epoch + 1) % 2 = 0 by omega, Nat.zero_mul, List.take_zero, List.nil_append, Nat.zero_add, dr (copyZ_len _), ez]
      simp
end Go.Jn
