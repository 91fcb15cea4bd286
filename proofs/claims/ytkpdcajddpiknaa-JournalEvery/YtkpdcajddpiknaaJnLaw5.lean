/-
  Stores with power for all: heads in full, changed heads, changed areas. Own work; plain Lean.
-/
import Derived.Test.YtkpdcajddpiknaaJnLaw4
namespace Go.Jn
open Go.Sl

theorem pw_neg (m : Nat) : Jn.pw (-1) m = m := by unfold Jn.pw; rw [if_pos (by decide)]
theorem pl_neg (m : Nat) : pl (-1) m = -1 := by unfold pl; rw [if_pos (by decide)]
theorem wr_neg {p : Int} {bs : Bs} (h : p = -1) : wrOk p bs := by subst h; exact pw_neg _
theorem ap_neg {k : KS} {i : KI} {bs : Bs} (h : k.power = -1) : apOk k i bs := wr_neg h
theorem apS_neg {k : KS} {i : KI} {bs : Bs} (h : k.power = -1) : (apS k i bs).power = -1 := by show pl k.power _ = -1; rw [h, pl_neg]
theorem ck1_neg {k : KS} {e : Nat} (h : k.power = -1) : (ck1 k e).power = -1 := by
  show cutP _ k.power _ = -1
  unfold cutP spendP; rw [h]; split <;> rfl
theorem ck2_neg {k : KS} {e n : Nat} {bs : Bs} (h : k.power = -1) : (ck2 k e n bs).power = -1 := by show pl (ck1 k e).power _ = -1; rw [ck1_neg h, pl_neg]
theorem ck3_neg {k : KS} {e n : Nat} {bs : Bs} (h : k.power = -1) : (ck3 k e n bs).power = -1 := by
  have := ck2_neg (e := e) (n := n) (bs := bs) h
  unfold ck3; simp only; split <;> exact this
theorem ck_neg {k : KS} {e n : Nat} {bs : Bs} (h : k.power = -1) : ckOk k e n bs := ⟨.inr (by rw [h]; decide), wr_neg (ck1_neg h), wr_neg (ck3_neg h)⟩
theorem ckS_all {k : KS} {e n : Nat} {bs : Bs} (h : k.power = -1) : ckS k e n bs = ck4 k e n bs := by
  have hc := ck_neg (e := e) (n := n) (bs := bs) h
  rw [ckS, if_pos hc.1, if_pos hc.2.1]
theorem ckS_neg {k : KS} {e n : Nat} {bs : Bs} (h : k.power = -1) : (ckS k e n bs).power = -1 := by
  rw [ckS_all h]
  show pl (ck3 k e n bs).power _ = -1
  rw [ck3_neg h, pl_neg]

end Go.Jn
