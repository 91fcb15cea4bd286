/-
  What a step costs: with p strokes of power it holds exactly where its cost is at most p, and what is left is p less the cost.
-/
import Derived.Test.YtkpdcajddpiknaaJnLaw5
namespace Go.Jn
open Go Go.Sl
theorem pw_nat (p m : Nat) : Jn.pw (p : Int) m = min p m := by unfold Jn.pw; rw [if_neg (by omega)]; simp
theorem pl_nat (p m : Nat) : pl (p : Int) m = ((p - m : Nat) : Int) := by unfold pl; rw [if_neg (by omega)]; simp; omega
theorem wr_nat {p : Nat} {bs : Bs} : wrOk (p : Int) bs ↔ bs.length ≤ p := by unfold wrOk; rw [pw_nat]; omega
def costA (b : Bs) : Nat := 24 + b.length
def costC (K : KS) (e : Nat) (b : Bs) : Nat := (if (K.area e).length = 0 then 0 else 1) + (24 + b.length) + 16
theorem every_ap {K : KS} {I : KI} {b : Bs} {p : Nat} (hp : K.power = (p : Int)) : (apOk K I b ↔ costA b ≤ p) ∧ (apS K I b).power = ((p - costA b : Nat) : Int) := by
  have hl := formB_length I.epoch I.next b
  constructor
  · unfold apOk costA
    rw [hp, wr_nat, hl]
  · show pl K.power _ = _
    rw [hp, pl_nat, hl]; rfl
theorem every_ck {K : KS} {e n : Nat} {b : Bs} {p : Nat} (hp : K.power = (p : Int)) : (ckOk K e n b ↔ costC K e b ≤ p) ∧ (ckS K e n b).power = ((p - costC K e b : Nat) : Int) := by
  have hl := formB_length e n b
  have hcl := copy_len e
  obtain ⟨c, hc⟩ : ∃ c, c = (if (K.area e).length = 0 then 0 else 1) := ⟨_, rfl⟩
  have e1 : (ck1 K e).power = ((p - c : Nat) : Int) := by
    show cutP (K.area e) K.power 0 = _
    unfold cutP spendP
    rw [hp, hc]
    split <;> split <;> (try split) <;> omega
  have o1 : ckOk1 K e ↔ c ≤ p := by
    unfold ckOk1 cutOk
    rw [hp, hc]
    split <;> omega
  have e2 : (ck2 K e n b).power = ((p - c - (24 + b.length) : Nat) : Int) := by
    show pl (ck1 K e).power _ = _
    rw [e1, pl_nat, hl]
  have o2 : ckOk2 K e n b ↔ 24 + b.length ≤ p - c := by
    unfold ckOk2
    rw [e1, wr_nat, hl]
  have e3 : (ck3 K e n b).power = ((p - c - (24 + b.length) : Nat) : Int) := by
    unfold ck3
    simp only
    split
    · exact e2
    · exact e2
  have e4 : (ck4 K e n b).power = ((p - c - (24 + b.length) - 16 : Nat) : Int) := by
    show pl (ck3 K e n b).power _ = _
    rw [e3, pl_nat, hcl]
  have o3 : ckOk3 K e n b ↔ 16 ≤ p - c - (24 + b.length) := by
    unfold ckOk3
    rw [e3, wr_nat, hcl]
  have hcost : costC K e b = c + (24 + b.length) + 16 := by unfold costC; rw [← hc]
  rw [hcost]
  have hc1 : c ≤ 1 := by rw [hc]; split <;> omega
  constructor
  · unfold ckOk
    rw [o1, o2, o3]
    omega
  · unfold ckS
    by_cases h1 : ckOk1 K e
    · rw [if_pos h1]
      have h1' := o1.1 h1
      by_cases h2 : ckOk2 K e n b
      · rw [if_pos h2]
        rw [e4]; exact congrArg (fun z : Nat => (z : Int)) (by omega)
      · rw [if_neg h2]
        have h2' := mt o2.2 h2
        rw [e2]; exact congrArg (fun z : Nat => (z : Int)) (by omega)
    · rw [if_neg h1]
      have h1' := mt o1.2 h1
      rw [hp]; exact congrArg (fun z : Nat => (z : Int)) (by omega)
theorem cut_zero {K : KS} {e s : Nat} (hp : K.power = 0) : cutS K e s = K := by
  unfold cutS
  have e2 : cutA (K.area e) K.power s = K.area e := by unfold cutA; rw [if_pos hp]
  have e3 : cutP (K.area e) K.power s = K.power := by unfold cutP spendP; rw [hp]; split <;> rfl
  rw [e2, e3]
  unfold KS.setArea KS.area
  split <;> rfl
/-- what stands where nothing is torn and the power is on -/
theorem cut_self' {K : KS} {I : KI} {N : Nat} (h : Inv K I N true) (hp : K.power = -1) : cutS (powS K) I.epoch I.size = K := by
  have h1 := h.exact
  have h2 := h.wf.size
  have e1 : powS K = K := by unfold powS; rw [← hp]
  rw [e1]
  unfold cutS
  have hl : (K.area I.epoch).length = I.size := by rw [h1]; exact h2.symm
  have e2 : cutA (K.area I.epoch) K.power I.size = K.area I.epoch := by unfold cutA; rw [if_neg (by rw [hp]; decide), List.take_of_length_le (by omega)]
  have e3 : cutP (K.area I.epoch) K.power I.size = K.power := by unfold cutP; rw [if_neg (by omega)]
  rw [e2, e3]
  unfold KS.setArea KS.area
  split <;> rfl
theorem short_len (o : KOp) : ((shortO o).body.take 300).length ≤ 20 := by unfold shortO; simp; omega
end Go.Jn
