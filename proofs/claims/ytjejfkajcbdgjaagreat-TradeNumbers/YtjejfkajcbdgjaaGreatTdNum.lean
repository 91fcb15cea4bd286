/-
 Numbers of transactions: the law's plain part. Own work; plain Lean.
-/
import Derived.Test.YtjejfkajcbdgjaaGreatTdAw
import Derived.Test.YtjejfkajcbdgjaaGreatTdFit
namespace Go.Td
open Go Go.Sl Go.Proofs Go.Jn
theorem houseR_le {H S N W M V : Nat} {X : KHs} {p : Int} (hN : N ≤ M) (hW : W ≤ V) (a : PHeap) (h : houseR H S X N W p a) : houseR H S X M V p a := by
 obtain ⟨J, mp, mh, mm, s, ms, zs, i, k, h1, h2, h3⟩ := h
 exact ⟨J, mp, mh, mm, s, ms, zs, i, k, h1.mono hN hW, h2, h3⟩
section
variable {P : Program} {ro : Option Nat} {n : Nat} {ds : List Deferred} {β : Base} {Q : Exit → Act → World → Prop} {f : Fm} {L : List Res}
theorem f_houLe {e : Exit} {H S N W M V : Nat} {X : KHs} {p : Int} (i : Nat) (hi : L[i]? = some (houseR H S X N W p)) (hN : N ≤ M) (hW : W ≤ V) (k : Fin n ds β Q e f (L.set i (houseR H S X M V p))) : Fin n ds β Q e f L := fun a w ha hw => k a w ha (hw.conseq_at i hi (houseR_le hN hW))
end
/-- all numbers are below the next one -/
def NumOk (X : KHs) (n : Int) : Prop := ∀ a m, X.done a = some m → 1 ≤ m.d.number ∧ m.d.number < n
theorem NumOk.fresh (n : Int) : NumOk freshX n := fun a m h => by cases h
theorem NumOk.next {X : KHs} {n n' : Int} (h : NumOk X n) (h1 : 1 ≤ n) (h2 : n < n') (au : Int) (al : List KAct) : NumOk (carryX X au n al) n' := fun a m hm => by
 by_cases e : a = au
 ·subst e
  rw [carryX_done] at hm
  injection hm with hm; subst hm
  exact ⟨h1, h2⟩
 ·rw [carryX_ne _ _ _ e] at hm
  have := h a m hm
  omega
theorem lastX_of {X : KHs} {au : Int} {m : KMem} (h : X.done au = some m) : lastX X au = (m.d.number, m.r, true) := by unfold lastX; rw [h]
theorem lastX_some {X : KHs} {au nu : Int} {r : KRes} {so : Bool} (h : lastX X au = (nu, r, so)) (hs : so = true) : ∃ m, X.done au = some m ∧ m.d.number = nu := by
 subst hs
 unfold lastX at h
 cases e : X.done au with
 | none => rw [e] at h; injection h with h1 h2; injection h2 with h2 h3; cases h3
 | some m => rw [e] at h; injection h with h1 h2; exact ⟨m, rfl, h1⟩
def needA : KAct := ⟨7, 1, 0, 0, zeroA⟩
theorem snoc_formed {au nu : Int} {al : List KAct} (h : dformed au nu al = true) (hl : al.length ≤ 8) : dformed au nu (al ++ [needA]) = true := by
 obtain ⟨h1, h2, h3, h4⟩ := dformed_iff.1 h
 refine dformed_iff.2 ⟨h1, h2, by simp; omega, fun x hx => ?_⟩
 rcases List.mem_append.1 hx with hx | hx
 ·exact h4 x hx
 ·rw [List.mem_singleton.1 hx]; decide
theorem snoc_hb {al : List KAct} (h : hb63 al) : hb63 (al ++ [needA]) := fun x hx => by
 rcases List.mem_append.1 hx with hx | hx
 ·exact h x hx
 ·rw [List.mem_singleton.1 hx]; decide
theorem snoc_ne (al : List KAct) (x : KAct) : al ≠ al ++ [x] := fun h => by
 have := congrArg List.length h
 simp at this
theorem other_number {au nu n : Int} {al : List KAct} (h : dformed au nu al = true) (h1 : 1 ≤ n) (h2 : n ≤ nu) : dformed au n al = true := by
 obtain ⟨g1, g2, g3, g4⟩ := dformed_iff.1 h
 exact dformed_iff.2 ⟨g1, by omega, g3, g4⟩
/-- what a round of TradeNumbers knows -/
structure RndOk (X X1 : KHs) (au nu : Int) (al : List KAct) (R : KRes) : Prop where
 d1 : doF X au nu al = (X1, R, 0)
 m1 : X1.done au = some ⟨⟨au, nu, al⟩, R⟩
 d2 : doF X1 au nu al = (X1, R, 0)
 la : lastX X1 au = (nu, R, true)
theorem rnd_ok {X : KHs} {au nu : Int} {al : List KAct} (hf : dformed au nu al = true) (hn : NumOk X nu) : ∃ X1 R, RndOk X X1 au nu al R ∧ X1 = carryX X au nu al := by
 have h1 := doF_new (X := X) hf (fun m hm => (hn au m hm).2)
 have h2 := carryX_done X au nu al
 exact ⟨_, _, ⟨h1, h2, doF_again hf h2, lastX_of h2⟩, rfl⟩
end Go.Td
