/-
 A transaction is as good as its acts, one after the other: the law's plain part. Own work; plain Lean.
-/
import Derived.Test.YtjejfkajcbdgjaaGreatTdHouE
namespace Go.Td
open Go Go.Sl Go.Proofs Go.Jn
/-- the state behind k of the steps -/
noncomputable def seqX (l : List TOp) : Nat → KHs
 | 0 => freshX
 | k + 1 => match l[k]? with
  | some o => carryX (seqX l k) (fitAu o) ((1 + k : Nat) : Int) (fitL o)
  | none => seqX l k
theorem seqX_next {l : List TOp} {k : Nat} {o : TOp} (h : l[k]? = some o) : seqX l (k + 1) = carryX (seqX l k) (fitAu o) ((1 + k : Nat) : Int) (fitL o) := by
 show (match l[k]? with | some o => _ | none => _) = _
 rw [h]
theorem seqX_au (l : List TOp) : ∀ k a, 5 ≤ a → (seqX l k).done a = none
 | 0, _, _ => rfl
 | k + 1, a, ha => by
  cases e : l[k]? with
  | none =>
   have : seqX l (k + 1) = seqX l k := by show (match l[k]? with | some o => _ | none => _) = _; rw [e]
   rw [this]; exact seqX_au l k a ha
  | some o =>
   rw [seqX_next e, carryX_ne _ _ _ (by have := fitAu_bd o; omega)]
   exact seqX_au l k a ha
/-- single acts of author 50 -/
def N50 (Y : KHs) (j : Nat) : Prop := ∀ m, Y.done 50 = some m → m.d.number ≤ (j : Int)
theorem N50.zero (l : List TOp) (i : Nat) : N50 (seqX l i) 0 := fun m h => by rw [seqX_au l i 50 (by decide)] at h; cases h
theorem N50.next {Y : KHs} {j : Nat} (al : List KAct) : N50 (carryX Y 50 ((1 + j : Nat) : Int) al) (j + 1) := fun m h => by
 rw [carryX_done] at h
 injection h with h; subst h
 show ((1 + j : Nat) : Int) ≤ ((j + 1 : Nat) : Int)
 omega
def mkL (n : Int) : List Int := if 0 < n then [n] else []
theorem one_formed {x : KAct} (h : x.formed = true) {j : Nat} (hj : j ≤ 100) : dformed 50 ((1 + j : Nat) : Int) [x] = true :=
 dformed_iff.2 ⟨by omega, by omega, by simp, fun y hy => by rw [List.mem_singleton.1 hy]; exact h⟩
theorem one_ok {s : KSt} {x : KAct} (h : (actS s x).2.2 = 0) : carryF s [x] = ((actS s x).1, ⟨true, 0, 0, mkL (actS s x).2.1⟩) := by
 unfold carryF runA
 rw [if_pos h]
 unfold mkL runA
 split <;> rfl
/-- what the loop over the acts knows -/
structure InnOk (s0 s : KSt) (al : List KAct) (j : Nat) (made : List Int) (Y : KHs) : Prop where
 r : runA s0 Y.s made j (al.drop j) = carryF s0 al
 n : N50 Y j
theorem run_at {s0 : KSt} : ∀ {xs : List KAct} {s : KSt} {made : List Int} {k : Nat}, (runA s0 s made k xs).2.done = true ∨ ((k : Nat) : Int) ≤ (runA s0 s made k xs).2.at_
 | [], _, _, _ => .inl rfl
 | x :: xs, s, made, k => by
  unfold runA
  split
  ·rcases run_at (s0 := s0) (xs := xs) (s := (actS s x).1) (made := if 0 < (actS s x).2.1 then made ++ [(actS s x).2.1] else made) (k := k + 1) with h | h
   ·exact .inl h
   ·exact .inr (by omega)
  ·exact .inr (Int.le_refl _)
section
variable {s0 s : KSt} {al : List KAct} {j : Nat} {made : List Int} {Y : KHs} {x : KAct} (h : InnOk s0 s al j made Y) (hx : al[j]? = some x)
include h
theorem InnOk.over (hj : al.length ≤ j) : carryF s0 al = (Y.s, ⟨true, 0, 0, made⟩) := by rw [← h.r, run_nil hj]
include hx
theorem InnOk.next (he : (actS Y.s x).2.2 = 0) : InnOk s0 s al (j + 1) (made ++ mkL (actS Y.s x).2.1) (carryX Y 50 ((1 + j : Nat) : Int) [x]) := by
 refine ⟨?_, N50.next _⟩
 rw [← h.r, run_next hx he]
 have : (carryX Y 50 ((1 + j : Nat) : Int) [x]).s = (actS Y.s x).1 := by show (carryF Y.s [x]).1 = _; rw [one_ok he]
 rw [this]
 unfold mkL
 split <;> simp
theorem InnOk.good (he : (actS Y.s x).2.2 = 0) : (carryF s0 al).2.done = true ∨ ((j : Nat) : Int) < (carryF s0 al).2.at_ := by
 have h2 := (h.next hx he).r
 rw [← h2]
 rcases run_at (s0 := s0) (xs := al.drop (j + 1)) (s := (carryX Y 50 ((1 + j : Nat) : Int) [x]).s) (made := made ++ mkL (actS Y.s x).2.1) (k := j + 1) with q | q
 ·exact .inl q
 ·exact .inr (by omega)
theorem InnOk.do_ok (hf : x.formed = true) (hj : j ≤ 100) (he : (actS Y.s x).2.2 = 0) : doF Y 50 ((1 + j : Nat) : Int) [x] = (carryX Y 50 ((1 + j : Nat) : Int) [x], ⟨true, 0, 0, mkL (actS Y.s x).2.1⟩, 0) := by
 have _ := hx
 rw [doF_new (one_formed hf hj) (fun m hm => by have := h.n m hm; omega), one_ok he]
end
/-- what is compared behind the loop -/
structure WhOk (X X1 Y : KHs) (R : KRes) (made : List Int) : Prop where
 done : R.done = true → Y.s = X1.s ∧ made = R.holds
end Go.Td
