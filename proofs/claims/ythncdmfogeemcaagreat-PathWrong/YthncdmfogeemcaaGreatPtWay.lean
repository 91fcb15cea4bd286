/-
  The way that the marks tell. Own work; plain Lean.
-/
import Derived.Test.YthncdmfogeemcaaGreatPtDij
namespace Go.Pth
/-- k is one step nearer to the end -/
def mtch (out : List KM) (wt : Nat → Nat → Nat) (n k : Nat) : Prop := (mAt out n).pts = (mAt out k).pts + 1 ∧ (mAt out n).len = (mAt out k).len + wt n k
instance (out : List KM) (wt : Nat → Nat → Nat) (n k : Nat) : Decidable (mtch out wt n k) := inferInstanceAs (Decidable (_ ∧ _))
def nxF (out : List KM) (wt : Nat → Nat → Nat) (n : Nat) (a k : Nat) : Nat := if mtch out wt n k then min a k else a
def nxt (out : List KM) (wt : Nat → Nat → Nat) (N : Nat) (n : Nat) (l : List Nat) : Nat := l.foldl (nxF out wt n) N
theorem nx_le {out : List KM} {wt : Nat → Nat → Nat} {n : Nat} (l : List Nat) (a : Nat) : l.foldl (nxF out wt n) a ≤ a ∧ (∀ k ∈ l, mtch out wt n k → l.foldl (nxF out wt n) a ≤ k) ∧ (l.foldl (nxF out wt n) a = a ∨ (l.foldl (nxF out wt n) a ∈ l ∧ mtch out wt n (l.foldl (nxF out wt n) a))) := by
  induction l generalizing a with
  | nil => exact ⟨Nat.le_refl _, by simp, .inl rfl⟩
  | cons k l ih =>
    obtain ⟨i1, i2, i3⟩ := ih (nxF out wt n a k)
    rw [List.foldl_cons]
    have hle : nxF out wt n a k ≤ a := by unfold nxF; split <;> omega
    refine ⟨by omega, fun j hj hm => ?_, ?_⟩
    · rcases List.mem_cons.1 hj with rfl | hj
      · have : nxF out wt n a j ≤ j := by unfold nxF; rw [if_pos hm]; omega
        omega
      · exact i2 j hj hm
    · rcases i3 with h | ⟨h1, h2⟩
      · rw [h]
        by_cases hm : mtch out wt n k
        · unfold nxF; rw [if_pos hm]
          by_cases hak : a ≤ k
          · exact .inl (by omega)
          · right; rw [show min a k = k by omega]; exact ⟨List.mem_cons_self, hm⟩
        · unfold nxF; rw [if_neg hm]; exact .inl rfl
      · exact .inr ⟨List.mem_cons_of_mem _ h1, h2⟩
/-- nodes behind a node, f of them at most -/
def wayL (out : List KM) (nr : Nat → List Nat) (wt : Nat → Nat → Nat) (N e : Nat) : Nat → Nat → List Nat
  | 0, _ => []
  | f + 1, n => if n = e then [] else nxt out wt N n (nr n) :: wayL out nr wt N e f (nxt out wt N n (nr n))
section
variable {N e : Nat} {nr : Nat → List Nat} {wt : Nat → Nat → Nat} {out : List KM}
theorem Mk.nxt_ok (h : Mk N nr wt e out) (hsym : ∀ a b, a < N → b ∈ nr a → a ∈ nr b) (hw : ∀ a b, wt a b = wt b a) {n : Nat} (hn : n < N) (hp : 0 < (mAt out n).pts) (hne : n ≠ e) :
    nxt out wt N n (nr n) < N ∧ nxt out wt N n (nr n) ∈ nr n ∧ mtch out wt n (nxt out wt N n (nr n)) ∧ 0 < (mAt out (nxt out wt N n (nr n))).pts := by
  obtain ⟨m, m1, m2, m3, m4, m5⟩ := h.fs n hn hp hne
  have hmn := hsym m n m1 m3
  have hm : mtch out wt n m := ⟨m5, by rw [hw]; exact m4⟩
  obtain ⟨a1, a2, a3⟩ := nx_le (out := out) (wt := wt) (n := n) (nr n) N
  have hlt : nxt out wt N n (nr n) < N := Nat.lt_of_le_of_lt (a2 m hmn hm) m1
  rcases a3 with q | ⟨q1, q2⟩
  · exact absurd q (Nat.ne_of_lt hlt)
  · refine ⟨hlt, q1, q2, ?_⟩
    obtain ⟨c1, c2, c3⟩ := h.fc n hn hp _ q1
    exact c2
theorem wayL_e (f : Nat) : wayL out nr wt N e f e = [] := by cases f <;> simp [wayL]
theorem wayL_next {n p : Nat} (hne : n ≠ e) : wayL out nr wt N e (p + 1) n = nxt out wt N n (nr n) :: wayL out nr wt N e p (nxt out wt N n (nr n)) := by simp [wayL, hne]
end
end Go.Pth
