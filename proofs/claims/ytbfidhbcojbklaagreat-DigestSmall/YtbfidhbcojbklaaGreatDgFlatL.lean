/-
  Marks in rows of integers. Own work; plain Lean.
-/
import Derived.Test.YtbfidhbcojbklaaGreatDgFlat0
import Derived.Test.YtbfidhbcojbklaaGreatSlFam
namespace Go.Proofs
open Go Go.Sl
def mrk (k i : Nat) : Nat := 1000003 * (k + 7) + i
def MK (k n : Nat) : List Value := (List.range n).map fun i => Nx (mrk k i)
theorem MK_len (k n : Nat) : (MK k n).length = n := by simp [MK]
theorem MK_succ (k n : Nat) : MK k (n + 1) = MK k n ++ [Nx (mrk k n)] := by simp [MK, List.range_succ]
theorem MK_one (k n : Nat) : (MK k n).all (·.oneCell') = true := by
  rw [List.all_eq_true]
  intro v hv
  obtain ⟨x, _, rfl⟩ := List.mem_map.1 hv
  rfl
theorem mk_step {k i : Nat} {R : List Value} : overL (MK k i ++ R.drop i) (i * 1) [Nx (mrk k i)] = MK k (i + 1) ++ R.drop (i + 1) := by
  unfold overL
  rw [Nat.mul_one, MK_succ, List.take_append_of_le_length (by rw [MK_len]; exact Nat.le_refl _), List.take_of_length_le (by rw [MK_len]; exact Nat.le_refl _), List.drop_append, List.drop_eq_nil_of_le (by rw [MK_len]; simp), MK_len]
  simp
theorem mk_done {k n : Nat} {R : List Value} (h : R.length = n) : MK k n ++ R.drop n = MK k n := by rw [List.drop_eq_nil_of_le (by omega), List.append_nil]
theorem mk_get {k n i : Nat} (h : i < n) : (MK k n)[i]? = some (Nx (mrk k i)) := by simp [MK, h]
theorem one_at {vs : List Value} {i : Nat} {v : Value} (h : vs[i]? = some v) : (vs.drop (i * 1)).take 1 = [v] := by
  obtain ⟨h1, h2⟩ := List.getElem?_eq_some_iff.1 h
  rw [Nat.mul_one, List.drop_eq_getElem_cons h1, h2]; rfl
theorem mk_at {k n i : Nat} (h : i < n) : ((MK k n).drop (i * 1)).take 1 = [Nx (mrk k i)] := one_at (mk_get h)
theorem mk_at2 {k n i : Nat} {R : List Value} (h : i < n) : ((MK k n ++ R).drop (i * 1)).take 1 = [Nx (mrk k i)] := one_at (by rw [List.getElem?_append_left (by rw [MK_len]; exact h)]; exact mk_get h)
theorem k_row_all {β : Base} {L : List Res} {p : Option Addr} {m c T k : Nat} {vs : List Value} (i : Nat) (hi : L[i]? = some (row (.slice p m c) T k m vs)) (h0 : 0 < m) : Knows β L (fun h => Cs h (ba p) vs) :=
  Knows.of_res i hi (Cs.mono _ _) fun a h => by
    obtain ⟨b, cur, rfl, hb, _, _, _, h4, _⟩ := row_open h h0
    exact Cs.of_pt (o := 0) hb (by simp only [List.drop_zero]; rw [← h4]; simp)
end Go.Proofs
