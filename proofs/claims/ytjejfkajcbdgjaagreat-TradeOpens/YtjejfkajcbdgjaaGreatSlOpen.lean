/-
  Arguments that came in: what can be read as data lies in memory as a Lean value. Own work; plain Lean.
-/
import Derived.Test.YtjejfkajcbdgjaaGreatSlFam
import Derived.ProofKit
import Derived.OpenShut
import Derived.Deep.Slices
namespace Go.Sl
section
variable {H : Type} {enc : TypeId × Value → H} {P : Program} {w : World} {base : Nat} {spare : Nat → Bool} {held : Bool}

/-- whatever reads at type t lies there as a value of R's type; Q ties the datum that is read to it -/
def Reads {α : Type} (P : Program) (R : Rp α) (Q : (H : Type) → DataW H → α → Prop) (t : TypeId) : Prop :=
  ∀ (H : Type) (enc : TypeId × Value → H) (w : World) (base : Nat) (spare : Nat → Bool) (held : Bool) (fuel : Nat) (cs : List Value) (x : DataW H × List MemPlace),
    DataW.trod enc P w base spare held fuel t cs = some x → ∃ y, R.rep (ph w) cs y ∧ Q H x.1 y
def QAny {α : Type} (H : Type) (_ : DataW H) (_ : α) : Prop := True
def QSl {α : Type} (Q : (H : Type) → DataW H → α → Prop) (H : Type) (d : DataW H) (ys : List α) : Prop :=
  match d with
  | .slice elems _ => elems.length = ys.length ∧ ∀ (i : Nat) di yi, elems[i]? = some di → ys[i]? = some yi → Q H di yi
  | .nil => ys = []
  | _ => False

theorem cs_of_cells {a : Addr} {k : Nat} {cs : List Value} (h : w.cells? base a k = some cs) : Cs (ph w) a cs := by
  intro j v hj
  obtain ⟨_, hl, hc⟩ := World.cells?_some h
  have hlt := (List.getElem?_eq_some_iff.1 hj).1
  have := hc j (by omega)
  rw [hj] at this
  exact this

theorem reads_slice {α : Type} {R : Rp α} {Q : (H : Type) → DataW H → α → Prop} {t e : Nat} (ht : P.underlying t = some (.slice e)) (hc : P.cellsOf e = R.n) (hr : Reads P R Q e) : Reads P R.slice (QSl Q) t := by
  intro H enc w base spare held fuel cs x h
  rcases Go.Deep.open_slice ht h with ⟨rfl, rfl⟩ | ⟨a, len, cap, m, n, D, Pl, rfl, _, hl, hm, hmm, rfl, hel⟩
  · exact ⟨[], ⟨_, rfl, Sl.nil _ _⟩, rfl⟩
  · have hle : len ≤ m := by subst hmm; split <;> omega
    have hy : ∀ i, i < len → ∃ y cs', Cs (ph w) (a.add (i * R.n)) cs' ∧ R.rep (ph w) cs' y ∧ Q H (D i) y := by
      intro i hi
      obtain ⟨cs', h1, h2⟩ := hel i (by omega)
      obtain ⟨y, hy⟩ := hr H enc w base spare held n cs' _ h2
      rw [hc] at h1
      exact ⟨y, cs', cs_of_cells h1, hy.1, hy.2⟩
    have hlist : ∀ k, k ≤ len → ∃ ys : List α, ys.length = k ∧ ∀ i y, ys[i]? = some y → ∃ cs', Cs (ph w) (a.add (i * R.n)) cs' ∧ R.rep (ph w) cs' y ∧ Q H (D i) y := by
      intro k
      induction k with
      | zero => exact fun _ => ⟨[], rfl, fun i y h => by simp at h⟩
      | succ k ih =>
        intro hk
        obtain ⟨ys, hyl, hys⟩ := ih (by omega)
        obtain ⟨y, cs', h1, h2⟩ := hy k (by omega)
        refine ⟨ys ++ [y], by simp [hyl], fun i z hz => ?_⟩
        by_cases hi : i < ys.length
        · rw [List.getElem?_append_left hi] at hz
          exact hys i z hz
        · have hlt := (List.getElem?_eq_some_iff.1 hz).1
          have : i = ys.length := by simp at hlt; omega
          subst this
          simp at hz
          subst hz
          rw [hyl]; exact ⟨cs', h1, h2⟩
    obtain ⟨ys, hyl, hys⟩ := hlist len (Nat.le_refl _)
    subst hyl
    refine ⟨ys, ⟨_, rfl, some a, cap, rfl, hl, by unfold maxLen at hm; omega, fun j y hj => ⟨rfl, let ⟨cs', h1, h2, _⟩ := hys j y hj; ⟨cs', h1, h2⟩⟩⟩, ?_⟩
    refine ⟨by simp, fun i di yi hd hy => ?_⟩
    obtain ⟨_, _, _, hq⟩ := hys i yi hy
    have hlt := (List.getElem?_eq_some_iff.1 hy).1
    simp [hlt] at hd
    subst hd
    exact hq
end
end Go.Sl
