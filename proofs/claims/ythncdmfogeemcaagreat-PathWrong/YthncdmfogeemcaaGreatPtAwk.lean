/-
  The chapter's examples: the ways of two small meshes. Own work; plain Lean.
-/
import Derived.Test.YthncdmfogeemcaaGreatPtG
namespace Go.Pth
open Go.Sl Go.Brd
def mkB (N : Nat) (nr : Nat → List Nat) (wt : Nat → Nat → Nat) (e : Nat) (out : List KM) : Bool :=
  decide (out.length = N) && decide (e < N) && decide ((mAt out e).node = e ∧ (mAt out e).len = 0 ∧ (mAt out e).pts = 1) && (List.range N).all fun n =>
    if (mAt out n).pts = 0 then decide ((mAt out n).node = 0 ∧ (mAt out n).len = 0)
    else decide ((mAt out n).node = n) && (decide (n = e) || (List.range N).any fun m => decide (0 < (mAt out m).pts) && decide (n ∈ nr m) && decide ((mAt out n).len = (mAt out m).len + wt m n) && decide ((mAt out n).pts = (mAt out m).pts + 1)) &&
      (nr n).all fun k => decide (k < N) && decide (0 < (mAt out k).pts) && decide (leM (mAt out k) ⟨k, (mAt out n).len + wt n k, (mAt out n).pts + 1⟩)
theorem km_ext {a b : KM} (h1 : a.node = b.node) (h2 : a.len = b.len) (h3 : a.pts = b.pts) : a = b := by cases a; cases b; simp_all
theorem mkB_ok {N e : Nat} {nr : Nat → List Nat} {wt : Nat → Nat → Nat} {out : List KM} (h : mkB N nr wt e out = true) : Mk N nr wt e out := by
  unfold mkB at h
  simp only [Bool.and_eq_true, decide_eq_true_eq, List.all_eq_true, List.mem_range] at h
  obtain ⟨⟨⟨h1, h2⟩, h3, h4, h5⟩, h6⟩ := h
  have pos : ∀ n, n < N → 0 < (mAt out n).pts → (mAt out n).node = n ∧ (n = e ∨ ∃ m, m < N ∧ 0 < (mAt out m).pts ∧ n ∈ nr m ∧ (mAt out n).len = (mAt out m).len + wt m n ∧ (mAt out n).pts = (mAt out m).pts + 1) ∧ ∀ k ∈ nr n, k < N ∧ 0 < (mAt out k).pts ∧ leM (mAt out k) ⟨k, (mAt out n).len + wt n k, (mAt out n).pts + 1⟩ := by
    intro n hn hp
    have := h6 n hn
    rw [if_neg (by omega)] at this
    simp only [Bool.and_eq_true, Bool.or_eq_true, decide_eq_true_eq, List.all_eq_true, List.any_eq_true, List.mem_range] at this
    obtain ⟨⟨a1, a2⟩, a3⟩ := this
    refine ⟨a1, ?_, fun k hk => ?_⟩
    · rcases a2 with q | ⟨m, q1, ⟨⟨q2, q3⟩, q4⟩, q5⟩
      · exact .inl q
      · exact .inr ⟨m, q1, q2, q3, q4, q5⟩
    · obtain ⟨⟨b1, b2⟩, b3⟩ := a3 k hk; exact ⟨b1, b2, b3⟩
  refine ⟨h1, h2, fun n hn hz => ?_, fun n hn hp => (pos n hn hp).1, km_ext h3 h4 h5, fun n hn hp hne => ((pos n hn hp).2.1).resolve_left hne, fun m hm hp k hk => (pos m hm hp).2.2 k hk⟩
  have := h6 n hn
  rw [if_pos hz] at this
  obtain ⟨a1, a2⟩ := of_decide_eq_true this
  exact km_ext a1 a2 hz
theorem find_eq {l : List KA} {p q : KV} {ns : List KN} {K n n' : Nat} {out : List KM} {way way' : List KV} {e' : Int} (hM : okM l) (hns : nodeL l p q = ns) (hK : (portL l).length = K) (hB : mkB ns.length (nrL ns (rowsL l.length ns)) (wtL ns) (K + 1) out = true) (hp : 0 < (mAt out K).pts)
    (hw : p :: (wayL out (nrL ns (rowsL l.length ns)) (wtL ns) ns.length (K + 1) (mAt out K).pts K).map (vAt ns) = way) (hn : (mAt out K).len = n) (h : FindR l p q way' n' e') : way' = way ∧ n' = n ∧ e' = 0 := by
  rcases h with ⟨h, _⟩ | ⟨_, out', hk, h⟩
  · exact absurd hM h
  · unfold MkM nrM at hk
    unfold wayM nrM at h
    rw [hns, hK] at hk h
    have e := (mkB_ok hB).uniq hk fun _ _ _ => Iff.rfl
    subst e
    rcases h with ⟨h, _⟩ | ⟨_, h1, h2, h3⟩
    · omega
    · exact ⟨h1.trans hw, h2.trans hn, h3⟩
theorem find_none {l : List KA} {p q : KV} {ns : List KN} {K n' : Nat} {out : List KM} {way' : List KV} {e' : Int} (hM : okM l) (hns : nodeL l p q = ns) (hK : (portL l).length = K) (hB : mkB ns.length (nrL ns (rowsL l.length ns)) (wtL ns) (K + 1) out = true) (hp : (mAt out K).pts = 0)
    (h : FindR l p q way' n' e') : way' = [] ∧ n' = 0 ∧ e' = 6 := by
  rcases h with ⟨h, _⟩ | ⟨_, out', hk, h⟩
  · exact absurd hM h
  · unfold MkM nrM at hk
    rw [hns, hK] at hk
    rw [hK] at h
    have e := (mkB_ok hB).uniq hk fun _ _ _ => Iff.rfl
    subst e
    rcases h with ⟨_, h⟩ | ⟨h, _⟩
    · exact h
    · omega
theorem portL_T (l : List KA) : portL l = (pairsT (things l 0)).filterMap (portO l) := by unfold portL; rw [pairsA_eq]
theorem okM_T {l : List KA} (h1 : l.length ≤ 64) (h2 : ∀ a ∈ l, roomOk a) (h3 : ∀ p ∈ pairsT (things l 0), flatA (comP l p)) : okM l := ⟨h1, h2, by rw [pairsA_eq]; exact h3⟩
def FOUR : List KA := [⟨0, 0, 10, 10⟩, ⟨10, 4, 20, 7⟩, ⟨20, 0, 30, 30⟩, ⟨0, 10, 9, 30⟩]
def CORN : List KA := [⟨0, 0, 1, 1⟩, ⟨1, 1, 2, 2⟩]
instance (a : KA) : Decidable (flatA a) := inferInstanceAs (Decidable (_ ∨ _))
theorem four_M : okM FOUR := okM_T (by decide) (by decide +kernel) (by decide +kernel)
theorem corn_M : okM CORN := okM_T (by decide) (by decide +kernel) (by decide +kernel)
theorem four_P : portL FOUR = [⟨0, 1, 10, 5⟩, ⟨0, 3, 4, 10⟩, ⟨1, 2, 20, 5⟩] := by rw [portL_T]; decide +kernel
theorem corn_P : portL CORN = [] := by rw [portL_T]; decide +kernel
theorem four_R1 : roomF FOUR 10 5 = [0, 1] := by decide +kernel
theorem four_R2 : roomF FOUR 15 0 = [] := by decide +kernel
theorem aw1 {way : List KV} {n : Nat} {e : Int} (h : FindR FOUR ⟨0, 5⟩ ⟨30, 5⟩ way n e) : way = [⟨0, 5⟩, ⟨10, 5⟩, ⟨20, 5⟩, ⟨30, 5⟩] ∧ n = 480 ∧ e = 0 :=
  find_eq (out := [⟨0, 320, 3⟩, ⟨1, 445, 4⟩, ⟨2, 160, 2⟩, ⟨3, 480, 4⟩, ⟨4, 0, 1⟩]) (ns := [⟨10, 5, [0, 1]⟩, ⟨4, 10, [0, 3]⟩, ⟨20, 5, [1, 2]⟩, ⟨0, 5, [0]⟩, ⟨30, 5, [2]⟩]) (K := 3) four_M (by unfold nodeL; rw [four_P]; rfl) (by rw [four_P]; rfl) (by decide +kernel) (by decide) (by decide +kernel) rfl h
theorem aw2 {way : List KV} {n : Nat} {e : Int} (h : FindR FOUR ⟨5, 20⟩ ⟨25, 5⟩ way n e) : way = [⟨5, 20⟩, ⟨4, 10⟩, ⟨10, 5⟩, ⟨20, 5⟩, ⟨25, 5⟩] ∧ n = 526 ∧ e = 0 :=
  find_eq (out := [⟨0, 240, 3⟩, ⟨1, 365, 4⟩, ⟨2, 80, 2⟩, ⟨3, 526, 5⟩, ⟨4, 0, 1⟩]) (ns := [⟨10, 5, [0, 1]⟩, ⟨4, 10, [0, 3]⟩, ⟨20, 5, [1, 2]⟩, ⟨5, 20, [3]⟩, ⟨25, 5, [2]⟩]) (K := 3) four_M (by unfold nodeL; rw [four_P]; rfl) (by rw [four_P]; rfl) (by decide +kernel) (by decide) (by decide +kernel) rfl h
theorem aw3 {way : List KV} {n : Nat} {e : Int} (h : FindR CORN ⟨0, 0⟩ ⟨2, 2⟩ way n e) : way = [] ∧ n = 0 ∧ e = 6 :=
  find_none (out := [⟨0, 0, 0⟩, ⟨1, 0, 1⟩]) (ns := [⟨0, 0, [0]⟩, ⟨2, 2, [1]⟩]) (K := 0) corn_M (by unfold nodeL; rw [corn_P]; rfl) (by rw [corn_P]; rfl) (by decide +kernel) (by decide) h
theorem aw4 {way : List KV} {n : Nat} {e : Int} (h : FindR CORN ⟨0, 0⟩ ⟨1, 1⟩ way n e) : way = [⟨0, 0⟩, ⟨1, 1⟩] ∧ n = 23 ∧ e = 0 :=
  find_eq (out := [⟨0, 23, 2⟩, ⟨1, 0, 1⟩]) (ns := [⟨0, 0, [0]⟩, ⟨1, 1, [0, 1]⟩]) (K := 0) corn_M (by unfold nodeL; rw [corn_P]; rfl) (by rw [corn_P]; rfl) (by decide +kernel) (by decide) (by decide +kernel) rfl h
theorem aw5 : lenV 0 0 3 4 = 80 := by decide +kernel
end Go.Pth
