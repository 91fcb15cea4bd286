/-
  Shortest ways: marks that hold, and what takes them there. Own work; plain Lean.
-/
import Derived.Test.YthncdmfogeemcaaGreatPtHeap
namespace Go.Pth
/-- a way from the end to a node: its length and points -/
inductive Wk (nr : Nat → List Nat) (wt : Nat → Nat → Nat) (e : Nat) : Nat → Nat → Nat → Prop where
  | nil : Wk nr wt e e 0 1
  | cons {m k l p : Nat} : Wk nr wt e m l p → k ∈ nr m → Wk nr wt e k (l + wt m k) (p + 1)
structure Dj (N : Nat) (nr : Nat → List Nat) (wt : Nat → Nat → Nat) (e : Nat) (out hp : List KM) (c : Nat) : Prop where
  len : out.length = N
  en : e < N
  nb : ∀ m, m < N → ∀ k ∈ nr m, k < N
  z : ∀ n, n < N → (mAt out n).pts = 0 → mAt out n = zM
  nd : ∀ n, n < N → 0 < (mAt out n).pts → (mAt out n).node = n
  hin : ∀ x ∈ hp, x.node < N ∧ 0 < x.pts ∧ x.pts ≤ c + 1
  hsrc : ∀ x ∈ hp, x = ⟨e, 0, 1⟩ ∨ ∃ m, m < N ∧ 0 < (mAt out m).pts ∧ x.node ∈ nr m ∧ x.len = (mAt out m).len + wt m x.node ∧ x.pts = (mAt out m).pts + 1
  osrc : ∀ n, n < N → 0 < (mAt out n).pts → mAt out n = ⟨e, 0, 1⟩ ∨ ∃ m, m < N ∧ 0 < (mAt out m).pts ∧ n ∈ nr m ∧ (mAt out n).len = (mAt out m).len + wt m n ∧ (mAt out n).pts = (mAt out m).pts + 1
  low : ∀ n, n < N → 0 < (mAt out n).pts → ∀ x ∈ hp, leM (mAt out n) x
  cov : ∀ m, m < N → 0 < (mAt out m).pts → ∀ k ∈ nr m, (0 < (mAt out k).pts ∧ leM (mAt out k) ⟨k, (mAt out m).len + wt m k, (mAt out m).pts + 1⟩) ∨ (⟨k, (mAt out m).len + wt m k, (mAt out m).pts + 1⟩ : KM) ∈ hp
  ee : mAt out e = ⟨e, 0, 1⟩ ∨ ((⟨e, 0, 1⟩ : KM) ∈ hp ∧ (∀ x ∈ hp, x = ⟨e, 0, 1⟩) ∧ ∀ n, n < N → (mAt out n).pts = 0)
  bd : ∀ n, n < N → (mAt out n).pts ≤ c
  cnt : c = (out.filter fun x => decide (0 < x.pts)).length
theorem zAt (N n : Nat) : mAt (List.replicate N zM) n = zM := by
  unfold mAt; rw [List.getD_eq_getElem?_getD]
  by_cases h : n < N
  · rw [List.getElem?_replicate, if_pos h]; rfl
  · rw [List.getElem?_replicate, if_neg h]; rfl
theorem Dj.start {N e : Nat} {nr : Nat → List Nat} {wt : Nat → Nat → Nat} (he : e < N) (hb : ∀ m, m < N → ∀ k ∈ nr m, k < N) : Dj N nr wt e (List.replicate N zM) [⟨e, 0, 1⟩] 0 := by
  have hz : ∀ n, (mAt (List.replicate N zM) n).pts = 0 := fun n => by rw [zAt]; rfl
  refine ⟨by simp, he, hb, fun n _ _ => zAt N n, fun n _ h => ?_, fun x hx => ?_, fun x hx => ?_, fun n _ h => ?_, fun n _ h => ?_, fun n _ h => ?_, .inr ⟨by simp, fun x hx => by simpa using hx, fun n _ => hz n⟩, fun n _ => by rw [hz]; omega, ?_⟩
  · rw [hz] at h; omega
  · have := List.mem_singleton.1 hx; subst this; exact ⟨he, Nat.one_pos, Nat.le_refl _⟩
  · exact .inl (List.mem_singleton.1 hx)
  · rw [hz] at h; omega
  · rw [hz] at h; omega
  · rw [hz] at h; omega
  · rw [List.filter_eq_nil_iff.2 fun x hx => ?_]; rfl
    rw [(List.mem_replicate.1 hx).2]; decide
section
variable {N e c : Nat} {nr : Nat → List Nat} {wt : Nat → Nat → Nat} {out hp rest hp2 : List KM} {x : KM}
theorem Dj.skip (h : Dj N nr wt e out hp c) (hm : ∀ y, y ∈ hp ↔ y = x ∨ y ∈ rest) (hs : 0 < (mAt out x.node).pts) : Dj N nr wt e out rest c := by
  have up : ∀ y ∈ rest, y ∈ hp := fun y hy => (hm y).2 (.inr hy)
  have hx : x ∈ hp := (hm x).2 (.inl rfl)
  refine ⟨h.len, h.en, h.nb, h.z, h.nd, fun y hy => h.hin y (up y hy), fun y hy => h.hsrc y (up y hy), h.osrc, fun n hn hp y hy => h.low n hn hp y (up y hy), fun m hm' hp' k hk => ?_, ?_, h.bd, h.cnt⟩
  · rcases h.cov m hm' hp' k hk with q | q
    · exact .inl q
    · rcases (hm _).1 q with q | q
      · have hk' : x.node = k := by rw [← q]
        rw [hk'] at hs
        exact .inl ⟨hs, by rw [q]; exact h.low k (h.nb m hm' k hk) hs x hx⟩
      · exact .inr q
  · rcases h.ee with q | ⟨q1, q2, q3⟩
    · exact .inl q
    · have := q2 x hx; rw [this] at hs; have h3 := q3 e h.en; simp only at hs; omega
theorem set_at {l : List KM} {i k : Nat} {x : KM} (hi : i < l.length) : mAt (l.set i x) k = if k = i then x else mAt l k := by
  unfold mAt; rw [List.getD_eq_getElem?_getD, List.getD_eq_getElem?_getD, List.getElem?_set]
  by_cases h : i = k
  · rw [if_pos h, if_pos hi, if_pos h.symm]; rfl
  · rw [if_neg h, if_neg (show ¬ k = i from fun q => h q.symm)]
theorem cnt_set {l : List KM} {i : Nat} {x : KM} (hi : i < l.length) (h0 : (mAt l i).pts = 0) (hx : 0 < x.pts) : ((l.set i x).filter fun y => decide (0 < y.pts)).length = (l.filter fun y => decide (0 < y.pts)).length + 1 := by
  induction l generalizing i with
  | nil => exact absurd hi (by simp)
  | cons a l ih =>
    cases i with
    | zero =>
      have h0' : a.pts = 0 := h0
      simp [hx, h0']
    | succ i =>
      have := ih (i := i) (by simpa using hi) h0
      simp only [List.set_cons_succ, List.filter_cons]
      split <;> simp [this]
theorem Dj.set (h : Dj N nr wt e out hp c) (hm : ∀ y, y ∈ hp ↔ y = x ∨ y ∈ rest) (hmin : ∀ y ∈ hp, leM x y) (hs : (mAt out x.node).pts = 0)
    (h2 : ∀ y, y ∈ hp2 ↔ y ∈ rest ∨ ∃ k ∈ nr x.node, y = ⟨k, x.len + wt x.node k, x.pts + 1⟩) : Dj N nr wt e (out.set x.node x) hp2 (c + 1) := by
  have hx : x ∈ hp := (hm x).2 (.inl rfl)
  obtain ⟨hxN, hxp, hxc⟩ := h.hin x hx
  have hl : x.node < out.length := by rw [h.len]; exact hxN
  have up : ∀ y ∈ rest, y ∈ hp := fun y hy => (hm y).2 (.inr hy)
  have at' : ∀ k, mAt (out.set x.node x) k = if k = x.node then x else mAt out k := fun k => set_at hl
  have at1 : mAt (out.set x.node x) x.node = x := by rw [at', if_pos rfl]
  have ne : ∀ k, 0 < (mAt out k).pts → k ≠ x.node := fun k hk q => by rw [q] at hk; omega
  have at2 : ∀ k, 0 < (mAt out k).pts → mAt (out.set x.node x) k = mAt out k := fun k hk => by rw [at', if_neg (ne k hk)]
  refine ⟨by rw [List.length_set]; exact h.len, h.en, h.nb, fun n hn hp' => ?_, fun n hn hp' => ?_, fun y hy => ?_, fun y hy => ?_, fun n hn hp' => ?_, fun n hn hp' y hy => ?_, fun m hm' hp' k hk => ?_, ?_, fun n hn => ?_, ?_⟩
  · rw [at'] at hp' ⊢
    by_cases q : n = x.node
    · rw [if_pos q] at hp'; omega
    · rw [if_neg q] at hp' ⊢; exact h.z n hn hp'
  · rw [at'] at hp' ⊢
    by_cases q : n = x.node
    · rw [if_pos q]; exact q.symm
    · rw [if_neg q] at hp' ⊢; exact h.nd n hn hp'
  · rcases (h2 y).1 hy with q | ⟨k, hk, rfl⟩
    · obtain ⟨a1, a2, a3⟩ := h.hin y (up y q); exact ⟨a1, a2, by omega⟩
    · exact ⟨h.nb _ hxN k hk, Nat.succ_pos _, by show x.pts + 1 ≤ c + 1 + 1; omega⟩
  · rcases (h2 y).1 hy with q | ⟨k, hk, rfl⟩
    · rcases h.hsrc y (up y q) with r | ⟨m, r1, r2, r3, r4, r5⟩
      · exact .inl r
      · exact .inr ⟨m, r1, by rw [at2 m r2]; exact r2, r3, by rw [at2 m r2]; exact r4, by rw [at2 m r2]; exact r5⟩
    · exact .inr ⟨x.node, hxN, by rw [at1]; exact hxp, hk, by rw [at1], by rw [at1]⟩
  · by_cases q : n = x.node
    · subst q; rw [at1]
      rcases h.hsrc x hx with r | ⟨m, r1, r2, r3, r4, r5⟩
      · exact .inl r
      · exact .inr ⟨m, r1, by rw [at2 m r2]; exact r2, r3, by rw [at2 m r2]; exact r4, by rw [at2 m r2]; exact r5⟩
    · rw [at', if_neg q] at hp' ⊢
      rcases h.osrc n hn hp' with r | ⟨m, r1, r2, r3, r4, r5⟩
      · exact .inl r
      · exact .inr ⟨m, r1, by rw [at2 m r2]; exact r2, r3, by rw [at2 m r2]; exact r4, by rw [at2 m r2]; exact r5⟩
  · have big : leM x y := by
      rcases (h2 y).1 hy with q | ⟨k, hk, rfl⟩
      · exact hmin y (up y q)
      · unfold leM; show x.len < x.len + wt x.node k ∨ (x.len = x.len + wt x.node k ∧ x.pts ≤ x.pts + 1); omega
    by_cases q : n = x.node
    · subst q; rw [at1]; exact big
    · rw [at', if_neg q] at hp' ⊢; exact (h.low n hn hp' x hx).trans big
  · by_cases q : m = x.node
    · subst q; rw [at1]; exact .inr ((h2 _).2 (.inr ⟨k, hk, rfl⟩))
    · rw [at', if_neg q] at hp'
      rw [at2 m hp']
      rcases h.cov m hm' hp' k hk with r | r
      · rw [at2 k r.1]; exact .inl r
      · rcases (hm _).1 r with s | s
        · have hk' : x.node = k := by rw [← s]
          subst hk'; rw [at1]; exact .inl ⟨hxp, by rw [s]; exact leM.refl _⟩
        · exact .inr ((h2 _).2 (.inl s))
  · rcases h.ee with q | ⟨q1, q2, q3⟩
    · have : 0 < (mAt out e).pts := by rw [q]; exact Nat.one_pos
      rw [at2 e this]; exact .inl q
    · have hxe := q2 x hx
      have hne : x.node = e := by rw [hxe]
      left; rw [← hne, at1]; exact hne ▸ hxe
  · rw [at']
    by_cases q : n = x.node
    · rw [if_pos q]; exact hxc
    · rw [if_neg q]; have := h.bd n hn; omega
  · rw [cnt_set hl hs hxp, ← h.cnt]
end
/-- marks that are the least -/
structure Mk (N : Nat) (nr : Nat → List Nat) (wt : Nat → Nat → Nat) (e : Nat) (out : List KM) : Prop where
  len : out.length = N
  en : e < N
  z : ∀ n, n < N → (mAt out n).pts = 0 → mAt out n = zM
  nd : ∀ n, n < N → 0 < (mAt out n).pts → (mAt out n).node = n
  fe : mAt out e = ⟨e, 0, 1⟩
  fs : ∀ n, n < N → 0 < (mAt out n).pts → n ≠ e → ∃ m, m < N ∧ 0 < (mAt out m).pts ∧ n ∈ nr m ∧ (mAt out n).len = (mAt out m).len + wt m n ∧ (mAt out n).pts = (mAt out m).pts + 1
  fc : ∀ m, m < N → 0 < (mAt out m).pts → ∀ k ∈ nr m, k < N ∧ 0 < (mAt out k).pts ∧ leM (mAt out k) ⟨k, (mAt out m).len + wt m k, (mAt out m).pts + 1⟩
section
variable {N e c : Nat} {nr : Nat → List Nat} {wt : Nat → Nat → Nat} {out : List KM}
theorem Dj.done (h : Dj N nr wt e out [] c) : Mk N nr wt e out := by
  refine ⟨h.len, h.en, h.z, h.nd, h.ee.resolve_right (by simp), fun n hn hp hne => ?_, fun m hm hp k hk => ⟨h.nb m hm k hk, (h.cov m hm hp k hk).resolve_right (by simp)⟩⟩
  refine (h.osrc n hn hp).resolve_left fun q => hne ?_
  have := h.nd n hn hp; rw [q] at this; exact this.symm
theorem Mk.le (h : Mk N nr wt e out) {n l p : Nat} (w : Wk nr wt e n l p) : n < N ∧ 0 < (mAt out n).pts ∧ leM (mAt out n) ⟨n, l, p⟩ := by
  induction w with
  | nil => exact ⟨h.en, by rw [h.fe]; exact Nat.one_pos, by rw [h.fe]; exact leM.refl _⟩
  | @cons m k l p w hk ih =>
    obtain ⟨i1, i2, i3⟩ := ih
    obtain ⟨a1, a2, a3⟩ := h.fc m i1 i2 k hk
    refine ⟨a1, a2, a3.trans ?_⟩
    unfold leM at i3 ⊢; simp only at i3 ⊢; omega
theorem Mk.wk (h : Mk N nr wt e out) : ∀ p n, n < N → 0 < (mAt out n).pts → (mAt out n).pts = p → Wk nr wt e n (mAt out n).len (mAt out n).pts := by
  intro p
  induction p with
  | zero => intro n hn hp he; omega
  | succ p ih =>
    intro n hn hp he
    by_cases hne : n = e
    · subst hne; rw [h.fe]; exact .nil
    · obtain ⟨m, m1, m2, m3, m4, m5⟩ := h.fs n hn hp hne
      have := ih m m1 m2 (by omega)
      rw [m4, m5]; exact .cons this m3
theorem Mk.wk' (h : Mk N nr wt e out) {n : Nat} (hn : n < N) (hp : 0 < (mAt out n).pts) : Wk nr wt e n (mAt out n).len (mAt out n).pts := h.wk _ n hn hp rfl
/-- marks are one -/
theorem Mk.uniq {nr' : Nat → List Nat} {out' : List KM} (h : Mk N nr wt e out) (h' : Mk N nr' wt e out') (hn : ∀ n, n < N → ∀ k, k ∈ nr n ↔ k ∈ nr' n) : out = out' := by
  have tr : ∀ {a b : Nat → List Nat} {o : List KM}, Mk N a wt e o → (∀ n, n < N → ∀ k, k ∈ a n → k ∈ b n) → ∀ {n l p}, Wk a wt e n l p → Wk b wt e n l p := by
    intro a b o hm hab n l p w
    induction w with
    | nil => exact .nil
    | cons w hk ih => exact .cons ih (hab _ (hm.le w).1 _ hk)
  refine List.ext_getElem? fun n => ?_
  by_cases hN : n < N
  · rw [mAt_some (by rw [h.len]; exact hN), mAt_some (by rw [h'.len]; exact hN)]
    congr 1
    by_cases hp : 0 < (mAt out n).pts
    · obtain ⟨_, a2, a3⟩ := h'.le (tr h (fun n hn' k => (hn n hn' k).1) (h.wk' hN hp))
      obtain ⟨_, b2, b3⟩ := h.le (tr h' (fun n hn' k => (hn n hn' k).2) (h'.wk' hN a2))
      have n1 := h.nd n hN hp; have n2 := h'.nd n hN a2
      generalize mAt out n = u at *; generalize mAt out' n = v at *
      obtain ⟨u1, u2, u3⟩ := u; obtain ⟨v1, v2, v3⟩ := v
      unfold leM at a3 b3; simp only at *
      have : u2 = v2 := by omega
      have : u3 = v3 := by omega
      subst_vars; rfl
    · by_cases hp' : 0 < (mAt out' n).pts
      · exact absurd (h.le (tr h' (fun n hn' k => (hn n hn' k).2) (h'.wk' hN hp'))).2.1 hp
      · rw [h.z n hN (by omega), h'.z n hN (by omega)]
  · rw [List.getElem?_eq_none (by rw [h.len]; omega), List.getElem?_eq_none (by rw [h'.len]; omega)]
end
end Go.Pth
