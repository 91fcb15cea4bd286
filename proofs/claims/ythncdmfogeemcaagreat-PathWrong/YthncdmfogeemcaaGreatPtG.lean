/-
  The graph in plain words: who is near whom. Own work; plain Lean.
-/
import Derived.Test.YthncdmfogeemcaaGreatPtRows
namespace Go.Pth
open Go.Sl Go.Brd
theorem getD_set (R : List (List Nat)) (i r : Nat) (x : List Nat) : (R.set i x).getD r [] = if i = r ∧ r < R.length then x else R.getD r [] := by
  rw [List.getD_eq_getElem?_getD, List.getD_eq_getElem?_getD, List.getElem?_set]
  by_cases h : i = r
  · subst h
    by_cases h2 : i < R.length
    · simp [h2]
    · rw [if_neg (show ¬ (i = i ∧ i < R.length) from fun q => h2 q.2)]; simp [h2]
  · rw [if_neg h, if_neg fun q => h q.1]
theorem putR_mem {R : List (List Nat)} {n m r : Nat} {rs : List Nat} : m ∈ (putR R n rs).getD r [] ↔ m ∈ R.getD r [] ∨ (m = n ∧ r ∈ rs ∧ r < R.length) := by
  induction rs generalizing R with
  | nil => show m ∈ R.getD r [] ↔ _; simp
  | cons a rs ih =>
    show m ∈ (putR (R.set a (R.getD a [] ++ [n])) n rs).getD r [] ↔ _
    rw [ih, getD_set, List.length_set]
    by_cases h : a = r ∧ r < R.length
    · rw [if_pos h]
      obtain ⟨rfl, h⟩ := h
      simp only [List.mem_append, List.mem_cons, List.not_mem_nil, or_false]
      constructor
      · rintro ((q | q) | q)
        · exact .inl q
        · exact .inr ⟨q, by simp, h⟩
        · exact .inr ⟨q.1, .inr q.2.1, q.2.2⟩
      · rintro (q | q)
        · exact .inl (.inl q)
        · exact .inl (.inr q.1)
    · rw [if_neg h]
      simp only [List.mem_cons]
      constructor
      · rintro (q | q)
        · exact .inl q
        · exact .inr ⟨q.1, .inr q.2.1, q.2.2⟩
      · rintro (q | ⟨q1, q2, q3⟩)
        · exact .inl q
        · rcases q2 with q2 | q2
          · exact absurd ⟨q2.symm, q3⟩ h
          · exact .inr ⟨q1, q2, q3⟩
theorem nAt_last (ns : List KN) (x : KN) : nAt (ns ++ [x]) ns.length = x := by
  unfold nAt; rw [List.getD_eq_getElem?_getD, List.getElem?_append_right (Nat.le_refl _), Nat.sub_self]; rfl
theorem nAt_old {ns : List KN} {n : Nat} (x : KN) (h : n < ns.length) : nAt (ns ++ [x]) n = nAt ns n := by
  unfold nAt; rw [List.getD_eq_getElem?_getD, List.getD_eq_getElem?_getD, List.getElem?_append_left h]
/-- a room's nodes are those that have the room -/
theorem rows_mem {k n r : Nat} : ∀ {ns : List KN}, n ∈ (rowsL k ns).getD r [] ↔ n < ns.length ∧ r < k ∧ r ∈ (nAt ns n).rs := by
  have key : ∀ m (ns : List KN), ns.length = m → (n ∈ (rowsL k ns).getD r [] ↔ n < ns.length ∧ r < k ∧ r ∈ (nAt ns n).rs) := by
    intro m
    induction m with
    | zero =>
      intro ns hl
      rw [List.eq_nil_of_length_eq_zero hl, rowsL_nil]
      have : (List.replicate k ([] : List Nat)).getD r [] = [] := by
        rw [List.getD_eq_getElem?_getD]
        by_cases h : r < k
        · rw [List.getElem?_replicate, if_pos h]; rfl
        · rw [List.getElem?_replicate, if_neg h]; rfl
      rw [this]; simp
    | succ m ih =>
      intro ns hl
      have hne : ns ≠ [] := fun q => by rw [q] at hl; cases hl
      have e := List.dropLast_concat_getLast hne
      generalize ns.dropLast = ds at *
      generalize ns.getLast hne = x at *
      subst e
      have hd : ds.length = m := by rw [List.length_append, List.length_singleton] at hl; omega
      rw [rowsL_snoc, putR_mem, ih ds hd, rowsL_len, List.length_append, List.length_singleton]
      constructor
      · rintro (⟨h1, h2, h3⟩ | ⟨h1, h2, h3⟩)
        · exact ⟨by omega, h2, by rw [nAt_old x h1]; exact h3⟩
        · subst h1; exact ⟨by omega, h3, by rw [nAt_last]; exact h2⟩
      · rintro ⟨h1, h2, h3⟩
        by_cases h : n < ds.length
        · rw [nAt_old x h] at h3; exact .inl ⟨h, h2, h3⟩
        · have : n = ds.length := by omega
          subst this; rw [nAt_last] at h3; exact .inr ⟨rfl, h3, h2⟩
  intro ns
  exact key _ ns rfl
theorem nr_mem {k n m : Nat} {ns : List KN} : m ∈ nrL ns (rowsL k ns) n ↔ m < ns.length ∧ m ≠ n ∧ ∃ r, r < k ∧ r ∈ (nAt ns n).rs ∧ r ∈ (nAt ns m).rs := by
  unfold nrL
  rw [List.mem_flatMap]
  constructor
  · rintro ⟨r, h1, h2⟩
    obtain ⟨h3, h4⟩ := List.mem_filter.1 h2
    obtain ⟨a1, a2, a3⟩ := rows_mem.1 h3
    exact ⟨a1, of_decide_eq_true h4, r, a2, h1, a3⟩
  · rintro ⟨h1, h2, r, h3, h4, h5⟩
    exact ⟨r, h4, List.mem_filter.2 ⟨rows_mem.2 ⟨h1, h3, h5⟩, decide_eq_true h2⟩⟩
theorem nr_sym {k : Nat} {ns : List KN} (a b : Nat) (ha : a < ns.length) (h : b ∈ nrL ns (rowsL k ns) a) : a ∈ nrL ns (rowsL k ns) b := by
  obtain ⟨h1, h2, r, h3, h4, h5⟩ := nr_mem.1 h
  exact nr_mem.2 ⟨ha, Ne.symm h2, r, h3, h5, h4⟩
theorem nr_lt {k : Nat} {ns : List KN} : ∀ m, m < ns.length → ∀ j ∈ nrL ns (rowsL k ns) m, j < ns.length := fun _ _ _ h => (nr_mem.1 h).1
theorem nodeL_len (l : List KA) (p q : KV) : (nodeL l p q).length = (portL l).length + 1 + 1 := by
  unfold nodeL; rw [List.length_append, List.length_map]; rfl
theorem nodeL_rooms {l : List KA} {p q : KV} (h : l.length ≤ 64) : ∀ x ∈ nodeL l p q, x.rs.length ≤ 64 ∧ ∀ r ∈ x.rs, r < l.length := by
  intro x hx
  rcases List.mem_append.1 (show x ∈ _ ++ _ from hx) with hx | hx
  · obtain ⟨o, ho, rfl⟩ := List.mem_map.1 hx
    obtain ⟨a, b, h1, h2, -⟩ := port_two ho
    exact ⟨by show 2 ≤ 64; omega, fun r hr => by
      rcases List.mem_cons.1 (show r ∈ [o.a, o.b] from hr) with rfl | hr
      · omega
      · rw [List.mem_singleton.1 hr]; exact h2⟩
  · rcases List.mem_cons.1 hx with rfl | hx
    · exact ⟨Nat.le_trans (roomF_len _ _ _) h, fun r hr => roomF_lt hr⟩
    · rw [List.mem_singleton.1 hx]; exact ⟨Nat.le_trans (roomF_len _ _ _) h, fun r hr => roomF_lt hr⟩
theorem rows_len {l : List KA} {p q : KV} (h : l.length ≤ 64) : ∀ y ∈ rowsL l.length (nodeL l p q), y.length ≤ 8320 := by
  intro y hy
  have e : nodeL l p q = (((portL l).map nodeO) ++ [⟨p.x, p.y, roomF l p.x p.y⟩]) ++ [⟨q.x, q.y, roomF l q.x q.y⟩] := by unfold nodeL; rw [List.append_assoc]; rfl
  rw [e, rowsL_snoc, rowsL_snoc] at hy
  have b1 : ∀ x ∈ rowsL l.length ((portL l).map nodeO), x.length ≤ 8192 := by
    intro x hx
    have h1 := rowsL_bd (B := 2) (fun y hy => by obtain ⟨o, _, rfl⟩ := List.mem_map.1 hy; exact Nat.le_refl _) x hx
    rw [List.length_map] at h1
    have := portL_len h
    omega
  have b2 := putR_bd (n := ((portL l).map nodeO).length) b1 (roomF l p.x p.y)
  have b3 := putR_bd (n := ((portL l).map nodeO ++ [(⟨p.x, p.y, roomF l p.x p.y⟩ : KN)]).length) b2 (roomF l q.x q.y) y hy
  have := roomF_len l p.x p.y
  have := roomF_len l q.x q.y
  omega
theorem nr_len {l : List KA} {p q : KV} (h : l.length ≤ 64) : ∀ m, m < (nodeL l p q).length → (nrL (nodeL l p q) (rowsL l.length (nodeL l p q)) m).length ≤ 1000000 := by
  intro m hm
  have hx : (nodeL l p q)[m]? = some (nAt (nodeL l p q) m) := by unfold nAt; rw [List.getD_eq_getElem?_getD, List.getElem?_eq_getElem hm]; rfl
  have h1 := (nodeL_rooms h _ (List.mem_of_getElem? hx)).1
  have h2 : ∀ r, ((rowsL l.length (nodeL l p q)).getD r []).length ≤ 8320 := fun r => by
    rw [List.getD_eq_getElem?_getD]
    cases hr : (rowsL l.length (nodeL l p q))[r]? with
    | none => exact Nat.zero_le _
    | some y => exact rows_len h y (List.mem_of_getElem? hr)
  have key : ∀ rs : List Nat, (rs.flatMap fun r => ((rowsL l.length (nodeL l p q)).getD r []).filter fun k => decide (k ≠ m)).length ≤ rs.length * 8320 := by
    intro rs
    induction rs with
    | nil => simp
    | cons r rs ih =>
      rw [List.flatMap_cons, List.length_append, List.length_cons, Nat.add_mul]
      have := List.length_filter_le (fun k => decide (k ≠ m)) ((rowsL l.length (nodeL l p q)).getD r [])
      have := h2 r
      omega
  have := key (nAt (nodeL l p q) m).rs
  unfold nrL
  omega
theorem nodeL_rr {l : List KA} {p q : KV} (h : l.length ≤ 64) : ∀ x ∈ nodeL l p q, ∀ r ∈ x.rs, r < (rowsL l.length (nodeL l p q)).length := fun x hx r hr => by
  rw [rowsL_len]; exact (nodeL_rooms h x hx).2 r hr
/-! the graph as one resource -/
def grR (v1 v2 : Value) (ns : List KN) (RR : List (List Nat)) : Res := fun h => GrB h v1 v2 ns RR
theorem gr_of {np rp : Option Addr} {nc rc N M : Nat} {hn : List HN} {hv : List (HV Nat)} (hN : hn.length = N) (hM : hv.length = M) (a : PHeap) (h : Sat [rowF NodeF 72 np nc hn, Sat (hn.map ownN), rowF HvF 36 rp rc hv, Sat (hv.map ownH)] a) :
    grR (.slice np N nc) (.slice rp M rc) (hn.map HN.k) (hv.map (·.xs)) a := by
  subst hN; subst hM
  obtain ⟨b1, s1, r1⟩ := h.each (rowF NodeF 72 np nc hn) (by simp)
  obtain ⟨b2, s2, r2⟩ := h.each (Sat (hn.map ownN)) (by simp)
  obtain ⟨b3, s3, r3⟩ := h.each (rowF HvF 36 rp rc hv) (by simp)
  obtain ⟨b4, s4, r4⟩ := h.each (Sat (hv.map ownH)) (by simp)
  refine ⟨hn, hv, rfl, rfl, Sl.mono _ _ _ _ _ s1 (rowF_sl r1), Sl.mono _ _ _ _ _ s3 (rowF_sl r3), fun x hx => ?_, fun x hx => ?_⟩
  · obtain ⟨b5, s5, r5⟩ := r2.each (ownN x) (List.mem_map.2 ⟨x, hx, rfl⟩)
    exact Sl.mono _ _ _ _ _ (s5.trans s2) (rowF_sl r5)
  · obtain ⟨b5, s5, r5⟩ := r4.each (ownH x) (List.mem_map.2 ⟨x, hx, rfl⟩)
    exact Sl.mono _ _ _ _ _ (s5.trans s4) (rowF_sl r5)
/-! what Find answers -/
def vAt (ns : List KN) (n : Nat) : KV := ⟨(nAt ns n).x, (nAt ns n).y⟩
/-- nodes, who is near, the marks, for two points of a mesh -/
def nrM (l : List KA) (p q : KV) (n : Nat) : List Nat := nrL (nodeL l p q) (rowsL l.length (nodeL l p q)) n
def MkM (l : List KA) (p q : KV) (out : List KM) : Prop := Mk (nodeL l p q).length (nrM l p q) (wtL (nodeL l p q)) ((portL l).length + 1) out
/-- the whole way, from the beginning's node -/
def wayM (l : List KA) (p q : KV) (out : List KM) : List Nat := wayL out (nrM l p q) (wtL (nodeL l p q)) (nodeL l p q).length ((portL l).length + 1) (mAt out (portL l).length).pts (portL l).length
def FindR (l : List KA) (p q : KV) (way : List KV) (n : Nat) (err : Int) : Prop :=
  (¬ okM l ∧ way = [] ∧ n = 0 ∧ err = 2) ∨ (okM l ∧ ∃ out, MkM l p q out ∧
    (((mAt out (portL l).length).pts = 0 ∧ way = [] ∧ n = 0 ∧ err = 6) ∨ (0 < (mAt out (portL l).length).pts ∧ way = p :: (wayM l p q out).map (vAt (nodeL l p q)) ∧ n = (mAt out (portL l).length).len ∧ err = 0)))
end Go.Pth
