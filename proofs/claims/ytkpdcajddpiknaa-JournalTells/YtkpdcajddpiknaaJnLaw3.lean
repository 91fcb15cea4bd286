/-
  Images and heads: what is read of an area that was written, which epoch a head has. Own work; plain Lean.
-/
import Derived.Test.YtkpdcajddpiknaaJnLaw2
namespace Go.Jn
open Go.Sl

def encR (e : Nat) : Nat → List Bs → Bs
  | _, [] => []
  | n, r :: rs => formB e n r ++ encR e (n + 1) rs
theorem encR_nil (e n : Nat) : encR e n [] = [] := by rw [encR]
theorem encR_cons (e n : Nat) (r : Bs) (rs : List Bs) : encR e n (r :: rs) = formB e n r ++ encR e (n + 1) rs := by rw [encR]
theorem encR_length (e : Nat) (rs : List Bs) : ∀ n : Nat, (encR e n rs).length = sizes rs := by
  induction rs with
  | nil => intro n; rw [encR_nil, sizes]; rfl
  | cons r rs ih => intro n; rw [encR_cons, List.length_append, formB_length, ih (n + 1), sizes]
theorem encR_snoc (e : Nat) (b : Bs) (rs : List Bs) : ∀ n : Nat, encR e n (rs ++ [b]) = encR e n rs ++ formB e ((n + rs.length : Nat) : Int) b := by
  induction rs with
  | nil => intro n; rw [List.nil_append, encR_cons, encR_nil, encR_nil, List.append_nil, List.nil_append, List.length_nil, Nat.add_zero]
  | cons r rs ih => intro n; rw [List.cons_append, encR_cons, ih (n + 1), encR_cons, List.append_assoc, List.length_cons, show n + 1 + rs.length = n + (rs.length + 1) by omega]
theorem parse_one {e n f : Nat} {r tail : Bs} (hr : r.length ≤ 65536) (hn : n < 4611686018427387904) : parse e (f + 1) n (formB e n r ++ tail) = r :: parse e f (n + 1) tail := by
  have h1 := rec_form (e := e) (n := n) (p := r) (rest := tail) hr (by omega)
  have e2 : (formB e n r ++ tail).drop (24 + r.length) = tail := dr (formB_length _ _ _)
  rw [parse, if_pos ⟨h1.1, h1.2.1, by omega⟩, h1.2.2, e2]
theorem parse_enc {e : Nat} (rs : List Bs) : ∀ (n f : Nat) (tail : Bs), (∀ b ∈ rs, b.length ≤ 65536) → n + rs.length ≤ 4611686018427387904 → recB e tail = false → rs.length < f → parse e f n (encR e n rs ++ tail) = rs := by
  induction rs with
  | nil =>
    intro n f tail _ _ ht hf
    obtain ⟨f, rfl⟩ : ∃ g, f = g + 1 := ⟨f - 1, by simp at hf; omega⟩
    rw [encR_nil, List.nil_append, parse, if_neg (by rw [ht]; simp)]
  | cons r rs ih =>
    intro n f tail hb hn ht hf
    obtain ⟨f, rfl⟩ : ∃ g, f = g + 1 := ⟨f - 1, by simp at hf; omega⟩
    simp only [List.length_cons] at hn hf
    have e1 : encR e n (r :: rs) ++ tail = formB e n r ++ (encR e (n + 1) rs ++ tail) := by rw [encR_cons, List.append_assoc]
    rw [e1, parse_one (hb r (by simp)) (by omega), ih (n + 1) f tail (fun b hb' => hb b (by simp [hb'])) (by omega) ht (by omega)]

def encI (i : KI) : Bs := (if i.epoch = 0 then [] else formB i.epoch ((i.next - i.recs.length : Nat) : Int) i.state) ++ encR i.epoch (i.next - i.recs.length) i.recs
structure WF (i : KI) : Prop where
  size : i.size = (encI i).length
  next : i.recs.length ≤ i.next
  zero : i.epoch = 0 → i.state = [] ∧ i.next = i.recs.length
  big : i.next ≤ 4611686018427387904
  state : i.state.length ≤ 65536
  recs : ∀ b ∈ i.recs, b.length ≤ 65536
theorem recsF_enc {e n : Nat} {rs : List Bs} {tail : Bs} (hb : ∀ b ∈ rs, b.length ≤ 65536) (hn : n + rs.length ≤ 4611686018427387904) (ht : recB e tail = false) : recsF e n (encR e n rs ++ tail) = rs := by
  refine parse_enc rs n _ tail hb hn ht ?_
  have h1 : rs.length ≤ (encR e n rs).length := by
    rw [encR_length]
    clear hb hn ht
    induction rs with
    | nil => simp
    | cons a l ih => simp only [List.length_cons, sizes]; omega
  simp; omega
theorem read_enc {k : KS} {i : KI} {tail : Bs} (he : epochF k.head = i.epoch) (ha : k.area i.epoch = encI i ++ tail) (ht : recB i.epoch tail = false) (wf : WF i) : readI k = some i := by
  obtain ⟨ep, nx, stt, rs, sz⟩ := i
  obtain ⟨w1, w2, w3, w4, w5, w6⟩ := wf
  simp only at *
  unfold readI
  simp only [he, ha]
  by_cases h0 : ep = 0
  · subst h0
    obtain ⟨z1, z2⟩ := w3 rfl
    subst z1; subst z2
    have e1 : encI ⟨0, rs.length, [], rs, sz⟩ = encR 0 0 rs := by simp [encI]
    rw [e1] at w1 ⊢
    rw [if_pos rfl, recsF_enc w6 (by omega) ht]
    rw [encR_length] at w1
    rw [w1]
  · have e1 : encI ⟨ep, nx, stt, rs, sz⟩ = formB ep ((nx - rs.length : Nat) : Int) stt ++ encR ep (nx - rs.length) rs := by simp [encI, h0]
    rw [e1] at w1 ⊢
    rw [List.append_assoc]
    have h1 := rec_form (e := ep) (n := nx - rs.length) (p := stt) (rest := encR ep (nx - rs.length) rs ++ tail) w5 (by omega)
    have e2 : (formB ep ((nx - rs.length : Nat) : Int) stt ++ (encR ep (nx - rs.length) rs ++ tail)).drop (24 + stt.length) = encR ep (nx - rs.length) rs ++ tail := dr (formB_length _ _ _)
    rw [if_neg h0, if_pos h1.1, h1.2.1, h1.2.2, e2, recsF_enc w6 (by omega) ht]
    simp only [List.length_append, formB_length, encR_length] at w1
    rw [w1, show nx - rs.length + rs.length = nx by omega]

/-! Heads. -/
def hd4 (m0 : UInt64) (s0 : Bs) (m1 : UInt64) (s1 : Bs) : Bs := be 8 m0 ++ s0 ++ (be 8 m1 ++ s1)
def ok4 (j m : UInt64) (s : Bs) : Prop := m < 4611686018427387904 ∧ m % 2 = j ∧ wordU s = tickU ((m.toNat : Nat) : Int)
instance (j m : UInt64) (s : Bs) : Decidable (ok4 j m s) := by unfold ok4; infer_instance
def ep4 (b j m : UInt64) (s : Bs) : UInt64 := if b < m ∧ ok4 j m s then m else b
theorem hd4_length {m0 m1 : UInt64} {s0 s1 : Bs} (h0 : s0.length = 8) (h1 : s1.length = 8) : (hd4 m0 s0 m1 s1).length = 32 := by simp [hd4, be_length, h0, h1]
theorem epoch_hd4 {m0 m1 : UInt64} {s0 s1 : Bs} (h0 : s0.length = 8) (h1 : s1.length = 8) : epochF (hd4 m0 s0 m1 s1) = (ep4 (ep4 0 0 m0 s0) 1 m1 s1).toNat := by
  have hl := hd4_length (m0 := m0) (m1 := m1) h0 h1
  have b0 := be_length 8 m0
  have b1 := be_length 8 m1
  have w0 : wordU (((hd4 m0 s0 m1 s1).take (0 * 16 + 8)).drop (0 * 16)) = m0 := by
    simp only [hd4, List.append_assoc]
    rw [show 0 * 16 + 8 = 8 from rfl, tk b0, show 0 * 16 = 0 from rfl, List.drop_zero, wordU_be8]
  have w1 : ((hd4 m0 s0 m1 s1).take (0 * 16 + 16)).drop (0 * 16 + 8) = s0 := by
    rw [List.drop_take]
    simp only [hd4, List.append_assoc]
    rw [show 0 * 16 + 8 = 8 from rfl, dr b0, show 0 * 16 + 16 - 8 = 8 from rfl, tk h0]
  have w2 : wordU (((hd4 m0 s0 m1 s1).take (1 * 16 + 8)).drop (1 * 16)) = m1 := by
    rw [List.drop_take]
    unfold hd4
    rw [show 1 * 16 = 16 from rfl, dr (by simp [b0, h0]), show 16 + 8 - 16 = 8 from rfl, tk b1, wordU_be8]
  have w3 : ((hd4 m0 s0 m1 s1).take (1 * 16 + 16)).drop (1 * 16 + 8) = s1 := by
    rw [List.drop_take, show hd4 m0 s0 m1 s1 = (be 8 m0 ++ s0 ++ be 8 m1) ++ s1 by simp [hd4]]
    rw [show 1 * 16 + 8 = 24 from rfl, dr (by simp [b0, h0, b1]), show 1 * 16 + 16 - 24 = 8 from rfl, List.take_of_length_le (by omega)]
  unfold epochF
  rw [hl]
  show (epLoop _ 2).toNat = _
  rw [epLoop, epLoop, epLoop]
  unfold epStep
  simp only [w0, w1, w2, w3]
  have u0 : U ((0 * 16 / 16 : Nat) : Int) = 0 := by decide
  have u1 : U ((1 * 16 / 16 : Nat) : Int) = 1 := by decide
  rw [u0, u1]
  rfl
theorem be8_small : ∀ m : Fin 256, be 8 (U ((m.val : Nat) : Int)) = List.replicate 7 0 ++ [UInt8.ofNat m.val] := by decide +kernel
theorem be8_s {m : Nat} (h : m < 256) : be 8 (U (m : Int)) = List.replicate 7 0 ++ [UInt8.ofNat m] := be8_small ⟨m, h⟩
theorem slot_part {m e q : Nat} {s t : Bs} (hm : m < 256) (he : e < 256) (hs : s.length = 8) (ht : t.length = 8) (hq : q ≤ 16) :
    ∃ (m' : Nat) (s' : Bs), m' < 256 ∧ s'.length = 8 ∧ (be 8 (U (e : Int)) ++ t).take q ++ (be 8 (U (m : Int)) ++ s).drop q = be 8 (U (m' : Int)) ++ s' ∧ (m' = m ∧ s' = s ∨ m' = e) ∧ (q = 16 → m' = e ∧ s' = t) := by
  have b0 := be_length 8 (U (e : Int))
  have b1 := be_length 8 (U (m : Int))
  by_cases h8 : q < 8
  · refine ⟨m, s, hm, hs, ?_, .inl ⟨rfl, rfl⟩, fun h => by omega⟩
    rw [List.take_append_of_le_length (by omega), List.drop_append_of_le_length (by omega), be8_s hm, be8_s he]
    rw [List.take_append_of_le_length (by simp; omega), List.drop_append_of_le_length (by simp; omega), List.take_replicate, List.drop_replicate, ← List.append_assoc, ← List.append_assoc, List.replicate_append_replicate, Nat.min_eq_left (by omega), show q + (7 - q) = 7 by omega]
  · refine ⟨e, t.take (q - 8) ++ s.drop (q - 8), he, by simp [hs, ht]; omega, ?_, .inr rfl, fun h => ⟨rfl, ?_⟩⟩
    · rw [List.take_append, List.drop_append, List.take_of_length_le (by omega : (be 8 (U (e : Int))).length ≤ q), List.drop_of_length_le (by omega : (be 8 (U (m : Int))).length ≤ q), b0, b1]
      simp
    · subst h
      rw [List.take_of_length_le (by omega), List.drop_of_length_le (by omega)]; simp
theorem wr_full : ∀ {bs xs : Bs} {at_ : Nat}, at_ + bs.length ≤ xs.length → wr xs at_ bs = xs.take at_ ++ bs ++ xs.drop (at_ + bs.length)
  | [], xs, at_, _ => by simp [wr]
  | b :: bs, xs, at_, h => by
    have hl : at_ < xs.length := by simp at h; omega
    rw [wr, if_pos hl, wr_full (by simp at h ⊢; omega)]
    simp only [List.length_cons]
    rw [List.drop_set_of_lt (by omega), show at_ + 1 + bs.length = at_ + (bs.length + 1) by omega]
    congr 1
    rw [List.take_add_one]
    rw [List.getElem?_set_self hl, List.take_set_of_le (by omega)]
    simp
theorem wr_end : ∀ {bs xs : Bs}, wr xs xs.length bs = xs ++ bs
  | [], xs => by simp [wr]
  | b :: bs, xs => by
    rw [wr, if_neg (by omega)]
    have := wr_end (bs := bs) (xs := xs ++ [b])
    simp only [List.length_append, List.length_cons, List.length_nil] at this
    rw [this]; simp

/-- a head of epoch e whose copies have small numbers -/
def HeadOk (head : Bs) (e : Nat) : Prop := (head = [] ∧ e = 0) ∨ ∃ m0 s0 m1 s1, m0 < 256 ∧ m1 < 256 ∧ s0.length = 8 ∧ s1.length = 8 ∧ head = hd4 (U ((m0 : Nat) : Int)) s0 (U ((m1 : Nat) : Int)) s1 ∧ epochF head = e
theorem HeadOk.epoch {head : Bs} {e : Nat} (h : HeadOk head e) : epochF head = e := by
  rcases h with ⟨rfl, rfl⟩ | ⟨_, _, _, _, _, _, _, _, _, h⟩
  · rfl
  · exact h
theorem HeadOk.len {head : Bs} {e : Nat} (h : HeadOk head e) : head.length = 0 ∨ head.length = 32 := by
  rcases h with ⟨rfl, rfl⟩ | ⟨_, _, _, _, _, _, h0, h1, rfl, _⟩
  · left; rfl
  · right; exact hd4_length h0 h1
theorem zero_head : HeadOk (List.replicate 32 0) 0 := .inr ⟨0, List.replicate 8 0, 0, List.replicate 8 0, by decide, by decide, by decide, by decide, by decide +kernel, by decide +kernel⟩
theorem ux_lt {a b : UInt64} : a < b ↔ a.toNat < b.toNat := UInt64.lt_iff_toNat_lt
theorem ep4_cases (b j m : UInt64) (s : Bs) : (ep4 b j m s = m ∧ b < m ∧ ok4 j m s) ∨ (ep4 b j m s = b ∧ ¬ (b < m ∧ ok4 j m s)) := by
  unfold ep4
  split
  · rename_i h; exact .inl ⟨rfl, h⟩
  · rename_i h; exact .inr ⟨rfl, h⟩
theorem par_U {e : Nat} (h : e < 256) : (U (e : Int)) % 2 = U ((e % 2 : Nat) : Int) := by
  apply UInt64.toNat_inj.1
  rw [UInt64.toNat_mod, U_toNat (by omega), U_toNat (by omega)]; rfl
/-- the copy of epoch e + 1 is written, wholly or in part -/
theorem head_write {head : Bs} {e q : Nat} (h : HeadOk head e) (hl : head.length = 32) (he : e + 1 < 256) (hq : q ≤ 16) :
    (HeadOk (wr head ((e + 1) % 2 * 16) ((copyB (e + 1)).take q)) e ∨ HeadOk (wr head ((e + 1) % 2 * 16) ((copyB (e + 1)).take q)) (e + 1)) ∧ (q = 16 → HeadOk (wr head ((e + 1) % 2 * 16) ((copyB (e + 1)).take q)) (e + 1)) := by
  rcases h with ⟨rfl, _⟩ | ⟨m0, s0, m1, s1, hm0, hm1, h0, h1, rfl, hep⟩
  · simp at hl
  have ht : (be 8 (tickU ((e + 1 : Nat) : Int))).length = 8 := be_length _ _
  have hb := be_length 8 (U ((e + 1 : Nat) : Int))
  have hcl : ((copyB (e + 1)).take q).length = q := by simp [copyB, be_length]; omega
  rw [epoch_hd4 h0 h1] at hep
  have hUe : (U ((e + 1 : Nat) : Int)).toNat = e + 1 := U_toNat (by omega)
  have u62 : (4611686018427387904 : UInt64).toNat = 4611686018427387904 := rfl
  -- the numbers of copies that count are at most e
  have key0 : ok4 0 (U ((m0 : Nat) : Int)) s0 → (U ((m0 : Nat) : Int)).toNat ≤ e := by
    intro ho
    rcases ep4_cases 0 0 (U ((m0 : Nat) : Int)) s0 with ⟨q1, _⟩ | ⟨q1, q2⟩
    · rcases ep4_cases (ep4 0 0 (U ((m0 : Nat) : Int)) s0) 1 (U ((m1 : Nat) : Int)) s1 with ⟨r1, r2, _⟩ | ⟨r1, _⟩
      · rw [q1] at r2; rw [r1] at hep; have := ux_lt.1 r2; omega
      · rw [r1, q1] at hep; omega
    · have : ¬ (0 : UInt64) < U ((m0 : Nat) : Int) := fun hlt => q2 ⟨hlt, ho⟩
      have := mt ux_lt.2 this
      simp at this
      omega
  have key1 : ok4 1 (U ((m1 : Nat) : Int)) s1 → (U ((m1 : Nat) : Int)).toNat ≤ e := by
    intro ho
    rcases ep4_cases (ep4 0 0 (U ((m0 : Nat) : Int)) s0) 1 (U ((m1 : Nat) : Int)) s1 with ⟨r1, _⟩ | ⟨r1, r2⟩
    · rw [r1] at hep; omega
    · rw [r1] at hep
      have : ¬ ep4 0 0 (U ((m0 : Nat) : Int)) s0 < U ((m1 : Nat) : Int) := fun hlt => r2 ⟨hlt, ho⟩
      have := mt ux_lt.2 this
      omega
  rcases Nat.mod_two_eq_zero_or_one (e + 1) with hp | hp
  · -- the first copy
    obtain ⟨m', s', hm', hs', hpart, hwhat, hall⟩ := slot_part (q := q) hm0 he h0 ht hq
    have hw : wr (hd4 (U ((m0 : Nat) : Int)) s0 (U ((m1 : Nat) : Int)) s1) ((e + 1) % 2 * 16) ((copyB (e + 1)).take q) = hd4 (U ((m' : Nat) : Int)) s' (U ((m1 : Nat) : Int)) s1 := by
      rw [wr_full (by rw [hcl, hp, hd4_length h0 h1]; omega), hp, hcl]
      simp only [Nat.zero_mul, List.take_zero, List.nil_append, Nat.zero_add]
      unfold hd4
      rw [List.drop_append_of_le_length (by simp [be_length, h0]; omega), ← List.append_assoc, copyB, hpart]
    rw [hw]
    have hq16 : q = 16 → epochF (hd4 (U ((m' : Nat) : Int)) s' (U ((m1 : Nat) : Int)) s1) = e + 1 := by
      intro h16
      obtain ⟨rfl, rfl⟩ := hall h16
      rw [epoch_hd4 ht h1]
      have o0 : ok4 0 (U ((e + 1 : Nat) : Int)) (be 8 (tickU ((e + 1 : Nat) : Int))) := ⟨ux_lt.2 (by rw [hUe, u62]; omega), by rw [par_U he, hp]; rfl, by rw [wordU_be8, hUe]⟩
      have e0 : ep4 0 0 (U ((e + 1 : Nat) : Int)) (be 8 (tickU ((e + 1 : Nat) : Int))) = U ((e + 1 : Nat) : Int) := if_pos ⟨ux_lt.2 (by rw [hUe]; simp), o0⟩
      rw [e0]
      rcases ep4_cases (U ((e + 1 : Nat) : Int)) 1 (U ((m1 : Nat) : Int)) s1 with ⟨_, r2, r3⟩ | ⟨r1, _⟩
      · have := key1 r3; have := ux_lt.1 r2; omega
      · rw [r1, hUe]
    refine ⟨?_, fun h16 => .inr ⟨m', s', m1, s1, hm', hm1, hs', h1, rfl, hq16 h16⟩⟩
    by_cases ho : ok4 0 (U ((m' : Nat) : Int)) s' ∧ m' = e + 1
    · right
      refine .inr ⟨m', s', m1, s1, hm', hm1, hs', h1, rfl, ?_⟩
      obtain ⟨ho, rfl⟩ := ho
      rw [epoch_hd4 hs' h1]
      have e0 : ep4 0 0 (U ((e + 1 : Nat) : Int)) s' = U ((e + 1 : Nat) : Int) := if_pos ⟨ux_lt.2 (by rw [hUe]; simp), ho⟩
      rw [e0]
      rcases ep4_cases (U ((e + 1 : Nat) : Int)) 1 (U ((m1 : Nat) : Int)) s1 with ⟨_, r2, r3⟩ | ⟨r1, _⟩
      · have := key1 r3; have := ux_lt.1 r2; omega
      · rw [r1, hUe]
    · left
      refine .inr ⟨m', s', m1, s1, hm', hm1, hs', h1, rfl, ?_⟩
      rw [epoch_hd4 hs' h1]
      rcases hwhat with ⟨rfl, rfl⟩ | rfl
      · exact hep
      · have hno : ¬ ok4 0 (U ((e + 1 : Nat) : Int)) s' := fun h => ho ⟨h, rfl⟩
        have e0 : ep4 0 0 (U ((e + 1 : Nat) : Int)) s' = 0 := if_neg fun h => hno h.2
        rw [e0]
        -- the second copy was e, or nothing was
        rcases ep4_cases (ep4 0 0 (U ((m0 : Nat) : Int)) s0) 1 (U ((m1 : Nat) : Int)) s1 with ⟨r1, r2, r3⟩ | ⟨r1, r2⟩
        · rw [r1] at hep
          have : ep4 0 1 (U ((m1 : Nat) : Int)) s1 = U ((m1 : Nat) : Int) := if_pos ⟨ux_lt.2 (by have := ux_lt.1 r2; simp; omega), r3⟩
          rw [this]; exact hep
        · rw [r1] at hep
          have h00 : ep4 0 0 (U ((m0 : Nat) : Int)) s0 = 0 := by
            rcases ep4_cases 0 0 (U ((m0 : Nat) : Int)) s0 with ⟨q1, q2, q3⟩ | ⟨q1, _⟩
            · exfalso
              have h2 := q3.2.1
              rw [par_U hm0] at h2
              rw [q1, U_toNat (by omega)] at hep
              have : m0 % 2 = 0 := by
                have := congrArg UInt64.toNat h2
                rw [U_toNat (by omega)] at this
                exact this
              omega
            · exact q1
          rw [h00] at hep r2
          have : ep4 0 1 (U ((m1 : Nat) : Int)) s1 = 0 := if_neg r2
          rw [this]; exact hep
  · -- the second copy
    obtain ⟨m', s', hm', hs', hpart, hwhat, hall⟩ := slot_part (q := q) hm1 he h1 ht hq
    have hw : wr (hd4 (U ((m0 : Nat) : Int)) s0 (U ((m1 : Nat) : Int)) s1) ((e + 1) % 2 * 16) ((copyB (e + 1)).take q) = hd4 (U ((m0 : Nat) : Int)) s0 (U ((m' : Nat) : Int)) s' := by
      rw [wr_full (by rw [hcl, hp, hd4_length h0 h1]; omega), hp, hcl]
      have hsl : (be 8 (U ((m0 : Nat) : Int)) ++ s0).length = 16 := by simp [be_length, h0]
      unfold hd4
      rw [show 1 * 16 = 16 from rfl, tk hsl, List.append_assoc]
      congr 1
      rw [← List.drop_drop, dr hsl, copyB, hpart]
    rw [hw]
    have hq16 : q = 16 → epochF (hd4 (U ((m0 : Nat) : Int)) s0 (U ((m' : Nat) : Int)) s') = e + 1 := by
      intro h16
      obtain ⟨rfl, rfl⟩ := hall h16
      rw [epoch_hd4 h0 ht]
      have o1 : ok4 1 (U ((e + 1 : Nat) : Int)) (be 8 (tickU ((e + 1 : Nat) : Int))) := ⟨ux_lt.2 (by rw [hUe, u62]; omega), by rw [par_U he, hp]; rfl, by rw [wordU_be8, hUe]⟩
      have hb0 : ep4 0 0 (U ((m0 : Nat) : Int)) s0 < U ((e + 1 : Nat) : Int) := by
        rcases ep4_cases 0 0 (U ((m0 : Nat) : Int)) s0 with ⟨q1, _, q3⟩ | ⟨q1, _⟩
        · rw [q1]; have := key0 q3; exact ux_lt.2 (by omega)
        · rw [q1]; exact ux_lt.2 (by rw [hUe]; simp)
      rw [show ep4 (ep4 0 0 (U ((m0 : Nat) : Int)) s0) 1 (U ((e + 1 : Nat) : Int)) (be 8 (tickU ((e + 1 : Nat) : Int))) = U ((e + 1 : Nat) : Int) from if_pos ⟨hb0, o1⟩, hUe]
    refine ⟨?_, fun h16 => .inr ⟨m0, s0, m', s', hm0, hm', h0, hs', rfl, hq16 h16⟩⟩
    by_cases ho : ok4 1 (U ((m' : Nat) : Int)) s' ∧ m' = e + 1
    · right
      refine .inr ⟨m0, s0, m', s', hm0, hm', h0, hs', rfl, ?_⟩
      obtain ⟨ho, rfl⟩ := ho
      rw [epoch_hd4 h0 hs']
      have hb0 : ep4 0 0 (U ((m0 : Nat) : Int)) s0 < U ((e + 1 : Nat) : Int) := by
        rcases ep4_cases 0 0 (U ((m0 : Nat) : Int)) s0 with ⟨q1, _, q3⟩ | ⟨q1, _⟩
        · rw [q1]; have := key0 q3; exact ux_lt.2 (by omega)
        · rw [q1]; exact ux_lt.2 (by rw [hUe]; simp)
      rw [show ep4 (ep4 0 0 (U ((m0 : Nat) : Int)) s0) 1 (U ((e + 1 : Nat) : Int)) s' = U ((e + 1 : Nat) : Int) from if_pos ⟨hb0, ho⟩, hUe]
    · left
      refine .inr ⟨m0, s0, m', s', hm0, hm', h0, hs', rfl, ?_⟩
      rw [epoch_hd4 h0 hs']
      rcases hwhat with ⟨rfl, rfl⟩ | rfl
      · exact hep
      · have hno : ¬ ok4 1 (U ((e + 1 : Nat) : Int)) s' := fun h => ho ⟨h, rfl⟩
        rw [show ep4 (ep4 0 0 (U ((m0 : Nat) : Int)) s0) 1 (U ((e + 1 : Nat) : Int)) s' = ep4 0 0 (U ((m0 : Nat) : Int)) s0 from if_neg fun h => hno h.2]
        rcases ep4_cases (ep4 0 0 (U ((m0 : Nat) : Int)) s0) 1 (U ((m1 : Nat) : Int)) s1 with ⟨r1, r2, r3⟩ | ⟨r1, _⟩
        · exfalso
          have h2 := r3.2.1
          rw [par_U hm1] at h2
          rw [r1, U_toNat (by omega)] at hep
          have : m1 % 2 = 1 := by
            have := congrArg UInt64.toNat h2
            rw [U_toNat (by omega)] at this
            exact this
          omega
        · rw [r1] at hep; exact hep
end Go.Jn
