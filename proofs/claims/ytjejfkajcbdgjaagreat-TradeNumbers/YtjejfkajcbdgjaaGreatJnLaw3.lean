/-
 Images and heads: what is read of an area that was written, which epoch a head has. Own work; plain Lean.
-/
import Derived.Test.YtjejfkajcbdgjaaGreatJnLaw2
namespace Go.Jn
open Go.Sl

def encR (e : Nat) : Nat → List Bs → Bs
 | _, [] => []
 | n, r :: rs => formB e n r ++ encR e (n + 1) rs
theorem encR_nil (e n : Nat) : encR e n [] = [] := by rw [encR]
theorem encR_cons (e n : Nat) (r : Bs) (rs : List Bs) : encR e n (r :: rs) = formB e n r ++ encR e (n + 1) rs := by rw [encR]
theorem encR_length (e : Nat) (rs : List Bs) : ∀ n : Nat, (encR e n rs).length = sizes rs := by
 induction rs with
 | nil => intro n; rw [encR_nil, sizes]; rfl
 | cons r rs ih => intro n; rw [encR_cons, List.length_append, formB_length, ih (n + 1), sizes]
theorem encR_snoc (e : Nat) (b : Bs) (rs : List Bs) : ∀ n : Nat, encR e n (rs ++ [b]) = encR e n rs ++ formB e ((n + rs.length : Nat) : Int) b := by
 induction rs with
 | nil => intro n; rw [List.nil_append, encR_cons, encR_nil, encR_nil, List.append_nil, List.nil_append, List.length_nil, Nat.add_zero]
 | cons r rs ih => intro n; rw [List.cons_append, encR_cons, ih (n + 1), encR_cons, List.append_assoc, List.length_cons, show n + 1 + rs.length = n + (rs.length + 1) by omega]
theorem parse_one {e n f : Nat} {r tail : Bs} (hr : r.length ≤ 65536) (hn : n < 4611686018427387904) : parse e (f + 1) n (formB e n r ++ tail) = r :: parse e f (n + 1) tail := by
 have h1 := rec_form (e := e) (n := n) (p := r) (rest := tail) hr (by omega)
 have e2 : (formB e n r ++ tail).drop (24 + r.length) = tail := dr (formB_length _ _ _)
 rw [parse, if_pos ⟨h1.1, h1.2.1, by omega⟩, h1.2.2, e2]
theorem parse_enc {e : Nat} (rs : List Bs) : ∀ (n f : Nat) (tail : Bs), (∀ b ∈ rs, b.length ≤ 65536) → n + rs.length ≤ 4611686018427387904 → recB e tail = false → rs.length < f → parse e f n (encR e n rs ++ tail) = rs := by
 induction rs with
 | nil =>
  intro n f tail _ _ ht hf
  obtain ⟨f, rfl⟩ : ∃ g, f = g + 1 := ⟨f - 1, by simp at hf; omega⟩
  rw [encR_nil, List.nil_append, parse, if_neg (by rw [ht]; simp)]
 | cons r rs ih =>
  intro n f tail hb hn ht hf
  obtain ⟨f, rfl⟩ : ∃ g, f = g + 1 := ⟨f - 1, by simp at hf; omega⟩
  simp only [List.length_cons] at hn hf
  have e1 : encR e n (r :: rs) ++ tail = formB e n r ++ (encR e (n + 1) rs ++ tail) := by rw [encR_cons, List.append_assoc]
  rw [e1, parse_one (hb r (by simp)) (by omega), ih (n + 1) f tail (fun b hb' => hb b (by simp [hb'])) (by omega) ht (by omega)]

def encI (i : KI) : Bs := (if i.epoch = 0 then [] else formB i.epoch ((i.next - i.recs.length : Nat) : Int) i.state) ++ encR i.epoch (i.next - i.recs.length) i.recs
structure WF (i : KI) : Prop where
 size : i.size = (encI i).length
 next : i.recs.length ≤ i.next
 zero : i.epoch = 0 → i.state = [] ∧ i.next = i.recs.length
 big : i.next ≤ 4611686018427387904
 state : i.state.length ≤ 65536
 recs : ∀ b ∈ i.recs, b.length ≤ 65536
theorem recsF_enc {e n : Nat} {rs : List Bs} {tail : Bs} (hb : ∀ b ∈ rs, b.length ≤ 65536) (hn : n + rs.length ≤ 4611686018427387904) (ht : recB e tail = false) : recsF e n (encR e n rs ++ tail) = rs := by
 refine parse_enc rs n _ tail hb hn ht ?_
 have h1 : rs.length ≤ (encR e n rs).length := by
  rw [encR_length]
  clear hb hn ht
  induction rs with
  | nil => simp
  | cons a l ih => simp only [List.length_cons, sizes]; omega
 simp; omega
theorem read_enc {k : KS} {i : KI} {tail : Bs} (he : epochF k.head = i.epoch) (ha : k.area i.epoch = encI i ++ tail) (ht : recB i.epoch tail = false) (wf : WF i) : readI k = some i := by
 obtain ⟨ep, nx, stt, rs, sz⟩ := i
 obtain ⟨w1, w2, w3, w4, w5, w6⟩ := wf
 simp only at *
 unfold readI
 simp only [he, ha]
 by_cases h0 : ep = 0
 ·subst h0
  obtain ⟨z1, z2⟩ := w3 rfl
  subst z1; subst z2
  have e1 : encI ⟨0, rs.length, [], rs, sz⟩ = encR 0 0 rs := by simp [encI]
  rw [e1] at w1 ⊢
  rw [if_pos rfl, recsF_enc w6 (by omega) ht]
  rw [encR_length] at w1
  rw [w1]
 ·have e1 : encI ⟨ep, nx, stt, rs, sz⟩ = formB ep ((nx - rs.length : Nat) : Int) stt ++ encR ep (nx - rs.length) rs := by simp [encI, h0]
  rw [e1] at w1 ⊢
  rw [List.append_assoc]
  have h1 := rec_form (e := ep) (n := nx - rs.length) (p := stt) (rest := encR ep (nx - rs.length) rs ++ tail) w5 (by omega)
  have e2 : (formB ep ((nx - rs.length : Nat) : Int) stt ++ (encR ep (nx - rs.length) rs ++ tail)).drop (24 + stt.length) = encR ep (nx - rs.length) rs ++ tail := dr (formB_length _ _ _)
  rw [if_neg h0, if_pos h1.1, h1.2.1, h1.2.2, e2, recsF_enc w6 (by omega) ht]
  simp only [List.length_append, formB_length, encR_length] at w1
  rw [w1, show nx - rs.length + rs.length = nx by omega]

/-! Heads. -/
def hd4 (m0 : UInt64) (s0 : Bs) (m1 : UInt64) (s1 : Bs) : Bs := be 8 m0 ++ s0 ++ (be 8 m1 ++ s1)
def ok4 (j m : UInt64) (s : Bs) : Prop := m < 4611686018427387904 ∧ m % 2 = j ∧ wordU s = tickU ((m.toNat : Nat) : Int)
instance (j m : UInt64) (s : Bs) : Decidable (ok4 j m s) := by unfold ok4; infer_instance
theorem hd4_length {m0 m1 : UInt64} {s0 s1 : Bs} (h0 : s0.length = 8) (h1 : s1.length = 8) : (hd4 m0 s0 m1 s1).length = 32 := by simp [hd4, be_length, h0, h1]
theorem wr_end : ∀ {bs xs : Bs}, wr xs xs.length bs = xs ++ bs
 | [], xs => by simp [wr]
 | b :: bs, xs => by
  rw [wr, if_neg (by omega)]
  have := wr_end (bs := bs) (xs := xs ++ [b])
  simp only [List.length_append, List.length_cons, List.length_nil] at this
  rw [this]; simp

/-- a head of epoch e whose copies have small numbers -/
def HeadOk (head : Bs) (e : Nat) : Prop := (head = [] ∧ e = 0) ∨ ∃ m0 s0 m1 s1, m0 < 256 ∧ m1 < 256 ∧ s0.length = 8 ∧ s1.length = 8 ∧ head = hd4 (U ((m0 : Nat) : Int)) s0 (U ((m1 : Nat) : Int)) s1 ∧ epochF head = e
theorem HeadOk.epoch {head : Bs} {e : Nat} (h : HeadOk head e) : epochF head = e := by
 rcases h with ⟨rfl, rfl⟩ | ⟨_, _, _, _, _, _, _, _, _, h⟩
 ·rfl
 ·exact h
theorem HeadOk.len {head : Bs} {e : Nat} (h : HeadOk head e) : head.length = 0 ∨ head.length = 32 := by
 rcases h with ⟨rfl, rfl⟩ | ⟨_, _, _, _, _, _, h0, h1, rfl, _⟩
 ·left; rfl
 ·right; exact hd4_length h0 h1
end Go.Jn
