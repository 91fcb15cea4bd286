/-
  What a store holds, step by step. Own work; plain Lean.
-/
import Derived.Test.YtkpdcajddpiknaaJnLaw3
namespace Go.Jn
open Go.Sl

theorem area_set (k : KS) (e : Nat) (xs : Bs) : (k.setArea e xs).area e = xs := by
  unfold KS.setArea KS.area
  split <;> rfl
theorem area_set_ne (k : KS) {e e' : Nat} (h : e % 2 ≠ e' % 2) (xs : Bs) : (k.setArea e xs).area e' = k.area e' := by
  unfold KS.setArea KS.area
  by_cases h1 : e % 2 = 0
  · rw [if_pos h1, if_neg (by omega), if_neg (by omega)]
  · rw [if_neg h1, if_pos (by omega), if_pos (by omega)]
theorem area_pow (k : KS) (e : Nat) (p : Int) : ({ k with power := p } : KS).area e = k.area e := rfl
theorem set_head (k : KS) (e : Nat) (xs : Bs) : (k.setArea e xs).head = k.head := by unfold KS.setArea; split <;> rfl
theorem area_both {P : Bs → Prop} {k : KS} (ha : P k.a) (hb : P k.b) (e : Nat) : P (k.area e) := by unfold KS.area; split <;> assumption

structure Inv (k : KS) (i : KI) (N : Nat) (x : Bool) : Prop where
  head : HeadOk k.head i.epoch
  area : ∃ tail, k.area i.epoch = encI i ++ tail ∧ recB i.epoch tail = false ∧ (x = true → tail = [])
  wf : WF i
  eN : i.epoch ≤ N
  nN : i.next ≤ N
  sz : i.size ≤ 324 * (N + 1)
  la : (k.area 0).length ≤ 324 * (N + 2)
  lb : (k.area 1).length ≤ 324 * (N + 2)
  st : i.state.length ≤ 300
  rs : ∀ b ∈ i.recs, b.length ≤ 300
  pw : -1 ≤ k.power ∧ k.power ≤ 255

theorem Inv.mono {k : KS} {i : KI} {N M : Nat} {x : Bool} (h : Inv k i N x) (hM : N ≤ M) : Inv k i M x :=
  ⟨h.head, h.area, h.wf, by have := h.eN; omega, by have := h.nN; omega, by have := h.sz; omega, by have := h.la; omega, by have := h.lb; omega, h.st, h.rs, h.pw⟩
theorem Inv.weak {k : KS} {i : KI} {N : Nat} (h : Inv k i N true) : Inv k i N false :=
  ⟨h.head, let ⟨t, a, b, _⟩ := h.area; ⟨t, a, b, fun e => by cases e⟩, h.wf, h.eN, h.nN, h.sz, h.la, h.lb, h.st, h.rs, h.pw⟩
theorem Inv.any {k : KS} {i : KI} {N : Nat} {x : Bool} (h : Inv k i N x) : Inv k i N false := by cases x; exact h; exact h.weak
theorem Inv.pow {k : KS} {i : KI} {N : Nat} {x : Bool} (h : Inv k i N x) {p : Int} (h1 : -1 ≤ p) (h2 : p ≤ 255) : Inv { k with power := p } i N x :=
  ⟨h.head, h.area, h.wf, h.eN, h.nN, h.sz, h.la, h.lb, h.st, h.rs, h1, h2⟩
theorem Inv.exact {k : KS} {i : KI} {N : Nat} (h : Inv k i N true) : k.area i.epoch = encI i := by
  obtain ⟨t, a, _, c⟩ := h.area
  rw [a, c rfl, List.append_nil]
theorem Inv.lens {k : KS} {i : KI} {N : Nat} {x : Bool} (h : Inv k i N x) : k.a.length ≤ 324 * (N + 2) ∧ k.b.length ≤ 324 * (N + 2) := ⟨h.la, h.lb⟩
theorem Inv.fits {k : KS} {i : KI} {N : Nat} {x : Bool} (h : Inv k i N x) (hN : N ≤ 100) : k.fits 524288 := by
  have h1 := h.lens
  have h2 := h.head.len
  exact ⟨by omega, by omega, by omega, by have := h.pw; omega⟩
theorem Inv.okP {k : KS} {i : KI} {N : Nat} {x : Bool} (h : Inv k i N x) (hN : N ≤ 100) : k.okP := by
  have h1 := h.lens
  have h2 := h.head.len
  exact ⟨h2, by omega, by omega, h.pw.1⟩
theorem Inv.read {k : KS} {i : KI} {N : Nat} {x : Bool} (h : Inv k i N x) : readI k = some i := by
  obtain ⟨t, a, b, _⟩ := h.area
  exact read_enc h.head.epoch a b h.wf
theorem cut_pow {k : KS} {e size : Nat} (hp : k.power ≠ 0) : (cutS k e size).area e = (k.area e).take size := by
  unfold cutS
  rw [area_pow, area_set, cutA, if_neg hp]
/-- opened with enough power -/
theorem Inv.cut {k : KS} {i : KI} {N : Nat} {x : Bool} (h : Inv k i N x) (hp : k.power ≠ 0) : Inv (cutS k i.epoch i.size) i N true := by
  obtain ⟨t, a, b, _⟩ := h.area
  have e1 : (cutS k i.epoch i.size).area i.epoch = encI i := by
    rw [cut_pow hp, a, h.wf.size, List.take_left']
    rfl
  have hle : ∀ e, ((cutS k i.epoch i.size).area e).length ≤ 324 * (N + 2) := by
    have h1 : ∀ xs : Bs, xs.length ≤ 324 * (N + 2) → (cutA xs k.power i.size).length ≤ 324 * (N + 2) := fun xs hx => by
      unfold cutA; split
      · exact hx
      · simp; omega
    intro e
    by_cases he : i.epoch % 2 = e % 2
    · have e2 : (cutS k i.epoch i.size).area e = (cutS k i.epoch i.size).area i.epoch := by unfold KS.area; rw [he]
      rw [e2]
      unfold cutS
      rw [area_pow, area_set]
      exact h1 _ (area_both (P := fun z => z.length ≤ _) h.la h.lb _)
    · unfold cutS
      rw [area_pow, area_set_ne _ he]
      exact area_both (P := fun z => z.length ≤ _) h.la h.lb _
  refine ⟨?_, ⟨[], by rw [e1, List.append_nil], rec_nil _, fun _ => rfl⟩, h.wf, h.eN, h.nN, h.sz, hle 0, hle 1, h.st, h.rs, ?_⟩
  · show HeadOk (k.setArea _ _).head _
    rw [set_head]; exact h.head
  · show -1 ≤ cutP _ _ _ ∧ cutP _ _ _ ≤ 255
    have := h.pw
    unfold cutP spendP
    split <;> (try split) <;> omega
theorem pl_bounds {p : Int} {m : Nat} (h : -1 ≤ p ∧ p ≤ 255) : -1 ≤ pl p m ∧ pl p m ≤ 255 := by unfold pl; split <;> omega

theorem enc_ap {i : KI} {bs : Bs} (wf : WF i) : encI (apI i bs) = encI i ++ formB i.epoch i.next bs := by
  have h1 : (apI i bs).next - (apI i bs).recs.length = i.next - i.recs.length := by simp [apI]
  have h2 := encR_snoc i.epoch bs i.recs (i.next - i.recs.length)
  have h3 : i.next - i.recs.length + i.recs.length = i.next := by have := wf.next; omega
  rw [h3] at h2
  unfold encI
  rw [h1]
  show _ ++ encR i.epoch _ (i.recs ++ [bs]) = _
  rw [h2, List.append_assoc]
  rfl
theorem wf_ap {i : KI} {bs : Bs} (wf : WF i) (hn : i.next < 4611686018427387904) (hb : bs.length ≤ 300) : WF (apI i bs) := by
  refine ⟨?_, ?_, fun h => ?_, ?_, wf.state, ?_⟩
  · rw [enc_ap wf, List.length_append, ← wf.size]; rfl
  · have := wf.next; simp [apI]; omega
  · have := wf.zero h; simp [apI]; exact this
  · show i.next + 1 ≤ _; omega
  · intro b hb'
    rcases List.mem_append.1 hb' with h | h
    · exact wf.recs b h
    · simp at h; subst h; omega
theorem ap_area {k : KS} {i : KI} {bs : Bs} (ha : k.area i.epoch = encI i) (wf : WF i) : (apS k i bs).area i.epoch = encI i ++ (formB i.epoch i.next bs).take (Jn.pw k.power (formB i.epoch i.next bs).length) := by
  unfold apS wrS
  rw [area_pow, area_set, wrA, ha, wf.size, wr_end]
theorem Inv.apLen {k : KS} {i : KI} {N : Nat} {bs : Bs} (h : Inv k i N true) (hb : bs.length ≤ 300) (e : Nat) : ((apS k i bs).area e).length ≤ 324 * (N + 1 + 2) := by
  have hl := formB_length i.epoch i.next bs
  by_cases he : i.epoch % 2 = e % 2
  · have e2 : (apS k i bs).area e = (apS k i bs).area i.epoch := by unfold KS.area; rw [he]
    rw [e2, ap_area h.exact h.wf, List.length_append, ← h.wf.size]
    have := h.sz
    simp; omega
  · unfold apS wrS
    rw [area_pow, area_set_ne _ he]
    have := area_both (P := fun z => z.length ≤ _) h.la h.lb e
    omega
theorem Inv.ap_ok {k : KS} {i : KI} {N : Nat} {bs : Bs} (h : Inv k i N true) (hN : N ≤ 100) (hb : bs.length ≤ 300) (hok : apOk k i bs) : Inv (apS k i bs) (apI i bs) (N + 1) true := by
  have hl := formB_length i.epoch i.next bs
  refine ⟨?_, ⟨[], ?_, rec_nil _, fun _ => rfl⟩, wf_ap h.wf (by have := h.nN; omega) hb, by have := h.eN; show i.epoch ≤ _; omega, by have := h.nN; show i.next + 1 ≤ _; omega, ?_, h.apLen hb 0, h.apLen hb 1, h.st, ?_, pl_bounds h.pw⟩
  · show HeadOk (k.setArea _ _).head _
    rw [set_head]; exact h.head
  · rw [List.append_nil, enc_ap h.wf]
    show (apS k i bs).area i.epoch = _
    rw [ap_area h.exact h.wf]
    have : Jn.pw k.power (formB i.epoch i.next bs).length = (formB i.epoch i.next bs).length := hok
    rw [this, List.take_length]
  · have := h.sz; show i.size + _ ≤ _; omega
  · intro b hb'
    rcases List.mem_append.1 hb' with h' | h'
    · exact h.rs b h'
    · simp at h'; subst h'; exact hb
theorem Inv.ap_no {k : KS} {i : KI} {N : Nat} {bs : Bs} (h : Inv k i N true) (hb : bs.length ≤ 300) (hok : ¬ apOk k i bs) : Inv (apS k i bs) i (N + 1) false := by
  have hl := formB_length i.epoch i.next bs
  refine ⟨?_, ⟨_, ap_area h.exact h.wf, ?_, fun e => by cases e⟩, h.wf, by have := h.eN; omega, by have := h.nN; omega, by have := h.sz; omega, h.apLen hb 0, h.apLen hb 1, h.st, h.rs, pl_bounds h.pw⟩
  · show HeadOk (k.setArea _ _).head _
    rw [set_head]; exact h.head
  · refine rec_torn (by omega) ?_
    have h1 : Jn.pw k.power (formB i.epoch i.next bs).length ≠ (formB i.epoch i.next bs).length := hok
    have h2 : Jn.pw k.power (formB i.epoch i.next bs).length ≤ (formB i.epoch i.next bs).length := by unfold Jn.pw; split <;> omega
    omega

/-! Checkpoints. -/
theorem ck1_area {k : KS} {e : Nat} (h : ckOk1 k e) : (ck1 k e).area e = [] := by
  unfold ck1 cutS
  rw [area_pow, area_set, cutA]
  split
  · rename_i hp
    rcases h with h | h
    · exact List.eq_nil_of_length_eq_zero (by omega)
    · exact absurd hp h
  · simp
theorem ck1_other {k : KS} {e e' : Nat} (h : e % 2 ≠ e' % 2) : (ck1 k e).area e' = k.area e' := by
  unfold ck1 cutS
  rw [area_pow, area_set_ne _ h]
theorem ck1_head (k : KS) (e : Nat) : (ck1 k e).head = k.head := by
  show (k.setArea _ _).head = _
  rw [set_head]
theorem ck2_area {k : KS} {e n : Nat} {bs : Bs} (h : ckOk1 k e) : (ck2 k e n bs).area e = (formB e n bs).take (Jn.pw (ck1 k e).power (formB e n bs).length) := by
  unfold ck2 wrS
  rw [area_pow, area_set, wrA, ck1_area h]
  have := wr_end (bs := (formB e n bs).take (Jn.pw (ck1 k e).power (formB e n bs).length)) (xs := [])
  simpa using this
theorem ck2_other {k : KS} {e e' n : Nat} {bs : Bs} (h : e % 2 ≠ e' % 2) : (ck2 k e n bs).area e' = k.area e' := by
  unfold ck2 wrS
  rw [area_pow, area_set_ne _ h, ck1_other h]
theorem ck2_head (k : KS) (e n : Nat) (bs : Bs) : (ck2 k e n bs).head = k.head := by
  show ((ck1 k e).setArea _ _).head = _
  rw [set_head, ck1_head]
theorem ck3_area (k : KS) (e n : Nat) (bs : Bs) (e' : Nat) : (ck3 k e n bs).area e' = (ck2 k e n bs).area e' := by
  unfold ck3; simp only; split <;> rfl
theorem ck4_area (k : KS) (e n : Nat) (bs : Bs) (e' : Nat) : (ck4 k e n bs).area e' = (ck2 k e n bs).area e' := by
  rw [← ck3_area]; rfl
theorem ck_pows {k : KS} {e n : Nat} {bs : Bs} (h : -1 ≤ k.power ∧ k.power ≤ 255) : (-1 ≤ (ck1 k e).power ∧ (ck1 k e).power ≤ 255) ∧ (-1 ≤ (ck2 k e n bs).power ∧ (ck2 k e n bs).power ≤ 255) ∧ (-1 ≤ (ck4 k e n bs).power ∧ (ck4 k e n bs).power ≤ 255) := by
  have h1 : -1 ≤ (ck1 k e).power ∧ (ck1 k e).power ≤ 255 := by
    show -1 ≤ cutP _ _ _ ∧ cutP _ _ _ ≤ 255
    unfold cutP spendP
    split <;> (try split) <;> omega
  have h2 : -1 ≤ (ck2 k e n bs).power ∧ (ck2 k e n bs).power ≤ 255 := pl_bounds h1
  have h3 : (ck3 k e n bs).power = (ck2 k e n bs).power := by unfold ck3; simp only; split <;> rfl
  exact ⟨h1, h2, by show -1 ≤ pl (ck3 k e n bs).power _ ∧ pl (ck3 k e n bs).power _ ≤ 255; rw [h3]; exact pl_bounds h2⟩
theorem wf_ck {i : KI} {bs : Bs} (wf : WF i) (hb : bs.length ≤ 300) : WF (ckI i bs) := by
  refine ⟨?_, by simp [ckI], fun h => by simp [ckI] at h, wf.big, by show bs.length ≤ _; omega, fun b h => by simp [ckI] at h⟩
  unfold encI
  rw [if_neg (by simp [ckI])]
  show 24 + bs.length = _
  rw [List.length_append, formB_length, encR_length]
  simp [ckI, sizes]
theorem enc_ck (i : KI) (bs : Bs) : encI (ckI i bs) = formB ((i.epoch + 1 : Nat) : Int) i.next bs := by
  unfold encI
  rw [if_neg (by simp [ckI])]
  show formB ((i.epoch + 1 : Nat) : Int) ((i.next - 0 : Nat) : Int) bs ++ encR (i.epoch + 1) _ [] = _
  rw [encR_nil, List.append_nil, Nat.sub_zero]
theorem Inv.ckLen {k : KS} {i : KI} {N : Nat} {bs : Bs} (h : Inv k i N true) (hb : bs.length ≤ 300) (h1 : ckOk1 k (i.epoch + 1)) (e : Nat) : ((ck2 k (i.epoch + 1) i.next bs).area e).length ≤ 324 * (N + 1 + 2) := by
  have hl := formB_length ((i.epoch + 1 : Nat) : Int) i.next bs
  by_cases he : (i.epoch + 1) % 2 = e % 2
  · have e2 : (ck2 k (i.epoch + 1) i.next bs).area e = (ck2 k (i.epoch + 1) i.next bs).area (i.epoch + 1) := by unfold KS.area; rw [he]
    rw [e2, ck2_area h1, List.length_take]
    omega
  · rw [ck2_other he]
    have := area_both (P := fun z => z.length ≤ _) h.la h.lb e
    omega
theorem Inv.ck3head {k : KS} {i : KI} {N : Nat} {bs : Bs} (h : Inv k i N true) : HeadOk (ck3 k (i.epoch + 1) i.next bs).head i.epoch ∧ (ck3 k (i.epoch + 1) i.next bs).head.length = 32 := by
  have e1 := ck2_head k (i.epoch + 1) i.next bs
  by_cases h0 : (ck2 k (i.epoch + 1) i.next bs).head.length = 0
  · have e2 : (ck3 k (i.epoch + 1) i.next bs).head = List.replicate 32 0 := by unfold ck3; simp only; rw [if_pos h0]
    have e3 : i.epoch = 0 := by
      rcases h.head with ⟨_, h2⟩ | ⟨_, _, _, _, _, _, a, b, c, _⟩
      · exact h2
      · rw [e1, c, hd4_length a b] at h0; omega
    rw [e2, e3]
    exact ⟨zero_head, by simp⟩
  · have e2 : (ck3 k (i.epoch + 1) i.next bs).head = k.head := by unfold ck3; simp only; rw [if_neg h0, e1]
    rw [e2]
    refine ⟨h.head, ?_⟩
    rcases h.head.len with h3 | h3
    · rw [e1] at h0; omega
    · exact h3
theorem Inv.ck_base {k k' : KS} {i : KI} {N : Nat} {bs : Bs} (h : Inv k i N true) (hb : bs.length ≤ 300) (h1 : ckOk1 k (i.epoch + 1)) (hk : ∀ e, k'.area e = (ck2 k (i.epoch + 1) i.next bs).area e) (hh : HeadOk k'.head i.epoch) (hp : -1 ≤ k'.power ∧ k'.power ≤ 255) : Inv k' i (N + 1) false :=
  ⟨hh, ⟨[], by rw [hk, ck2_other (by omega), h.exact, List.append_nil], rec_nil _, fun e => by cases e⟩, h.wf, by have := h.eN; omega, by have := h.nN; omega, by have := h.sz; omega, by rw [hk]; exact h.ckLen hb h1 0, by rw [hk]; exact h.ckLen hb h1 1, h.st, h.rs, hp⟩
theorem Inv.ck_new {k k' : KS} {i : KI} {N : Nat} {bs : Bs} (h : Inv k i N true) (hN : N ≤ 100) (hb : bs.length ≤ 300) (h1 : ckOk1 k (i.epoch + 1)) (h2 : ckOk2 k (i.epoch + 1) i.next bs) (hk : ∀ e, k'.area e = (ck2 k (i.epoch + 1) i.next bs).area e) (hh : HeadOk k'.head (i.epoch + 1)) (hp : -1 ≤ k'.power ∧ k'.power ≤ 255) : Inv k' (ckI i bs) (N + 1) true := by
  have e1 : k'.area (i.epoch + 1) = encI (ckI i bs) := by
    rw [hk, ck2_area h1, enc_ck]
    have : Jn.pw (ck1 k (i.epoch + 1)).power (formB ((i.epoch + 1 : Nat) : Int) i.next bs).length = (formB ((i.epoch + 1 : Nat) : Int) i.next bs).length := h2
    rw [this, List.take_length]
  refine ⟨hh, ⟨[], by rw [List.append_nil]; exact e1, rec_nil _, fun _ => rfl⟩, wf_ck h.wf hb, ?_, ?_, ?_, by rw [hk]; exact h.ckLen hb h1 0, by rw [hk]; exact h.ckLen hb h1 1, hb, fun b h => by simp [ckI] at h, hp⟩
  · have := h.eN; show i.epoch + 1 ≤ _; omega
  · have := h.nN; show i.next ≤ _; omega
  · show 24 + bs.length ≤ _; omega
theorem copy_len (e : Nat) : (copyB e).length = 16 := by simp [copyB, be_length]
theorem Inv.ck_ok {k : KS} {i : KI} {N : Nat} {bs : Bs} (h : Inv k i N true) (hN : N ≤ 100) (hb : bs.length ≤ 300) (hok : ckOk k (i.epoch + 1) i.next bs) : Inv (ckS k (i.epoch + 1) i.next bs) (ckI i bs) (N + 1) true := by
  obtain ⟨h1, h2, h3⟩ := hok
  rw [ckS, if_pos h1, if_pos h2]
  obtain ⟨g1, g2⟩ := h.ck3head (bs := bs)
  have hw := head_write (q := Jn.pw (ck3 k (i.epoch + 1) i.next bs).power (copyB (i.epoch + 1)).length) g1 g2 (by have := h.eN; omega) (by rw [copy_len]; unfold Jn.pw; split <;> omega)
  have h16 : Jn.pw (ck3 k (i.epoch + 1) i.next bs).power (copyB (i.epoch + 1)).length = 16 := by
    have : Jn.pw (ck3 k (i.epoch + 1) i.next bs).power (copyB (i.epoch + 1)).length = (copyB (i.epoch + 1)).length := h3
    rw [this, copy_len]
  exact h.ck_new hN hb h1 h2 (ck4_area k _ _ _) (hw.2 h16) (ck_pows h.pw).2.2
theorem Inv.ck_no {k : KS} {i : KI} {N : Nat} {bs : Bs} (h : Inv k i N true) (hN : N ≤ 100) (hb : bs.length ≤ 300) (hok : ¬ ckOk k (i.epoch + 1) i.next bs) : Inv (ckS k (i.epoch + 1) i.next bs) i (N + 1) false ∨ Inv (ckS k (i.epoch + 1) i.next bs) (ckI i bs) (N + 1) false := by
  by_cases h1 : ckOk1 k (i.epoch + 1)
  · by_cases h2 : ckOk2 k (i.epoch + 1) i.next bs
    · rw [ckS, if_pos h1, if_pos h2]
      obtain ⟨g1, g2⟩ := h.ck3head (bs := bs)
      have hw := head_write (q := Jn.pw (ck3 k (i.epoch + 1) i.next bs).power (copyB (i.epoch + 1)).length) g1 g2 (by have := h.eN; omega) (by rw [copy_len]; unfold Jn.pw; split <;> omega)
      rcases hw.1 with hh | hh
      · exact .inl (h.ck_base hb h1 (ck4_area k _ _ _) hh (ck_pows h.pw).2.2)
      · exact .inr (h.ck_new hN hb h1 h2 (ck4_area k _ _ _) hh (ck_pows h.pw).2.2).weak
    · rw [ckS, if_pos h1, if_neg h2]
      exact .inl (h.ck_base hb h1 (fun _ => rfl) (by rw [ck2_head]; exact h.head) (ck_pows h.pw).2.1)
  · rw [ckS, if_neg h1]
    exact .inl (h.weak.mono (by omega))
/-- the empty store -/
theorem inv_empty {p : Int} (h : -1 ≤ p ∧ p ≤ 255) : Inv ⟨[], [], [], p⟩ ⟨0, 0, [], [], 0⟩ 0 true :=
  ⟨.inl ⟨rfl, rfl⟩, ⟨[], by simp [KS.area, encI, encR_nil], by decide +kernel, fun _ => rfl⟩, ⟨by decide, by decide, fun _ => ⟨rfl, rfl⟩, by decide, by decide, by simp⟩, by decide, by decide, by decide, by simp [KS.area], by simp [KS.area], by decide, by simp, h⟩
end Go.Jn
