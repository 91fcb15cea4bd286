/-
  The reference's journal in a block, and what becomes of its memory. Own work; plain Lean.
-/
import Derived.Test.YtkpdcajddpiknaaJnRd
import Derived.Test.YtkpdcajddpiknaaJn22
namespace Go.Jn
open Go Go.Sl Go.Proofs
abbrev rjC (pH pA pB ps pr : Option Addr) (cH cA cB cs cr : Nat) (k : KS) (i : KI) (dn : Bool) : Array Value := #[.slice pH k.head.length cH, .slice pA k.a.length cA, .slice pB k.b.length cB, Ix k.power, Nx i.epoch, Nx i.next, .slice ps i.state.length cs, .slice pr i.recs.length cr, Nx i.size, .bool dn]
abbrev memE (pH pA pB ps pr : Option Addr) (cH cA cB cs cr : Nat) (k : KS) (i : KI) : Res := memR (.slice pH k.head.length cH) (.slice pA k.a.length cA) (.slice pB k.b.length cB) (.slice ps i.state.length cs) (.slice pr i.recs.length cr) k i
/-- a journal of the reference in block B -/
def rjE (B : Nat) (k : KS) (i : KI) (dn : Bool) : Res := fun h => ∃ pH pA pB ps pr cH cA cB cs cr, Sat [pt B (.cells (rjC pH pA pB ps pr cH cA cB cs cr k i dn) 56), memE pH pA pB ps pr cH cA cB cs cr k i] h
/-- the same memory, the cells of the records named -/
def memU (vH vA vB vS : Value) (pr : Option Addr) (cr : Nat) (us : List Value) (k : KS) (i : KI) : Res := fun h => Sl U8R h vH k.head ∧ Sl U8R h vA k.a ∧ Sl U8R h vB k.b ∧ Sl U8R h vS i.state ∧ Cs h (ba pr) us ∧ inn us i.recs h ∧ Sl BsR h (.slice pr i.recs.length cr) i.recs
abbrev memV (pH pA pB ps pr : Option Addr) (cH cA cB cs cr : Nat) (us : List Value) (k : KS) (i : KI) : Res := memU (.slice pH k.head.length cH) (.slice pA k.a.length cA) (.slice pB k.b.length cB) (.slice ps i.state.length cs) pr cr us k i
theorem memU.mono (vH vA vB vS : Value) (pr : Option Addr) (cr : Nat) (us : List Value) (k : KS) (i : KI) : Mono (memU vH vA vB vS pr cr us k i) := fun _ _ hs ⟨a, b, c, d, e, f, g⟩ => ⟨Sl.mono _ _ _ _ _ hs a, Sl.mono _ _ _ _ _ hs b, Sl.mono _ _ _ _ _ hs c, Sl.mono _ _ _ _ _ hs d, Cs.mono _ _ _ _ hs e, inn.mono _ _ _ _ hs f, Sl.mono _ _ _ _ _ hs g⟩
theorem memU_R {vH vA vB vS : Value} {pr : Option Addr} {cr : Nat} {us : List Value} {k : KS} {i : KI} {h : PHeap} (hm : memU vH vA vB vS pr cr us k i h) : memR vH vA vB vS (.slice pr i.recs.length cr) k i h := ⟨hm.1, hm.2.1, hm.2.2.1, hm.2.2.2.1, hm.2.2.2.2.2.2⟩
section
variable {P : Program} {ro : Option Nat} {n : Nat} {ds : List Deferred} {β : Base} {Q : Exit → Act → World → Prop} {f : Fm} {L : List Res}
theorem c_openRj {c : Code} {B : Nat} {k : KS} {i : KI} {dn : Bool} {M : List Res} (hL : L = rjE B k i dn :: M)
    (K : ∀ pH pA pB ps pr cH cA cB cs cr us, us.length = i.recs.length → (us.all (·.oneCell') = true) → (0 < i.recs.length → pr = some (ba pr)) → RunC P ro n ds β c Q f (pt B (.cells (rjC pH pA pB ps pr cH cA cB cs cr k i dn) 56) :: memV pH pA pB ps pr cH cA cB cs cr us k i :: M)) : RunC P ro n ds β c Q f L := fun a w ha hw => by
  subst hL
  obtain ⟨pH, hw⟩ := hw.ex
  obtain ⟨pA, hw⟩ := hw.ex
  obtain ⟨pB, hw⟩ := hw.ex
  obtain ⟨ps, hw⟩ := hw.ex
  obtain ⟨pr, hw⟩ := hw.ex
  obtain ⟨cH, hw⟩ := hw.ex
  obtain ⟨cA, hw⟩ := hw.ex
  obtain ⟨cB, hw⟩ := hw.ex
  obtain ⟨cs, hw⟩ := hw.ex
  obtain ⟨cr, hw⟩ := hw.ex
  have hw1 := hw.unbun
  have hw2 := hw1.conseq_at (r' := fun h => ∃ us, us.length = i.recs.length ∧ (us.all (·.oneCell') = true) ∧ (0 < i.recs.length → pr = some (ba pr)) ∧ memV pH pA pB ps pr cH cA cB cs cr us k i h) 1 rfl (fun h hm => by
    obtain ⟨us, h1, h2, h3, h4, h5⟩ := Go.Jn.Sl.us hm.2.2.2.2
    exact ⟨us, h1, h3, h5, hm.1, hm.2.1, hm.2.2.1, hm.2.2.2.1, h2, h4, hm.2.2.2.2⟩)
  have hw3 := hw2.perm (List.Perm.swap _ _ _)
  obtain ⟨us, hw4⟩ := hw3.ex
  have hp := hw4.knows (F := fun _ => us.length = i.recs.length ∧ (us.all (·.oneCell') = true) ∧ (0 < i.recs.length → pr = some (ba pr))) (Knows.of_res 0 rfl (fun _ _ _ h => h) fun _ h => ⟨h.1, h.2.1, h.2.2.1⟩)
  have hw5 := hw4.conseq (r' := memV pH pA pB ps pr cH cA cB cs cr us k i) (fun _ h => h.2.2.2)
  exact K pH pA pB ps pr cH cA cB cs cr us hp.1 hp.2.1 hp.2.2 a w ha (hw5.perm (List.Perm.swap _ _ _))
end
/-- the rows that an append makes: the records' row and the new record -/
def apR (p : Option Addr) (c : Nat) (us : List Value) (m : Nat) (bs : Bs) : Res := fun h => ∃ q cq, Sat [row (.slice p (m + 1) c) 30 1 (m + 1) (us ++ [.slice q bs.length cq]), row (.slice q bs.length cq) 5 1 bs.length (BX bs)] h
theorem sat_mono {L : List Res} {h : PHeap} {r : Res} (hL : Sat L h) (hm : Mono r) (i : Nat) (hi : L[i]? = some r) : r h := by
  obtain ⟨a, ha, hr⟩ := hL.each _ (List.mem_of_getElem? hi)
  exact hm _ _ ha hr
theorem mem_fail {qH qA qB : Option Addr} {dH dA dB : Nat} {k' k : KS} {i : KI} {vH vA vB vS : Value} {pr : Option Addr} {cr : Nat} {us : List Value} {a : PHeap}
    (h : Sat [row (.slice qH k'.head.length dH) 5 1 k'.head.length (BX k'.head), row (.slice qA k'.a.length dA) 5 1 k'.a.length (BX k'.a), row (.slice qB k'.b.length dB) 5 1 k'.b.length (BX k'.b), memU vH vA vB vS pr cr us k i] a) :
    memR (.slice qH k'.head.length dH) (.slice qA k'.a.length dA) (.slice qB k'.b.length dB) vS (.slice pr i.recs.length cr) k' i a := by
  have hm := sat_mono h (memU.mono _ _ _ _ _ _ _ _ _) 3 rfl
  exact ⟨sat_sl h 0 rfl, sat_sl h 1 rfl, sat_sl h 2 rfl, hm.2.2.2.1, hm.2.2.2.2.2.2⟩
theorem mem_ck {qH qA qB q : Option Addr} {dH dA dB cq : Nat} {k' : KS} {i : KI} {bs : Bs} {a : PHeap}
    (h : Sat [row (.slice qH k'.head.length dH) 5 1 k'.head.length (BX k'.head), row (.slice qA k'.a.length dA) 5 1 k'.a.length (BX k'.a), row (.slice qB k'.b.length dB) 5 1 k'.b.length (BX k'.b), row (.slice q bs.length cq) 5 1 bs.length (BX bs)] a) :
    memR (.slice qH k'.head.length dH) (.slice qA k'.a.length dA) (.slice qB k'.b.length dB) (.slice q bs.length cq) (.slice none 0 0) k' (ckI i bs) a := ⟨sat_sl h 0 rfl, sat_sl h 1 rfl, sat_sl h 2 rfl, sat_sl h 3 rfl, Sl.nil BsR a⟩
theorem apR_sl {p : Option Addr} {c : Nat} {us : List Value} {xs : List Bs} {bs : Bs} {h : PHeap} (ha : ∃ a, Sub a h ∧ apR p c us xs.length bs a) (hi : inn us xs h) : Sl BsR h (.slice p (xs ++ [bs]).length c) (xs ++ [bs]) := by
  obtain ⟨a, hs, q, cq, hr⟩ := ha
  obtain ⟨a1, h1, r1⟩ := hr.each _ (List.mem_of_getElem? (i := 0) rfl)
  obtain ⟨a2, h2, r2⟩ := hr.each _ (List.mem_of_getElem? (i := 1) rfl)
  have e : (xs ++ [bs]).length = xs.length + 1 := by simp
  rw [← e] at r1
  exact rows_bs ⟨a1, h1.trans hs, r1⟩ (inn_snoc hi (Sl.mono _ _ _ _ _ (h2.trans hs) (row_u8 r2)))
theorem mem_ap {qH qA qB : Option Addr} {dH dA dB : Nat} {k' k : KS} {i : KI} {vH vA vB vS : Value} {pr p : Option Addr} {cr c : Nat} {us : List Value} {bs : Bs} {a : PHeap}
    (h : Sat [row (.slice qH k'.head.length dH) 5 1 k'.head.length (BX k'.head), row (.slice qA k'.a.length dA) 5 1 k'.a.length (BX k'.a), row (.slice qB k'.b.length dB) 5 1 k'.b.length (BX k'.b), apR p c us i.recs.length bs, memU vH vA vB vS pr cr us k i] a) :
    memR (.slice qH k'.head.length dH) (.slice qA k'.a.length dA) (.slice qB k'.b.length dB) vS (.slice p (apI i bs).recs.length c) k' (apI i bs) a := by
  have hm := sat_mono h (memU.mono _ _ _ _ _ _ _ _ _) 4 rfl
  exact ⟨sat_sl h 0 rfl, sat_sl h 1 rfl, sat_sl h 2 rfl, hm.2.2.2.1, apR_sl (h.each _ (List.mem_of_getElem? (i := 3) rfl)) hm.2.2.2.2.2.1⟩
/-! modes of the loop: 0 there is no journal, 1 it is up, 2 it is down -/
def jval : Nat → Nat → Value | 0, _ => .pointer none | _ + 1, J => .pointer (some ⟨J, 0, none⟩)
def jm : Nat → Nat → Nat → KI → Res | 0, _, _, _ => fun _ => True | 1, J, S, i => jourR J S i false | _ + 2, J, S, i => jourR J S i true
def dnB : Nat → Bool | 0 => false | 1 => false | _ + 2 => true
structure SmI (i : KI) : Prop where
  state : i.state.length ≤ 300
  recs : ∀ b ∈ i.recs, b.length ≤ 300
  len : i.recs.length ≤ 1000
theorem Inv.sm {k : KS} {i : KI} {N : Nat} {x : Bool} (h : Inv k i N x) (hN : N ≤ 1000) : SmI i := ⟨h.st, h.rs, by have := h.wf.next; have := h.nN; omega⟩
theorem SmI.hb {i : KI} (h : SmI i) : i.state.length ≤ 1048576 := by have := h.state; omega
theorem SmI.hn {i : KI} (h : SmI i) : i.recs.length ≤ 1048576 := by have := h.len; omega
theorem SmI.hbs {i : KI} (h : SmI i) : ∀ b ∈ i.recs, b.length ≤ 1048576 := fun b hb => by have := h.recs b hb; omega
theorem zI_sm : SmI zI := ⟨by decide, by simp [zI], by decide⟩
theorem Inv.cut_ok {k : KS} {i : KI} {N : Nat} {x : Bool} (h : Inv k i N x) (hc : cutOk (k.area i.epoch) k.power i.size) : Inv (cutS k i.epoch i.size) i N true := by
  by_cases hp : k.power = 0
  · obtain ⟨t, a, b, _⟩ := h.area
    have hl : (k.area i.epoch).length ≤ i.size := by rcases hc with h | h; exact h; exact absurd hp h
    have ht : t = [] := by
      rw [a, List.length_append, h.wf.size] at hl
      exact List.eq_nil_of_length_eq_zero (by omega)
    have e : cutS k i.epoch i.size = k := by
      have e1 : cutA (k.area i.epoch) k.power i.size = k.area i.epoch := by rw [cutA, if_pos hp]
      have e2 : cutP (k.area i.epoch) k.power i.size = k.power := by unfold cutP; rw [if_neg (by omega)]
      unfold cutS
      rw [e1, e2]
      unfold KS.setArea KS.area
      split <;> rfl
    rw [e]
    exact ⟨h.head, ⟨[], by rw [a, ht], rec_nil _, fun _ => rfl⟩, h.wf, h.eN, h.nN, h.sz, h.la, h.lb, h.st, h.rs, h.pw⟩
  · exact h.cut hp
end Go.Jn
