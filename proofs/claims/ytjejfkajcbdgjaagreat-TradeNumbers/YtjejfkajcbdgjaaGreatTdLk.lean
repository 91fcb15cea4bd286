/-
 Own work; plain Lean (TdJl, TdHouse, TdLk).
-/
import Derived.Test.YtjejfkajcbdgjaaGreatJnLaw3
import Derived.Test.YtjejfkajcbdgjaaGreatTdBits
import Derived.Test.YtjejfkajcbdgjaaGreatTdMem
import Derived.Test.YtjejfkajcbdgjaaGreatJnMem
namespace Go.Jn
open Go.Sl

theorem area_set (k : KS) (e : Nat) (xs : Bs) : (k.setArea e xs).area e = xs := by
 unfold KS.setArea KS.area
 split <;> rfl
theorem area_set_ne (k : KS) {e e' : Nat} (h : e % 2 ≠ e' % 2) (xs : Bs) : (k.setArea e xs).area e' = k.area e' := by
 unfold KS.setArea KS.area
 by_cases h1 : e % 2 = 0
 ·rw [if_pos h1, if_neg (by omega), if_neg (by omega)]
 ·rw [if_neg h1, if_pos (by omega), if_pos (by omega)]
theorem area_pow (k : KS) (e : Nat) (p : Int) : ({ k with power := p } : KS).area e = k.area e := rfl
theorem set_head (k : KS) (e : Nat) (xs : Bs) : (k.setArea e xs).head = k.head := by unfold KS.setArea; split <;> rfl
theorem area_both {P : Bs → Prop} {k : KS} (ha : P k.a) (hb : P k.b) (e : Nat) : P (k.area e) := by unfold KS.area; split <;> assumption

structure Inv (k : KS) (i : KI) (N : Nat) (x : Bool) : Prop where
 head : HeadOk k.head i.epoch
 area : ∃ tail, k.area i.epoch = encI i ++ tail ∧ recB i.epoch tail = false ∧ (x = true → tail = [])
 wf : WF i
 eN : i.epoch ≤ N
 nN : i.next ≤ N
 sz : i.size ≤ 43400 + 494 * N
 sm : i.size ≤ 262144
 la : (k.area 0).length ≤ 262144
 lb : (k.area 1).length ≤ 262144
 st : i.state.length ≤ 43300
 rs : ∀ b ∈ i.recs, b.length ≤ 470
 pw : -1 ≤ k.power ∧ k.power ≤ 1000

theorem Inv.mono {k : KS} {i : KI} {N M : Nat} {x : Bool} (h : Inv k i N x) (hM : N ≤ M) : Inv k i M x :=
 ⟨h.head, h.area, h.wf, by have := h.eN; omega, by have := h.nN; omega, by have := h.sz; omega, h.sm, h.la, h.lb, h.st, h.rs, h.pw⟩
theorem Inv.weak {k : KS} {i : KI} {N : Nat} (h : Inv k i N true) : Inv k i N false :=
 ⟨h.head, let ⟨t, a, b, _⟩ := h.area; ⟨t, a, b, fun e => by cases e⟩, h.wf, h.eN, h.nN, h.sz, h.sm, h.la, h.lb, h.st, h.rs, h.pw⟩
theorem Inv.any {k : KS} {i : KI} {N : Nat} {x : Bool} (h : Inv k i N x) : Inv k i N false := by cases x; exact h; exact h.weak
theorem Inv.pow {k : KS} {i : KI} {N : Nat} {x : Bool} (h : Inv k i N x) {p : Int} (h1 : -1 ≤ p) (h2 : p ≤ 1000) : Inv { k with power := p } i N x :=
 ⟨h.head, h.area, h.wf, h.eN, h.nN, h.sz, h.sm, h.la, h.lb, h.st, h.rs, h1, h2⟩
theorem Inv.exact {k : KS} {i : KI} {N : Nat} (h : Inv k i N true) : k.area i.epoch = encI i := by
 obtain ⟨t, a, _, c⟩ := h.area
 rw [a, c rfl, List.append_nil]
theorem Inv.lens {k : KS} {i : KI} {N : Nat} {x : Bool} (h : Inv k i N x) : k.a.length ≤ 262144 ∧ k.b.length ≤ 262144 := ⟨h.la, h.lb⟩
theorem Inv.fits {k : KS} {i : KI} {N : Nat} {x : Bool} (h : Inv k i N x) (hN : N ≤ 1000000) : k.fits 524288 := by
 have h1 := h.lens
 have h2 := h.head.len
 exact ⟨by omega, by omega, by omega, by have := h.pw; omega⟩
theorem Inv.okP {k : KS} {i : KI} {N : Nat} {x : Bool} (h : Inv k i N x) (hN : N ≤ 1000000) : k.okP := by
 have h1 := h.lens
 have h2 := h.head.len
 exact ⟨h2, by omega, by omega, h.pw.1⟩
theorem Inv.read {k : KS} {i : KI} {N : Nat} {x : Bool} (h : Inv k i N x) : readI k = some i := by
 obtain ⟨t, a, b, _⟩ := h.area
 exact read_enc h.head.epoch a b h.wf
theorem cut_pow {k : KS} {e size : Nat} (hp : k.power ≠ 0) : (cutS k e size).area e = (k.area e).take size := by
 unfold cutS
 rw [area_pow, area_set, cutA, if_neg hp]
/-- opened with enough power -/
theorem Inv.cut {k : KS} {i : KI} {N : Nat} {x : Bool} (h : Inv k i N x) (hp : k.power ≠ 0) : Inv (cutS k i.epoch i.size) i N true := by
 obtain ⟨t, a, b, _⟩ := h.area
 have e1 : (cutS k i.epoch i.size).area i.epoch = encI i := by
  rw [cut_pow hp, a, h.wf.size, List.take_left']
  rfl
 have hle : ∀ e, ((cutS k i.epoch i.size).area e).length ≤ 262144 := by
  have h1 : ∀ xs : Bs, xs.length ≤ 262144 → (cutA xs k.power i.size).length ≤ 262144 := fun xs hx => by
   unfold cutA; split
   ·exact hx
   ·simp; omega
  intro e
  by_cases he : i.epoch % 2 = e % 2
  ·have e2 : (cutS k i.epoch i.size).area e = (cutS k i.epoch i.size).area i.epoch := by unfold KS.area; rw [he]
   rw [e2]
   unfold cutS
   rw [area_pow, area_set]
   exact h1 _ (area_both (P := fun z => z.length ≤ _) h.la h.lb _)
  ·unfold cutS
   rw [area_pow, area_set_ne _ he]
   exact area_both (P := fun z => z.length ≤ _) h.la h.lb _
 refine ⟨?_, ⟨[], by rw [e1, List.append_nil], rec_nil _, fun _ => rfl⟩, h.wf, h.eN, h.nN, h.sz, h.sm, hle 0, hle 1, h.st, h.rs, ?_⟩
 ·show HeadOk (k.setArea _ _).head _
  rw [set_head]; exact h.head
 ·show -1 ≤ cutP _ _ _ ∧ cutP _ _ _ ≤ 1000
  have := h.pw
  unfold cutP spendP
  split <;> (try split) <;> omega
theorem pl_bounds {p : Int} {m : Nat} (h : -1 ≤ p ∧ p ≤ 1000) : -1 ≤ pl p m ∧ pl p m ≤ 1000 := by unfold pl; split <;> omega

theorem enc_ap {i : KI} {bs : Bs} (wf : WF i) : encI (apI i bs) = encI i ++ formB i.epoch i.next bs := by
 have h1 : (apI i bs).next - (apI i bs).recs.length = i.next - i.recs.length := by simp [apI]
 have h2 := encR_snoc i.epoch bs i.recs (i.next - i.recs.length)
 have h3 : i.next - i.recs.length + i.recs.length = i.next := by have := wf.next; omega
 rw [h3] at h2
 unfold encI
 rw [h1]
 show _ ++ encR i.epoch _ (i.recs ++ [bs]) = _
 rw [h2, List.append_assoc]
 rfl
theorem wf_ap {i : KI} {bs : Bs} (wf : WF i) (hn : i.next < 4611686018427387904) (hb : bs.length ≤ 470) : WF (apI i bs) := by
 refine ⟨?_, ?_, fun h => ?_, ?_, wf.state, ?_⟩
 ·rw [enc_ap wf, List.length_append, ← wf.size]; rfl
 ·have := wf.next; simp [apI]; omega
 ·have := wf.zero h; simp [apI]; exact this
 ·show i.next + 1 ≤ _; omega
 ·intro b hb'
  rcases List.mem_append.1 hb' with h | h
  ·exact wf.recs b h
  ·simp at h; subst h; omega
theorem ap_area {k : KS} {i : KI} {bs : Bs} (ha : k.area i.epoch = encI i) (wf : WF i) : (apS k i bs).area i.epoch = encI i ++ (formB i.epoch i.next bs).take (Jn.pw k.power (formB i.epoch i.next bs).length) := by
 unfold apS wrS
 rw [area_pow, area_set, wrA, ha, wf.size, wr_end]
theorem Inv.apLen {k : KS} {i : KI} {N : Nat} {bs : Bs} (h : Inv k i N true) (hr : i.size + 24 + bs.length ≤ 262144) (e : Nat) : ((apS k i bs).area e).length ≤ 262144 := by
 have hl := formB_length i.epoch i.next bs
 by_cases he : i.epoch % 2 = e % 2
 ·have e2 : (apS k i bs).area e = (apS k i bs).area i.epoch := by unfold KS.area; rw [he]
  rw [e2, ap_area h.exact h.wf, List.length_append, ← h.wf.size]
  have := h.sz
  simp; omega
 ·unfold apS wrS
  rw [area_pow, area_set_ne _ he]
  have := area_both (P := fun z => z.length ≤ _) h.la h.lb e
  omega
theorem Inv.ap_ok {k : KS} {i : KI} {N : Nat} {bs : Bs} (h : Inv k i N true) (hN : N ≤ 1000000) (hb : bs.length ≤ 470) (hr : i.size + 24 + bs.length ≤ 262144) (hok : apOk k i bs) : Inv (apS k i bs) (apI i bs) (N + 1) true := by
 have hl := formB_length i.epoch i.next bs
 refine ⟨?_, ⟨[], ?_, rec_nil _, fun _ => rfl⟩, wf_ap h.wf (by have := h.nN; omega) hb, by have := h.eN; show i.epoch ≤ _; omega, by have := h.nN; show i.next + 1 ≤ _; omega, ?_, ?_, h.apLen hr 0, h.apLen hr 1, h.st, ?_, pl_bounds h.pw⟩
 ·show HeadOk (k.setArea _ _).head _
  rw [set_head]; exact h.head
 ·rw [List.append_nil, enc_ap h.wf]
  show (apS k i bs).area i.epoch = _
  rw [ap_area h.exact h.wf]
  have : Jn.pw k.power (formB i.epoch i.next bs).length = (formB i.epoch i.next bs).length := hok
  rw [this, List.take_length]
 ·have := h.sz; show i.size + _ ≤ _; omega
 ·show i.size + _ ≤ _; omega
 ·intro b hb'
  rcases List.mem_append.1 hb' with h' | h'
  ·exact h.rs b h'
  ·simp at h'; subst h'; exact hb
theorem Inv.ap_no {k : KS} {i : KI} {N : Nat} {bs : Bs} (h : Inv k i N true) (hb : bs.length ≤ 65536) (hr : i.size + 24 + bs.length ≤ 262144) (hok : ¬ apOk k i bs) : Inv (apS k i bs) i (N + 1) false := by
 have hl := formB_length i.epoch i.next bs
 refine ⟨?_, ⟨_, ap_area h.exact h.wf, ?_, fun e => by cases e⟩, h.wf, by have := h.eN; omega, by have := h.nN; omega, by have := h.sz; omega, h.sm, h.apLen hr 0, h.apLen hr 1, h.st, h.rs, pl_bounds h.pw⟩
 ·show HeadOk (k.setArea _ _).head _
  rw [set_head]; exact h.head
 ·refine rec_torn (by omega) ?_
  have h1 : Jn.pw k.power (formB i.epoch i.next bs).length ≠ (formB i.epoch i.next bs).length := hok
  have h2 : Jn.pw k.power (formB i.epoch i.next bs).length ≤ (formB i.epoch i.next bs).length := by unfold Jn.pw; split <;> omega
  omega

/-! Checkpoints. -/
/-- the empty store -/
theorem inv_empty {p : Int} (h : -1 ≤ p ∧ p ≤ 1000) : Inv ⟨[], [], [], p⟩ ⟨0, 0, [], [], 0⟩ 0 true :=
 ⟨.inl ⟨rfl, rfl⟩, ⟨[], by simp [KS.area, encI, encR_nil], by decide +kernel, fun _ => rfl⟩, ⟨by decide, by decide, fun _ => ⟨rfl, rfl⟩, by decide, by decide, by simp⟩, by decide, by decide, by decide, by decide, by simp [KS.area], by simp [KS.area], by decide, by simp, h⟩
end Go.Jn

namespace Go.Td
open Go Go.Sl Go.Proofs Go.Jn
def freshX : KHs := ⟨⟨[], [], 0, zeroA⟩, fun _ => none⟩
/-- a transaction is carried out -/
noncomputable def carryX (X : KHs) (au nu : Int) (al : List KAct) : KHs := ⟨(carryF X.s al).1, fun a => if a = au then some ⟨⟨au, nu, al⟩, (carryF X.s al).2⟩ else X.done a⟩
/-- the numbers of holds are numbers of the machine -/
abbrev hb63 (al : List KAct) : Prop := ∀ x ∈ al, x.hold ≤ 9223372036854775807
/-- what is remembered of an author -/
structure MemOk (a : Int) (m : KMem) (last : Int) : Prop where
 au : m.d.author = a
 fm : dformed a m.d.number m.d.acts = true
 hb : hb63 m.d.acts
 r : ResOk m.r last
structure XOk (X : KHs) : Prop where
 g : Good2 X.s
 m : ∀ a m, X.done a = some m → MemOk a m X.s.last
theorem dformed_iff {au nu : Int} {xs : List KAct} : dformed au nu xs = true ↔ (1 ≤ au ∧ au ≤ 64) ∧ (1 ≤ nu ∧ nu ≤ 1099511627776) ∧ (1 ≤ xs.length ∧ xs.length ≤ 16) ∧ ∀ x ∈ xs, x.formed = true := by
 unfold dformed
 simp only [Bool.and_eq_true, decide_eq_true_eq, Bool.not_eq_true', List.any_eq_false, Bool.not_eq_true, Bool.not_eq_false']
 constructor
 ·rintro ⟨⟨⟨⟨⟨⟨a, b⟩, c⟩, d⟩, e⟩, f⟩, g⟩
  exact ⟨⟨a, b⟩, ⟨c, d⟩, ⟨by omega, by omega⟩, fun x hx => by simpa using g x hx⟩
 ·rintro ⟨⟨a, b⟩, ⟨c, d⟩, ⟨e, f⟩, g⟩
  exact ⟨⟨⟨⟨⟨⟨a, b⟩, c⟩, d⟩, by omega⟩, by omega⟩, fun x hx => by simpa using g x hx⟩
theorem freshX_ok : XOk freshX := ⟨⟨⟨by simp [freshX], by simp [freshX], fun p hp => by cases hp⟩, ⟨by simp [freshX], by simp [freshX], fun p hp => by cases hp⟩, Int.le_refl _, by unfold freshX sumM sumA KAm.add zeroA; rfl⟩, fun a m h => by cases h⟩
theorem carryX_ok {X : KHs} (h : XOk X) {au nu : Int} {al : List KAct} (hf : dformed au nu al = true) (hh : hb63 al) : XOk (carryX X au nu al) ∧ (carryX X au nu al).s.last ≤ X.s.last + 16 ∧ X.s.last ≤ (carryX X au nu al).s.last ∧ ResOk (carryF X.s al).2 (carryX X au nu al).s.last := by
 obtain ⟨h1, h2, h3, h4⟩ := dformed_iff.1 hf
 obtain ⟨g1, g2, g3, g4, _⟩ := carry_good2 h.g h4 h3.2
 refine ⟨⟨g1, fun a m hm => ?_⟩, by show (carryF X.s al).1.last ≤ _; omega, g3, g4⟩
 by_cases e : a = au
 ·subst e
  have hm : (if a = a then some (⟨⟨a, nu, al⟩, (carryF X.s al).2⟩ : KMem) else X.done a) = some m := hm
  rw [if_pos rfl] at hm; injection hm with hm; subst hm
  exact ⟨rfl, hf, hh, g4⟩
 ·have hm : (if a = au then some (⟨⟨au, nu, al⟩, (carryF X.s al).2⟩ : KMem) else X.done a) = some m := hm
  rw [if_neg e] at hm
  have := h.m a m hm
  exact ⟨this.au, this.fm, this.hb, this.r.le g3⟩
/-- the same but for the order -/
structure EqX (X Y : KHs) : Prop where
 s : EqS X.s Y.s
 d : X.done = Y.done
theorem EqX.symm {X Y : KHs} (h : EqX X Y) : EqX Y X := ⟨h.s.symm, h.d.symm⟩
theorem EqX.trans {X Y Z : KHs} (h : EqX X Y) (g : EqX Y Z) : EqX X Z := ⟨h.s.trans g.s, h.d.trans g.d⟩
theorem XOk.refl {X : KHs} (h : XOk X) : EqX X X := ⟨h.g.refl, rfl⟩
theorem carryX_eq {X Y : KHs} (h : EqX X Y) (au nu : Int) (al : List KAct) : EqX (carryX X au nu al) (carryX Y au nu al) := by
 obtain ⟨h1, h2⟩ := carry_eq h.s al
 refine ⟨h1, funext fun a => ?_⟩
 show (if _ then _ else _) = (if _ then _ else _)
 rw [h2, h.d]
theorem EqX.ok {X Y : KHs} (h : EqX X Y) (g : XOk Y) : XOk X := ⟨h.s.good2 g.g, fun a m hm => by rw [h.s.l]; exact g.m a m (by rw [← h.d]; exact hm)⟩
/-! States as bits. -/
def psL : List (Int × KAm) → List Bool
 | [] => []
 | p :: l => bitsV (U p.1) 17 ++ (amL p.2 31 ++ psL l)
def hsL : List (Int × KHo) → List Bool
 | [] => []
 | p :: l => bitsV (U p.1) 48 ++ (bitsV (U p.2.owner) 17 ++ (amL p.2.a 31 ++ hsL l))
def nsL : List Int → List Bool
 | [] => []
 | n :: l => bitsV (U n) 48 ++ nsL l
def memL (m : KMem) : List Bool := dealL m.d.author m.d.number m.d.acts ++ (bitsV (U (m.r.holds.length : Int)) 9 ++ (nsL m.r.holds ++ (bitsV (U m.r.at_) 9 ++ bitsV (U m.r.e) 16)))
def msL : List (Int × KMem) → List Bool
 | [] => []
 | p :: l => memL p.2 ++ msL l
def stBits (su : KAm) (last : Int) (ps : List (Int × KAm)) (hs : List (Int × KHo)) (ms : List (Int × KMem)) : List Bool :=
 amL su 63 ++ (bitsV (U last) 48 ++ (bitsV (U (ps.length : Int)) 9 ++ (psL ps ++ (bitsV (U (hs.length : Int)) 9 ++ (hsL hs ++ (bitsV (U (ms.length : Int)) 9 ++ msL ms))))))
/-- what is remembered, as a list -/
structure MsOf (X : KHs) (ms : List (Int × KMem)) : Prop where
 nd : (ms.map (·.1)).Nodup
 mem : ∀ a m, X.done a = some m ↔ (a, m) ∈ ms
/-- bytes that hold a state -/
def StB (X : KHs) (bs : Bs) : Prop := ∃ ps hs ms, X.s.ps.Perm ps ∧ X.s.hs.Perm hs ∧ MsOf X ms ∧ ∃ n, Wr bs n (stBits X.s.su X.s.last ps hs ms)
abbrev recD (d : KDeal) : Bs := dealB d.author d.number d.acts [] 0
noncomputable def replay (X : KHs) (ds : List KDeal) : KHs := ds.foldl (fun X d => carryX X d.author d.number d.acts) X
abbrev okD (ds : List KDeal) : Prop := ∀ d ∈ ds, dformed d.author d.number d.acts = true ∧ hb63 d.acts
/-- what a journal's image tells -/
structure Img (i : KI) (X : KHs) (X0 : KHs) (ds : List KDeal) : Prop where
 st : (i.state = [] ∧ X0 = freshX) ∨ (i.state ≠ [] ∧ StB X0 i.state)
 x0 : XOk X0
 recs : i.recs = ds.map recD
 ok : okD ds
 x : EqX X (replay X0 ds)
theorem replay_snoc (X : KHs) (ds : List KDeal) (d : KDeal) : replay X (ds ++ [d]) = carryX (replay X ds) d.author d.number d.acts := by unfold replay; rw [List.foldl_append]; rfl
theorem Img.ap {i : KI} {X X0 : KHs} {ds : List KDeal} (h : Img i X X0 ds) {au nu : Int} {al : List KAct} (hf : dformed au nu al = true) (hh : hb63 al) : Img (apI i (dealB au nu al [] 0)) (carryX X au nu al) X0 (ds ++ [⟨au, nu, al⟩]) :=
 ⟨h.st, h.x0, by show i.recs ++ _ = _; rw [h.recs, List.map_append]; rfl, fun d hd => by
  rcases List.mem_append.1 hd with hd | hd
  ·exact h.ok d hd
  ·rw [List.mem_singleton.1 hd]; exact ⟨hf, hh⟩, by rw [replay_snoc]; exact carryX_eq h.x _ _ _⟩
/-- a store from which a house can be opened -/
structure SOk (X : KHs) (i : KI) (k : KS) (N W : Nat) (x : Bool) : Prop where
 inv : Inv k i N x
 ep : i.epoch * 218000 + i.size ≤ W
 img : ∃ X0 ds, Img i X X0 ds
 ok : XOk X
 last : X.s.last ≤ 16 * N
def shelfR (S : Nat) (X : KHs) (N W : Nat) (p : Int) : Res := fun h => ∃ i k, SOk X i k N W false ∧ k.power = p ∧ Sat [storeR S k] h
abbrev hCells (J mp mh mm : Nat) (s : KSt) (dn : Bool) : Array Value := #[.pointer (some ⟨J, 0, none⟩), .map (some mp), .map (some mh), Ix s.last, Ix s.su.a0, Ix s.su.a1, Ix s.su.a2, Ix s.su.a3, .map (some mm), .bool dn]
abbrev hL (H S J mp mh mm : Nat) (s : KSt) (ms : List (Int × KMh)) (zs : List (KMh × KMem)) (i : KI) (k : KS) (jd dn : Bool) : List Res := [pt H (.cells (hCells J mp mh mm s dn) 91), jourR J S i jd, storeR S k, mpR PuM mp s.ps, mpR HoM mh s.hs, mpR MeM mm ms, memR zs]
/-- what a header tells of its memory, without the slices -/
structure HdOf (z : KMh × KMem) : Prop where
 au : z.1.author = z.2.d.author
 nu : z.1.number = z.2.d.number
 n : z.1.n = z.2.d.acts.length
 dn : z.1.done = z.2.r.done
 at_ : z.1.at_ = z.2.r.at_
 e : z.1.e = z.2.r.e
 m : z.1.m = z.2.r.holds.length
/-- the map of what is remembered -/
structure MmOk (X : KHs) (ms : List (Int × KMh)) (zs : List (KMh × KMem)) : Prop where
 none_ : ∀ a, MeM.look ms a = none → X.done a = none
 some_ : ∀ a h, MeM.look ms a = some h → ∃ m, (h, m) ∈ zs ∧ X.done a = some m
 hdr : ∀ z ∈ zs, HdOf z
/-- what holds of a house that is up, after at most N things were written -/
structure HOk (X : KHs) (s : KSt) (ms : List (Int × KMh)) (zs : List (KMh × KMem)) (i : KI) (k : KS) (N W : Nat) : Prop where
 eq : EqS s X.s
 so : SOk X i k N W true
 mm : MmOk X ms zs
def houseR (H S : Nat) (X : KHs) (N W : Nat) (p : Int) : Res := fun h => ∃ J mp mh mm s ms zs i k, HOk X s ms zs i k N W ∧ k.power = p ∧ Sat (hL H S J mp mh mm s ms zs i k false false) h
theorem St.openHouse {β : Base} {H S N W : Nat} {p : Int} {X : KHs} {M : List Res} {w : World} (h : St β (houseR H S X N W p :: M) w) : ∃ J mp mh mm s ms zs i k, HOk X s ms zs i k N W ∧ k.power = p ∧ St β (hL H S J mp mh mm s ms zs i k false false ++ M) w := by
 obtain ⟨ho, ht, hp, a, hd, hs, hs', q, r, h1, h2, h3, ⟨J, mp, mh, mm, s, ms, zs, i, k, hk, hw, hx⟩, h5⟩ := h
 exact ⟨J, mp, mh, mm, s, ms, zs, i, k, hk, hw, St.unbun ⟨ho, ht, hp, a, hd, hs, hs', q, r, h1, h2, h3, hx, h5⟩⟩
theorem St.closeHouse {β : Base} {H S N W J mp mh mm : Nat} {X : KHs} {s : KSt} {ms : List (Int × KMh)} {zs : List (KMh × KMem)} {i : KI} {k : KS} {M : List Res} {w : World} (hk : HOk X s ms zs i k N W) {p : Int} (hp : k.power = p) (h : St β (hL H S J mp mh mm s ms zs i k false false ++ M) w) : St β (houseR H S X N W p :: M) w :=
 h.merge fun _ h => ⟨J, mp, mh, mm, s, ms, zs, i, k, hk, hp, h⟩
theorem St.openShelf {β : Base} {S N W : Nat} {p : Int} {X : KHs} {M : List Res} {w : World} (h : St β (shelfR S X N W p :: M) w) : ∃ i k, SOk X i k N W false ∧ k.power = p ∧ St β (storeR S k :: M) w := by
 obtain ⟨ho, ht, hp, a, hd, hs, hs', q, r, h1, h2, h3, ⟨i, k, hk, hw, hx⟩, h5⟩ := h
 exact ⟨i, k, hk, hw, St.unbun ⟨ho, ht, hp, a, hd, hs, hs', q, r, h1, h2, h3, hx, h5⟩⟩
theorem St.closeShelf {β : Base} {S N W : Nat} {X : KHs} {i : KI} {k : KS} {M : List Res} {w : World} (hk : SOk X i k N W false) {p : Int} (hp : k.power = p) (h : St β (storeR S k :: M) w) : St β (shelfR S X N W p :: M) w :=
 St.merge (L := [storeR S k]) h fun _ h => ⟨i, k, hk, hp, h⟩
section
variable {P : Program} {ro : Option Nat} {n : Nat} {ds : List Deferred} {β : Base} {Q : Exit → Act → World → Prop} {f : Fm} {L : List Res}
end
theorem ap_neg1 {k : KS} {i : KI} {bs : Bs} (h : k.power = -1) : apOk k i bs := by unfold apOk wrOk Jn.pw; rw [h]; rfl
theorem apS_neg1 {k : KS} {i : KI} {bs : Bs} (h : k.power = -1) : (apS k i bs).power = -1 := by
 show pl k.power _ = -1
 unfold pl; rw [h]; rfl
theorem recD_len {au nu : Int} {al : List KAct} (hf : dformed au nu al = true) : (dealB au nu al [] 0).length ≤ 470 := by
 rw [dealB_len (n := 0) rfl]
 have := (dformed_iff.1 hf).2.2.1
 omega
/-- what Append of the journal asks for -/
theorem SOk.room {X : KHs} {i : KI} {k : KS} {N W : Nat} {x : Bool} (h : SOk X i k N W x) (hN : N ≤ 1000000) {bs : Bs} (hb : bs.length ≤ 470) (hr : i.size + 24 + bs.length ≤ 262144) :
  bs.length ≤ 65536 ∧ k.fits 524288 ∧ i.next ≤ 4611686018427387904 ∧ i.size ≤ 262144 ∧ i.recs.length ≤ 1048576 ∧ i.size + 24 + bs.length ≤ 262144 ∧ i.next ≠ 4611686018427387904 := by
 have h1 := h.inv.nN; have h2 := h.inv.sm; have h3 := h.inv.wf.next
 exact ⟨by omega, h.inv.fits hN, by omega, by omega, by omega, by omega, by omega⟩
theorem SOk.small {X : KHs} {i : KI} {k : KS} {N W : Nat} {x : Bool} (h : SOk X i k N W x) (hN : N ≤ 400) {bs : Bs} (hb : bs.length ≤ 470) : i.size + 24 + bs.length ≤ 262144 := by have := h.inv.sz; omega
theorem SOk.weak {X : KHs} {i : KI} {k : KS} {N W : Nat} {x : Bool} (h : SOk X i k N W x) : SOk X i k N W false := ⟨h.inv.any, h.ep, h.img, h.ok, h.last⟩
theorem SOk.mono {X : KHs} {i : KI} {k : KS} {N M W V : Nat} {x : Bool} (h : SOk X i k N W x) (hM : N ≤ M) (hV : W ≤ V) : SOk X i k M V x := ⟨h.inv.mono hM, Nat.le_trans h.ep hV, h.img, h.ok, by have := h.last; omega⟩
theorem ap_ep {i : KI} {W : Nat} {bs : Bs} (h : i.epoch * 218000 + i.size ≤ W) (hb : bs.length ≤ 470) : (apI i bs).epoch * 218000 + (apI i bs).size ≤ W + 494 := by
 have q : (apI i bs).size = i.size + (24 + bs.length) := congrArg (i.size + ·) (formB_length i.epoch i.next bs)
 have q2 : (apI i bs).epoch = i.epoch := rfl
 rw [q, q2]; omega
/-- a transaction is written -/
theorem SOk.ap {X : KHs} {i : KI} {k : KS} {N W : Nat} (h : SOk X i k N W true) (hN : N ≤ 1000000) {au nu : Int} {al : List KAct} (hf : dformed au nu al = true) (hh : hb63 al) (hr : i.size + 24 + (dealB au nu al [] 0).length ≤ 262144) (ha : apOk k i (dealB au nu al [] 0)) :
  SOk (carryX X au nu al) (apI i (dealB au nu al [] 0)) (apS k i (dealB au nu al [] 0)) (N + 1) (W + 494) true := by
 obtain ⟨X0, ds, hi⟩ := h.img
 obtain ⟨h1, h2, _⟩ := carryX_ok h.ok (nu := nu) hf hh
 have e1 := h.inv.ap_ok hN (recD_len hf) hr ha
 have e2 := ap_ep h.ep (recD_len hf)
 exact ⟨e1, e2, ⟨X0, _, hi.ap hf hh⟩, h1, by have := h.last; push_cast; omega⟩
theorem SOk.ap_no {X : KHs} {i : KI} {k : KS} {N W : Nat} (h : SOk X i k N W true) {bs : Bs} (hr : i.size + 24 + bs.length ≤ 262144) (hb : bs.length ≤ 65536) (ha : ¬ apOk k i bs) : SOk X i (apS k i bs) (N + 1) W false :=
 ⟨h.inv.ap_no hb hr ha, h.ep, h.img, h.ok, by have := h.last; push_cast; omega⟩
/-- a memory is added -/
theorem MmOk.add {X : KHs} {ms : List (Int × KMh)} {zs : List (KMh × KMem)} (h : MmOk X ms zs) {au nu : Int} {al : List KAct} {hd : KMh} (hh : HdOf (hd, ⟨⟨au, nu, al⟩, (carryF X.s al).2⟩)) :
  MmOk (carryX X au nu al) (MeM.put ms au hd) (zs ++ [(hd, ⟨⟨au, nu, al⟩, (carryF X.s al).2⟩)]) where
 none_ := fun a ha => by
  show (if a = au then (some ⟨⟨au, nu, al⟩, (carryF X.s al).2⟩ : Option KMem) else X.done a) = none
  by_cases e : a = au
  ·subst e; rw [put_same] at ha; cases ha
  ·rw [put_ne e] at ha
   rw [if_neg e]
   exact h.none_ a ha
 some_ := fun a g ha => by
  show ∃ m, _ ∧ (if a = au then (some ⟨⟨au, nu, al⟩, (carryF X.s al).2⟩ : Option KMem) else X.done a) = some m
  by_cases e : a = au
  ·subst e
   rw [put_same] at ha
   injection ha with ha; subst ha
   exact ⟨_, List.mem_append_right _ (List.mem_singleton.2 rfl), if_pos rfl⟩
  ·rw [put_ne e] at ha
   obtain ⟨m, h1, h2⟩ := h.some_ a g ha
   exact ⟨m, List.mem_append_left _ h1, by rw [if_neg e]; exact h2⟩
 hdr := fun z hz => by
  rcases List.mem_append.1 hz with hz | hz
  ·exact h.hdr z hz
  ·rw [List.mem_singleton.1 hz]; exact hh
theorem MmOk.found {X : KHs} {ms : List (Int × KMh)} {zs : List (KMh × KMem)} (h : MmOk X ms zs) {au : Int} {m : KMem} (hm : X.done au = some m) : ∃ hd, MeM.look ms au = some hd ∧ (hd, m) ∈ zs ∧ HdOf (hd, m) := by
 cases e : MeM.look ms au with
 | none => rw [h.none_ au e] at hm; cases hm
 | some hd =>
  obtain ⟨m', h1, h2⟩ := h.some_ au hd e
  rw [hm] at h2; injection h2 with h2; subst h2
  exact ⟨hd, rfl, h1, h.hdr _ h1⟩
end Go.Td

namespace Go.Td
open Go Go.Sl Go.Proofs Go.Jn
/-- a header that was found, or the header of nothing -/
structure LkOk (X : KHs) (ms : List (Int × KMh)) (zs : List (KMh × KMem)) (au : Int) (hd : KMh) (mal : List KAct) (mhl : List Int) : Prop where
 yes : (MeM.look ms au).isSome = true → ∃ m, X.done au = some m ∧ (hd, m) ∈ zs ∧ HdOf (hd, m) ∧ m.d.acts = mal ∧ m.r.holds = mhl
 no : (MeM.look ms au).isSome = false → X.done au = none ∧ hd = zeroM ∧ mal = [] ∧ mhl = []
theorem MmOk.lk {X : KHs} {ms : List (Int × KMh)} {zs : List (KMh × KMem)} (h : MmOk X ms zs) (au : Int) : ∃ hd mal mhl, (MeM.look ms au).getD zeroM = hd ∧ LkOk X ms zs au hd mal mhl ∧ hd.n = mal.length ∧ hd.m = mhl.length := by
 cases e : MeM.look ms au with
 | none => exact ⟨zeroM, [], [], rfl, ⟨fun q => (by rw [e] at q; cases q), fun _ => ⟨h.none_ au e, rfl, rfl, rfl⟩⟩, rfl, rfl⟩
 | some hd =>
  obtain ⟨m, h1, h2⟩ := h.some_ au hd e
  have hh := h.hdr _ h1
  exact ⟨hd, m.d.acts, m.r.holds, rfl, ⟨fun _ => ⟨m, h2, h1, hh, rfl, rfl⟩, fun q => (by rw [e] at q; cases q)⟩, hh.n, hh.m⟩
section
variable {β : Base} {L : List Res} {X : KHs} {ms : List (Int × KMh)} {zs : List (KMh × KMem)} {au : Int} {hd : KMh} {mal : List KAct} {mhl : List Int}
theorem sl_none {α : Type} (R : Rp α) (h : PHeap) : Sl R h (.slice none 0 0) [] := ⟨none, 0, rfl, Nat.le_refl _, by decide, fun j x hx => by simp at hx⟩
theorem k_lkA (i : Nat) (hi : L[i]? = some (memR zs)) (h : LkOk X ms zs au hd mal mhl) : Knows β L (fun q => Sl ActF.R q (.slice hd.p hd.n hd.c) mal) := by
 cases e : (MeM.look ms au).isSome with
 | true => obtain ⟨m, _, h1, _, rfl, _⟩ := h.yes e; exact k_memA i hi h1
 | false => obtain ⟨_, rfl, rfl, _⟩ := h.no e; exact fun w _ hw => sl_none _ _
theorem k_lkH (i : Nat) (hi : L[i]? = some (memR zs)) (h : LkOk X ms zs au hd mal mhl) : Knows β L (fun q => Sl IntF.R q (.slice hd.q hd.m hd.k) mhl) := by
 cases e : (MeM.look ms au).isSome with
 | true => obtain ⟨m, _, h1, _, _, rfl⟩ := h.yes e; exact k_memH i hi h1
 | false => obtain ⟨_, rfl, _, rfl⟩ := h.no e; exact fun w _ hw => sl_none _ _
variable (h : LkOk X ms zs au hd mal mhl) {nu : Int} {al : List KAct}
include h
theorem LkOk.few (hX : XOk X) : mhl.length ≤ 1048576 := by
 cases e : (MeM.look ms au).isSome with
 | true => obtain ⟨m, h1, _, _, _, rfl⟩ := h.yes e; have := (hX.m _ _ h1).r.hn; omega
 | false => obtain ⟨_, _, _, rfl⟩ := h.no e; decide
theorem do_badF (hf : dformed au nu al = false) : doF X au nu al = (X, zeroRes, 2) := if_pos hf
theorem do_sameF (hf : dformed au nu al = true) (h1 : (((MeM.look ms au).isSome && decide (hd.number = nu)) && decide (mal = al)) = true) : doF X au nu al = (X, ⟨hd.done, hd.at_, hd.e, mhl⟩, 0) := by
 simp only [Bool.and_eq_true, decide_eq_true_eq] at h1
 obtain ⟨m, h2, _, h4, h5, h6⟩ := h.yes h1.1.1
 have e1 : m.d.number = nu := h4.nu.symm.trans h1.1.2
 have e2 : m.r = ⟨hd.done, hd.at_, hd.e, mhl⟩ := by
  have a := h4.dn; have b := h4.at_; have c := h4.e
  cases hr : m.r
  rw [hr] at a b c h6
  simp only at a b c h6
  rw [a, b, c, ← h6]
 unfold doF
 rw [if_neg (by rw [hf]; decide), h2]
 show (if m.d.number = nu then (if m.d.acts = al then (X, m.r, (0 : Int)) else _) else _) = _
 rw [if_pos e1, if_pos (h5.trans h1.2), e2]
theorem do_otherF (hf : dformed au nu al = true) (h1 : ¬ (((MeM.look ms au).isSome && decide (hd.number = nu)) && decide (mal = al)) = true) (h2 : ((MeM.look ms au).isSome && decide (hd.number = nu)) = true) : doF X au nu al = (X, zeroRes, 331) := by
 rw [h2] at h1
 simp only [Bool.and_eq_true, decide_eq_true_eq, true_and] at h1 h2
 obtain ⟨m, h3, _, h4, h5, h6⟩ := h.yes h2.1
 unfold doF
 rw [if_neg (by rw [hf]; decide), h3]
 show (if m.d.number = nu then (if m.d.acts = al then _ else (X, zeroRes, (331 : Int))) else _) = _
 rw [if_pos (h4.nu.symm.trans h2.2), if_neg (by rw [h5]; exact h1)]
theorem do_oldF (hf : dformed au nu al = true) (h1 : ¬ ((MeM.look ms au).isSome && decide (hd.number = nu)) = true) (h2 : ((MeM.look ms au).isSome && decide (nu < hd.number)) = true) : doF X au nu al = (X, zeroRes, 332) := by
 simp only [Bool.and_eq_true, decide_eq_true_eq] at h1 h2
 obtain ⟨m, h3, _, h4, h5, h6⟩ := h.yes h2.1
 have e : hd.number = m.d.number := h4.nu
 unfold doF
 rw [if_neg (by rw [hf]; decide), h3]
 show (if m.d.number = nu then _ else if nu < m.d.number then (X, zeroRes, (332 : Int)) else _) = _
 rw [if_neg (by intro q; exact h1 ⟨h2.1, e.trans q⟩), if_pos (by rw [← e]; exact h2.2)]
theorem do_newF (hf : dformed au nu al = true) (h1 : ¬ ((MeM.look ms au).isSome && decide (hd.number = nu)) = true) (h2 : ¬ ((MeM.look ms au).isSome && decide (nu < hd.number)) = true) : doF X au nu al = (carryX X au nu al, (carryF X.s al).2, 0) := by
 unfold doF
 rw [if_neg (by rw [hf]; decide)]
 cases e : (MeM.look ms au).isSome with
 | true =>
  rw [e] at h1 h2
  simp only [Bool.true_and, decide_eq_true_eq] at h1 h2
  obtain ⟨m, h3, _, h4, h5, h6⟩ := h.yes e
  have e : hd.number = m.d.number := h4.nu
  rw [h3]
  show (if m.d.number = nu then _ else if nu < m.d.number then _ else _) = _
  rw [if_neg (by rw [← e]; exact h1), if_neg (by rw [← e]; exact h2)]
  rfl
 | false => rw [(h.no e).1]; rfl
end
theorem HOk.mono {X : KHs} {s : KSt} {ms : List (Int × KMh)} {zs : List (KMh × KMem)} {i : KI} {k : KS} {N M W V : Nat} (h : HOk X s ms zs i k N W) (hM : N ≤ M) (hV : W ≤ V) : HOk X s ms zs i k M V := ⟨h.eq, h.so.mono hM hV, h.mm⟩
theorem HOk.goodS {X : KHs} {s : KSt} {ms : List (Int × KMh)} {zs : List (KMh × KMem)} {i : KI} {k : KS} {N W : Nat} (h : HOk X s ms zs i k N W) (hN : N ≤ 1000000) : GoodS s 1152921504606846976 := by
 have h1 := h.eq.l; have h2 := h.so.last
 exact (h.eq.good2 h.so.ok.g).good (by omega) (by decide)
/-- a transaction is carried out -/
theorem HOk.ap {X : KHs} {s z : KSt} {ro : KRes} {ms : List (Int × KMh)} {zs : List (KMh × KMem)} {i j : KI} {k q : KS} {N W M V : Nat} (h : HOk X s ms zs i k N W) {au nu : Int} {al : List KAct} (hc : carryF s al = (z, ro)) (hs : SOk (carryX X au nu al) j q M V true) {hd : KMh} (hh : HdOf (hd, ⟨⟨au, nu, al⟩, ro⟩)) :
  HOk (carryX X au nu al) z (MeM.put ms au hd) (zs ++ [(hd, ⟨⟨au, nu, al⟩, ro⟩)]) j q M V ∧ (carryF X.s al).2 = ro := by
 obtain ⟨h1, h2⟩ := carry_eq h.eq al
 rw [hc] at h1 h2
 refine ⟨⟨h1, hs, ?_⟩, h2.symm⟩
 have h2 : ro = (carryF X.s al).2 := h2
 subst h2
 exact h.mm.add hh
end Go.Td
