/-
 How stores, images and journals lie in memory. Own work; plain Lean.
-/
import Derived.Test.YtjejfkajcbdgjaaGreatJnDef
import Derived.Test.YtjejfkajcbdgjaaGreatSlJb
namespace Go.Jn
open Go.Sl

abbrev stCells (pH pA pB : Option Addr) (cH cA cB : Nat) (k : KS) : Array Value := #[.slice pH k.head.length cH, .slice pA k.a.length cA, .slice pB k.b.length cB, Ix k.power]
abbrev stL (S : Nat) (pH pA pB : Option Addr) (cH cA cB : Nat) (k : KS) : List Res :=
 [pt S (.cells (stCells pH pA pB cH cA cB k) 29), row (.slice pH k.head.length cH) 5 1 k.head.length (BX k.head), row (.slice pA k.a.length cA) 5 1 k.a.length (BX k.a), row (.slice pB k.b.length cB) 5 1 k.b.length (BX k.b)]
/-- a store of one's own, in block S -/
def storeR (S : Nat) (k : KS) : Res := fun h => ∃ pH pA pB cH cA cB, Sat (stL S pH pA pB cH cA cB k) h
theorem St.openStore {β : Base} {S : Nat} {k : KS} {M : List Res} {w : World} (h : St β (storeR S k :: M) w) : ∃ pH pA pB cH cA cB, St β (stL S pH pA pB cH cA cB k ++ M) w := by
 obtain ⟨ho, ht, hp, a, hd, hs, hs', p, q, h1, h2, h3, ⟨pH, pA, pB, cH, cA, cB, hx⟩, h5⟩ := h
 exact ⟨pH, pA, pB, cH, cA, cB, St.unbun ⟨ho, ht, hp, a, hd, hs, hs', p, q, h1, h2, h3, hx, h5⟩⟩
theorem St.closeStore {β : Base} {S : Nat} {pH pA pB : Option Addr} {cH cA cB : Nat} {k : KS} {M : List Res} {w : World} (h : St β (stL S pH pA pB cH cA cB k ++ M) w) : St β (storeR S k :: M) w :=
 h.merge fun _ h => ⟨pH, pA, pB, cH, cA, cB, h⟩

abbrev jCells (S : Nat) (ps pr : Option Addr) (cs cr : Nat) (i : KI) (dn : Bool) : Array Value :=
 #[.pointer (some ⟨S, 0, none⟩), Nx i.epoch, Nx i.next, .slice ps i.state.length cs, .slice pr i.recs.length cr, Nx i.size, .bool dn]
abbrev jL (J S : Nat) (ps pr : Option Addr) (cs cr : Nat) (i : KI) (dn : Bool) : List Res :=
 [pt J (.cells (jCells S ps pr cs cr i dn) 143), row (.slice ps i.state.length cs) 5 1 i.state.length (BX i.state), recsR 27 pr cr i.recs]
/-- a Journal of one's own, in block J, on the store in block S -/
def jourR (J S : Nat) (i : KI) (dn : Bool) : Res := fun h => ∃ ps pr cs cr, Sat (jL J S ps pr cs cr i dn) h
theorem St.openJour {β : Base} {J S : Nat} {i : KI} {dn : Bool} {M : List Res} {w : World} (h : St β (jourR J S i dn :: M) w) : ∃ ps pr cs cr, St β (jL J S ps pr cs cr i dn ++ M) w := by
 obtain ⟨ho, ht, hp, a, hd, hs, hs', p, q, h1, h2, h3, ⟨ps, pr, cs, cr, hx⟩, h5⟩ := h
 exact ⟨ps, pr, cs, cr, St.unbun ⟨ho, ht, hp, a, hd, hs, hs', p, q, h1, h2, h3, hx, h5⟩⟩
theorem St.closeJour {β : Base} {J S : Nat} {ps pr : Option Addr} {cs cr : Nat} {i : KI} {dn : Bool} {M : List Res} {w : World} (h : St β (jL J S ps pr cs cr i dn ++ M) w) : St β (jourR J S i dn :: M) w :=
 h.merge fun _ h => ⟨ps, pr, cs, cr, h⟩

/-- what a failure of the power hands on -/
def chP : List PanicEntry := [{ v := .iface 185 (.agg #[]), recovered := false }]

/-! What the journal's methods make of a store. -/
def spendP (p : Int) : Int := if 0 < p then p - 1 else p
theorem wr_length {xs : Bs} : ∀ {bs : Bs} {at_ : Nat}, (wr xs at_ bs).length ≤ xs.length + bs.length
 | [], _ => by simp [wr]
 | b :: bs, at_ => by
  unfold wr
  refine Nat.le_trans (wr_length (bs := bs)) ?_
  split <;> simp <;> omega
theorem wr_snoc {xs : Bs} {b : UInt8} : ∀ {bs : Bs} {at_ : Nat}, wr xs at_ (bs ++ [b]) = (if at_ + bs.length < (wr xs at_ bs).length then (wr xs at_ bs).set (at_ + bs.length) b else wr xs at_ bs ++ [b])
 | [], at_ => by simp [wr]; rfl
 | c :: bs, at_ => by
  show wr _ (at_ + 1) (bs ++ [b]) = _
  rw [wr_snoc (bs := bs)]
  simp only [wr, List.length_cons, show at_ + 1 + bs.length = at_ + (bs.length + 1) by omega]
  rfl
theorem wr_take {xs bs : Bs} {at_ k : Nat} {b : UInt8} (h : bs[k]? = some b) : wr xs at_ (bs.take (k + 1)) = (if at_ + k < (wr xs at_ (bs.take k)).length then (wr xs at_ (bs.take k)).set (at_ + k) b else wr xs at_ (bs.take k) ++ [b]) := by
 have hl := (List.getElem?_eq_some_iff.1 h).1
 rw [take_succ h, wr_snoc]
 simp [Nat.min_eq_left (Nat.le_of_lt hl)]
theorem pw_step {p : Int} {k m : Nat} (h : k ≤ pw p m) (hk : k < m) (hp : pl p k ≠ 0) : k + 1 ≤ pw p m ∧ spendP (pl p k) = pl p (k + 1) := by
 unfold pw pl spendP at *
 by_cases h0 : p < 0
 ·rw [if_pos h0] at h hp ⊢
  rw [if_pos h0, if_pos h0]
  exact ⟨by omega, if_neg (by omega)⟩
 ·rw [if_neg h0] at h hp ⊢
  rw [if_neg h0, if_neg h0]
  refine ⟨by omega, ?_⟩
  split <;> omega
theorem pw_stop {p : Int} {k m : Nat} (h : k ≤ pw p m) (hk : k < m) (hp : pl p k = 0) : pw p m = k ∧ pl p m = 0 := by
 unfold pw pl at *
 by_cases h0 : p < 0
 ·rw [if_pos h0] at hp; omega
 ·rw [if_neg h0] at h hp
  rw [if_neg h0, if_neg h0]
  omega
theorem pw_all {p : Int} {m k : Nat} (h : k ≤ pw p m) (hk : m ≤ k) : pw p m = m ∧ k = m := by
 unfold pw at *
 split at h <;> (constructor <;> (try split) <;> omega)
/-- write: the area, the power left, and whether all was written -/
def wrA (xs : Bs) (p : Int) (at_ : Nat) (bs : Bs) : Bs := wr xs at_ (bs.take (pw p bs.length))
def wrOk (p : Int) (bs : Bs) : Prop := pw p bs.length = bs.length
instance (p : Int) (bs : Bs) : Decidable (wrOk p bs) := by unfold wrOk; infer_instance
/-- cut -/
def cutOk (xs : Bs) (p : Int) (size : Nat) : Prop := xs.length ≤ size ∨ p ≠ 0
instance (xs : Bs) (p : Int) (size : Nat) : Decidable (cutOk xs p size) := by unfold cutOk; infer_instance
def cutA (xs : Bs) (p : Int) (size : Nat) : Bs := if p = 0 then xs else xs.take size
def cutP (xs : Bs) (p : Int) (size : Nat) : Int := if size < xs.length then spendP p else p

/-- the store behind writing to the area of an epoch, behind cutting it -/
def wrS (k : KS) (e at_ : Nat) (bs : Bs) : KS := { k.setArea e (wrA (k.area e) k.power at_ bs) with power := pl k.power bs.length }
def cutS (k : KS) (e size : Nat) : KS := { k.setArea e (cutA (k.area e) k.power size) with power := cutP (k.area e) k.power size }
/-- what Append does to the store -/
def apS (k : KS) (i : KI) (bs : Bs) : KS := wrS k i.epoch i.size (formB i.epoch i.next bs)
def apOk (k : KS) (i : KI) (bs : Bs) : Prop := wrOk k.power (formB i.epoch i.next bs)
instance (k : KS) (i : KI) (bs : Bs) : Decidable (apOk k i bs) := by unfold apOk; infer_instance
def apI (i : KI) (bs : Bs) : KI := { i with recs := i.recs ++ [bs], size := i.size + (formB i.epoch i.next bs).length, next := i.next + 1 }
/-- what Checkpoint does to the store: epoch e, number n -/
def copyB (e : Nat) : Bs := be 8 (U (e : Int)) ++ be 8 (tickU (e : Int))
def ck1 (k : KS) (e : Nat) : KS := cutS k e 0
def ck2 (k : KS) (e n : Nat) (bs : Bs) : KS := wrS (ck1 k e) e 0 (formB e n bs)
def ck3 (k : KS) (e n : Nat) (bs : Bs) : KS := let q := ck2 k e n bs; if q.head.length = 0 then { q with head := List.replicate 32 0 } else q
def ckOk1 (k : KS) (e : Nat) : Prop := cutOk (k.area e) k.power 0
def ckOk2 (k : KS) (e n : Nat) (bs : Bs) : Prop := wrOk (ck1 k e).power (formB e n bs)
def ckOk3 (k : KS) (e n : Nat) (bs : Bs) : Prop := wrOk (ck3 k e n bs).power (copyB e)
instance (k : KS) (e : Nat) : Decidable (ckOk1 k e) := by unfold ckOk1; infer_instance
instance (k : KS) (e n : Nat) (bs : Bs) : Decidable (ckOk2 k e n bs) := by unfold ckOk2; infer_instance
instance (k : KS) (e n : Nat) (bs : Bs) : Decidable (ckOk3 k e n bs) := by unfold ckOk3; infer_instance
def ckOk (k : KS) (e n : Nat) (bs : Bs) : Prop := ckOk1 k e ∧ ckOk2 k e n bs ∧ ckOk3 k e n bs
instance (k : KS) (e n : Nat) (bs : Bs) : Decidable (ckOk k e n bs) := by unfold ckOk; infer_instance
end Go.Jn
namespace Go.Jn
open Go.Sl
section
variable {P : Program} {ro : Option Nat} {n : Nat} {ds : List Deferred} {β : Base} {Q : Exit → Act → World → Prop} {f : Fm} {L : List Res} {ops : Array Oper} {rest : List Oper}
variable {d : Option Tmp} {ty : TypeId} {ps : String} {af : Array Edge} {g : Option (Nat × Bool)}

theorem c_openStore {c : Code} {S : Nat} {k : KS} {M : List Res} (hL : L = storeR S k :: M) (K : ∀ pH pA pB cH cA cB, RunC P ro n ds β c Q f (stL S pH pA pB cH cA cB k ++ M)) : RunC P ro n ds β c Q f L := fun a w ha hw => by
 subst hL
 obtain ⟨pH, pA, pB, cH, cA, cB, h⟩ := St.openStore hw
 exact K pH pA pB cH cA cB a w ha h
theorem c_closeStore {c : Code} {S : Nat} {pH pA pB : Option Addr} {cH cA cB : Nat} {k : KS} {M : List Res} (hL : L = stL S pH pA pB cH cA cB k ++ M) (K : RunC P ro n ds β c Q f (storeR S k :: M)) : RunC P ro n ds β c Q f L := fun a w ha hw => by
 subst hL
 exact K a w ha (St.closeStore hw)
/-- append of one slice of bytes to a row of such -/
theorem m_appendRec {x y : Operand} {t T bytes b n2 c2 c : Nat} {p q : Option Addr} {xs : List Bs} {bs : Bs} {M : List Res} (hL : L = recsR T p c xs :: row (.slice q n2 c2) 5 1 n2 (BX bs) :: pt b (.cells #[.slice q n2 c2] T) :: M)
  (hsl : slB P t T 1 = true) (hel : elB P T 1 bytes = true) (hx : ev f x = .slice p xs.length c) (hy : ev f y = .slice (some ⟨b, 0, none⟩) 1 1) (hby : (xs.length + 1) * bytes ≤ 140737488355328) (h63 : xs.length + 1 ≤ 140737488355328) :
  MV P β L f ⟨d, .call ⟨.builtin .append, #[x, y], #[t, t]⟩, ty, ps, af, g⟩ (fun v' L' => ∃ p' c', v' = .slice p' (xs ++ [bs]).length c' ∧ L' = recsR T p' c' (xs ++ [bs]) :: pt b (.cells #[.slice q n2 c2] T) :: M) := fun w hw => by
 subst hL
 obtain ⟨us, hw1⟩ := hw.ex (r := fun us h => Sat [row (.slice p xs.length c) T 1 xs.length us, ins us xs] h)
 have hw2 := hw1.unbun
 have hk : Knows β (row (.slice p xs.length c) T 1 xs.length us :: ins us xs :: row (.slice q n2 c2) 5 1 n2 (BX bs) :: pt b (.cells #[.slice q n2 c2] T) :: M) (fun h => Cs h (ba (some ⟨b, 0, none⟩)) [.slice q n2 c2]) :=
  k_pt 3 (cs := #[.slice q n2 c2]) (vs := [.slice q n2 c2]) rfl rfl
 obtain ⟨v', w', L', g1, g2, p', c', rfl, rfl⟩ := m_append_w (P := P) (ty := ty) (ps := ps) (af := af) (g := g) (d := d) (m := xs.length) (vs := us) (n := 1) 0 hsl hel hx rfl hy (by rfl) hk (by rfl) (fun _ => rfl) (by unfold maxLen; omega) hby w hw2
 have e1 : (xs ++ [bs]).length = xs.length + 1 := by simp
 refine ⟨_, w', _, g1, ?_, p', c', by rw [e1], rfl⟩
 have g3 : St β ([row (.slice p' (xs.length + 1) c') T 1 (xs.length + 1) (us ++ [.slice q n2 c2]), ins us xs, row (.slice q n2 c2) 5 1 n2 (BX bs)] ++ (pt b (.cells #[.slice q n2 c2] T) :: M)) w' := g2
 refine St.merge g3 ?_
 rintro a ⟨a1, b1, hd, h1, h2, hr, a2, b2, hd2, h3, h4, hi, a3, b3, hd3, h5, h6, hr2, _⟩
 refine ⟨us ++ [.slice q n2 c2], a1, b1, hd, h1, h2, by rw [e1]; exact hr, b1, fun _ => none, fun _ => .inr rfl, Sub.refl _, fun _ _ h => (by cases h), ?_, trivial⟩
 exact ins_snoc (ins.mono _ _ _ _ h3 hi) (Sl.mono _ _ _ _ _ (h5.trans h4) (row_u8 hr2)) (shp.mono _ _ _ (h5.trans h4) (row_shp hr2))
end

/-- what is to be read of a Journal -/
def JF (J S : Nat) (i : KI) (dn : Bool) : PHeap → Prop := fun h => ∃ ps pr cs cr, Cs h ⟨J, 0, none⟩ (jCells S ps pr cs cr i dn).toList ∧ Sl U8R h (.slice ps i.state.length cs) i.state ∧ Sl BsR h (.slice pr i.recs.length cr) i.recs
theorem JF.mono (J S : Nat) (i : KI) (dn : Bool) : Mono (JF J S i dn) := fun h h' hs ⟨ps, pr, cs, cr, h1, h2, h3⟩ => ⟨ps, pr, cs, cr, Cs.mono _ _ _ _ hs h1, Sl.mono _ _ _ _ _ hs h2, Sl.mono _ _ _ _ _ hs h3⟩
theorem wrS_even {k : KS} {e at_ : Nat} {bs : Bs} (h : e % 2 = 0) : { k with a := wrA k.a k.power at_ bs, power := pl k.power bs.length } = wrS k e at_ bs := by simp [wrS, KS.setArea, KS.area, h]
theorem wrS_odd {k : KS} {e at_ : Nat} {bs : Bs} (h : e % 2 = 1) : { k with b := wrA k.b k.power at_ bs, power := pl k.power bs.length } = wrS k e at_ bs := by simp [wrS, KS.setArea, KS.area, h]
theorem cutS_even {k : KS} {e size : Nat} (h : e % 2 = 0) : { k with a := cutA k.a k.power size, power := cutP k.a k.power size } = cutS k e size := by simp [cutS, KS.setArea, KS.area, h]
theorem cutS_odd {k : KS} {e size : Nat} (h : e % 2 = 1) : { k with b := cutA k.b k.power size, power := cutP k.b k.power size } = cutS k e size := by simp [cutS, KS.setArea, KS.area, h]
theorem area_even {k : KS} {e : Nat} (h : e % 2 = 0) : k.area e = k.a := if_pos h
theorem area_odd {k : KS} {e : Nat} (h : e % 2 = 1) : k.area e = k.b := if_neg (by omega)
def KS.fits (k : KS) (m : Nat) : Prop := k.head.length ≤ 1048576 ∧ k.a.length ≤ m ∧ k.b.length ≤ m ∧ k.power ≤ 9223372036854775807
theorem KS.fits.le {k : KS} {m m' : Nat} (h : k.fits m) (hm : m ≤ m') : k.fits m' := ⟨h.1, by have := h.2.1; omega, by have := h.2.2.1; omega, h.2.2.2⟩
theorem KS.fits.wr {k : KS} {m e at_ : Nat} {bs : Bs} (h : k.fits m) : (wrS k e at_ bs).fits (m + bs.length) := by
 have h1 : ∀ xs : Bs, xs.length ≤ m → (wrA xs k.power at_ bs).length ≤ m + bs.length := fun xs hx => by
  unfold wrA
  refine Nat.le_trans wr_length ?_
  simp; omega
 have hp : pl k.power bs.length ≤ k.power := by unfold pl; split <;> omega
 unfold wrS KS.setArea KS.area
 obtain ⟨a, b, c, d⟩ := h
 split <;> rename_i hh <;> simp only [hh, if_true] <;> exact ⟨a, by first | (simp; omega) | (have := h1 k.a b; omega), by first | (simp; omega) | (have := h1 k.b c; omega), by show pl _ _ ≤ _; omega⟩
theorem KS.fits.cut {k : KS} {m e size : Nat} (h : k.fits m) : (cutS k e size).fits m := by
 have h1 : ∀ xs : Bs, xs.length ≤ m → (cutA xs k.power size).length ≤ m := fun xs hx => by
  unfold cutA; split
  ·exact hx
  ·simp; omega
 have hp : ∀ xs, cutP xs k.power size ≤ k.power := fun xs => by unfold cutP spendP; split <;> (try split) <;> omega
 unfold cutS KS.setArea KS.area
 obtain ⟨a, b, c, d⟩ := h
 split <;> rename_i hh <;> simp only [hh, if_true] <;> exact ⟨a, by first | (have := h1 k.a b; omega) | exact b, by first | (have := h1 k.b c; omega) | exact c, by first | (have := hp k.a; show cutP _ _ _ ≤ _; omega) | (have := hp k.b; show cutP _ _ _ ≤ _; omega)⟩
end Go.Jn
