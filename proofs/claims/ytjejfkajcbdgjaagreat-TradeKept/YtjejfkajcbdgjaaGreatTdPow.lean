/-
 A house whose power may fail: how much of it is left is not told. Own work; plain Lean.
-/
import Derived.Test.YtjejfkajcbdgjaaGreatTd23
import Derived.Test.YtjejfkajcbdgjaaGreatTdHouE
namespace Go.Td
open Go Go.Sl Go.Proofs Go.Jn
def houseP (H S : Nat) (X : KHs) (N W : Nat) : Res := fun h => ∃ q, houseR H S X N W q h
def shelfP (S : Nat) (X : KHs) (N W : Nat) : Res := fun h => ∃ q, shelfR S X N W q h
/-- what is left of a house behind an error -/
def endP (e : Int) (H S : Nat) (X X1 : KHs) (N W : Nat) : Res := fun h => (e = 0 ∧ houseP H S X1 N W h) ∨ (e = 310 ∧ shelfP S X N W h)
def roE (e : Int) (R : KRes) : KRes := if e = 0 then R else zeroRes
section
variable {β : Base} {H S N W : Nat} {q : Int} {X X1 : KHs} {M : List Res} {w : World}
theorem St.openP (h : St β (houseP H S X N W :: M) w) : ∃ q, St β (houseR H S X N W q :: M) w := by
 obtain ⟨ho, ht, hp, a, hd, hs, hs', q, r, h1, h2, h3, ⟨p, hx⟩, h5⟩ := h
 exact ⟨p, ho, ht, hp, a, hd, hs, hs', q, r, h1, h2, h3, hx, h5⟩
theorem St.closeP (h : St β (houseR H S X N W q :: M) w) : St β (houseP H S X N W :: M) w := h.conseq fun _ h => ⟨q, h⟩
theorem St.openSP (h : St β (shelfP S X N W :: M) w) : ∃ q, St β (shelfR S X N W q :: M) w := by
 obtain ⟨ho, ht, hp, a, hd, hs, hs', q, r, h1, h2, h3, ⟨p, hx⟩, h5⟩ := h
 exact ⟨p, ho, ht, hp, a, hd, hs, hs', q, r, h1, h2, h3, hx, h5⟩
theorem St.closeSP (h : St β (shelfR S X N W q :: M) w) : St β (shelfP S X N W :: M) w := h.conseq fun _ h => ⟨q, h⟩
/-- a house is left: its store remains -/
theorem St.leaveP (h : St β (houseP H S X N W :: M) w) : St β (shelfP S X N W :: M) w := by
 obtain ⟨p, h⟩ := St.openP h
 obtain ⟨J, i, k, h1, h2, h3⟩ := St.splitHouse h
 have h4 := h3.perm (L' := storeR S k :: viewR H J X false :: jourR J S i false :: M) (List.Perm.append_right M (perm_ix (L := [viewR H J X false, jourR J S i false, storeR S k]) (L' := [storeR S k, viewR H J X false, jourR J S i false]) [2, 0, 1] 3 rfl (by kernel_rfl) (by kernel_rfl)))
 exact St.closeSP (St.closeShelf h1.weak h2 (h4.drop (.cons_cons _ (.cons _ (.cons _ (List.Sublist.refl _))))))
end
/-! the law -/
theorem supL_snoc : ∀ (l : List KAct) (x : KAct) (su : KAm), supL (l ++ [x]) su = supD x (supL l su)
 | [], _, _ => rfl
 | y :: l, x, su => supL_snoc l x (supD y su)
noncomputable def supS (dn : Bool) (l : List KAct) (s0 : KAm) : KAm := if dn then supL l s0 else s0
theorem sup_bd0 {X : KHs} (h : XOk X) : X.s.su.bd (1099511627776 + ((0 : Nat) : Int) * 2147483648) := by have := h.g.sup; unfold KAm.bd; omega
section
variable {al : List KAct} {m : Nat} {x : KAct} {s0 su : KAm} {dn : Bool}
theorem supS_nil : s0 = supS dn (al.take 0) s0 := by unfold supS; cases dn <;> rfl
theorem supS_next (hx : al[m]? = some x) : supS dn (al.take (m + 1)) s0 = if dn then supD x (supS dn (al.take m) s0) else supS dn (al.take m) s0 := by
 unfold supS
 cases dn with
 | false => rfl
 | true =>
  show supL (al.take (m + 1)) s0 = supD x (supL (al.take m) s0)
  rw [List.take_add_one, hx]; exact supL_snoc _ _ _
theorem sup_off (hx : al[m]? = some x) (hs : su = supS dn (al.take m) s0) (hd : dn = false) : su = supS dn (al.take (m + 1)) s0 := by
 rw [supS_next hx, hd]; rw [hd] at hs; exact hs
theorem sup_add (hx : al[m]? = some x) (hs : su = supS dn (al.take m) s0) (hd : dn = true) (hk : x.kind = 1) : (⟨su.a0 + x.a.a0, su.a1 + x.a.a1, su.a2 + x.a.a2, su.a3 + x.a.a3⟩ : KAm) = supS dn (al.take (m + 1)) s0 := by
 rw [supS_next hx, hd, if_pos rfl, ← hd, ← hs]
 unfold supD
 rw [hk, if_pos (by decide)]
 unfold KAm.plus
 simp only [Int.one_mul]
theorem sup_sub (hx : al[m]? = some x) (hs : su = supS dn (al.take m) s0) (hd : dn = true) (hk : x.kind = 2) : (⟨su.a0 - x.a.a0, su.a1 - x.a.a1, su.a2 - x.a.a2, su.a3 - x.a.a3⟩ : KAm) = supS dn (al.take (m + 1)) s0 := by
 rw [supS_next hx, hd, if_pos rfl, ← hd, ← hs]
 unfold supD
 rw [hk, if_neg (by decide), if_pos (by decide)]
 unfold KAm.plus
 simp only [KAm.mk.injEq]
 omega
theorem sup_none (hx : al[m]? = some x) (hs : su = supS dn (al.take m) s0) (hk1 : ¬ x.kind = 1) (hk2 : ¬ x.kind = 2) : su = supS dn (al.take (m + 1)) s0 := by
 have e : ∀ s, supD x s = s := fun s => by
  unfold supD
  rw [if_neg (fun h => hk1 (UInt8.toNat_inj.1 (by show x.kind.toNat = 1; omega))), if_neg (fun h => hk2 (UInt8.toNat_inj.1 (by show x.kind.toNat = 2; omega)))]
 rw [supS_next hx, ← hs, e]
 cases dn <;> rfl
end
theorem NumOk.le {X : KHs} {n m : Int} (h : NumOk X n) (hn : n ≤ m) : NumOk X m := fun a y hy => by have := h a y hy; omega
theorem last_lt {X : KHs} {n au : Int} (h : NumOk X n) : ((lastX X au).2.2 && decide ((lastX X au).1 = n)) = false := by
 unfold lastX
 cases e : X.done au with
 | none => rfl
 | some m =>
  have := h au m e
  show (true && decide (m.d.number = n)) = false
  rw [decide_eq_false (by omega)]; rfl
/-- what a transaction of the law makes of the supply and of the numbers -/
structure StepOk (X X1 : KHs) (n : Int) (al : List KAct) (R : KRes) : Prop where
 su : supS R.done al X.s.su = X1.s.su
 n1 : NumOk X1 (n + 1)
theorem step_ok {X : KHs} (h : XOk X) {au n : Int} {al : List KAct} (hf : dformed au n al = true) (hn : NumOk X n) : ∃ X1 R, doF X au n al = (X1, R, 0) ∧ StepOk X X1 n al R := by
 obtain ⟨h1, h2, h3, h4⟩ := dformed_iff.1 hf
 have g := (carry_good2 h.g h4 h3.2).2.2.2.2
 exact ⟨_, _, doF_new hf (fun m hm => (hn au m hm).2), g.symm, hn.next h2.1 (by omega) _ _⟩
theorem roE_bad {e : Int} {R : KRes} (h : e = 310) : roE e R = zeroRes := by unfold roE; rw [h]; rfl
theorem roE_good {e : Int} {R : KRes} (h : e = 0) : roE e R = R := if_pos h
theorem step_no {X : KHs} {n : Int} (hn : NumOk X n) (al : List KAct) : StepOk X X n al zeroRes := ⟨rfl, fun a m h => by have := hn a m h; omega⟩
theorem St.okP {β : Base} {H S N W : Nat} {X : KHs} {M : List Res} {w : World} (h : St β (houseP H S X N W :: M) w) : XOk X ∧ St β (houseP H S X N W :: M) w := by
 obtain ⟨q, h2⟩ := St.openP h
 obtain ⟨J, mp, mh, mm, s, ms, zs, i, k, h1, _, _⟩ := St.openHouse h2
 exact ⟨h1.so.ok, h⟩
section
variable {P : Program} {ro : Option Nat} {n : Nat} {ds : List Deferred} {β : Base} {Q : Exit → Act → World → Prop} {f : Fm} {L : List Res}
theorem c_okP {c : Code} {H S N W : Nat} {X : KHs} {M : List Res} (hL' : L = houseP H S X N W :: M) (K : XOk X → RunC P ro n ds β c Q f (houseP H S X N W :: M)) : RunC P ro n ds β c Q f L := fun a w ha hw => by
 subst hL'; exact K (St.okP hw).1 a w ha hw
theorem c_closeP {c : Code} {H S N W : Nat} {q : Int} {X : KHs} {M : List Res} (hL' : L = houseR H S X N W q :: M) (K : RunC P ro n ds β c Q f (houseP H S X N W :: M)) : RunC P ro n ds β c Q f L := fun a w ha hw => by
 subst hL'; exact K a w ha (St.closeP hw)
theorem c_openP {c : Code} {H S N W : Nat} {X : KHs} {M : List Res} (hL' : L = houseP H S X N W :: M) (K : ∀ q, RunC P ro n ds β c Q f (houseR H S X N W q :: M)) : RunC P ro n ds β c Q f L := fun a w ha hw => by
 subst hL'
 obtain ⟨q, h⟩ := St.openP hw
 exact K q a w ha h
theorem c_leaveP {c : Code} {H S N W : Nat} {X : KHs} {M : List Res} (hL' : L = houseP H S X N W :: M) (K : RunC P ro n ds β c Q f (shelfP S X N W :: M)) : RunC P ro n ds β c Q f L := fun a w ha hw => by
 subst hL'; exact K a w ha (St.leaveP hw)
theorem c_endGood {c : Code} {e : Int} {H S N W : Nat} {X X1 : KHs} {M : List Res} (he : e = 0) (hL' : L = endP e H S X X1 N W :: M) (K : RunC P ro n ds β c Q f (houseP H S X1 N W :: M)) : RunC P ro n ds β c Q f L := fun a w ha hw => by
 subst hL'
 exact K a w ha (hw.conseq fun _ h => h.elim (·.2) fun h => absurd (he.symm.trans h.1) (by decide))
theorem c_endBad {c : Code} {e : Int} {H S N W : Nat} {X X1 : KHs} {M : List Res} (he : ¬ e = 0) (hL' : L = endP e H S X X1 N W :: M) (K : e = 310 → RunC P ro n ds β c Q f (shelfP S X N W :: M)) : RunC P ro n ds β c Q f L := fun a w ha hw => by
 subst hL'
 obtain ⟨ho, ht, hp, b, hd, hs, hs', q, r, h1, h2, h3, (⟨h4, _⟩ | ⟨h4, h5⟩), h6⟩ := hw
 ·exact absurd h4 he
 ·exact K h4 a w ha ⟨ho, ht, hp, b, hd, hs, hs', q, r, h1, h2, h3, h5, h6⟩
theorem houseP_le {H S N W M V : Nat} {X : KHs} (hN : N ≤ M) (hW : W ≤ V) (a : PHeap) (h : houseP H S X N W a) : houseP H S X M V a := by
 obtain ⟨q, h⟩ := h; exact ⟨q, houseR_le hN hW a h⟩
theorem f_houPLe {e : Exit} {H S N W M V : Nat} {X : KHs} (i : Nat) (hi : L[i]? = some (houseP H S X N W)) (hN : N ≤ M) (hW : W ≤ V) (k : Fin n ds β Q e f (L.set i (houseP H S X M V))) : Fin n ds β Q e f L := fun a w ha hw => k a w ha (hw.conseq_at i hi (houseP_le hN hW))
end
end Go.Td
namespace Go.Proofs
open Go Go.Sl Go.Td Go.Jn
theorem keptP_ok (β : Base) (w : World) (H S N W : Nat) (X : KHs) (hw : St β [houseP H S X N W] w) : Calls Tryz.prog 29 #[.pointer (some ⟨H, 0, none⟩)] w fun r w' => r = .returned (.bool true) ∧ St β [houseP H S X N W] w' := by
 obtain ⟨q, hw⟩ := St.openP hw
 refine (kept_ok β w H S N W q X hw).mono ?_
 rintro r w' ⟨h1, h2⟩
 exact ⟨h1, (St.closeP h2)⟩
theorem supplyP_ok (β : Base) (w : World) (H S N W : Nat) (X : KHs) (hw : St β [houseP H S X N W] w) : Calls Tryz.prog 15 #[.pointer (some ⟨H, 0, none⟩)] w fun r w' => r = .returned (.agg (amC X.s.su)) ∧ St β [houseP H S X N W] w' := by
 obtain ⟨q, hw⟩ := St.openP hw
 refine (supply_ok β w H S N W q X hw).mono ?_
 rintro r w' ⟨h1, h2⟩
 exact ⟨h1, (St.closeP h2)⟩
theorem lastP_eq (β : Base) (w : World) (H S N W : Nat) (X : KHs) (hw : St β [houseP H S X N W] w) (au : Int) {nu : Int} {R : KRes} {so : Bool} (h : lastX X au = (nu, R, so)) : Calls Tryz.prog 18 #[.pointer (some ⟨H, 0, none⟩), Ix au] w fun r w' => ∃ p c, r = .returned (.tuple #[Ix nu, .agg #[.bool R.done, Ix R.at_, Ix R.e, .slice p R.holds.length c], .bool so]) ∧ St β [rowF IntF 3 p c R.holds, houseP H S X N W] w' := by
 obtain ⟨q, hw⟩ := St.openP hw
 refine (last_eq β w H S N W q X hw au h).mono ?_
 rintro r w' ⟨p, c, h1, h2⟩
 exact ⟨p, c, h1, h2.conseq_at 1 rfl fun _ h => ⟨q, h⟩⟩
theorem openedS_ok (β : Base) (w : World) (S N W : Nat) (X : KHs) (hw : St β [shelfP S X N W] w) (hN : N ≤ 1000000) : Calls Tryz.prog 10 #[.pointer (some ⟨S, 0, none⟩)] w fun r w' => ∃ H, r = .returned (.tuple #[.pointer (some ⟨H, 0, none⟩), .bool true]) ∧ St β [houseP H S X N W] w' := by
 obtain ⟨q, hw⟩ := St.openSP hw
 refine (opened_ok β w S N W X q hw hN).mono ?_
 rintro r w' ⟨H, h1, h2⟩
 exact ⟨H, h1, (St.closeP h2)⟩
theorem compP_ok (β : Base) (w : World) (H S N W : Nat) (X : KHs) (hw : St β [houseP H S X N W] w) (hN : N ≤ 1000000) (hW : W ≤ 54000000) : Calls Tryz.prog 22 #[.pointer (some ⟨H, 0, none⟩)] w fun r w' => ∃ e, r = .returned (Ix e) ∧ St β [endP e H S X X (N + 1) (W + 262144)] w' := by
 obtain ⟨q, hw⟩ := St.openP hw
 obtain ⟨e, z, h1, hw⟩ := St.toE hw
 refine (compactE_ok β w H S N e z q X hw hN (Nat.le_trans h1 hW)).mono ?_
 rintro r w' (⟨h3, z2, q2, e2, _, _, h5, h6, h7⟩ | ⟨_, h3, q2, h7⟩)
 ·subst h6
  exact ⟨0, h3, (St.closeP (St.ofE (Nat.le_trans (Nat.add_le_add_left h5 _) (ck_ep2 h1)) h7)).conseq fun _ h => .inl ⟨rfl, h⟩⟩
 ·exact ⟨310, h3, (St.closeSP (h7.conseq (shelfR_le (Nat.le_refl _) (Nat.add_le_add_right h1 _)))).conseq fun _ h => .inr ⟨rfl, h⟩⟩
theorem doP_ok (β : Base) (w : World) (H S N W : Nat) (X : KHs) (hw : St β [houseP H S X N W] w) (au nu : Int) (v : Value) (al : List KAct) (hs : Sl ActF.R β.heap v al) (hal : al.length ≤ 1048576) (hb : hb63 al) (hN : N ≤ 400) {X1 : KHs} {R : KRes} (hd : doF X au nu al = (X1, R, 0)) :
  Calls Tryz.prog 12 #[.pointer (some ⟨H, 0, none⟩), Ix au, Ix nu, v] w fun r w' => ∃ e p c, r = .returned (.tuple #[.agg #[.bool (roE e R).done, Ix (roE e R).at_, Ix (roE e R).e, .slice p (roE e R).holds.length c], Ix e]) ∧ St β [rowF IntF 3 p c (roE e R).holds, endP e H S X X1 (N + 1) (W + 494)] w' := by
 obtain ⟨q, hw⟩ := St.openP hw
 refine (do_ok β w H S N W q X hw au nu v al hs hal hb (Nat.le_trans hN (by decide)) hN).mono ?_
 rintro r w' ⟨X2, R2, e1, h1, ⟨p, c, q2, _, h2, h3⟩ | ⟨_, _, h2, q2, h3⟩⟩
 ·rw [hd] at h1
  injection h1 with h4 h5
  injection h5 with h5 h6
  subst h4; subst h5; subst h6
  exact ⟨0, p, c, h2, h3.conseq_at 1 rfl fun _ h => .inl ⟨rfl, q2, h⟩⟩
 ·exact ⟨310, none, 0, h2, ((St.closeSP h3).conseq fun _ h => .inr ⟨rfl, h⟩).emp (row_nil _ _ _)⟩
end Go.Proofs
