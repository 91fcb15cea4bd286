/-
  Own work; plain Lean (HvOrd, HvTorn).
-/
import Derived.Test.YtmhlglginimmnaaGreatDoorHv27
set_option linter.unusedVariables false
set_option linter.unusedSimpArgs false
namespace Go.Hv
open Go Go.Sl Go.Proofs
theorem insE_end {e : KEnt} : ∀ {l : List KEnt}, (∀ x ∈ l, x.id < e.id) → insE e l = l ++ [e]
  | [], _ => rfl
  | a :: l, h => by
    have := h a List.mem_cons_self
    unfold insE
    rw [if_neg (by omega), if_neg (by omega), insE_end fun y hy => h y (List.mem_cons_of_mem _ hy)]; rfl
theorem right_thE {id tag : Int} (h : 1 ≤ id ∧ id ≤ 65536) (h2 : -2147483648 ≤ tag ∧ tag ≤ 2147483647) : rightE (thE id tag) = true := by
  unfold rightE
  rw [decide_eq_true h.1, decide_eq_true h.2]
  have h3 : fitC ⟨10, tag, 0, 0, 0⟩ = true := by
    unfold fitC
    rw [if_neg (show ¬ ((10 : UInt8).toNat < 1 ∨ 10 < (10 : UInt8).toNat) by decide)]
    show fitK (rg4 (-2147483648) 2147483647) ⟨10, tag, 0, 0, 0⟩ = true
    unfold fitK outR
    simp [h2.1, h2.2]
  simp [risB, h3]
end Go.Hv

namespace Go.Hv
open Go Go.Sl Go.Proofs Go.Jn
/-- entities, as a slice tells them -/
def EnR : Rp KEnt := ⟨2, fun h cs e => ∃ v, cs = [Ix e.id, v] ∧ v.oneCell' = true ∧ Sl CpF.R h v e.comps, fun _ _ _ ⟨_, e, _⟩ => by rw [e]; rfl, fun _ _ h h' hs ⟨v, e, ho, hv⟩ => ⟨v, e, ho, Sl.mono CpF.R v _ h h' hs hv⟩⟩
/-- headers and their entities, out of a pool -/
def Zip (xs : List KEh) (es : List KEnt) (zs : EPool) : Prop := xs.length = es.length ∧ ∀ (i : Nat) x e, xs[i]? = some x → es[i]? = some e → (x, e) ∈ zs ∧ EHd (x, e)
theorem Zip.of {zs : EPool} {es : List KEnt} (h1 : zs.map Prod.snd = es) (h2 : ∀ z ∈ zs, EHd z) : Zip (zs.map Prod.fst) es zs := by
  subst h1
  refine ⟨by rw [List.length_map, List.length_map], fun i x e hx he => ?_⟩
  rw [List.getElem?_map] at hx he
  cases hz : zs[i]? with
  | none => rw [hz] at hx; cases hx
  | some z =>
    rw [hz] at hx he
    injection hx with hx; injection he with he
    subst hx; subst he
    have := List.mem_of_getElem? hz
    exact ⟨this, h2 z this⟩
theorem Zip.more {xs : List KEh} {es : List KEnt} {zs : EPool} (h : Zip xs es zs) (z : KEh × KEnt) : Zip xs es (zs ++ [z]) := ⟨h.1, fun i x e hx he => ⟨List.mem_append_left _ (h.2 i x e hx he).1, (h.2 i x e hx he).2⟩⟩
theorem Zip.set {xs : List KEh} {es : List KEnt} {zs : EPool} (h : Zip xs es zs) {k : Nat} {x : KEh} {e : KEnt} (hz : EHd (x, e)) : Zip (xs.set k x) (es.set k e) (zs ++ [(x, e)]) := by
  refine ⟨by rw [List.length_set, List.length_set]; exact h.1, fun i y d hy hd => ?_⟩
  rw [List.getElem?_set] at hy hd
  by_cases hk : k = i
  · rw [if_pos hk] at hy hd
    split at hy
    · split at hd
      · injection hy with hy; injection hd with hd
        subst hy; subst hd
        exact ⟨List.mem_append_right _ (List.mem_singleton.2 rfl), hz⟩
      · cases hd
    · cases hy
  · rw [if_neg hk] at hy hd
    exact ⟨List.mem_append_left _ (h.2 i y d hy hd).1, (h.2 i y d hy hd).2⟩
theorem Zip.snoc {xs : List KEh} {es : List KEnt} {zs : EPool} (h : Zip xs es zs) {x : KEh} {e : KEnt} (hz : EHd (x, e)) : Zip (xs ++ [x]) (es ++ [e]) (zs ++ [(x, e)]) := by
  refine ⟨by rw [List.length_append, List.length_append, h.1]; rfl, fun i y d hy hd => ?_⟩
  by_cases hi : i < xs.length
  · rw [List.getElem?_append_left hi] at hy
    rw [List.getElem?_append_left (by rw [← h.1]; exact hi)] at hd
    exact ⟨List.mem_append_left _ (h.2 i y d hy hd).1, (h.2 i y d hy hd).2⟩
  · rw [List.getElem?_append_right (by omega)] at hy
    rw [List.getElem?_append_right (by rw [← h.1]; omega), ← h.1] at hd
    have h0 : i - xs.length = 0 := by have := (List.getElem?_eq_some_iff.1 hy).1; rw [List.length_singleton] at this; omega
    rw [h0] at hy hd
    injection hy with hy; injection hd with hd
    subst hy; subst hd
    exact ⟨List.mem_append_right _ (List.mem_singleton.2 rfl), hz⟩
theorem Zip.take {xs : List KEh} {es : List KEnt} {zs : EPool} (h : Zip xs es zs) (n : Nat) : Zip (xs.take n) (es.take n) zs := by
  refine ⟨by rw [List.length_take, List.length_take, h.1], fun i y d hy hd => ?_⟩
  rw [List.getElem?_take] at hy hd
  split at hy
  · rename_i hi
    rw [if_pos hi] at hd
    exact h.2 i y d hy hd
  · cases hy
theorem ents_sl {h : PHeap} {v : Value} {xs : List KEh} {es : List KEnt} {zs : EPool} (hx : Sl EhF.R h v xs) (hz : Zip xs es zs) (hp : poolR zs h) : Sl EnR h v es := by
  obtain ⟨a, c, rfl, h1, h2, h3⟩ := hx.get
  refine ⟨a, c, by rw [hz.1], by rw [← hz.1]; exact h1, h2, fun j e he => ?_⟩
  obtain ⟨x, hx⟩ : ∃ x, xs[j]? = some x := ⟨_, List.getElem?_eq_getElem (by rw [hz.1]; exact (List.getElem?_eq_some_iff.1 he).1)⟩
  obtain ⟨ha, cs, hc, hr⟩ := h3 j x hx
  obtain ⟨hm, hd⟩ := hz.2 j x e hx he
  have hr : cs = [Ix x.id, .slice x.p x.n x.c] := hr
  have hid : x.id = e.id := hd.id
  exact ⟨ha, cs, hc, _, by rw [hr, hid], rfl, hd.sl (hp _ hm)⟩
/-- two lists of entities that may share memory, to be looked at -/
def seen2R (p : Option Addr) (n c : Nat) (es : List KEnt) (p' : Option Addr) (n' c' : Nat) (es' : List KEnt) : Res := fun h => Sl EnR h (.slice p n c) es ∧ Sl EnR h (.slice p' n' c') es'
theorem seen2R.mono (p : Option Addr) (n c : Nat) (es : List KEnt) (p' : Option Addr) (n' c' : Nat) (es' : List KEnt) : Mono (seen2R p n c es p' n' c' es') := fun _ _ hs ⟨a, b⟩ => ⟨Sl.mono _ _ _ _ _ hs a, Sl.mono _ _ _ _ _ hs b⟩
theorem seen2_of {T T' c c' n' : Nat} {p p' : Option Addr} {xs xs' : List KEh} {es es' : List KEnt} {zs : EPool} (h1 : Zip xs es zs) (h2 : Zip (xs'.take n') es' zs) (hn : n' ≤ xs'.length) : ∀ a, Sat [rowF EhF T p c xs, rowF EhF T' p' c' xs', poolR zs] a → seen2R p xs.length c es p' n' c' es' a := by
  rintro a ⟨a1, b1, _, s1, s2, r1, a2, b2, _, s3, s4, r2, a3, b3, _, s5, s6, r3, _⟩
  have hp : poolR zs a := poolR.mono _ _ _ (s5.trans (s4.trans s2)) r3
  refine ⟨ents_sl (Sl.mono _ _ _ _ _ s1 (rowF_sl r1)) h1 hp, ents_sl (Sl.mono _ _ _ _ _ (s3.trans s2) ?_) h2 hp⟩
  have h3 := rowF_sl r2
  obtain ⟨b, d, e, h4, h5, h6⟩ := h3.get
  injection e with e1 e2 e3
  subst e1; subst e3
  exact ⟨p', c', by rw [List.length_take, Nat.min_eq_left hn], by rw [List.length_take]; omega, h5, h6.take n'⟩
section
variable {β : Base} {L : List Res} {p p' : Option Addr} {n c n' c' : Nat} {es es' : List KEnt}
theorem k_seen1 (i : Nat) (hi : L[i]? = some (seen2R p n c es p' n' c' es')) : Knows β L (fun h => Sl EnR h (.slice p n c) es) := Knows.of_res i hi (Sl.mono _ _ _) fun _ h => h.1
theorem k_seen2 (i : Nat) (hi : L[i]? = some (seen2R p n c es p' n' c' es')) : Knows β L (fun h => Sl EnR h (.slice p' n' c') es') := Knows.of_res i hi (Sl.mono _ _ _) fun _ h => h.2
end
/-! the law -/
def tH (k : Nat) : List KEnt := (List.range k).map fun i => thE ((i + 1 : Nat) : Int) ((i + 1 : Nat) : Int)
def tX (k : Nat) : KG := ⟨3, tH k, [], zero7, zero7⟩
def tM (k : Nat) : KMs := ⟨3, 5, 1, false, thE ((k : Nat) : Int) ((k : Nat) : Int)⟩
theorem tH_len (k : Nat) : (tH k).length = k := by unfold tH; rw [List.length_map, List.length_range]
theorem tH_mem {k : Nat} {e : KEnt} (h : e ∈ tH k) : ∃ i, i < k ∧ e = thE ((i + 1 : Nat) : Int) ((i + 1 : Nat) : Int) := by
  obtain ⟨i, hi, rfl⟩ := List.mem_map.1 h; exact ⟨i, List.mem_range.1 hi, rfl⟩
theorem tH_get {k i : Nat} (h : i < k) : (tH k)[i]? = some (thE ((i + 1 : Nat) : Int) ((i + 1 : Nat) : Int)) := by
  unfold tH; rw [List.getElem?_map, List.getElem?_range h]; rfl
theorem tX_no {k : Nat} {id : Int} (h : id < 1 ∨ ((k : Nat) : Int) < id) : hereB (tX k) id = false := by
  refine List.any_eq_false.2 fun m hm => ?_
  obtain ⟨i, hi, rfl⟩ := tH_mem (show m ∈ tH k from hm)
  have : ¬ (((i + 1 : Nat) : Int) = id) := by omega
  show ¬ decide (((i + 1 : Nat) : Int) = id) = true
  rw [decide_eq_false this]; decide
theorem tX_yes {k i : Nat} (h : 1 ≤ i ∧ i ≤ k) : hereB (tX k) ((i : Nat) : Int) = true := by
  refine List.any_eq_true.2 ⟨thE ((i - 1 + 1 : Nat) : Int) ((i - 1 + 1 : Nat) : Int), List.mem_map.2 ⟨i - 1, List.mem_range.2 (by omega), rfl⟩, decide_eq_true ?_⟩
  show ((i - 1 + 1 : Nat) : Int) = ((i : Nat) : Int)
  omega
theorem tX_put {k : Nat} {id : Int} (h : ((k : Nat) : Int) < id ∧ id ≤ 1000) (hk : k ≤ 5) : putF (tX k) (thE id id) = none := by
  unfold putF
  have h1 : rightE (thE id id) = true := right_thE ⟨by omega, by omega⟩ ⟨by omega, by omega⟩
  have h2 : hereB (tX k) (thE id id).id = false := tX_no (.inr h.1)
  have h3 : outB (tX k) (thE id id).id = false := rfl
  rw [if_neg (by rw [h1, h2, h3]; decide), if_neg (by show ¬ (64 : Int) ≤ (((tH k).length : Nat) : Int); rw [tH_len]; omega)]
theorem tX_put2 {k : Nat} {id : Int} (h : ((k : Nat) : Int) < id) : playX (tX k) (.put (thE id id)) = ⟨3, tH k ++ [thE id id], [], zero7, zero7⟩ := by
  show (⟨3, insE (thE id id) (tH k), [], zero7, zero7⟩ : KG) = _
  rw [insE_end fun y hy => by obtain ⟨i, hi, rfl⟩ := tH_mem hy; show ((i + 1 : Nat) : Int) < id; omega]
theorem tX_next {k : Nat} : playX (tX k) (.put (thE ((k + 1 : Nat) : Int) ((k + 1 : Nat) : Int))) = tX (k + 1) := by
  rw [tX_put2 (by omega)]
  show (⟨3, _, [], zero7, zero7⟩ : KG) = ⟨3, tH (k + 1), [], zero7, zero7⟩
  congr 1
  unfold tH; rw [List.range_succ, List.map_append]; rfl
theorem tH_sort (k : Nat) : SortE (tH k) := by
  unfold SortE tH
  rw [List.pairwise_map]
  refine List.Pairwise.imp (R := fun a b => a < b) (fun h => ?_) List.pairwise_lt_range
  show ((_ + 1 : Nat) : Int) < ((_ + 1 : Nat) : Int)
  omega
theorem insE_at {e : KEnt} : ∀ {l : List KEnt} {k : Nat} {a : KEnt}, SortE l → l[k]? = some a → a.id = e.id → insE e l = l.set k e
  | [], _, _, _, h, _ => by simp at h
  | b :: l, 0, a, hs, h, hi => by
    injection h with h; subst h
    unfold insE
    rw [if_neg (by omega), if_pos hi.symm]; rfl
  | b :: l, k + 1, a, hs, h, hi => by
    rw [SortE, List.pairwise_cons] at hs
    have h' : l[k]? = some a := h
    have := hs.1 a (List.mem_of_getElem? h')
    unfold insE
    rw [if_neg (by omega), if_neg (by omega), insE_at hs.2 h' hi]; rfl
theorem tX_save {k i : Nat} {t : Int} (h : 1 ≤ i ∧ i ≤ k) (hk : k ≤ 5) (ht : 1 ≤ t ∧ t ≤ 1000) : saveF (tX k) (thE ((i : Nat) : Int) t) = none := by
  unfold saveF
  have h1 : rightE (thE ((i : Nat) : Int) t) = true := right_thE ⟨by omega, by omega⟩ ⟨by omega, by omega⟩
  rw [if_neg (by rw [h1]; decide), if_neg (by rw [show hereB (tX k) (thE ((i : Nat) : Int) t).id = true from tX_yes h]; decide)]
theorem tX_save2 {k : Nat} {t : Int} (h : 1 ≤ k) : playX (tX k) (.put (thE ((k : Nat) : Int) t)) = ⟨3, (tH k).set (k - 1) (thE ((k : Nat) : Int) t), [], zero7, zero7⟩ := by
  show (⟨3, insE _ (tH k), [], zero7, zero7⟩ : KG) = _
  rw [insE_at (tH_sort k) (tH_get (show k - 1 < k by omega)) (by show ((k - 1 + 1 : Nat) : Int) = ((k : Nat) : Int); omega)]
theorem tX_drop {k : Nat} (h : 1 ≤ k) : dropF (tX k) ((k : Nat) : Int) = none := by
  unfold dropF
  rw [if_neg (by rw [tX_yes ⟨h, Nat.le_refl _⟩]; decide)]
theorem tH_del {k : Nat} (h : 1 ≤ k) : delE ((k : Nat) : Int) (tH k) = (tH k).take (k - 1) := by
  obtain ⟨j, rfl⟩ : ∃ j, k = j + 1 := ⟨k - 1, by omega⟩
  have e : tH (j + 1) = tH j ++ [thE ((j + 1 : Nat) : Int) ((j + 1 : Nat) : Int)] := by unfold tH; rw [List.range_succ, List.map_append]; rfl
  have h1 : delE ((j + 1 : Nat) : Int) (tH j) = tH j := List.filter_eq_self.2 fun y hy => by
    obtain ⟨i, hi, rfl⟩ := tH_mem hy
    refine decide_eq_true ?_
    show ((i + 1 : Nat) : Int) ≠ ((j + 1 : Nat) : Int)
    omega
  unfold delE at h1 ⊢
  rw [e, List.filter_append, h1, Nat.add_sub_cancel, List.take_append_of_le_length (by rw [tH_len]; exact Nat.le_refl _), List.take_of_length_le (by rw [tH_len]; exact Nat.le_refl _)]
  simp
theorem tX_drop2 {k : Nat} (h : 1 ≤ k) : playX (tX k) (.drop ((k : Nat) : Int)) = ⟨3, (tH k).take (k - 1), [], zero7, zero7⟩ := by
  show (⟨3, delE _ (tH k), [], zero7, zero7⟩ : KG) = _
  rw [tH_del h]
theorem tX_give {k : Nat} (h : 1 ≤ k) : giveF (tX k) ((k : Nat) : Int) 5 = none := by
  unfold giveF
  rw [if_neg (by show ¬ (!otherB 3 5) = true; decide), if_neg (by rw [tX_yes ⟨h, Nat.le_refl _⟩]; decide), if_neg (by show ¬ (64 : Int) ≤ ((0 : Nat) : Int); decide)]
theorem tX_give2 {k : Nat} (h : 1 ≤ k) : playX (tX k) (.give ((k : Nat) : Int) 5) = ⟨3, (tH k).take (k - 1), [tM k], ⟨0, 0, 0, 0, 0, 1, 0⟩, zero7⟩ := by
  have hf : findE (tX k) ((k : Nat) : Int) = thE ((k : Nat) : Int) ((k : Nat) : Int) := by
    have hm : thE ((k - 1 + 1 : Nat) : Int) ((k - 1 + 1 : Nat) : Int) ∈ (tX k).here := List.mem_of_getElem? (tH_get (show k - 1 < k by omega))
    rw [show k - 1 + 1 = k by omega] at hm
    exact find_uni (tH_sort k) hm rfl
  show (⟨3, delE _ (tH k), insB ltM (gMsg (tX k) ((k : Nat) : Int) 5) [], _, zero7⟩ : KG) = _
  rw [tH_del h]
  unfold gMsg
  rw [hf]; rfl
end Go.Hv
namespace Go.Hv
open Go Go.Sl Go.Proofs Go.Jn
theorem c_endIf {P : Program} {ro : Option Nat} {n : Nat} {ds : List Deferred} {β : Base} {Q : Exit → Act → World → Prop} {f : Fm} {L M : List Res} {c : Code} {e : Int} {G S N1 N2 : Nat} {X X1 : KG} {m : Bool} (hL : L = endG e G S X X1 N1 N2 m :: M)
    (K1 : e = 0 → RunC P ro n ds β c Q f (gateR G S X1 N1 m :: M)) (K2 : e = 310 → RunC P ro n ds β c Q f (downR G X :: shelfR S X N2 m :: M)) : RunC P ro n ds β c Q f L := fun a w ha hw => by
  subst hL
  rcases St.endIf hw with ⟨h, h1⟩ | ⟨h, _, h1⟩
  · exact K1 h a w ha h1
  · exact K2 h a w ha h1
theorem act_end {β : Base} {G S N : Nat} {X X1 Y : KG} {m : Bool} {w : World} {q : Option Int} {r : Ending} (hq : q = none) (hY : X1 = Y) (h : ∃ e, r = .returned (Ix e) ∧ St β [actG q e G S X X1 N m] w) : ∃ e, r = .returned (Ix e) ∧ St β [endG e G S X Y (N + 300) (N + 262500) m] w := by
  obtain ⟨e, h1, h2⟩ := h
  subst hY
  exact ⟨e, h1, St.ifGo hq h2⟩
/-- a method of a gate that is down -/
theorem down_do {β : Base} {G : Nat} {X : KG} {w : World} {fid : FuncId} {args : Array Value} {r0 : Value} (hw : St β [downR G X] w) (h : ∀ β2 w, St β2 [] w → BadUp β2 (.pointer (some ⟨G, 0, none⟩)) 310 → Calls Tryz.prog fid args w fun r w' => r = .returned r0 ∧ St β2 [] w') : Calls Tryz.prog fid args w fun r w' => r = .returned r0 ∧ St β [downR G X] w' := by
  obtain ⟨J, hw⟩ := St.openDown hw
  obtain ⟨β1, back, hb, hw1⟩ := bad_down hw
  exact (h β1 w hw1 hb).mono fun _ w' ⟨h1, h2⟩ => ⟨h1, St.closeDown (back [] w' h2)⟩
theorem k_entsR {β : Base} {L : List Res} {p : Option Addr} {c n : Nat} {es : List KEnt} (i : Nat) (hi : L[i]? = some (entsR p c es)) (hn : n = es.length) : Knows β L (fun h => Sl EnR h (.slice p n c) es) := Knows.of_res i hi (Sl.mono _ _ _) fun h ⟨zs, h1, h2, hs⟩ => by
  subst hn
  obtain ⟨a, b, _, s1, s2, r1, a', b', _, s3, s4, r2, _⟩ := hs
  have h3 := ents_sl (Sl.mono _ _ _ _ _ s1 (rowF_sl r1)) (Zip.of h1 h2) (poolR.mono _ _ _ (s3.trans s2) r2)
  rw [List.length_map] at h3
  rw [← h1, List.length_map]
  subst h1; exact h3
theorem gopenZ_ok (β : Base) (w : World) (S N : Nat) (X : KG) (m : Bool) (hw : St β [shelfR S X N m] w) (hN : N ≤ 54000000) (z : Int) (hz : X.zone = z) : Calls Tryz.prog 9 #[Ix z, .pointer (some ⟨S, 0, none⟩)] w fun r w' => ∃ e p, r = .returned (.tuple #[.pointer p, Ix e]) ∧ St β [openG e p S X N m] w' := by
  subst hz; exact gopen_ok β w S N X m hw hN
theorem c_leaveT {P : Program} {ro : Option Nat} {n : Nat} {ds : List Deferred} {β : Base} {Q : Exit → Act → World → Prop} {f : Fm} {L M : List Res} {c : Code} {G S N : Nat} {X : KG} {m : Bool} (hL : L = gateR G S X N m :: M) (K : RunC P ro n ds β c Q f (shelfR S X N m :: M)) : RunC P ro n ds β c Q f L := fun a w ha hw => by
  subst hL; exact K a w ha (St.leave hw)
theorem t_same {k : Nat} {x : KEnt} (hk : 1 ≤ k) (hx : (tH k)[k - 1]? = some x) : (⟨((k : Nat) : Int), (tM k).e.comps⟩ : KEnt) = ⟨x.id, x.comps⟩ := by
  rw [tH_get (show k - 1 < k by omega)] at hx
  injection hx with hx; subst hx
  rw [show k - 1 + 1 = k by omega]; rfl
end Go.Hv
