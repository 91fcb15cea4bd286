/-
 Worlds that are lent, kept, compared: chapter 4's walks under these numbers. Own work.
-/
import Derived.Test.YtdkibofhppgbjaaGreatDoorSlFlat
import Derived.Test.YtdkibofhppgbjaaGreatDoorSlRange
import Derived.Test.YtdkibofhppgbjaaGreatDoorProg
import Derived.Test.YtdkibofhppgbjaaGreatDoorSlFam
import Derived.Test.YtdkibofhppgbjaaGreatDoorSlBytes
namespace Go.Proofs
open Go Go.Sl
def mixU (z : UInt64) : UInt64 :=
 let z := (z ^^^ z >>> 30) * 0xbf58476d1ce4e5b9
 let z := (z ^^^ z >>> 27) * 0x94d049bb133111eb
 z ^^^ z >>> 31
def seqF (h : UInt64) (xs : List UInt64) : UInt64 := xs.foldl (fun h w => h * 0x9e3779b97f4a7c15 + w + 1) h
def seqU (xs : List UInt64) : UInt64 := mixU (seqF 0 xs)
end Go.Proofs
namespace Go.Proofs
open Go Go.Sl
def wordsC (c : KComp) : List UInt64 := [c.kind.toUInt64, U c.v0, U c.v1, U c.v2, U c.v3]
def wordsE (e : KEnt) : List UInt64 := U e.id :: U ((e.comps.length : Nat) : Int) :: e.comps.flatMap wordsC
theorem uw9 : fldB Tryz.prog 59 0 0 1 false = true := by kernel_rfl
theorem uw10 : tyB Tryz.prog 3 false 1 = true := by kernel_rfl
theorem uw11 : fldB Tryz.prog 59 1 1 1 false = true := by kernel_rfl
theorem uw12 : tyB Tryz.prog 57 false 1 = true := by kernel_rfl
theorem uw13 : Tryz.prog.underlying 57 = some (.slice 120) := by kernel_rfl
theorem uw14 : slB Tryz.prog 57 120 5 = true := by kernel_rfl
theorem uw15 : tyB Tryz.prog 120 true 5 = true := by kernel_rfl
theorem uw16 : (Tryz.prog.info? 120).bind (·.zero) = some (.agg #[.int .u8 (0), .int .i64 (0), .int .i64 (0), .int .i64 (0), .int .i64 (0)]) := by kernel_rfl
theorem uw21 : arB Tryz.prog 118 4 3 1 = true := by kernel_rfl
end Go.Proofs
namespace Go.Proofs
open Go Go.Sl
def entU (e : KEnt) : UInt64 := seqU (wordsE e)
theorem uw24 : tyB Tryz.prog 59 true 2 = true := by kernel_rfl
end Go.Proofs
namespace Go.Proofs
open Go Go.Sl
theorem uw27 : fldB Tryz.prog 24 0 0 1 false = true := by kernel_rfl
theorem uw29 : fldB Tryz.prog 24 1 1 1 false = true := by kernel_rfl
theorem uw30 : tyB Tryz.prog 22 false 1 = true := by kernel_rfl
theorem uw31 : Tryz.prog.underlying 22 = some (.slice 59) := by kernel_rfl
theorem uw32 : slB Tryz.prog 22 59 2 = true := by kernel_rfl
theorem uw33 : (Tryz.prog.info? 59).bind (·.zero) = some (.agg #[.int .i64 (0), .slice none 0 0]) := by kernel_rfl
end Go.Proofs
namespace Go.Proofs
open Go Go.Sl
theorem uw35 : (Tryz.prog.info? 118).bind (·.zero) = some (.agg #[.int .i64 (0), .int .i64 (0), .int .i64 (0), .int .i64 (0)]) := by kernel_rfl
theorem uw36 : stB Tryz.prog 120 [(0, 1), (1, 4)] = true := by kernel_rfl
theorem uw37 : stB Tryz.prog 59 [(0, 1), (1, 1)] = true := by kernel_rfl
end Go.Proofs
namespace Go.Proofs
open Go Go.Sl
def dg (es : List KEnt) (i : Int) : List UInt64 := (es.filter fun e => decide (e.id = i)).map entU
end Go.Proofs
namespace Go.Proofs
open Go Go.Sl
theorem uw46 : tyB Tryz.prog 24 true 2 = true := by kernel_rfl
theorem uw49 : (Tryz.prog.info? 24).bind (·.zero) = some (.agg #[.int .i64 (0), .slice none 0 0]) := by kernel_rfl
end Go.Proofs
namespace Go.Proofs
open Go Go.Sl
end Go.Proofs
namespace Go.Proofs
open Go Go.Sl
end Go.Proofs
namespace Go.Proofs
open Go Go.Sl
end Go.Proofs
namespace Go.Proofs
open Go Go.Sl
theorem comp_len (xs : List KComp) : (xs.flatMap compE).length = xs.length * 5 := by
 induction xs with
 | nil => rfl
 | cons x xs ih => rw [List.flatMap_cons, List.length_append, ih, List.length_cons]; simp [compE]; omega
theorem comp_one (xs : List KComp) : (xs.flatMap compE).all (·.oneCell') = true := by
 rw [List.all_eq_true]
 intro v hv
 obtain ⟨x, _, hx⟩ := List.mem_flatMap.1 hv
 simp only [compE, List.mem_cons, List.not_mem_nil, or_false] at hx
 rcases hx with rfl | rfl | rfl | rfl | rfl <;> rfl
theorem elems_some {α : Type} {R : Rp α} {h : PHeap} {a : Option Addr} {xs : List α} (hx : xs ≠ []) (he : Elems R h a xs) : ∃ x, a = some x := by
 cases xs with
 | nil => exact absurd rfl hx
 | cons x xs => exact ⟨_, (he 0 x rfl).1⟩
theorem elems_cs {h : PHeap} {a : Addr} {xs : List KComp} (he : Elems CompR h (some a) xs) : Cs h a (xs.flatMap compE) := by
 intro j v hj
 have hjl := (List.getElem?_eq_some_iff.1 hj).1
 rw [comp_len] at hjl
 have hq : j / 5 < xs.length := by omega
 obtain ⟨_, cs, hc, hr⟩ := he (j / 5) _ (List.getElem?_eq_getElem hq)
 have hr : cs = compE xs[j / 5] := hr
 subst hr
 have key : ∀ (xs : List KComp) (j : Nat) (hq : j / 5 < xs.length), (xs.flatMap compE)[j]? = (compE xs[j / 5])[j % 5]? := by
  intro xs
  induction xs with
  | nil => intro j hq; simp at hq
  | cons x xs ih =>
   intro j hq
   rw [List.flatMap_cons]
   by_cases h5 : j < 5
   ·rw [List.getElem?_append_left (by simpa [compE] using h5)]
    have e1 : j / 5 = 0 := by omega
    have e2 : j % 5 = j := by omega
    simp [e1, e2]
   ·rw [List.getElem?_append_right (by simp [compE]; omega)]
    have hl : (compE x).length = 5 := rfl
    rw [hl, ih (j - 5) (by simp at hq; omega)]
    have e1 : j / 5 = (j - 5) / 5 + 1 := by omega
    have e2 : (j - 5) % 5 = j % 5 := by omega
    simp [e1, e2]
 rw [key xs j hq] at hj
 have h2 := hc (j % 5) v hj
 have e : ((ba (some a)).add (j / 5 * CompR.n)).add (j % 5) = a.add j := by
  rw [Addr.add_add']
  show a.add (j / 5 * 5 + j % 5) = _
  congr 1; omega
 rw [e] at h2
 exact h2
theorem uw69 : elB Tryz.prog 120 5 40 = true := by kernel_rfl
end Go.Proofs
namespace Go.Proofs
open Go Go.Sl
end Go.Proofs
namespace Go.Proofs
open Go Go.Sl
def entCells : List Value → List KEnt → List Value
 | v :: vs, e :: es => Ix e.id :: v :: entCells vs es
 | _, _ => []
theorem ent_cells_append {vs us : List Value} {es fs : List KEnt} (h : vs.length = es.length) : entCells (vs ++ us) (es ++ fs) = entCells vs es ++ entCells us fs := by
 induction vs generalizing es with
 | nil => cases es with
  | nil => rfl
  | cons e es => simp at h
 | cons v vs ih => cases es with
  | nil => simp at h
  | cons e es =>
   show Ix e.id :: v :: entCells (vs ++ us) (es ++ fs) = _
   rw [ih (by simpa using h)]; rfl
theorem ent_cells_snoc {es : List KEnt} {k : Nat} {e : KEnt} (hx : es[k]? = some e) {vs : List Value} {v : Value} (h : vs.length = k) (hk : k ≤ es.length) : entCells (vs ++ [v]) (es.take (k + 1)) = entCells vs (es.take k) ++ [Ix e.id, v] := by
 rw [take_succ hx, ent_cells_append (by simp; omega)]; rfl
theorem uw72 : elB Tryz.prog 59 2 32 = true := by kernel_rfl
end Go.Proofs
namespace Go.Proofs
open Go Go.Sl
end Go.Proofs
namespace Go.Proofs
open Go Go.Sl
end Go.Proofs
namespace Go.Proofs
open Go Go.Sl
def EGood (h : PHeap) (us : List Value) (zs : List KEnt) : Prop := us.length = zs.length ∧ ∀ (j : Nat) v e, us[j]? = some v → zs[j]? = some e → Sl CompR h v e.comps
theorem EGood.mono (us : List Value) (zs : List KEnt) : Mono (fun h => EGood h us zs) := fun h h' hs ⟨hl, hg⟩ => ⟨hl, fun j v e h1 h2 => Sl.mono CompR v _ h h' hs (hg j v e h1 h2)⟩
theorem EGood.get {h : PHeap} {us : List Value} {es : List KEnt} (g : EGood h us es) {k : Nat} (hk : k < es.length) : ∃ v e, us[k]? = some v ∧ es[k]? = some e ∧ Sl CompR h v e.comps :=
 ⟨_, _, List.getElem?_eq_getElem (by rw [g.1]; exact hk), List.getElem?_eq_getElem hk, g.2 k _ _ (List.getElem?_eq_getElem (by rw [g.1]; exact hk)) (List.getElem?_eq_getElem hk)⟩
theorem EGood.nil (h : PHeap) : EGood h [] [] := ⟨rfl, fun j v e hv => by cases hv⟩
theorem elems_ba {α : Type} {R : Rp α} {h : PHeap} {a : Option Addr} {xs : List α} (he : Elems R h a xs) (hx : 0 < xs.length) : a = some (ba a) :=
 (he 0 _ (List.getElem?_eq_getElem hx)).1
/-! sums -/
end Go.Proofs
namespace Go.Proofs
open Go Go.Sl
/-! one entity changed -/
end Go.Proofs
namespace Go.Proofs
open Go Go.Sl
/-! words -/
/-! cells -/
end Go.Proofs
namespace Go.Proofs
open Go Go.Sl
structure Apart (k : Nat) (ps bs : List KEnt) (ws : List Int) : Prop where
 la : ps.length = k
 lb : bs.length ≤ k
 lw : ws.length ≤ k
 ra : ∀ e ∈ ps, -20 ≤ e.id ∧ e.id < 3 * (k : Int) - 20
 rb : ∀ e ∈ bs, -20 ≤ e.id ∧ e.id < 3 * (k : Int) - 20
 sw : ws.Pairwise (· < ·)
 rw : ∀ z ∈ ws, -20 ≤ z ∧ z < 3 * (k : Int) - 20
 dif : ∀ z, z ∈ ws ↔ ¬ dg ps z = dg bs z
/-! the components of entities, some at the base and some of one's own -/
theorem EGood.one {h : PHeap} {u : Value} {e : KEnt} (hs : Sl CompR h u e.comps) : EGood h [u] [e] := ⟨rfl, fun j v f hv hf => by
 match j with
 | 0 => injection hv with hv; injection hf with hf; subst hv; subst hf; exact hs
 | j + 1 => cases hv⟩
end Go.Proofs
namespace Go.Sl
section
variable {P : Program} {ro : Option Nat} {n : Nat} {ds : List Deferred} {β : Base} {Q : Exit → Act → World → Prop} {f : Fm} {L : List Res}
theorem f_turn {e : Exit} {L' : List Res} (h : ∀ w, St β L w → St β L' w) (k : Fin n ds β Q e f L') : Fin n ds β Q e f L := fun a w ha hw => k a w ha (h w hw)
end
end Go.Sl
namespace Go.Proofs
open Go Go.Sl
end Go.Proofs
namespace Go.Proofs
open Go Go.Sl
def markC (i : Nat) : KComp := ⟨0, ((8000024 + i : Nat) : Int), 0, 0, 0⟩
def markE (i : Nat) : KEnt := ⟨((8000024 + i : Nat) : Int), []⟩
def marksC (k : Nat) : List KComp := (List.range k).map markC
def marksE (k : Nat) : List KEnt := (List.range k).map markE
theorem marksC_succ (k : Nat) : marksC (k + 1) = marksC k ++ [markC k] := by simp [marksC, List.range_succ]
theorem marksE_succ (k : Nat) : marksE (k + 1) = marksE k ++ [markE k] := by simp [marksE, List.range_succ]
theorem marksC_len (k : Nat) : (marksC k).length = k := by simp [marksC]
theorem marksE_len (k : Nat) : (marksE k).length = k := by simp [marksE]
def LSl (h : PHeap) (v : Value) (xs : List KComp) : Prop := ∃ p c, v = .slice p xs.length c ∧ xs.length + 12 ≤ c ∧ c ≤ 9223372036854775807 ∧ Elems CompR h p (xs ++ marksC 12)
theorem LSl.mono (v : Value) (xs : List KComp) : Mono (fun h => LSl h v xs) := fun h h' hs ⟨p, c, h1, h2, h3, h4⟩ => ⟨p, c, h1, h2, h3, Elems.mono CompR p _ h h' hs h4⟩
theorem Elems.left {α : Type} {R : Rp α} {h : PHeap} {a : Option Addr} {xs ys : List α} (he : Elems R h a (xs ++ ys)) : Elems R h a xs := fun j x hx => he j x (by rw [List.getElem?_append_left (List.getElem?_eq_some_iff.1 hx).1]; exact hx)
/-- entities that were lent -/
def LEntR : Rp KEnt := ⟨2, fun h cs e => ∃ v, cs = [Ix e.id, v] ∧ LSl h v e.comps, fun _ _ _ ⟨_, e, _⟩ => by rw [e]; rfl, fun _ _ h h' hs ⟨v, e, hv⟩ => ⟨v, e, LSl.mono v _ h h' hs hv⟩⟩
def LESl (h : PHeap) (v : Value) (xs : List KEnt) : Prop := ∃ p c, v = .slice p xs.length c ∧ xs.length + 12 ≤ c ∧ c ≤ 9223372036854775807 ∧ Elems LEntR h p xs ∧ Elems EntR h p (xs ++ marksE 12)
theorem LESl.mono (v : Value) (xs : List KEnt) : Mono (fun h => LESl h v xs) := fun h h' hs ⟨p, c, h1, h2, h3, h4, h5⟩ => ⟨p, c, h1, h2, h3, Elems.mono LEntR p _ h h' hs h4, Elems.mono EntR p _ h h' hs h5⟩
theorem elems_comps {h : PHeap} {a : Option Addr} {xs : List KComp} (he : Elems CompR h a xs) : Cs h (ba a) (xs.flatMap compE) := by
 by_cases hx : xs = []
 ·subst hx; intro j v hj; simp at hj
 ·obtain ⟨x, rfl⟩ := elems_some hx he
  exact elems_cs he
def lentRow (v : Value) (e : KEnt) : Res := fun h => ∃ p c, v = .slice p e.comps.length c ∧ row (.slice p (e.comps.length + 12) c) 120 5 (e.comps.length + 12) ((e.comps ++ marksC 12).flatMap compE) h
def lentRows : List Value → List KEnt → List Res
 | v :: vs, e :: es => lentRow v e :: lentRows vs es
 | _, _ => []
theorem lent_rows_append {vs us : List Value} {es fs : List KEnt} (h : vs.length = es.length) : lentRows (vs ++ us) (es ++ fs) = lentRows vs es ++ lentRows us fs := by
 induction vs generalizing es with
 | nil => cases es with
  | nil => rfl
  | cons e es => simp at h
 | cons v vs ih => cases es with
  | nil => simp at h
  | cons e es =>
   show lentRow v e :: lentRows (vs ++ us) (es ++ fs) = _
   rw [ih (by simpa using h)]; rfl
theorem lent_rows_snoc {es : List KEnt} {k : Nat} {e : KEnt} (hx : es[k]? = some e) {vs : List Value} {v : Value} (h : vs.length = k) (hk : k ≤ es.length) : (lentRow v e :: lentRows vs (es.take k)).Perm (lentRows (vs ++ [v]) (es.take (k + 1))) := by
 rw [take_succ hx, lent_rows_append (by simp; omega)]
 exact List.perm_append_comm (l₁ := [lentRow v e])
def nils (k : Nat) : List Value := List.replicate k (.slice none 0 0)
theorem nils_succ (k : Nat) : nils (k + 1) = nils k ++ [.slice none 0 0] := by simp [nils, List.replicate_succ']
theorem nils_len (k : Nat) : (nils k).length = k := by simp [nils]
theorem lent_mark {xs al : List KComp} {k : Nat} {x : KComp} (h : al = xs ++ marksC 12) (hx : al[k]? = some x) {n : Nat} (hn : n = xs.length) (hk : n ≤ k) : x = markC (k - n) := by
 subst h; subst hn
 rw [List.getElem?_append_right hk] at hx
 have hlt := (List.getElem?_eq_some_iff.1 hx).1
 rw [marksC_len] at hlt
 unfold marksC at hx
 rw [List.getElem?_map, List.getElem?_range hlt] at hx
 injection hx with hx; exact hx.symm
theorem lent_markE {xs al : List KEnt} {k : Nat} {x : KEnt} (h : al = xs ++ marksE 12) (hx : al[k]? = some x) {n : Nat} (hn : n = xs.length) (hk : n ≤ k) : x = markE (k - n) := by
 subst h; subst hn
 rw [List.getElem?_append_right hk] at hx
 have hlt := (List.getElem?_eq_some_iff.1 hx).1
 rw [marksE_len] at hlt
 unfold marksE at hx
 rw [List.getElem?_map, List.getElem?_range hlt] at hx
 injection hx with hx; exact hx.symm
theorem compE_inj {x y : KComp} : compE x = compE y ↔ x = y := by
 constructor
 ·intro h
  cases x; cases y
  simp only [compE, List.cons.injEq, Value.int.injEq, true_and, and_true] at h
  obtain ⟨h1, h2, h3, h4, h5⟩ := h
  have h1 := UInt8.toNat_inj.1 (Int.ofNat_inj.1 h1)
  subst h1; subst h2; subst h3; subst h4; subst h5; rfl
 ·intro h; rw [h]
theorem ent_eq {x y : KEnt} (h : x.id = y.id) : (x.comps = y.comps) ↔ x = y := by
 constructor
 ·intro h2; cases x; cases y; simp only at h h2; subst h; subst h2; rfl
 ·intro h2; rw [h2]
theorem world_eq {x y : KWorld} (h : x.tick = y.tick) : (x.ents = y.ents) ↔ x = y := by
 constructor
 ·intro h2; cases x; cases y; simp only at h h2; subst h; subst h2; rfl
 ·intro h2; rw [h2]
theorem bool_i {p q : Prop} [Decidable p] [Decidable q] (h : p ↔ q) : Ending.returned (.bool (decide p)) = .returned (.bool (decide q)) := by rw [decide_eq_decide.2 h]
theorem upto_eq {α : Type} {xs ys : List α} {k : Nat} (hl : xs.length = ys.length) (hk : ys.length ≤ k) (h : ∀ j, j < k → j < ys.length → xs[j]? = ys[j]?) : xs = ys := by
 apply List.ext_getElem?
 intro j
 by_cases hj : j < ys.length
 ·exact h j (by omega) hj
 ·rw [List.getElem?_eq_none (by omega), List.getElem?_eq_none (by omega)]
theorem upto_succ {α : Type} {xs ys : List α} {k : Nat} (h : ∀ j, j < k → j < ys.length → xs[j]? = ys[j]?) (hk : xs[k]? = ys[k]?) : ∀ j, j < k + 1 → j < ys.length → xs[j]? = ys[j]? := fun j hj hl => by
 rcases Nat.lt_or_eq_of_le (Nat.le_of_lt_succ hj) with h1 | rfl
 ·exact h j h1 hl
 ·exact hk
theorem upto_past {α : Type} {xs ys : List α} {k : Nat} (h : ∀ j, j < k → j < ys.length → xs[j]? = ys[j]?) (hk : ys.length ≤ k) : ∀ j, j < k + 1 → j < ys.length → xs[j]? = ys[j]? := fun j hj hl => h j (by omega) hl
end Go.Proofs
namespace Go.Proofs
open Go Go.Sl
theorem uw83 : cfB Tryz.prog 174 = true := by kernel_rfl
theorem uw84 : lay Tryz.prog 10000 120 = some [.int .u8, .int .i64, .int .i64, .int .i64, .int .i64] := by kernel_rfl
theorem uw85 : isAggT Tryz.prog 120 = true := by kernel_rfl
theorem uw86 : Tryz.prog.eqGuardType Tryz.prog.depth 120 = false := by kernel_rfl
theorem uw87 : cfB Tryz.prog 175 = true := by kernel_rfl
theorem uw88 : cfB Tryz.prog 113 = true := by kernel_rfl
theorem uw89 : cfB Tryz.prog 71 = true := by kernel_rfl
theorem markW_ok (β : Base) (w : World) (hw : St β [] w) (i : Nat) (hi : i ≤ 100) : Calls Tryz.prog 174 #[.int .i64 1, Nx i] w fun r w' => r = .returned (Nx (8000024 + i)) ∧ St β [] w' := by
 refine enter (n := 10) Tryz.func174 rfl Tryz.ntmps174 rfl ?_ hw
 refine c_seq ?_
 refine c_region ?_
 refine l_val (v := .int .i64 (0)) rfl rfl rfl (e_assign) ?_
 refine l_nil ?_
 refine f_then ?_
 refine c_seq ?_
 refine c_region ?_
 refine l_val (v := .int .i64 (1)) rfl rfl rfl (e_move) ?_
 refine l_val (v := .int .i64 (8)) rfl rfl rfl (e_add (a := (1 : Int)) (b := (7 : Int)) rfl rfl (by decide)) ?_
 refine l_val (v := .int .i64 (8000024)) rfl rfl rfl (e_mul (a := (1000003 : Int)) (b := (8 : Int)) rfl rfl (by decide)) ?_
 refine l_val (v := Nx (i)) rfl rfl rfl (e_move) ?_
 refine l_val (v := Nx (8000024 + i)) rfl rfl rfl (e_add (a := (8000024 : Int)) (b := ((i : Nat) : Int)) rfl rfl (i64n (by omega) (by omega))) ?_
 refine l_val (v := Nx (8000024 + i)) rfl rfl rfl (e_assign) ?_
 refine l_nil ?_
 refine f_then ?_
 refine c_ret ?_
 refine ret1 Tryz.results174 (v := Nx (8000024 + i)) rfl ?_
 intro w hw
 exact ⟨rfl, st_mask [] rfl hw⟩
theorem markComp_ok (β : Base) (w : World) (hw : St β [] w) (i : Nat) (hi : i ≤ 100) : Calls Tryz.prog 184 #[.int .i64 1, Nx i] w fun r w' => r = .returned (.agg (compE (markC i)).toArray) ∧ St β [] w' := by
 refine enter (n := 10) Tryz.func184 rfl Tryz.ntmps184 rfl ?_ hw
 refine c_seq ?_
 refine c_region ?_
 refine l_mv rfl rfl rfl (m_alloc uw16) ?_
 rintro _ _ ⟨b1, rfl, rfl⟩
 refine l_nil ?_
 refine f_then ?_
 refine c_seq ?_
 refine c_region ?_
 refine l_val (v := .int .i64 (1)) rfl rfl rfl (e_move) ?_
 refine l_val (v := Nx (i)) rfl rfl rfl (e_move) ?_
 refine l_call rfl rfl rfl (cl_value (fst := []) (cap := []) (vs := [.int .i64 (1), Nx (i)]) (all := [.int .i64 (1), Nx (i)]) uw83 rfl rfl rfl) ?_
 intro w hw
 obtain ⟨β1, sb, kn, hw1, back⟩ := St.frame_all hw
 refine (markW_ok β1 w hw1 i (by omega)).mono ?_
 rintro e w' ⟨rfl, hw'⟩
 refine ⟨_, rfl, _, back _ _ hw', ?_⟩
 clear hw hw1 hw' back kn sb
 refine l_val (v := .agg #[Nx (8000024 + i), .int .i64 (0), .int .i64 (0), .int .i64 (0)]) rfl rfl rfl (e_build_a uw35 uw21 (vs := [(0, Nx (8000024 + i))]) (cells := #[Nx (8000024 + i), .int .i64 (0), .int .i64 (0), .int .i64 (0)]) rfl rfl) ?_
 refine l_val (v := .agg #[.int .u8 (0), Nx (8000024 + i), .int .i64 (0), .int .i64 (0), .int .i64 (0)]) rfl rfl rfl (e_build uw16 uw36 (vs := [(1, .agg #[Nx (8000024 + i), .int .i64 (0), .int .i64 (0), .int .i64 (0)])]) (cells := #[.int .u8 (0), Nx (8000024 + i), .int .i64 (0), .int .i64 (0), .int .i64 (0)]) rfl rfl) ?_
 refine l_mu rfl rfl (m_store 0 uw15 (b := b1) (o := 0) (T := 120) (cs := #[.int .u8 (0), .int .i64 (0), .int .i64 (0), .int .i64 (0), .int .i64 (0)]) (cs' := #[.int .u8 (0), Nx (8000024 + i), .int .i64 (0), .int .i64 (0), .int .i64 (0)]) (v := .agg #[.int .u8 (0), Nx (8000024 + i), .int .i64 (0), .int .i64 (0), .int .i64 (0)]) rfl rfl rfl rfl rfl rfl rfl) ?_
 refine l_nil ?_
 refine f_then ?_
 refine c_ret ?_
 refine retG (l := [.cell 4 120]) (m := [.agg #[.int .u8 (0), Nx (8000024 + i), .int .i64 (0), .int .i64 (0), .int .i64 (0)]]) (v := .agg #[.int .u8 (0), Nx (8000024 + i), .int .i64 (0), .int .i64 (0), .int .i64 (0)]) Tryz.results184 ⟨rd_cell uw15 (cs := [.int .u8 (0), Nx (8000024 + i), .int .i64 (0), .int .i64 (0), .int .i64 (0)]) rfl (k_pt 0 (cs := #[.int .u8 (0), Nx (8000024 + i), .int .i64 (0), .int .i64 (0), .int .i64 (0)]) (vs := [.int .u8 (0), Nx (8000024 + i), .int .i64 (0), .int .i64 (0), .int .i64 (0)]) rfl rfl) rfl, trivial⟩ rfl ?_
 intro w hw
 exact ⟨rfl, st_mask [false] rfl hw⟩
theorem markEntity_ok (β : Base) (w : World) (hw : St β [] w) (i : Nat) (hi : i ≤ 100) : Calls Tryz.prog 108 #[.int .i64 1, Nx i] w fun r w' => r = .returned (.agg #[Ix (markE i).id, .slice none 0 0]) ∧ St β [] w' := by
 refine enter (n := 9) Tryz.func108 rfl Tryz.ntmps108 rfl ?_ hw
 refine c_seq ?_
 refine c_region ?_
 refine l_mv rfl rfl rfl (m_alloc uw33) ?_
 rintro _ _ ⟨b1, rfl, rfl⟩
 refine l_nil ?_
 refine f_then ?_
 refine c_seq ?_
 refine c_region ?_
 refine l_val (v := .int .i64 (1)) rfl rfl rfl (e_move) ?_
 refine l_val (v := Nx (i)) rfl rfl rfl (e_move) ?_
 refine l_call rfl rfl rfl (cl_value (fst := []) (cap := []) (vs := [.int .i64 (1), Nx (i)]) (all := [.int .i64 (1), Nx (i)]) uw83 rfl rfl rfl) ?_
 intro w hw
 obtain ⟨β1, sb, kn, hw1, back⟩ := St.frame_all hw
 refine (markW_ok β1 w hw1 i (by omega)).mono ?_
 rintro e w' ⟨rfl, hw'⟩
 refine ⟨_, rfl, _, back _ _ hw', ?_⟩
 clear hw hw1 hw' back kn sb
 refine l_val (v := .agg #[Nx (8000024 + i), .slice none 0 0]) rfl rfl rfl (e_build uw33 uw37 (vs := [(0, Nx (8000024 + i))]) (cells := #[Nx (8000024 + i), .slice none 0 0]) rfl rfl) ?_
 refine l_mu rfl rfl (m_store 0 uw24 (b := b1) (o := 0) (T := 59) (cs := #[.int .i64 (0), .slice none 0 0]) (cs' := #[Nx (8000024 + i), .slice none 0 0]) (v := .agg #[Nx (8000024 + i), .slice none 0 0]) rfl rfl rfl rfl rfl rfl rfl) ?_
 refine l_nil ?_
 refine f_then ?_
 refine c_ret ?_
 refine retG (l := [.cell 4 59]) (m := [.agg #[Nx (8000024 + i), .slice none 0 0]]) (v := .agg #[Nx (8000024 + i), .slice none 0 0]) Tryz.results108 ⟨rd_cell uw24 (cs := [Nx (8000024 + i), .slice none 0 0]) rfl (k_pt 0 (cs := #[Nx (8000024 + i), .slice none 0 0]) (vs := [Nx (8000024 + i), .slice none 0 0]) rfl rfl) rfl, trivial⟩ rfl ?_
 intro w hw
 exact ⟨rfl, st_mask [false] rfl hw⟩
theorem sameComps_ok (β : Base) (w : World) (hw : St β [] w) (v v' : Value) (xs ys : List KComp) (hx : Sl CompR β.heap v xs) (hy : Sl CompR β.heap v' ys) : Calls Tryz.prog 175 #[v, v'] w fun r w' => r = .returned (.bool (decide (xs = ys))) ∧ St β [] w' := by
 obtain ⟨va, vc, rfl, vl, vm, ve⟩ := hx.get
 obtain ⟨v'a, v'c, rfl, v'l, v'm, v'e⟩ := hy.get
 refine enter (n := 26) Tryz.func175 rfl Tryz.ntmps175 rfl ?_ hw
 refine c_seq ?_
 refine c_region ?_
 refine l_val (v := .bool false) rfl rfl rfl (e_assign) ?_
 refine l_nil ?_
 refine f_then ?_
 refine c_seq ?_
 refine c_seq ?_
 refine c_region ?_
 refine l_val (v := .slice va (xs.length) (vc)) rfl rfl rfl (e_move) ?_
 refine l_val (v := Nx (xs.length)) rfl rfl rfl (e_len (a := va) (n := xs.length) (c := vc) rfl uw13) ?_
 refine l_val (v := .slice v'a (ys.length) (v'c)) rfl rfl rfl (e_move) ?_
 refine l_val (v := Nx (ys.length)) rfl rfl rfl (e_len (a := v'a) (n := ys.length) (c := v'c) rfl uw13) ?_
 refine l_val (v := .bool (decide (((xs.length : Nat) : Int) ≠ ((ys.length : Nat) : Int)))) rfl rfl rfl (e_neq (a := ((xs.length : Nat) : Int)) (b := ((ys.length : Nat) : Int)) rfl rfl) ?_
 refine l_nil ?_
 refine f_then ?_
 refine c_if (((xs.length : Nat) : Int) ≠ ((ys.length : Nat) : Int)) rfl (fun hc1 => ?_) (fun hc1 => ?_)
 ·
  refine c_seq ?_
  refine c_region ?_
  refine l_val (v := .bool false) rfl rfl rfl (e_assign) ?_
  refine l_nil ?_
  refine f_then ?_
  refine c_ret ?_
  refine f_then_ret ?_
  refine ret1 Tryz.results175 (v := .bool false) rfl ?_
  intro w hw
  exact ⟨bool_f (fun h => by subst h; omega), st_mask [] rfl hw⟩
 ·
  refine c_skip ?_
  refine f_then ?_
  refine c_seq ?_
  refine c_seq ?_
  refine c_region ?_
  refine l_val (v := .int .i64 (0)) rfl rfl rfl (e_assign) ?_
  refine l_nil ?_
  refine f_then ?_
  refine c_block ?_
  refine c_loop (fun (k : Nat) (f : Fm) (L : List Res) => (f 0 = .slice va (xs.length) (vc) ∧ f 1 = .slice v'a (ys.length) (v'c) ∧ f 5 = Nx (k)) ∧ L = [] ∧ (k ≤ xs.length ∧ xs.take (k) = ys.take (k))) (fun (k : Nat) => xs.length - k) 0 ?_ ?_
  ·exact ⟨⟨rfl, rfl, rfl⟩, rfl, ⟨by omega, rfl⟩⟩
  rintro k f0 L0 ⟨⟨hs0, hs1, hs5⟩, hL, ⟨hp1, hp2⟩⟩
  subst L0
  refine rebase (d := 0) hs0 ?_
  refine rebase (d := 1) hs1 ?_
  refine rebase (d := 5) hs5 ?_
  clear hs0 hs1 hs5
  refine c_seq ?_
  refine c_seq ?_
  refine c_region ?_
  refine l_val (v := Nx (k)) rfl rfl rfl (e_move) ?_
  refine l_val (v := .slice va (xs.length) (vc)) rfl rfl rfl (e_move) ?_
  refine l_val (v := Nx (xs.length)) rfl rfl rfl (e_len (a := va) (n := xs.length) (c := vc) rfl uw13) ?_
  refine l_val (v := .bool (decide (((k : Nat) : Int) < ((xs.length : Nat) : Int)))) rfl rfl rfl (e_lss (a := ((k : Nat) : Int)) (b := ((xs.length : Nat) : Int)) rfl rfl) ?_
  refine l_nil ?_
  refine f_then ?_
  refine c_if (((k : Nat) : Int) < ((xs.length : Nat) : Int)) rfl (fun hc2 => ?_) (fun hc2 => ?_)
  ·
   refine c_skip ?_
   refine f_then ?_
   refine c_seq ?_
   refine c_block ?_
   refine c_seq ?_
   refine c_quiet (by kernel_rfl) (by kernel_rfl) ?_
   refine q_val (v := .slice va (xs.length) (vc)) rfl rfl rfl (e_move) ?_
   refine q_val (v := Nx (k)) rfl rfl rfl (e_move) ?_
   obtain ⟨x3, hx4⟩ : ∃ x_, (xs)[k]? = some x_ := ⟨_, List.getElem?_eq_getElem (by omega)⟩
   obtain ⟨ha5, cs6, hc7, rfl⟩ := ve _ _ hx4
   refine q_val (v := .pointer (some ((ba va).add (k * 5)))) rfl rfl rfl (e_indexAddr (k := k) (len := xs.length) (cap := vc) (a := va) rfl rfl uw14 (by omega) ha5) ?_
   refine q_val (v := .agg #[Bx (x3.kind), Ix (x3.v0), Ix (x3.v1), Ix (x3.v2), Ix (x3.v3)]) rfl rfl rfl (e_load uw15 (cs := [Bx (x3.kind), Ix (x3.v0), Ix (x3.v1), Ix (x3.v2), Ix (x3.v3)]) rfl (Knows.of_base (Cs.mono _ _) hc7) rfl) ?_
   refine q_val (v := .slice v'a (ys.length) (v'c)) rfl rfl rfl (e_move) ?_
   refine q_val (v := Nx (k)) rfl rfl rfl (e_move) ?_
   obtain ⟨x9, hx10⟩ : ∃ x_, (ys)[k]? = some x_ := ⟨_, List.getElem?_eq_getElem (by omega)⟩
   obtain ⟨ha11, cs12, hc13, rfl⟩ := v'e _ _ hx10
   refine q_val (v := .pointer (some ((ba v'a).add (k * 5)))) rfl rfl rfl (e_indexAddr (k := k) (len := ys.length) (cap := v'c) (a := v'a) rfl rfl uw14 (by omega) ha11) ?_
   refine q_val (v := .agg #[Bx (x9.kind), Ix (x9.v0), Ix (x9.v1), Ix (x9.v2), Ix (x9.v3)]) rfl rfl rfl (e_load uw15 (cs := [Bx (x9.kind), Ix (x9.v0), Ix (x9.v1), Ix (x9.v2), Ix (x9.v3)]) rfl (Knows.of_base (Cs.mono _ _) hc13) rfl) ?_
   refine q_val (v := .bool (decide (¬ (x3 = x9)))) rfl rfl rfl (e_neq_t (xs := compE x3) (ys := compE x9) uw84 uw85 uw86 rfl rfl rfl rfl (not_congr compE_inj)) ?_
   refine q_nil ?_
   refine f_then ?_
   refine c_if (¬ (x3 = x9)) rfl (fun hc15 => ?_) (fun hc15 => ?_)
   ·
    refine c_seq ?_
    refine c_region ?_
    refine l_val (v := .bool false) rfl rfl rfl (e_assign) ?_
    refine l_nil ?_
    refine f_then ?_
    refine c_ret ?_
    refine f_block_ret ?_
    refine f_then_ret ?_
    refine f_then_ret ?_
    refine f_block_ret ?_
    refine f_then_ret ?_
    refine ret1 Tryz.results175 (v := .bool false) rfl ?_
    intro w hw
    exact ⟨bool_f (list_ne hx4 hx10 hc15), st_mask [] rfl hw⟩
   ·
    refine c_skip ?_
    refine f_block ?_
    refine f_then ?_
    refine c_region ?_
    refine l_val (v := Nx (k)) rfl rfl rfl (e_move) ?_
    refine l_val (v := Nx (k + 1)) rfl rfl rfl (e_add (a := ((k : Nat) : Int)) (b := (1 : Int)) rfl rfl (i64n (by omega) (by omega))) ?_
    refine l_val (v := Nx (k + 1)) rfl rfl rfl (e_assign) ?_
    refine l_nil ?_
    exact f_cut ⟨k + 1, ⟨⟨rfl, rfl, rfl⟩, rfl, ⟨by omega, take_next hx4 (by rw [hx10]; exact congrArg some (Decidable.not_not.1 hc15).symm) hp2⟩⟩, (show xs.length - (k + 1) < xs.length - k from by omega)⟩
  ·
   refine c_exit ?_
   refine f_then_exit ?_
   refine f_then_exit ?_
   refine f_exit ?_
   refine f_then ?_
   refine c_seq ?_
   refine c_region ?_
   refine l_val (v := .bool true) rfl rfl rfl (e_assign) ?_
   refine l_nil ?_
   refine f_then ?_
   refine c_ret ?_
   refine ret1 Tryz.results175 (v := .bool true) rfl ?_
   intro w hw
   exact ⟨bool_t (take_all hp2 (by omega) (by omega)), st_mask [] rfl hw⟩
theorem sameEntity_ok (β : Base) (w : World) (hw : St β [] w) (x y : KEnt) (v v' : Value) (hx : Sl CompR β.heap v x.comps) (hy : Sl CompR β.heap v' y.comps) : Calls Tryz.prog 113 #[.agg #[Ix x.id, v], .agg #[Ix y.id, v']] w fun r w' => r = .returned (.bool (decide (x = y))) ∧ St β [] w' := by
 obtain ⟨va, vc, rfl, vl, vm, ve⟩ := hx.get
 obtain ⟨v'a, v'c, rfl, v'l, v'm, v'e⟩ := hy.get
 refine enter (n := 17) Tryz.func113 rfl Tryz.ntmps113 rfl ?_ hw
 refine c_seq ?_
 refine c_region ?_
 refine l_mv rfl rfl rfl (m_box (v := .agg #[Ix (x.id), .slice va (x.comps.length) (vc)]) rfl) ?_
 rintro _ _ ⟨b1, rfl, rfl⟩
 refine l_mv rfl rfl rfl (m_box (v := .agg #[Ix (y.id), .slice v'a (y.comps.length) (v'c)]) rfl) ?_
 rintro _ _ ⟨b2, rfl, rfl⟩
 refine l_val (v := .bool false) rfl rfl rfl (e_assign) ?_
 refine l_nil ?_
 refine f_then ?_
 refine c_seq ?_
 refine c_region ?_
 refine l_val (v := .pointer (some ⟨b1, 0, none⟩)) rfl rfl rfl (e_fieldPt (b := b1) (o := 0) rfl uw9) ?_
 refine l_val (v := Ix (x.id)) rfl rfl rfl (e_load1 uw10 (v := Ix (x.id)) rfl (k_pt 1 (cs := #[Ix (x.id), .slice va (x.comps.length) (vc)]) (vs := [Ix (x.id)]) rfl rfl)) ?_
 refine l_val (v := .pointer (some ⟨b2, 0, none⟩)) rfl rfl rfl (e_fieldPt (b := b2) (o := 0) rfl uw9) ?_
 refine l_val (v := Ix (y.id)) rfl rfl rfl (e_load1 uw10 (v := Ix (y.id)) rfl (k_pt 0 (cs := #[Ix (y.id), .slice v'a (y.comps.length) (v'c)]) (vs := [Ix (y.id)]) rfl rfl)) ?_
 refine l_val (v := .bool (decide ((x.id) = (y.id)))) rfl rfl rfl (e_eql (a := (x.id)) (b := (y.id)) rfl rfl) ?_
 refine l_val (v := .bool (decide ((x.id) = (y.id)))) rfl rfl rfl (e_move) ?_
 refine l_split (s := 10) (p := (x.id) = (y.id)) rfl (fun hg3 => ?_) (fun hg3 => ?_)
 ·
  refine g_val (v := .pointer (some ⟨b1, 1, none⟩)) rfl rfl rfl rfl rfl (e_fieldPt (b := b1) (o := 0) rfl uw11) ?_
  refine g_val (v := .slice va (x.comps.length) (vc)) rfl rfl rfl rfl rfl (e_load1 uw12 (v := .slice va (x.comps.length) (vc)) rfl (k_pt 1 (cs := #[Ix (x.id), .slice va (x.comps.length) (vc)]) (vs := [.slice va (x.comps.length) (vc)]) rfl rfl)) ?_
  refine g_val (v := .pointer (some ⟨b2, 1, none⟩)) rfl rfl rfl rfl rfl (e_fieldPt (b := b2) (o := 0) rfl uw11) ?_
  refine g_val (v := .slice v'a (y.comps.length) (v'c)) rfl rfl rfl rfl rfl (e_load1 uw12 (v := .slice v'a (y.comps.length) (v'c)) rfl (k_pt 0 (cs := #[Ix (y.id), .slice v'a (y.comps.length) (v'c)]) (vs := [.slice v'a (y.comps.length) (v'c)]) rfl rfl)) ?_
  refine g_call rfl rfl rfl rfl rfl (cl_value (fst := []) (cap := []) (vs := [.slice va (x.comps.length) (vc), .slice v'a (y.comps.length) (v'c)]) (all := [.slice va (x.comps.length) (vc), .slice v'a (y.comps.length) (v'c)]) uw87 rfl rfl rfl) ?_
  intro w hw
  obtain ⟨β1, sb, kn, hw1, back⟩ := St.frame_all hw
  refine (sameComps_ok β1 w hw1 _ _ x.comps y.comps (Sl.mono _ _ _ _ _ sb (⟨⟨_, _, rfl, vl, vm, ve⟩⟩ : Sl CompR _ _ x.comps)) (Sl.mono _ _ _ _ _ sb (⟨⟨_, _, rfl, v'l, v'm, v'e⟩⟩ : Sl CompR _ _ y.comps))).mono ?_
  rintro e w' ⟨rfl, hw'⟩
  refine ⟨_, rfl, _, back _ _ hw', ?_⟩
  clear hw hw1 hw' back kn sb
  refine l_val (v := .bool (decide (x.comps = y.comps))) rfl rfl rfl (e_pick_t rfl) ?_
  refine l_val (v := .bool (decide (x.comps = y.comps))) rfl rfl rfl (e_assign) ?_
  refine l_nil ?_
  refine f_then ?_
  refine c_ret ?_
  refine ret1 Tryz.results113 (v := .bool (decide (x.comps = y.comps))) rfl ?_
  intro w hw
  exact ⟨bool_i (ent_eq hg3), st_mask [false, false] rfl hw⟩
 ·
  refine l_skip rfl rfl rfl rfl rfl rfl ?_
  refine l_skip rfl rfl rfl rfl rfl rfl ?_
  refine l_skip rfl rfl rfl rfl rfl rfl ?_
  refine l_skip rfl rfl rfl rfl rfl rfl ?_
  refine l_skip rfl rfl rfl rfl rfl rfl ?_
  refine l_val (v := .bool false) rfl rfl rfl (e_pick_f rfl) ?_
  refine l_val (v := .bool false) rfl rfl rfl (e_assign) ?_
  refine l_nil ?_
  refine f_then ?_
  refine c_ret ?_
  refine ret1 Tryz.results113 (v := .bool false) rfl ?_
  intro w hw
  exact ⟨bool_f (fun h => hg3 (by rw [h])), st_mask [false, false] rfl hw⟩
theorem sameEntities_ok (β : Base) (w : World) (hw : St β [] w) (v v' : Value) (xs ys : List KEnt) (hx : Sl EntR β.heap v xs) (hy : Sl EntR β.heap v' ys) : Calls Tryz.prog 71 #[v, v'] w fun r w' => r = .returned (.bool (decide (xs = ys))) ∧ St β [] w' := by
 obtain ⟨va, vc, rfl, vl, vm, ve⟩ := hx.get
 obtain ⟨v'a, v'c, rfl, v'l, v'm, v'e⟩ := hy.get
 refine enter (n := 27) Tryz.func71 rfl Tryz.ntmps71 rfl ?_ hw
 refine c_seq ?_
 refine c_region ?_
 refine l_val (v := .bool false) rfl rfl rfl (e_assign) ?_
 refine l_nil ?_
 refine f_then ?_
 refine c_seq ?_
 refine c_seq ?_
 refine c_region ?_
 refine l_val (v := .slice va (xs.length) (vc)) rfl rfl rfl (e_move) ?_
 refine l_val (v := Nx (xs.length)) rfl rfl rfl (e_len (a := va) (n := xs.length) (c := vc) rfl uw31) ?_
 refine l_val (v := .slice v'a (ys.length) (v'c)) rfl rfl rfl (e_move) ?_
 refine l_val (v := Nx (ys.length)) rfl rfl rfl (e_len (a := v'a) (n := ys.length) (c := v'c) rfl uw31) ?_
 refine l_val (v := .bool (decide (((xs.length : Nat) : Int) ≠ ((ys.length : Nat) : Int)))) rfl rfl rfl (e_neq (a := ((xs.length : Nat) : Int)) (b := ((ys.length : Nat) : Int)) rfl rfl) ?_
 refine l_nil ?_
 refine f_then ?_
 refine c_if (((xs.length : Nat) : Int) ≠ ((ys.length : Nat) : Int)) rfl (fun hc1 => ?_) (fun hc1 => ?_)
 ·
  refine c_seq ?_
  refine c_region ?_
  refine l_val (v := .bool false) rfl rfl rfl (e_assign) ?_
  refine l_nil ?_
  refine f_then ?_
  refine c_ret ?_
  refine f_then_ret ?_
  refine ret1 Tryz.results71 (v := .bool false) rfl ?_
  intro w hw
  exact ⟨bool_f (fun h => by subst h; omega), st_mask [] rfl hw⟩
 ·
  refine c_skip ?_
  refine f_then ?_
  refine c_seq ?_
  refine c_seq ?_
  refine c_region ?_
  refine l_val (v := .int .i64 (0)) rfl rfl rfl (e_assign) ?_
  refine l_nil ?_
  refine f_then ?_
  refine c_block ?_
  refine c_loop (fun (k : Nat) (f : Fm) (L : List Res) => (f 0 = .slice va (xs.length) (vc) ∧ f 1 = .slice v'a (ys.length) (v'c) ∧ f 5 = Nx (k)) ∧ L = [] ∧ (k ≤ xs.length ∧ xs.take (k) = ys.take (k))) (fun (k : Nat) => xs.length - k) 0 ?_ ?_
  ·exact ⟨⟨rfl, rfl, rfl⟩, rfl, ⟨by omega, rfl⟩⟩
  rintro k f0 L0 ⟨⟨hs0, hs1, hs5⟩, hL, ⟨hp1, hp2⟩⟩
  subst L0
  refine rebase (d := 0) hs0 ?_
  refine rebase (d := 1) hs1 ?_
  refine rebase (d := 5) hs5 ?_
  clear hs0 hs1 hs5
  refine c_seq ?_
  refine c_seq ?_
  refine c_region ?_
  refine l_val (v := Nx (k)) rfl rfl rfl (e_move) ?_
  refine l_val (v := .slice va (xs.length) (vc)) rfl rfl rfl (e_move) ?_
  refine l_val (v := Nx (xs.length)) rfl rfl rfl (e_len (a := va) (n := xs.length) (c := vc) rfl uw31) ?_
  refine l_val (v := .bool (decide (((k : Nat) : Int) < ((xs.length : Nat) : Int)))) rfl rfl rfl (e_lss (a := ((k : Nat) : Int)) (b := ((xs.length : Nat) : Int)) rfl rfl) ?_
  refine l_nil ?_
  refine f_then ?_
  refine c_if (((k : Nat) : Int) < ((xs.length : Nat) : Int)) rfl (fun hc2 => ?_) (fun hc2 => ?_)
  ·
   refine c_skip ?_
   refine f_then ?_
   refine c_seq ?_
   refine c_block ?_
   refine c_seq ?_
   refine c_quiet (by kernel_rfl) (by kernel_rfl) ?_
   refine q_val (v := .slice va (xs.length) (vc)) rfl rfl rfl (e_move) ?_
   refine q_val (v := Nx (k)) rfl rfl rfl (e_move) ?_
   obtain ⟨x3, hx4⟩ : ∃ x_, (xs)[k]? = some x_ := ⟨_, List.getElem?_eq_getElem (by omega)⟩
   obtain ⟨ha5, cs6, hc7, hr8⟩ := ve _ _ hx4
   obtain ⟨v9, rfl, hv10⟩ := hr8
   obtain ⟨v9a, v9c, rfl, v9l, v9m, v9e⟩ := hv10.get
   refine q_val (v := .pointer (some ((ba va).add (k * 2)))) rfl rfl rfl (e_indexAddr (k := k) (len := xs.length) (cap := vc) (a := va) rfl rfl uw32 (by omega) ha5) ?_
   refine q_val (v := .agg #[Ix (x3.id), .slice v9a (x3.comps.length) (v9c)]) rfl rfl rfl (e_load uw24 (cs := [Ix (x3.id), .slice v9a (x3.comps.length) (v9c)]) rfl (Knows.of_base (Cs.mono _ _) hc7) rfl) ?_
   refine q_val (v := .slice v'a (ys.length) (v'c)) rfl rfl rfl (e_move) ?_
   refine q_val (v := Nx (k)) rfl rfl rfl (e_move) ?_
   obtain ⟨x11, hx12⟩ : ∃ x_, (ys)[k]? = some x_ := ⟨_, List.getElem?_eq_getElem (by omega)⟩
   obtain ⟨ha13, cs14, hc15, hr16⟩ := v'e _ _ hx12
   obtain ⟨v17, rfl, hv18⟩ := hr16
   obtain ⟨v17a, v17c, rfl, v17l, v17m, v17e⟩ := hv18.get
   refine q_val (v := .pointer (some ((ba v'a).add (k * 2)))) rfl rfl rfl (e_indexAddr (k := k) (len := ys.length) (cap := v'c) (a := v'a) rfl rfl uw32 (by omega) ha13) ?_
   refine q_val (v := .agg #[Ix (x11.id), .slice v17a (x11.comps.length) (v17c)]) rfl rfl rfl (e_load uw24 (cs := [Ix (x11.id), .slice v17a (x11.comps.length) (v17c)]) rfl (Knows.of_base (Cs.mono _ _) hc15) rfl) ?_
   refine q_call (v := .bool (decide (x3 = x11))) rfl rfl rfl (cl_value (fst := []) (cap := []) (vs := [.agg #[Ix (x3.id), .slice v9a (x3.comps.length) (v9c)], .agg #[Ix (x11.id), .slice v17a (x11.comps.length) (v17c)]]) (all := [.agg #[Ix (x3.id), .slice v9a (x3.comps.length) (v9c)], .agg #[Ix (x11.id), .slice v17a (x11.comps.length) (v17c)]]) uw88 rfl rfl rfl) (fun w hw => ?_) ?_
   ·obtain ⟨β1, sb, kn, hw1, back⟩ := St.frame_all hw
    exact (sameEntity_ok β1 w hw1 x3 x11 _ _ (Sl.mono _ _ _ _ _ sb (⟨⟨_, _, rfl, v9l, v9m, v9e⟩⟩ : Sl CompR _ _ x3.comps)) (Sl.mono _ _ _ _ _ sb (⟨⟨_, _, rfl, v17l, v17m, v17e⟩⟩ : Sl CompR _ _ x11.comps))).mono (fun e w' ⟨he, hw'⟩ => ⟨he, st_mask [] rfl (back _ _ hw')⟩)
   refine q_val (v := .bool (decide (¬ (x3 = x11)))) rfl rfl rfl (e_not_p (p := x3 = x11) rfl) ?_
   refine q_nil ?_
   refine f_then ?_
   refine c_if (¬ (x3 = x11)) rfl (fun hc19 => ?_) (fun hc19 => ?_)
   ·
    refine c_seq ?_
    refine c_region ?_
    refine l_val (v := .bool false) rfl rfl rfl (e_assign) ?_
    refine l_nil ?_
    refine f_then ?_
    refine c_ret ?_
    refine f_block_ret ?_
    refine f_then_ret ?_
    refine f_then_ret ?_
    refine f_block_ret ?_
    refine f_then_ret ?_
    refine ret1 Tryz.results71 (v := .bool false) rfl ?_
    intro w hw
    exact ⟨bool_f (list_ne hx4 hx12 hc19), st_mask [] rfl hw⟩
   ·
    refine c_skip ?_
    refine f_block ?_
    refine f_then ?_
    refine c_region ?_
    refine l_val (v := Nx (k)) rfl rfl rfl (e_move) ?_
    refine l_val (v := Nx (k + 1)) rfl rfl rfl (e_add (a := ((k : Nat) : Int)) (b := (1 : Int)) rfl rfl (i64n (by omega) (by omega))) ?_
    refine l_val (v := Nx (k + 1)) rfl rfl rfl (e_assign) ?_
    refine l_nil ?_
    exact f_cut ⟨k + 1, ⟨⟨rfl, rfl, rfl⟩, rfl, ⟨by omega, take_next hx4 (by rw [hx12]; exact congrArg some (Decidable.not_not.1 hc19).symm) hp2⟩⟩, (show xs.length - (k + 1) < xs.length - k from by omega)⟩
  ·
   refine c_exit ?_
   refine f_then_exit ?_
   refine f_then_exit ?_
   refine f_exit ?_
   refine f_then ?_
   refine c_seq ?_
   refine c_region ?_
   refine l_val (v := .bool true) rfl rfl rfl (e_assign) ?_
   refine l_nil ?_
   refine f_then ?_
   refine c_ret ?_
   refine ret1 Tryz.results71 (v := .bool true) rfl ?_
   intro w hw
   exact ⟨bool_t (take_all hp2 (by omega) (by omega)), st_mask [] rfl hw⟩
theorem sameWorld_ok (β : Base) (w : World) (hw : St β [] w) (x y : KWorld) (v v' : Value) (hx : Sl EntR β.heap v x.ents) (hy : Sl EntR β.heap v' y.ents) : Calls Tryz.prog 21 #[.agg #[Ix x.tick, v], .agg #[Ix y.tick, v']] w fun r w' => r = .returned (.bool (decide (x = y))) ∧ St β [] w' := by
 obtain ⟨va, vc, rfl, vl, vm, ve⟩ := hx.get
 obtain ⟨v'a, v'c, rfl, v'l, v'm, v'e⟩ := hy.get
 refine enter (n := 17) Tryz.func21 rfl Tryz.ntmps21 rfl ?_ hw
 refine c_seq ?_
 refine c_region ?_
 refine l_mv rfl rfl rfl (m_box (v := .agg #[Ix (x.tick), .slice va (x.ents.length) (vc)]) rfl) ?_
 rintro _ _ ⟨b1, rfl, rfl⟩
 refine l_mv rfl rfl rfl (m_box (v := .agg #[Ix (y.tick), .slice v'a (y.ents.length) (v'c)]) rfl) ?_
 rintro _ _ ⟨b2, rfl, rfl⟩
 refine l_val (v := .bool false) rfl rfl rfl (e_assign) ?_
 refine l_nil ?_
 refine f_then ?_
 refine c_seq ?_
 refine c_region ?_
 refine l_val (v := .pointer (some ⟨b1, 0, none⟩)) rfl rfl rfl (e_fieldPt (b := b1) (o := 0) rfl uw27) ?_
 refine l_val (v := Ix (x.tick)) rfl rfl rfl (e_load1 uw10 (v := Ix (x.tick)) rfl (k_pt 1 (cs := #[Ix (x.tick), .slice va (x.ents.length) (vc)]) (vs := [Ix (x.tick)]) rfl rfl)) ?_
 refine l_val (v := .pointer (some ⟨b2, 0, none⟩)) rfl rfl rfl (e_fieldPt (b := b2) (o := 0) rfl uw27) ?_
 refine l_val (v := Ix (y.tick)) rfl rfl rfl (e_load1 uw10 (v := Ix (y.tick)) rfl (k_pt 0 (cs := #[Ix (y.tick), .slice v'a (y.ents.length) (v'c)]) (vs := [Ix (y.tick)]) rfl rfl)) ?_
 refine l_val (v := .bool (decide ((x.tick) = (y.tick)))) rfl rfl rfl (e_eql (a := (x.tick)) (b := (y.tick)) rfl rfl) ?_
 refine l_val (v := .bool (decide ((x.tick) = (y.tick)))) rfl rfl rfl (e_move) ?_
 refine l_split (s := 10) (p := (x.tick) = (y.tick)) rfl (fun hg3 => ?_) (fun hg3 => ?_)
 ·
  refine g_val (v := .pointer (some ⟨b1, 1, none⟩)) rfl rfl rfl rfl rfl (e_fieldPt (b := b1) (o := 0) rfl uw29) ?_
  refine g_val (v := .slice va (x.ents.length) (vc)) rfl rfl rfl rfl rfl (e_load1 uw30 (v := .slice va (x.ents.length) (vc)) rfl (k_pt 1 (cs := #[Ix (x.tick), .slice va (x.ents.length) (vc)]) (vs := [.slice va (x.ents.length) (vc)]) rfl rfl)) ?_
  refine g_val (v := .pointer (some ⟨b2, 1, none⟩)) rfl rfl rfl rfl rfl (e_fieldPt (b := b2) (o := 0) rfl uw29) ?_
  refine g_val (v := .slice v'a (y.ents.length) (v'c)) rfl rfl rfl rfl rfl (e_load1 uw30 (v := .slice v'a (y.ents.length) (v'c)) rfl (k_pt 0 (cs := #[Ix (y.tick), .slice v'a (y.ents.length) (v'c)]) (vs := [.slice v'a (y.ents.length) (v'c)]) rfl rfl)) ?_
  refine g_call rfl rfl rfl rfl rfl (cl_value (fst := []) (cap := []) (vs := [.slice va (x.ents.length) (vc), .slice v'a (y.ents.length) (v'c)]) (all := [.slice va (x.ents.length) (vc), .slice v'a (y.ents.length) (v'c)]) uw89 rfl rfl rfl) ?_
  intro w hw
  obtain ⟨β1, sb, kn, hw1, back⟩ := St.frame_all hw
  refine (sameEntities_ok β1 w hw1 _ _ x.ents y.ents (Sl.mono _ _ _ _ _ sb (⟨⟨_, _, rfl, vl, vm, ve⟩⟩ : Sl EntR _ _ x.ents)) (Sl.mono _ _ _ _ _ sb (⟨⟨_, _, rfl, v'l, v'm, v'e⟩⟩ : Sl EntR _ _ y.ents))).mono ?_
  rintro e w' ⟨rfl, hw'⟩
  refine ⟨_, rfl, _, back _ _ hw', ?_⟩
  clear hw hw1 hw' back kn sb
  refine l_val (v := .bool (decide (x.ents = y.ents))) rfl rfl rfl (e_pick_t rfl) ?_
  refine l_val (v := .bool (decide (x.ents = y.ents))) rfl rfl rfl (e_assign) ?_
  refine l_nil ?_
  refine f_then ?_
  refine c_ret ?_
  refine ret1 Tryz.results21 (v := .bool (decide (x.ents = y.ents))) rfl ?_
  intro w hw
  exact ⟨bool_i (world_eq hg3), st_mask [false, false] rfl hw⟩
 ·
  refine l_skip rfl rfl rfl rfl rfl rfl ?_
  refine l_skip rfl rfl rfl rfl rfl rfl ?_
  refine l_skip rfl rfl rfl rfl rfl rfl ?_
  refine l_skip rfl rfl rfl rfl rfl rfl ?_
  refine l_skip rfl rfl rfl rfl rfl rfl ?_
  refine l_val (v := .bool false) rfl rfl rfl (e_pick_f rfl) ?_
  refine l_val (v := .bool false) rfl rfl rfl (e_assign) ?_
  refine l_nil ?_
  refine f_then ?_
  refine c_ret ?_
  refine ret1 Tryz.results21 (v := .bool false) rfl ?_
  intro w hw
  exact ⟨bool_f (fun h => hg3 (by rw [h])), st_mask [false, false] rfl hw⟩
end Go.Proofs
namespace Go.Proofs
open Go Go.Sl
theorem uw90 : cfB Tryz.prog 184 = true := by kernel_rfl
theorem uw91 : cfB Tryz.prog 200 = true := by kernel_rfl
theorem uw92 : cfB Tryz.prog 140 = true := by kernel_rfl
theorem uw93 : cfB Tryz.prog 108 = true := by kernel_rfl
theorem uw94 : cfB Tryz.prog 21 = true := by kernel_rfl
theorem uw95 : cfB Tryz.prog 78 = true := by kernel_rfl
theorem keptComps_ok (β : Base) (w : World) (hw : St β [] w) (v v' : Value) (xs ys : List KComp) (hx : LSl β.heap v xs) (hy : Sl CompR β.heap v' ys) : Calls Tryz.prog 200 #[v, v'] w fun r w' => r = .returned (.bool (decide (xs = ys))) ∧ St β [] w' := by
 obtain ⟨va, vc, rfl, vl, vm, vf⟩ := hx
 have ve := Elems.left vf
 obtain ⟨v'a, v'c, rfl, v'l, v'm, v'e⟩ := hy.get
 obtain ⟨al, hal⟩ : ∃ z, z = xs ++ marksC 12 := ⟨_, rfl⟩
 have hall : al.length = xs.length + 12 := by rw [hal]; simp [marksC_len]
 have hale := vf
 rw [← hal] at hale
 refine enter (n := 58) Tryz.func200 rfl Tryz.ntmps200 rfl ?_ hw
 refine c_seq ?_
 refine c_region ?_
 refine l_val (v := .bool false) rfl rfl rfl (e_assign) ?_
 refine l_nil ?_
 refine f_then ?_
 refine c_seq ?_
 refine c_seq ?_
 refine c_region ?_
 refine l_val (v := .slice va (xs.length) (vc)) rfl rfl rfl (e_move) ?_
 refine l_val (v := Nx (xs.length)) rfl rfl rfl (e_len (a := va) (n := xs.length) (c := vc) rfl uw13) ?_
 refine l_val (v := .slice v'a (ys.length) (v'c)) rfl rfl rfl (e_move) ?_
 refine l_val (v := Nx (ys.length)) rfl rfl rfl (e_len (a := v'a) (n := ys.length) (c := v'c) rfl uw13) ?_
 refine l_val (v := .bool (decide (((xs.length : Nat) : Int) ≠ ((ys.length : Nat) : Int)))) rfl rfl rfl (e_neq (a := ((xs.length : Nat) : Int)) (b := ((ys.length : Nat) : Int)) rfl rfl) ?_
 refine l_nil ?_
 refine f_then ?_
 refine c_if (((xs.length : Nat) : Int) ≠ ((ys.length : Nat) : Int)) rfl (fun hc1 => ?_) (fun hc1 => ?_)
 ·
  refine c_seq ?_
  refine c_region ?_
  refine l_val (v := .bool false) rfl rfl rfl (e_assign) ?_
  refine l_nil ?_
  refine f_then ?_
  refine c_ret ?_
  refine f_then_ret ?_
  refine ret1 Tryz.results200 (v := .bool false) rfl ?_
  intro w hw
  exact ⟨bool_f (fun h => by subst h; omega), st_mask [] rfl hw⟩
 ·
  refine c_skip ?_
  refine f_then ?_
  refine c_seq ?_
  have hxy : xs.length = ys.length := by omega
  refine c_region ?_
  refine l_val (v := .slice va (xs.length) (vc)) rfl rfl rfl (e_move) ?_
  refine l_val (v := .slice v'a (ys.length) (v'c)) rfl rfl rfl (e_move) ?_
  refine l_val (v := Nx (ys.length)) rfl rfl rfl (e_len (a := v'a) (n := ys.length) (c := v'c) rfl uw13) ?_
  refine l_val (v := Nx (ys.length + 12)) rfl rfl rfl (e_add (a := ((ys.length : Nat) : Int)) (b := (12 : Int)) rfl rfl (i64n (by omega) (by omega))) ?_
  refine l_val (v := .slice va (al.length) (vc)) rfl rfl rfl (ev_eq (by rw [show al.length = ys.length + 12 by omega]) (e_slice_hi (a := va) (len := xs.length) (cap := vc) (h := ys.length + 12) uw14 rfl rfl (by omega))) ?_
  refine l_val (v := .slice va (al.length) (vc)) rfl rfl rfl (e_assign) ?_
  refine l_nil ?_
  refine f_then ?_
  refine c_seq ?_
  refine c_seq ?_
  refine c_region ?_
  refine l_val (v := .int .i64 (0)) rfl rfl rfl (e_assign) ?_
  refine l_nil ?_
  refine f_then ?_
  refine c_block ?_
  refine c_loop (fun (k : Nat) (f : Fm) (L : List Res) => (f 1 = .slice v'a (ys.length) (v'c) ∧ f 5 = .slice va (al.length) (vc) ∧ f 6 = Nx (k)) ∧ L = [] ∧ (k ≤ al.length ∧ (∀ j, j < k → j < ys.length → xs[j]? = ys[j]?))) (fun (k : Nat) => al.length - k) 0 ?_ ?_
  ·exact ⟨⟨rfl, rfl, rfl⟩, rfl, ⟨by omega, fun j hj => by omega⟩⟩
  rintro k f0 L0 ⟨⟨hs1, hs5, hs6⟩, hL, ⟨hp1, hp2⟩⟩
  subst L0
  refine rebase (d := 1) hs1 ?_
  refine rebase (d := 5) hs5 ?_
  refine rebase (d := 6) hs6 ?_
  clear hs1 hs5 hs6
  refine c_seq ?_
  refine c_seq ?_
  refine c_region ?_
  refine l_val (v := Nx (k)) rfl rfl rfl (e_move) ?_
  refine l_val (v := .slice va (al.length) (vc)) rfl rfl rfl (e_move) ?_
  refine l_val (v := Nx (al.length)) rfl rfl rfl (e_len (a := va) (n := al.length) (c := vc) rfl uw13) ?_
  refine l_val (v := .bool (decide (((k : Nat) : Int) < ((al.length : Nat) : Int)))) rfl rfl rfl (e_lss (a := ((k : Nat) : Int)) (b := ((al.length : Nat) : Int)) rfl rfl) ?_
  refine l_nil ?_
  refine f_then ?_
  refine c_if (((k : Nat) : Int) < ((al.length : Nat) : Int)) rfl (fun hc2 => ?_) (fun hc2 => ?_)
  ·
   refine c_skip ?_
   refine f_then ?_
   refine c_seq ?_
   refine c_block ?_
   refine c_seq ?_
   refine c_quiet (by kernel_rfl) (by kernel_rfl) ?_
   refine q_val (v := Nx (k)) rfl rfl rfl (e_move) ?_
   refine q_val (v := .slice v'a (ys.length) (v'c)) rfl rfl rfl (e_move) ?_
   refine q_val (v := Nx (ys.length)) rfl rfl rfl (e_len (a := v'a) (n := ys.length) (c := v'c) rfl uw13) ?_
   refine q_val (v := .bool (decide (((k : Nat) : Int) < ((ys.length : Nat) : Int)))) rfl rfl rfl (e_lss (a := ((k : Nat) : Int)) (b := ((ys.length : Nat) : Int)) rfl rfl) ?_
   refine q_val (v := .bool (decide (((k : Nat) : Int) < ((ys.length : Nat) : Int)))) rfl rfl rfl (e_move) ?_
   refine q_split (s := 27) (p := ((k : Nat) : Int) < ((ys.length : Nat) : Int)) rfl (fun hg3 => ?_) (fun hg3 => ?_)
   ·
    refine qg_val (v := .slice va (al.length) (vc)) rfl rfl rfl rfl rfl (e_move) ?_
    refine qg_val (v := Nx (k)) rfl rfl rfl rfl rfl (e_move) ?_
    obtain ⟨x4, hx5⟩ : ∃ x_, (xs)[k]? = some x_ := ⟨_, List.getElem?_eq_getElem (by omega)⟩
    obtain ⟨ha6, cs7, hc8, rfl⟩ := ve _ _ hx5
    refine qg_val (v := .pointer (some ((ba va).add (k * 5)))) rfl rfl rfl rfl rfl (e_indexAddr (k := k) (len := al.length) (cap := vc) (a := va) rfl rfl uw14 (by omega) ha6) ?_
    refine qg_val (v := .agg #[Bx (x4.kind), Ix (x4.v0), Ix (x4.v1), Ix (x4.v2), Ix (x4.v3)]) rfl rfl rfl rfl rfl (e_load uw15 (cs := [Bx (x4.kind), Ix (x4.v0), Ix (x4.v1), Ix (x4.v2), Ix (x4.v3)]) rfl (Knows.of_base (Cs.mono _ _) hc8) rfl) ?_
    refine qg_val (v := .slice v'a (ys.length) (v'c)) rfl rfl rfl rfl rfl (e_move) ?_
    refine qg_val (v := Nx (k)) rfl rfl rfl rfl rfl (e_move) ?_
    obtain ⟨x10, hx11⟩ : ∃ x_, (ys)[k]? = some x_ := ⟨_, List.getElem?_eq_getElem (by omega)⟩
    obtain ⟨ha12, cs13, hc14, rfl⟩ := v'e _ _ hx11
    refine qg_val (v := .pointer (some ((ba v'a).add (k * 5)))) rfl rfl rfl rfl rfl (e_indexAddr (k := k) (len := ys.length) (cap := v'c) (a := v'a) rfl rfl uw14 (by omega) ha12) ?_
    refine qg_val (v := .agg #[Bx (x10.kind), Ix (x10.v0), Ix (x10.v1), Ix (x10.v2), Ix (x10.v3)]) rfl rfl rfl rfl rfl (e_load uw15 (cs := [Bx (x10.kind), Ix (x10.v0), Ix (x10.v1), Ix (x10.v2), Ix (x10.v3)]) rfl (Knows.of_base (Cs.mono _ _) hc14) rfl) ?_
    refine qg_val (v := .bool (decide (x4 = x10))) rfl rfl rfl rfl rfl (e_eql_t (xs := compE x4) (ys := compE x10) uw84 uw85 uw86 rfl rfl rfl rfl compE_inj) ?_
    refine qg_val (v := .bool (decide (¬ (x4 = x10)))) rfl rfl rfl rfl rfl (e_not_p (p := x4 = x10) rfl) ?_
    refine q_val (v := .bool (decide (¬ (x4 = x10)))) rfl rfl rfl (e_pick_t rfl) ?_
    refine q_val (v := .bool (decide (¬ (x4 = x10)))) rfl rfl rfl (e_move) ?_
    refine q_split (s := 39) (p := ¬ (x4 = x10)) rfl (fun hg16 => ?_) (fun hg16 => ?_)
    ·
     refine q_skip rfl rfl rfl rfl rfl rfl ?_
     refine q_skip rfl rfl rfl rfl rfl rfl ?_
     refine q_skip rfl rfl rfl rfl rfl rfl ?_
     refine q_skip rfl rfl rfl rfl rfl rfl ?_
     refine q_skip rfl rfl rfl rfl rfl rfl ?_
     refine q_skip_u rfl rfl rfl rfl rfl ?_
     refine q_skip_u rfl rfl rfl rfl rfl ?_
     refine q_skip_u rfl rfl rfl rfl rfl ?_
     refine q_skip_u rfl rfl rfl rfl rfl ?_
     refine q_skip_u rfl rfl rfl rfl rfl ?_
     refine q_skip_u rfl rfl rfl rfl rfl ?_
     refine q_skip_u rfl rfl rfl rfl rfl ?_
     refine q_skip_u rfl rfl rfl rfl rfl ?_
     refine q_skip_u rfl rfl rfl rfl rfl ?_
     refine q_skip_u rfl rfl rfl rfl rfl ?_
     refine q_skip_u rfl rfl rfl rfl rfl ?_
     refine q_skip rfl rfl rfl rfl rfl rfl ?_
     refine q_val (v := .bool true) rfl rfl rfl (e_pick_t rfl) ?_
     refine q_nil ?_
     refine f_then ?_
     refine c_yes rfl ?_
     refine c_seq ?_
     refine c_region ?_
     refine l_val (v := .bool false) rfl rfl rfl (e_assign) ?_
     refine l_nil ?_
     refine f_then ?_
     refine c_ret ?_
     refine f_block_ret ?_
     refine f_then_ret ?_
     refine f_then_ret ?_
     refine f_block_ret ?_
     refine f_then_ret ?_
     refine ret1 Tryz.results200 (v := .bool false) rfl ?_
     intro w hw
     exact ⟨bool_f (list_ne hx5 hx11 hg16), st_mask [] rfl hw⟩
    ·
     refine qg_val (v := Nx (k)) rfl rfl rfl rfl rfl (e_move) ?_
     refine qg_val (v := .slice v'a (ys.length) (v'c)) rfl rfl rfl rfl rfl (e_move) ?_
     refine qg_val (v := Nx (ys.length)) rfl rfl rfl rfl rfl (e_len (a := v'a) (n := ys.length) (c := v'c) rfl uw13) ?_
     refine qg_val (v := .bool (decide (((ys.length : Nat) : Int) ≤ ((k : Nat) : Int)))) rfl rfl rfl rfl rfl (e_geq (a := ((k : Nat) : Int)) (b := ((ys.length : Nat) : Int)) rfl rfl) ?_
     refine qg_val (v := .bool (decide (((ys.length : Nat) : Int) ≤ ((k : Nat) : Int)))) rfl rfl rfl rfl rfl (e_move) ?_
     refine q_split (s := 44) (p := ((ys.length : Nat) : Int) ≤ ((k : Nat) : Int)) rfl (fun h => ?_) (fun h => ?_)
     exact absurd h (by omega)
     refine q_skip rfl rfl rfl rfl rfl rfl ?_
     refine q_skip rfl rfl rfl rfl rfl rfl ?_
     refine q_skip rfl rfl rfl rfl rfl rfl ?_
     refine q_skip rfl rfl rfl rfl rfl rfl ?_
     refine q_skip rfl rfl rfl rfl rfl rfl ?_
     refine q_skip rfl rfl rfl rfl rfl rfl ?_
     refine q_skip rfl rfl rfl rfl rfl rfl ?_
     refine q_skip rfl rfl rfl rfl rfl rfl ?_
     refine q_skip rfl rfl rfl rfl rfl rfl ?_
     refine q_skip rfl rfl rfl rfl rfl rfl ?_
     refine q_skip rfl rfl rfl rfl rfl rfl ?_
     refine qg_val (v := .bool false) rfl rfl rfl rfl rfl (e_pick_f rfl) ?_
     refine q_val (v := .bool false) rfl rfl rfl (e_pick_f rfl) ?_
     refine q_nil ?_
     refine f_then ?_
     refine c_no rfl ?_
     refine c_skip ?_
     refine f_block ?_
     refine f_then ?_
     refine c_region ?_
     refine l_val (v := Nx (k)) rfl rfl rfl (e_move) ?_
     refine l_val (v := Nx (k + 1)) rfl rfl rfl (e_add (a := ((k : Nat) : Int)) (b := (1 : Int)) rfl rfl (i64n (by omega) (by omega))) ?_
     refine l_val (v := Nx (k + 1)) rfl rfl rfl (e_assign) ?_
     refine l_nil ?_
     exact f_cut ⟨k + 1, ⟨⟨rfl, rfl, rfl⟩, rfl, ⟨by omega, upto_succ hp2 (by rw [hx5, hx11, Decidable.not_not.1 hg16])⟩⟩, (show al.length - (k + 1) < al.length - k from by omega)⟩
   ·
    refine q_skip rfl rfl rfl rfl rfl rfl ?_
    refine q_skip rfl rfl rfl rfl rfl rfl ?_
    refine q_skip rfl rfl rfl rfl rfl rfl ?_
    refine q_skip rfl rfl rfl rfl rfl rfl ?_
    refine q_skip rfl rfl rfl rfl rfl rfl ?_
    refine q_skip rfl rfl rfl rfl rfl rfl ?_
    refine q_skip rfl rfl rfl rfl rfl rfl ?_
    refine q_skip rfl rfl rfl rfl rfl rfl ?_
    refine q_skip rfl rfl rfl rfl rfl rfl ?_
    refine q_skip rfl rfl rfl rfl rfl rfl ?_
    refine q_val (v := .bool false) rfl rfl rfl (e_pick_f rfl) ?_
    refine q_val (v := .bool false) rfl rfl rfl (e_move) ?_
    refine qg_val (v := Nx (k)) rfl rfl rfl rfl rfl (e_move) ?_
    refine qg_val (v := .slice v'a (ys.length) (v'c)) rfl rfl rfl rfl rfl (e_move) ?_
    refine qg_val (v := Nx (ys.length)) rfl rfl rfl rfl rfl (e_len (a := v'a) (n := ys.length) (c := v'c) rfl uw13) ?_
    refine qg_val (v := .bool (decide (((ys.length : Nat) : Int) ≤ ((k : Nat) : Int)))) rfl rfl rfl rfl rfl (e_geq (a := ((k : Nat) : Int)) (b := ((ys.length : Nat) : Int)) rfl rfl) ?_
    refine qg_val (v := .bool (decide (((ys.length : Nat) : Int) ≤ ((k : Nat) : Int)))) rfl rfl rfl rfl rfl (e_move) ?_
    refine q_split (s := 44) (p := ((ys.length : Nat) : Int) ≤ ((k : Nat) : Int)) rfl (fun h => ?_) (fun h => ?_)
    rotate_left; exact absurd (by omega) h
    refine qg_val (v := .slice va (al.length) (vc)) rfl rfl rfl rfl rfl (e_move) ?_
    refine qg_val (v := Nx (k)) rfl rfl rfl rfl rfl (e_move) ?_
    obtain ⟨x17, hx18⟩ : ∃ x_, (al)[k]? = some x_ := ⟨_, List.getElem?_eq_getElem (by omega)⟩
    obtain ⟨ha19, cs20, hc21, rfl⟩ := hale _ _ hx18
    refine qg_val (v := .pointer (some ((ba va).add (k * 5)))) rfl rfl rfl rfl rfl (e_indexAddr (k := k) (len := al.length) (cap := vc) (a := va) rfl rfl uw14 (by omega) ha19) ?_
    refine qg_val (v := .agg #[Bx (x17.kind), Ix (x17.v0), Ix (x17.v1), Ix (x17.v2), Ix (x17.v3)]) rfl rfl rfl rfl rfl (e_load uw15 (cs := [Bx (x17.kind), Ix (x17.v0), Ix (x17.v1), Ix (x17.v2), Ix (x17.v3)]) rfl (Knows.of_base (Cs.mono _ _) hc21) rfl) ?_
    refine qg_val (v := Nx (k)) rfl rfl rfl rfl rfl (e_move) ?_
    refine qg_val (v := .slice v'a (ys.length) (v'c)) rfl rfl rfl rfl rfl (e_move) ?_
    refine qg_val (v := Nx (ys.length)) rfl rfl rfl rfl rfl (e_len (a := v'a) (n := ys.length) (c := v'c) rfl uw13) ?_
    refine qg_val (v := Nx (k - ys.length)) rfl rfl rfl rfl rfl (ev_eq (congrArg (Value.int .i64) (by omega)) (e_sub (a := ((k : Nat) : Int)) (b := ((ys.length : Nat) : Int)) rfl rfl (i64w (by omega)))) ?_
    refine qg_call (v := .agg #[Bx ((markC (k - ys.length)).kind), Ix ((markC (k - ys.length)).v0), Ix ((markC (k - ys.length)).v1), Ix ((markC (k - ys.length)).v2), Ix ((markC (k - ys.length)).v3)]) rfl rfl rfl rfl rfl (cl_value (fst := []) (cap := []) (vs := [.int .i64 (1), Nx (k - ys.length)]) (all := [.int .i64 (1), Nx (k - ys.length)]) uw90 rfl rfl rfl) (fun w hw => ?_) ?_
    ·obtain ⟨β1, sb, kn, hw1, back⟩ := St.frame_all hw
     exact (markComp_ok β1 w hw1 (k - ys.length) (by omega)).mono (fun e w' ⟨he, hw'⟩ => ⟨he, st_mask [] rfl (back _ _ hw')⟩)
    refine qg_val (v := .bool (decide (x17 = (markC (k - ys.length))))) rfl rfl rfl rfl rfl (e_eql_t (xs := compE x17) (ys := compE (markC (k - ys.length))) uw84 uw85 uw86 rfl rfl rfl rfl compE_inj) ?_
    refine qg_val (v := .bool (decide (¬ (x17 = (markC (k - ys.length)))))) rfl rfl rfl rfl rfl (e_not_p (p := x17 = (markC (k - ys.length))) rfl) ?_
    refine qg_val (v := .bool (decide (¬ (x17 = (markC (k - ys.length)))))) rfl rfl rfl rfl rfl (e_pick_t rfl) ?_
    refine q_val (v := .bool (decide (¬ (x17 = (markC (k - ys.length)))))) rfl rfl rfl (e_pick_f rfl) ?_
    refine q_nil ?_
    refine f_then ?_
    refine c_if (¬ (x17 = (markC (k - ys.length)))) rfl (fun hc23 => ?_) (fun hc23 => ?_)
    ·
     exact absurd hc23 (fun h => h (lent_mark hal hx18 (by omega) (by omega)))
    ·
     refine c_skip ?_
     refine f_block ?_
     refine f_then ?_
     refine c_region ?_
     refine l_val (v := Nx (k)) rfl rfl rfl (e_move) ?_
     refine l_val (v := Nx (k + 1)) rfl rfl rfl (e_add (a := ((k : Nat) : Int)) (b := (1 : Int)) rfl rfl (i64n (by omega) (by omega))) ?_
     refine l_val (v := Nx (k + 1)) rfl rfl rfl (e_assign) ?_
     refine l_nil ?_
     exact f_cut ⟨k + 1, ⟨⟨rfl, rfl, rfl⟩, rfl, ⟨by omega, upto_past hp2 (by omega)⟩⟩, (show al.length - (k + 1) < al.length - k from by omega)⟩
  ·
   refine c_exit ?_
   refine f_then_exit ?_
   refine f_then_exit ?_
   refine f_exit ?_
   refine f_then ?_
   refine c_seq ?_
   refine c_region ?_
   refine l_val (v := .bool true) rfl rfl rfl (e_assign) ?_
   refine l_nil ?_
   refine f_then ?_
   refine c_ret ?_
   refine ret1 Tryz.results200 (v := .bool true) rfl ?_
   intro w hw
   exact ⟨bool_t (upto_eq hxy (show ys.length ≤ k by omega) hp2), st_mask [] rfl hw⟩
theorem keptEntity_ok (β : Base) (w : World) (hw : St β [] w) (x y : KEnt) (v v' : Value) (hx : LSl β.heap v x.comps) (hy : Sl CompR β.heap v' y.comps) : Calls Tryz.prog 140 #[.agg #[Ix x.id, v], .agg #[Ix y.id, v']] w fun r w' => r = .returned (.bool (decide (x = y))) ∧ St β [] w' := by
 obtain ⟨va, vc, rfl, vl, vm, vf⟩ := hx
 have ve := Elems.left vf
 obtain ⟨v'a, v'c, rfl, v'l, v'm, v'e⟩ := hy.get
 refine enter (n := 15) Tryz.func140 rfl Tryz.ntmps140 rfl ?_ hw
 refine c_seq ?_
 refine c_region ?_
 refine l_mv rfl rfl rfl (m_box (v := .agg #[Ix (x.id), .slice va (x.comps.length) (vc)]) rfl) ?_
 rintro _ _ ⟨b1, rfl, rfl⟩
 refine l_mv rfl rfl rfl (m_box (v := .agg #[Ix (y.id), .slice v'a (y.comps.length) (v'c)]) rfl) ?_
 rintro _ _ ⟨b2, rfl, rfl⟩
 refine l_val (v := .bool false) rfl rfl rfl (e_assign) ?_
 refine l_nil ?_
 refine f_then ?_
 refine c_seq ?_
 refine c_region ?_
 refine l_val (v := .agg #[Ix (x.id), .slice va (x.comps.length) (vc)]) rfl rfl rfl (e_load uw24 (cs := [Ix (x.id), .slice va (x.comps.length) (vc)]) rfl (k_pt 1 (cs := #[Ix (x.id), .slice va (x.comps.length) (vc)]) (vs := [Ix (x.id), .slice va (x.comps.length) (vc)]) rfl rfl) rfl) ?_
 refine l_val (v := .agg #[Ix (y.id), .slice v'a (y.comps.length) (v'c)]) rfl rfl rfl (e_load uw24 (cs := [Ix (y.id), .slice v'a (y.comps.length) (v'c)]) rfl (k_pt 0 (cs := #[Ix (y.id), .slice v'a (y.comps.length) (v'c)]) (vs := [Ix (y.id), .slice v'a (y.comps.length) (v'c)]) rfl rfl) rfl) ?_
 refine l_call rfl rfl rfl (cl_value (fst := []) (cap := []) (vs := [.agg #[Ix (x.id), .slice va (x.comps.length) (vc)], .agg #[Ix (y.id), .slice v'a (y.comps.length) (v'c)]]) (all := [.agg #[Ix (x.id), .slice va (x.comps.length) (vc)], .agg #[Ix (y.id), .slice v'a (y.comps.length) (v'c)]]) uw88 rfl rfl rfl) ?_
 intro w hw
 obtain ⟨β1, sb, kn, hw1, back⟩ := St.frame_all hw
 refine (sameEntity_ok β1 w hw1 x y _ _ (Sl.mono _ _ _ _ _ sb (⟨⟨_, _, rfl, by omega, vm, ve⟩⟩ : Sl CompR _ _ x.comps)) (Sl.mono _ _ _ _ _ sb (⟨⟨_, _, rfl, v'l, v'm, v'e⟩⟩ : Sl CompR _ _ y.comps))).mono ?_
 rintro e w' ⟨rfl, hw'⟩
 refine ⟨_, rfl, _, back _ _ hw', ?_⟩
 clear hw hw1 hw' back kn sb
 refine l_val (v := .bool (decide (x = y))) rfl rfl rfl (e_move) ?_
 refine l_split (s := 8) (p := x = y) rfl (fun hg3 => ?_) (fun hg3 => ?_)
 ·
  refine g_val (v := .pointer (some ⟨b1, 1, none⟩)) rfl rfl rfl rfl rfl (e_fieldPt (b := b1) (o := 0) rfl uw11) ?_
  refine g_val (v := .slice va (x.comps.length) (vc)) rfl rfl rfl rfl rfl (e_load1 uw12 (v := .slice va (x.comps.length) (vc)) rfl (k_pt 1 (cs := #[Ix (x.id), .slice va (x.comps.length) (vc)]) (vs := [.slice va (x.comps.length) (vc)]) rfl rfl)) ?_
  refine g_val (v := .pointer (some ⟨b2, 1, none⟩)) rfl rfl rfl rfl rfl (e_fieldPt (b := b2) (o := 0) rfl uw11) ?_
  refine g_val (v := .slice v'a (y.comps.length) (v'c)) rfl rfl rfl rfl rfl (e_load1 uw12 (v := .slice v'a (y.comps.length) (v'c)) rfl (k_pt 0 (cs := #[Ix (y.id), .slice v'a (y.comps.length) (v'c)]) (vs := [.slice v'a (y.comps.length) (v'c)]) rfl rfl)) ?_
  refine g_call rfl rfl rfl rfl rfl (cl_value (fst := []) (cap := []) (vs := [.slice va (x.comps.length) (vc), .slice v'a (y.comps.length) (v'c)]) (all := [.slice va (x.comps.length) (vc), .slice v'a (y.comps.length) (v'c)]) uw91 rfl rfl rfl) ?_
  intro w hw
  obtain ⟨β1, sb, kn, hw1, back⟩ := St.frame_all hw
  refine (keptComps_ok β1 w hw1 _ _ x.comps y.comps (LSl.mono _ _ _ _ sb (⟨_, _, rfl, vl, vm, vf⟩ : LSl _ _ x.comps)) (Sl.mono _ _ _ _ _ sb (⟨⟨_, _, rfl, v'l, v'm, v'e⟩⟩ : Sl CompR _ _ y.comps))).mono ?_
  rintro e w' ⟨rfl, hw'⟩
  refine ⟨_, rfl, _, back _ _ hw', ?_⟩
  clear hw hw1 hw' back kn sb
  refine l_val (v := .bool (decide (x.comps = y.comps))) rfl rfl rfl (e_pick_t rfl) ?_
  refine l_val (v := .bool (decide (x.comps = y.comps))) rfl rfl rfl (e_assign) ?_
  refine l_nil ?_
  refine f_then ?_
  refine c_ret ?_
  refine ret1 Tryz.results140 (v := .bool (decide (x.comps = y.comps))) rfl ?_
  intro w hw
  exact ⟨by rw [decide_eq_true hg3, decide_eq_true (congrArg KEnt.comps hg3)], st_mask [false, false] rfl hw⟩
 ·
  refine l_skip rfl rfl rfl rfl rfl rfl ?_
  refine l_skip rfl rfl rfl rfl rfl rfl ?_
  refine l_skip rfl rfl rfl rfl rfl rfl ?_
  refine l_skip rfl rfl rfl rfl rfl rfl ?_
  refine l_skip rfl rfl rfl rfl rfl rfl ?_
  refine l_val (v := .bool false) rfl rfl rfl (e_pick_f rfl) ?_
  refine l_val (v := .bool false) rfl rfl rfl (e_assign) ?_
  refine l_nil ?_
  refine f_then ?_
  refine c_ret ?_
  refine ret1 Tryz.results140 (v := .bool false) rfl ?_
  intro w hw
  exact ⟨bool_f hg3, st_mask [false, false] rfl hw⟩
theorem keptEntities_ok (β : Base) (w : World) (hw : St β [] w) (v v' : Value) (xs ys : List KEnt) (hx : LESl β.heap v xs) (hy : Sl EntR β.heap v' ys) : Calls Tryz.prog 78 #[v, v'] w fun r w' => r = .returned (.bool (decide (xs = ys))) ∧ St β [] w' := by
 obtain ⟨va, vc, rfl, vl, vm, ve, vf⟩ := hx
 obtain ⟨v'a, v'c, rfl, v'l, v'm, v'e⟩ := hy.get
 obtain ⟨al, hal⟩ : ∃ z, z = xs ++ marksE 12 := ⟨_, rfl⟩
 have hall : al.length = xs.length + 12 := by rw [hal]; simp [marksE_len]
 have hale := vf
 rw [← hal] at hale
 refine enter (n := 58) Tryz.func78 rfl Tryz.ntmps78 rfl ?_ hw
 refine c_seq ?_
 refine c_region ?_
 refine l_val (v := .bool false) rfl rfl rfl (e_assign) ?_
 refine l_nil ?_
 refine f_then ?_
 refine c_seq ?_
 refine c_seq ?_
 refine c_region ?_
 refine l_val (v := .slice va (xs.length) (vc)) rfl rfl rfl (e_move) ?_
 refine l_val (v := Nx (xs.length)) rfl rfl rfl (e_len (a := va) (n := xs.length) (c := vc) rfl uw31) ?_
 refine l_val (v := .slice v'a (ys.length) (v'c)) rfl rfl rfl (e_move) ?_
 refine l_val (v := Nx (ys.length)) rfl rfl rfl (e_len (a := v'a) (n := ys.length) (c := v'c) rfl uw31) ?_
 refine l_val (v := .bool (decide (((xs.length : Nat) : Int) ≠ ((ys.length : Nat) : Int)))) rfl rfl rfl (e_neq (a := ((xs.length : Nat) : Int)) (b := ((ys.length : Nat) : Int)) rfl rfl) ?_
 refine l_nil ?_
 refine f_then ?_
 refine c_if (((xs.length : Nat) : Int) ≠ ((ys.length : Nat) : Int)) rfl (fun hc1 => ?_) (fun hc1 => ?_)
 ·
  refine c_seq ?_
  refine c_region ?_
  refine l_val (v := .bool false) rfl rfl rfl (e_assign) ?_
  refine l_nil ?_
  refine f_then ?_
  refine c_ret ?_
  refine f_then_ret ?_
  refine ret1 Tryz.results78 (v := .bool false) rfl ?_
  intro w hw
  exact ⟨bool_f (fun h => by subst h; omega), st_mask [] rfl hw⟩
 ·
  refine c_skip ?_
  refine f_then ?_
  refine c_seq ?_
  have hxy : xs.length = ys.length := by omega
  refine c_region ?_
  refine l_val (v := .slice va (xs.length) (vc)) rfl rfl rfl (e_move) ?_
  refine l_val (v := .slice v'a (ys.length) (v'c)) rfl rfl rfl (e_move) ?_
  refine l_val (v := Nx (ys.length)) rfl rfl rfl (e_len (a := v'a) (n := ys.length) (c := v'c) rfl uw31) ?_
  refine l_val (v := Nx (ys.length + 12)) rfl rfl rfl (e_add (a := ((ys.length : Nat) : Int)) (b := (12 : Int)) rfl rfl (i64n (by omega) (by omega))) ?_
  refine l_val (v := .slice va (al.length) (vc)) rfl rfl rfl (ev_eq (by rw [show al.length = ys.length + 12 by omega]) (e_slice_hi (a := va) (len := xs.length) (cap := vc) (h := ys.length + 12) uw32 rfl rfl (by omega))) ?_
  refine l_val (v := .slice va (al.length) (vc)) rfl rfl rfl (e_assign) ?_
  refine l_nil ?_
  refine f_then ?_
  refine c_seq ?_
  refine c_seq ?_
  refine c_region ?_
  refine l_val (v := .int .i64 (0)) rfl rfl rfl (e_assign) ?_
  refine l_nil ?_
  refine f_then ?_
  refine c_block ?_
  refine c_loop (fun (k : Nat) (f : Fm) (L : List Res) => (f 1 = .slice v'a (ys.length) (v'c) ∧ f 5 = .slice va (al.length) (vc) ∧ f 6 = Nx (k)) ∧ L = [] ∧ (k ≤ al.length ∧ (∀ j, j < k → j < ys.length → xs[j]? = ys[j]?))) (fun (k : Nat) => al.length - k) 0 ?_ ?_
  ·exact ⟨⟨rfl, rfl, rfl⟩, rfl, ⟨by omega, fun j hj => by omega⟩⟩
  rintro k f0 L0 ⟨⟨hs1, hs5, hs6⟩, hL, ⟨hp1, hp2⟩⟩
  subst L0
  refine rebase (d := 1) hs1 ?_
  refine rebase (d := 5) hs5 ?_
  refine rebase (d := 6) hs6 ?_
  clear hs1 hs5 hs6
  refine c_seq ?_
  refine c_seq ?_
  refine c_region ?_
  refine l_val (v := Nx (k)) rfl rfl rfl (e_move) ?_
  refine l_val (v := .slice va (al.length) (vc)) rfl rfl rfl (e_move) ?_
  refine l_val (v := Nx (al.length)) rfl rfl rfl (e_len (a := va) (n := al.length) (c := vc) rfl uw31) ?_
  refine l_val (v := .bool (decide (((k : Nat) : Int) < ((al.length : Nat) : Int)))) rfl rfl rfl (e_lss (a := ((k : Nat) : Int)) (b := ((al.length : Nat) : Int)) rfl rfl) ?_
  refine l_nil ?_
  refine f_then ?_
  refine c_if (((k : Nat) : Int) < ((al.length : Nat) : Int)) rfl (fun hc2 => ?_) (fun hc2 => ?_)
  ·
   refine c_skip ?_
   refine f_then ?_
   refine c_seq ?_
   refine c_block ?_
   refine c_seq ?_
   refine c_quiet (by kernel_rfl) (by kernel_rfl) ?_
   refine q_val (v := Nx (k)) rfl rfl rfl (e_move) ?_
   refine q_val (v := .slice v'a (ys.length) (v'c)) rfl rfl rfl (e_move) ?_
   refine q_val (v := Nx (ys.length)) rfl rfl rfl (e_len (a := v'a) (n := ys.length) (c := v'c) rfl uw31) ?_
   refine q_val (v := .bool (decide (((k : Nat) : Int) < ((ys.length : Nat) : Int)))) rfl rfl rfl (e_lss (a := ((k : Nat) : Int)) (b := ((ys.length : Nat) : Int)) rfl rfl) ?_
   refine q_val (v := .bool (decide (((k : Nat) : Int) < ((ys.length : Nat) : Int)))) rfl rfl rfl (e_move) ?_
   refine q_split (s := 27) (p := ((k : Nat) : Int) < ((ys.length : Nat) : Int)) rfl (fun hg3 => ?_) (fun hg3 => ?_)
   ·
    refine qg_val (v := .slice va (al.length) (vc)) rfl rfl rfl rfl rfl (e_move) ?_
    refine qg_val (v := Nx (k)) rfl rfl rfl rfl rfl (e_move) ?_
    obtain ⟨x4, hx5⟩ : ∃ x_, (xs)[k]? = some x_ := ⟨_, List.getElem?_eq_getElem (by omega)⟩
    obtain ⟨ha6, cs7, hc8, hr9⟩ := ve _ _ hx5
    obtain ⟨v10, rfl, hv11⟩ := hr9
    obtain ⟨v10a, v10c, rfl, v10l, v10m, v10f⟩ := hv11
    have v10e := Elems.left v10f
    refine qg_val (v := .pointer (some ((ba va).add (k * 2)))) rfl rfl rfl rfl rfl (e_indexAddr (k := k) (len := al.length) (cap := vc) (a := va) rfl rfl uw32 (by omega) ha6) ?_
    refine qg_val (v := .agg #[Ix (x4.id), .slice v10a (x4.comps.length) (v10c)]) rfl rfl rfl rfl rfl (e_load uw24 (cs := [Ix (x4.id), .slice v10a (x4.comps.length) (v10c)]) rfl (Knows.of_base (Cs.mono _ _) hc8) rfl) ?_
    refine qg_val (v := .slice v'a (ys.length) (v'c)) rfl rfl rfl rfl rfl (e_move) ?_
    refine qg_val (v := Nx (k)) rfl rfl rfl rfl rfl (e_move) ?_
    obtain ⟨x12, hx13⟩ : ∃ x_, (ys)[k]? = some x_ := ⟨_, List.getElem?_eq_getElem (by omega)⟩
    obtain ⟨ha14, cs15, hc16, hr17⟩ := v'e _ _ hx13
    obtain ⟨v18, rfl, hv19⟩ := hr17
    obtain ⟨v18a, v18c, rfl, v18l, v18m, v18e⟩ := hv19.get
    refine qg_val (v := .pointer (some ((ba v'a).add (k * 2)))) rfl rfl rfl rfl rfl (e_indexAddr (k := k) (len := ys.length) (cap := v'c) (a := v'a) rfl rfl uw32 (by omega) ha14) ?_
    refine qg_val (v := .agg #[Ix (x12.id), .slice v18a (x12.comps.length) (v18c)]) rfl rfl rfl rfl rfl (e_load uw24 (cs := [Ix (x12.id), .slice v18a (x12.comps.length) (v18c)]) rfl (Knows.of_base (Cs.mono _ _) hc16) rfl) ?_
    refine qg_call (v := .bool (decide (x4 = x12))) rfl rfl rfl rfl rfl (cl_value (fst := []) (cap := []) (vs := [.agg #[Ix (x4.id), .slice v10a (x4.comps.length) (v10c)], .agg #[Ix (x12.id), .slice v18a (x12.comps.length) (v18c)]]) (all := [.agg #[Ix (x4.id), .slice v10a (x4.comps.length) (v10c)], .agg #[Ix (x12.id), .slice v18a (x12.comps.length) (v18c)]]) uw92 rfl rfl rfl) (fun w hw => ?_) ?_
    ·obtain ⟨β1, sb, kn, hw1, back⟩ := St.frame_all hw
     exact (keptEntity_ok β1 w hw1 x4 x12 _ _ (LSl.mono _ _ _ _ sb (⟨_, _, rfl, v10l, v10m, v10f⟩ : LSl _ _ x4.comps)) (Sl.mono _ _ _ _ _ sb (⟨⟨_, _, rfl, v18l, v18m, v18e⟩⟩ : Sl CompR _ _ x12.comps))).mono (fun e w' ⟨he, hw'⟩ => ⟨he, st_mask [] rfl (back _ _ hw')⟩)
    refine qg_val (v := .bool (decide (¬ (x4 = x12)))) rfl rfl rfl rfl rfl (e_not_p (p := x4 = x12) rfl) ?_
    refine q_val (v := .bool (decide (¬ (x4 = x12)))) rfl rfl rfl (e_pick_t rfl) ?_
    refine q_val (v := .bool (decide (¬ (x4 = x12)))) rfl rfl rfl (e_move) ?_
    refine q_split (s := 39) (p := ¬ (x4 = x12)) rfl (fun hg20 => ?_) (fun hg20 => ?_)
    ·
     refine q_skip rfl rfl rfl rfl rfl rfl ?_
     refine q_skip rfl rfl rfl rfl rfl rfl ?_
     refine q_skip rfl rfl rfl rfl rfl rfl ?_
     refine q_skip rfl rfl rfl rfl rfl rfl ?_
     refine q_skip rfl rfl rfl rfl rfl rfl ?_
     refine q_skip_u rfl rfl rfl rfl rfl ?_
     refine q_skip_u rfl rfl rfl rfl rfl ?_
     refine q_skip_u rfl rfl rfl rfl rfl ?_
     refine q_skip_u rfl rfl rfl rfl rfl ?_
     refine q_skip_u rfl rfl rfl rfl rfl ?_
     refine q_skip_u rfl rfl rfl rfl rfl ?_
     refine q_skip_u rfl rfl rfl rfl rfl ?_
     refine q_skip_u rfl rfl rfl rfl rfl ?_
     refine q_skip_u rfl rfl rfl rfl rfl ?_
     refine q_skip_u rfl rfl rfl rfl rfl ?_
     refine q_skip_u rfl rfl rfl rfl rfl ?_
     refine q_skip rfl rfl rfl rfl rfl rfl ?_
     refine q_val (v := .bool true) rfl rfl rfl (e_pick_t rfl) ?_
     refine q_nil ?_
     refine f_then ?_
     refine c_yes rfl ?_
     refine c_seq ?_
     refine c_region ?_
     refine l_val (v := .bool false) rfl rfl rfl (e_assign) ?_
     refine l_nil ?_
     refine f_then ?_
     refine c_ret ?_
     refine f_block_ret ?_
     refine f_then_ret ?_
     refine f_then_ret ?_
     refine f_block_ret ?_
     refine f_then_ret ?_
     refine ret1 Tryz.results78 (v := .bool false) rfl ?_
     intro w hw
     exact ⟨bool_f (list_ne hx5 hx13 hg20), st_mask [] rfl hw⟩
    ·
     refine qg_val (v := Nx (k)) rfl rfl rfl rfl rfl (e_move) ?_
     refine qg_val (v := .slice v'a (ys.length) (v'c)) rfl rfl rfl rfl rfl (e_move) ?_
     refine qg_val (v := Nx (ys.length)) rfl rfl rfl rfl rfl (e_len (a := v'a) (n := ys.length) (c := v'c) rfl uw31) ?_
     refine qg_val (v := .bool (decide (((ys.length : Nat) : Int) ≤ ((k : Nat) : Int)))) rfl rfl rfl rfl rfl (e_geq (a := ((k : Nat) : Int)) (b := ((ys.length : Nat) : Int)) rfl rfl) ?_
     refine qg_val (v := .bool (decide (((ys.length : Nat) : Int) ≤ ((k : Nat) : Int)))) rfl rfl rfl rfl rfl (e_move) ?_
     refine q_split (s := 44) (p := ((ys.length : Nat) : Int) ≤ ((k : Nat) : Int)) rfl (fun h => ?_) (fun h => ?_)
     exact absurd h (by omega)
     refine q_skip rfl rfl rfl rfl rfl rfl ?_
     refine q_skip rfl rfl rfl rfl rfl rfl ?_
     refine q_skip rfl rfl rfl rfl rfl rfl ?_
     refine q_skip rfl rfl rfl rfl rfl rfl ?_
     refine q_skip rfl rfl rfl rfl rfl rfl ?_
     refine q_skip rfl rfl rfl rfl rfl rfl ?_
     refine q_skip rfl rfl rfl rfl rfl rfl ?_
     refine q_skip rfl rfl rfl rfl rfl rfl ?_
     refine q_skip rfl rfl rfl rfl rfl rfl ?_
     refine q_skip rfl rfl rfl rfl rfl rfl ?_
     refine q_skip rfl rfl rfl rfl rfl rfl ?_
     refine qg_val (v := .bool false) rfl rfl rfl rfl rfl (e_pick_f rfl) ?_
     refine q_val (v := .bool false) rfl rfl rfl (e_pick_f rfl) ?_
     refine q_nil ?_
     refine f_then ?_
     refine c_no rfl ?_
     refine c_skip ?_
     refine f_block ?_
     refine f_then ?_
     refine c_region ?_
     refine l_val (v := Nx (k)) rfl rfl rfl (e_move) ?_
     refine l_val (v := Nx (k + 1)) rfl rfl rfl (e_add (a := ((k : Nat) : Int)) (b := (1 : Int)) rfl rfl (i64n (by omega) (by omega))) ?_
     refine l_val (v := Nx (k + 1)) rfl rfl rfl (e_assign) ?_
     refine l_nil ?_
     exact f_cut ⟨k + 1, ⟨⟨rfl, rfl, rfl⟩, rfl, ⟨by omega, upto_succ hp2 (by rw [hx5, hx13, Decidable.not_not.1 hg20])⟩⟩, (show al.length - (k + 1) < al.length - k from by omega)⟩
   ·
    refine q_skip rfl rfl rfl rfl rfl rfl ?_
    refine q_skip rfl rfl rfl rfl rfl rfl ?_
    refine q_skip rfl rfl rfl rfl rfl rfl ?_
    refine q_skip rfl rfl rfl rfl rfl rfl ?_
    refine q_skip rfl rfl rfl rfl rfl rfl ?_
    refine q_skip rfl rfl rfl rfl rfl rfl ?_
    refine q_skip rfl rfl rfl rfl rfl rfl ?_
    refine q_skip rfl rfl rfl rfl rfl rfl ?_
    refine q_skip rfl rfl rfl rfl rfl rfl ?_
    refine q_skip rfl rfl rfl rfl rfl rfl ?_
    refine q_val (v := .bool false) rfl rfl rfl (e_pick_f rfl) ?_
    refine q_val (v := .bool false) rfl rfl rfl (e_move) ?_
    refine qg_val (v := Nx (k)) rfl rfl rfl rfl rfl (e_move) ?_
    refine qg_val (v := .slice v'a (ys.length) (v'c)) rfl rfl rfl rfl rfl (e_move) ?_
    refine qg_val (v := Nx (ys.length)) rfl rfl rfl rfl rfl (e_len (a := v'a) (n := ys.length) (c := v'c) rfl uw31) ?_
    refine qg_val (v := .bool (decide (((ys.length : Nat) : Int) ≤ ((k : Nat) : Int)))) rfl rfl rfl rfl rfl (e_geq (a := ((k : Nat) : Int)) (b := ((ys.length : Nat) : Int)) rfl rfl) ?_
    refine qg_val (v := .bool (decide (((ys.length : Nat) : Int) ≤ ((k : Nat) : Int)))) rfl rfl rfl rfl rfl (e_move) ?_
    refine q_split (s := 44) (p := ((ys.length : Nat) : Int) ≤ ((k : Nat) : Int)) rfl (fun h => ?_) (fun h => ?_)
    rotate_left; exact absurd (by omega) h
    refine qg_val (v := .slice va (al.length) (vc)) rfl rfl rfl rfl rfl (e_move) ?_
    refine qg_val (v := Nx (k)) rfl rfl rfl rfl rfl (e_move) ?_
    obtain ⟨x21, hx22⟩ : ∃ x_, (al)[k]? = some x_ := ⟨_, List.getElem?_eq_getElem (by omega)⟩
    obtain ⟨ha23, cs24, hc25, hr26⟩ := hale _ _ hx22
    obtain ⟨v27, rfl, hv28⟩ := hr26
    obtain ⟨v27a, v27c, rfl, v27l, v27m, v27e⟩ := hv28.get
    refine qg_val (v := .pointer (some ((ba va).add (k * 2)))) rfl rfl rfl rfl rfl (e_indexAddr (k := k) (len := al.length) (cap := vc) (a := va) rfl rfl uw32 (by omega) ha23) ?_
    refine qg_val (v := .agg #[Ix (x21.id), .slice v27a (x21.comps.length) (v27c)]) rfl rfl rfl rfl rfl (e_load uw24 (cs := [Ix (x21.id), .slice v27a (x21.comps.length) (v27c)]) rfl (Knows.of_base (Cs.mono _ _) hc25) rfl) ?_
    refine qg_val (v := Nx (k)) rfl rfl rfl rfl rfl (e_move) ?_
    refine qg_val (v := .slice v'a (ys.length) (v'c)) rfl rfl rfl rfl rfl (e_move) ?_
    refine qg_val (v := Nx (ys.length)) rfl rfl rfl rfl rfl (e_len (a := v'a) (n := ys.length) (c := v'c) rfl uw31) ?_
    refine qg_val (v := Nx (k - ys.length)) rfl rfl rfl rfl rfl (ev_eq (congrArg (Value.int .i64) (by omega)) (e_sub (a := ((k : Nat) : Int)) (b := ((ys.length : Nat) : Int)) rfl rfl (i64w (by omega)))) ?_
    refine qg_call (v := .agg #[Ix ((markE (k - ys.length)).id), .slice none 0 0]) rfl rfl rfl rfl rfl (cl_value (fst := []) (cap := []) (vs := [.int .i64 (1), Nx (k - ys.length)]) (all := [.int .i64 (1), Nx (k - ys.length)]) uw93 rfl rfl rfl) (fun w hw => ?_) ?_
    ·obtain ⟨β1, sb, kn, hw1, back⟩ := St.frame_all hw
     exact (markEntity_ok β1 w hw1 (k - ys.length) (by omega)).mono (fun e w' ⟨he, hw'⟩ => ⟨he, st_mask [] rfl (back _ _ hw')⟩)
    refine qg_call (v := .bool (decide (x21 = (markE (k - ys.length))))) rfl rfl rfl rfl rfl (cl_value (fst := []) (cap := []) (vs := [.agg #[Ix (x21.id), .slice v27a (x21.comps.length) (v27c)], .agg #[Ix ((markE (k - ys.length)).id), .slice none 0 0]]) (all := [.agg #[Ix (x21.id), .slice v27a (x21.comps.length) (v27c)], .agg #[Ix ((markE (k - ys.length)).id), .slice none 0 0]]) uw88 rfl rfl rfl) (fun w hw => ?_) ?_
    ·obtain ⟨β1, sb, kn, hw1, back⟩ := St.frame_all hw
     exact (sameEntity_ok β1 w hw1 x21 (markE (k - ys.length)) _ _ (Sl.mono _ _ _ _ _ sb (⟨⟨_, _, rfl, v27l, v27m, v27e⟩⟩ : Sl CompR _ _ x21.comps)) (Sl.nil CompR _ : Sl CompR _ _ (markE (k - ys.length)).comps)).mono (fun e w' ⟨he, hw'⟩ => ⟨he, st_mask [] rfl (back _ _ hw')⟩)
    refine qg_val (v := .bool (decide (¬ (x21 = (markE (k - ys.length)))))) rfl rfl rfl rfl rfl (e_not_p (p := x21 = (markE (k - ys.length))) rfl) ?_
    refine qg_val (v := .bool (decide (¬ (x21 = (markE (k - ys.length)))))) rfl rfl rfl rfl rfl (e_pick_t rfl) ?_
    refine q_val (v := .bool (decide (¬ (x21 = (markE (k - ys.length)))))) rfl rfl rfl (e_pick_f rfl) ?_
    refine q_nil ?_
    refine f_then ?_
    refine c_if (¬ (x21 = (markE (k - ys.length)))) rfl (fun hc29 => ?_) (fun hc29 => ?_)
    ·
     exact absurd hc29 (fun h => h (lent_markE hal hx22 (by omega) (by omega)))
    ·
     refine c_skip ?_
     refine f_block ?_
     refine f_then ?_
     refine c_region ?_
     refine l_val (v := Nx (k)) rfl rfl rfl (e_move) ?_
     refine l_val (v := Nx (k + 1)) rfl rfl rfl (e_add (a := ((k : Nat) : Int)) (b := (1 : Int)) rfl rfl (i64n (by omega) (by omega))) ?_
     refine l_val (v := Nx (k + 1)) rfl rfl rfl (e_assign) ?_
     refine l_nil ?_
     exact f_cut ⟨k + 1, ⟨⟨rfl, rfl, rfl⟩, rfl, ⟨by omega, upto_past hp2 (by omega)⟩⟩, (show al.length - (k + 1) < al.length - k from by omega)⟩
  ·
   refine c_exit ?_
   refine f_then_exit ?_
   refine f_then_exit ?_
   refine f_exit ?_
   refine f_then ?_
   refine c_seq ?_
   refine c_region ?_
   refine l_val (v := .bool true) rfl rfl rfl (e_assign) ?_
   refine l_nil ?_
   refine f_then ?_
   refine c_ret ?_
   refine ret1 Tryz.results78 (v := .bool true) rfl ?_
   intro w hw
   exact ⟨bool_t (upto_eq hxy (show ys.length ≤ k by omega) hp2), st_mask [] rfl hw⟩
theorem keptWorld_ok (β : Base) (w : World) (hw : St β [] w) (x y : KWorld) (v v' : Value) (hx : LESl β.heap v x.ents) (hy : Sl EntR β.heap v' y.ents) : Calls Tryz.prog 27 #[.agg #[Ix x.tick, v], .agg #[Ix y.tick, v']] w fun r w' => r = .returned (.bool (decide (x = y))) ∧ St β [] w' := by
 obtain ⟨va, vc, rfl, vl, vm, ve, vf⟩ := hx
 obtain ⟨v'a, v'c, rfl, v'l, v'm, v'e⟩ := hy.get
 refine enter (n := 15) Tryz.func27 rfl Tryz.ntmps27 rfl ?_ hw
 refine c_seq ?_
 refine c_region ?_
 refine l_mv rfl rfl rfl (m_box (v := .agg #[Ix (x.tick), .slice va (x.ents.length) (vc)]) rfl) ?_
 rintro _ _ ⟨b1, rfl, rfl⟩
 refine l_mv rfl rfl rfl (m_box (v := .agg #[Ix (y.tick), .slice v'a (y.ents.length) (v'c)]) rfl) ?_
 rintro _ _ ⟨b2, rfl, rfl⟩
 refine l_val (v := .bool false) rfl rfl rfl (e_assign) ?_
 refine l_nil ?_
 refine f_then ?_
 refine c_seq ?_
 refine c_region ?_
 refine l_val (v := .agg #[Ix (x.tick), .slice va (x.ents.length) (vc)]) rfl rfl rfl (e_load uw46 (cs := [Ix (x.tick), .slice va (x.ents.length) (vc)]) rfl (k_pt 1 (cs := #[Ix (x.tick), .slice va (x.ents.length) (vc)]) (vs := [Ix (x.tick), .slice va (x.ents.length) (vc)]) rfl rfl) rfl) ?_
 refine l_val (v := .agg #[Ix (y.tick), .slice v'a (y.ents.length) (v'c)]) rfl rfl rfl (e_load uw46 (cs := [Ix (y.tick), .slice v'a (y.ents.length) (v'c)]) rfl (k_pt 0 (cs := #[Ix (y.tick), .slice v'a (y.ents.length) (v'c)]) (vs := [Ix (y.tick), .slice v'a (y.ents.length) (v'c)]) rfl rfl) rfl) ?_
 refine l_call rfl rfl rfl (cl_value (fst := []) (cap := []) (vs := [.agg #[Ix (x.tick), .slice va (x.ents.length) (vc)], .agg #[Ix (y.tick), .slice v'a (y.ents.length) (v'c)]]) (all := [.agg #[Ix (x.tick), .slice va (x.ents.length) (vc)], .agg #[Ix (y.tick), .slice v'a (y.ents.length) (v'c)]]) uw94 rfl rfl rfl) ?_
 intro w hw
 obtain ⟨β1, sb, kn, hw1, back⟩ := St.frame_all hw
 refine (sameWorld_ok β1 w hw1 (⟨x.tick, x.ents⟩ : KWorld) (⟨y.tick, y.ents⟩ : KWorld) _ _ (Sl.mono _ _ _ _ _ sb (⟨⟨_, _, rfl, by omega, vm, Elems.left vf⟩⟩ : Sl EntR _ _ x.ents)) (Sl.mono _ _ _ _ _ sb (⟨⟨_, _, rfl, v'l, v'm, v'e⟩⟩ : Sl EntR _ _ y.ents))).mono ?_
 rintro e w' ⟨rfl, hw'⟩
 refine ⟨_, rfl, _, back _ _ hw', ?_⟩
 clear hw hw1 hw' back kn sb
 refine l_val (v := .bool (decide ((⟨x.tick, x.ents⟩ : KWorld) = (⟨y.tick, y.ents⟩ : KWorld)))) rfl rfl rfl (e_move) ?_
 refine l_split (s := 8) (p := (⟨x.tick, x.ents⟩ : KWorld) = (⟨y.tick, y.ents⟩ : KWorld)) rfl (fun hg3 => ?_) (fun hg3 => ?_)
 ·
  refine g_val (v := .pointer (some ⟨b1, 1, none⟩)) rfl rfl rfl rfl rfl (e_fieldPt (b := b1) (o := 0) rfl uw29) ?_
  refine g_val (v := .slice va (x.ents.length) (vc)) rfl rfl rfl rfl rfl (e_load1 uw30 (v := .slice va (x.ents.length) (vc)) rfl (k_pt 1 (cs := #[Ix (x.tick), .slice va (x.ents.length) (vc)]) (vs := [.slice va (x.ents.length) (vc)]) rfl rfl)) ?_
  refine g_val (v := .pointer (some ⟨b2, 1, none⟩)) rfl rfl rfl rfl rfl (e_fieldPt (b := b2) (o := 0) rfl uw29) ?_
  refine g_val (v := .slice v'a (y.ents.length) (v'c)) rfl rfl rfl rfl rfl (e_load1 uw30 (v := .slice v'a (y.ents.length) (v'c)) rfl (k_pt 0 (cs := #[Ix (y.tick), .slice v'a (y.ents.length) (v'c)]) (vs := [.slice v'a (y.ents.length) (v'c)]) rfl rfl)) ?_
  refine g_call rfl rfl rfl rfl rfl (cl_value (fst := []) (cap := []) (vs := [.slice va (x.ents.length) (vc), .slice v'a (y.ents.length) (v'c)]) (all := [.slice va (x.ents.length) (vc), .slice v'a (y.ents.length) (v'c)]) uw95 rfl rfl rfl) ?_
  intro w hw
  obtain ⟨β1, sb, kn, hw1, back⟩ := St.frame_all hw
  refine (keptEntities_ok β1 w hw1 _ _ x.ents y.ents (LESl.mono _ _ _ _ sb (⟨_, _, rfl, vl, vm, ve, vf⟩ : LESl _ _ x.ents)) (Sl.mono _ _ _ _ _ sb (⟨⟨_, _, rfl, v'l, v'm, v'e⟩⟩ : Sl EntR _ _ y.ents))).mono ?_
  rintro e w' ⟨rfl, hw'⟩
  refine ⟨_, rfl, _, back _ _ hw', ?_⟩
  clear hw hw1 hw' back kn sb
  refine l_val (v := .bool (decide (x.ents = y.ents))) rfl rfl rfl (e_pick_t rfl) ?_
  refine l_val (v := .bool (decide (x.ents = y.ents))) rfl rfl rfl (e_assign) ?_
  refine l_nil ?_
  refine f_then ?_
  refine c_ret ?_
  refine ret1 Tryz.results27 (v := .bool (decide (x.ents = y.ents))) rfl ?_
  intro w hw
  exact ⟨by rw [decide_eq_true hg3, decide_eq_true (congrArg KWorld.ents hg3)], st_mask [false, false] rfl hw⟩
 ·
  refine l_skip rfl rfl rfl rfl rfl rfl ?_
  refine l_skip rfl rfl rfl rfl rfl rfl ?_
  refine l_skip rfl rfl rfl rfl rfl rfl ?_
  refine l_skip rfl rfl rfl rfl rfl rfl ?_
  refine l_skip rfl rfl rfl rfl rfl rfl ?_
  refine l_val (v := .bool false) rfl rfl rfl (e_pick_f rfl) ?_
  refine l_val (v := .bool false) rfl rfl rfl (e_assign) ?_
  refine l_nil ?_
  refine f_then ?_
  refine c_ret ?_
  refine ret1 Tryz.results27 (v := .bool false) rfl ?_
  intro w hw
  exact ⟨bool_f hg3, st_mask [false, false] rfl hw⟩
end Go.Proofs
namespace Go.Proofs
open Go Go.Sl
theorem uw96 : cfB Tryz.prog 173 = true := by kernel_rfl
theorem uw97 : cfB Tryz.prog 107 = true := by kernel_rfl
theorem uw98 : cfB Tryz.prog 57 = true := by kernel_rfl
theorem lentComps_ok (β : Base) (w : World) (hw : St β [] w) (v : Value) (xs : List KComp) (hs : Sl CompR β.heap v xs) (hn : xs.length ≤ 1000) : Calls Tryz.prog 173 #[v] w fun r w' => ∃ p c, r = .returned (.slice p xs.length c) ∧ St β [row (.slice p (xs.length + 12) c) 120 5 (xs.length + 12) ((xs ++ marksC 12).flatMap compE)] w' := by
 obtain ⟨va, vc, rfl, vl, vm, ve⟩ := hs.get
 refine enter (n := 25) Tryz.func173 rfl Tryz.ntmps173 rfl ?_ hw
 refine c_seq ?_
 refine c_region ?_
 refine l_val (v := .slice none 0 0) rfl rfl rfl (e_assign) ?_
 refine l_nil ?_
 refine f_then ?_
 refine c_seq ?_
 refine c_region ?_
 refine l_val (v := .slice va (xs.length) (vc)) rfl rfl rfl (e_move) ?_
 refine l_val (v := Nx (xs.length)) rfl rfl rfl (e_len (a := va) (n := xs.length) (c := vc) rfl uw13) ?_
 refine l_val (v := Nx (xs.length + 12)) rfl rfl rfl (e_add (a := ((xs.length : Nat) : Int)) (b := (12 : Int)) rfl rfl (i64n (by omega) (by omega))) ?_
 refine l_mv rfl rfl rfl (m_make0 (c := xs.length + 12) uw14 uw69 uw16 rfl rfl (by omega) (by unfold maxLen; omega) (by omega)) ?_
 rintro _ _ ⟨b1, rfl, rfl⟩
 refine l_val (v := .slice (some ⟨b1, 0, none⟩) 0 (xs.length + 12)) rfl rfl rfl (e_assign) ?_
 refine l_nil ?_
 refine f_then ?_
 refine c_seq ?_
 refine c_region ?_
 refine l_val (v := .slice (some ⟨b1, 0, none⟩) 0 (xs.length + 12)) rfl rfl rfl (e_move) ?_
 refine l_val (v := .slice va (xs.length) (vc)) rfl rfl rfl (e_move) ?_
 refine l_mv rfl rfl rfl (m_append_w 0 uw14 uw69 (v := .slice (some ⟨b1, 0, none⟩) 0 (xs.length + 12)) (m := 0) (vs := []) (ao := va) (k := xs.length) (c := vc) (news := (xs.flatMap compE)) rfl rfl rfl (comp_len xs) (Knows.of_base (Cs.mono _ _) (elems_comps ve)) (comp_one xs) (elems_ba ve) (by unfold maxLen; omega) (by omega)) ?_
 rintro _ _ ⟨rp2, rc3, rfl, rfl⟩
 refine l_val (v := .slice rp2 (0 + xs.length) rc3) rfl rfl rfl (e_assign) ?_
 refine l_nil ?_
 refine f_then ?_
 refine c_seq ?_
 refine c_seq ?_
 refine c_region ?_
 refine l_val (v := .int .i64 (0)) rfl rfl rfl (e_assign) ?_
 refine l_nil ?_
 refine f_then ?_
 refine c_block ?_
 refine c_mask [true] rfl ?_
 refine c_loop (fun (x_ : Nat × Value) (f : Fm) (L : List Res) => match x_ with | (k, z) => (f 0 = .slice va (xs.length) (vc) ∧ f 3 = z ∧ f 4 = Nx (k)) ∧ L = [row z 120 5 (xs.length + k) (((xs ++ marksC k).flatMap compE))] ∧ (k ≤ 12)) (fun (x_ : Nat × Value) => match x_ with | (k, z) => 12 - k) (0, (.slice rp2 (0 + xs.length) rc3)) ?_ ?_
 ·exact ⟨⟨rfl, rfl, rfl⟩, (by simp [mask, marksC]), (by omega)⟩
 rintro ⟨k, z⟩ f0 L0 ⟨⟨hs0, hs3, hs4⟩, hL, hk⟩
 subst L0
 refine rebase (d := 0) hs0 ?_
 refine rebase (d := 3) hs3 ?_
 refine rebase (d := 4) hs4 ?_
 clear hs0 hs3 hs4
 refine c_seq ?_
 refine c_seq ?_
 refine c_region ?_
 refine l_val (v := Nx (k)) rfl rfl rfl (e_move) ?_
 refine l_val (v := .bool (decide (((k : Nat) : Int) < (12 : Int)))) rfl rfl rfl (e_lss (a := ((k : Nat) : Int)) (b := (12 : Int)) rfl rfl) ?_
 refine l_nil ?_
 refine f_then ?_
 refine c_if (((k : Nat) : Int) < (12 : Int)) rfl (fun hc4 => ?_) (fun hc4 => ?_)
 ·
  refine c_skip ?_
  refine f_then ?_
  refine c_seq ?_
  refine c_block ?_
  refine c_region ?_
  refine l_val (v := z) rfl rfl rfl (e_move) ?_
  refine l_val (v := Nx (k)) rfl rfl rfl (e_move) ?_
  refine l_call rfl rfl rfl (cl_value (fst := []) (cap := []) (vs := [.int .i64 (1), Nx (k)]) (all := [.int .i64 (1), Nx (k)]) uw90 rfl rfl rfl) ?_
  intro w hw
  obtain ⟨β1, sb, kn, hw1, back⟩ := St.frame_all hw
  refine (markComp_ok β1 w hw1 k (by omega)).mono ?_
  rintro e w' ⟨rfl, hw'⟩
  refine ⟨_, rfl, _, back _ _ hw', ?_⟩
  clear hw hw1 hw' back kn sb
  refine l_mv rfl rfl rfl (m_slices uw14 uw16 (vs := [(0, .agg #[Bx ((markC k).kind), Ix ((markC k).v0), Ix ((markC k).v1), Ix ((markC k).v2), Ix ((markC k).v3)])]) (cells := #[Bx ((markC k).kind), Ix ((markC k).v0), Ix ((markC k).v1), Ix ((markC k).v2), Ix ((markC k).v3)]) rfl rfl rfl rfl) ?_
  rintro _ _ ⟨b5, rfl, rfl⟩
  refine l_mv rfl rfl rfl (m_append 1 uw14 uw69 (v := z) (m := xs.length + k) (vs := ((xs ++ marksC k).flatMap compE)) (ad := ⟨b5, 0, none⟩) (k := 1) (c := 1) (news := [Bx ((markC k).kind), Ix ((markC k).v0), Ix ((markC k).v1), Ix ((markC k).v2), Ix ((markC k).v3)]) rfl rfl rfl rfl (k_pt 0 (cs := #[Bx ((markC k).kind), Ix ((markC k).v0), Ix ((markC k).v1), Ix ((markC k).v2), Ix ((markC k).v3)]) (vs := [Bx ((markC k).kind), Ix ((markC k).v0), Ix ((markC k).v1), Ix ((markC k).v2), Ix ((markC k).v3)]) rfl rfl) rfl (by unfold maxLen; omega) (by omega)) ?_
  rintro v6 _ ⟨hnv6, rfl⟩
  refine l_val (v := v6) rfl rfl rfl (e_assign) ?_
  refine l_nil ?_
  refine f_block ?_
  refine f_then ?_
  refine c_region ?_
  refine l_val (v := Nx (k)) rfl rfl rfl (e_move) ?_
  refine l_val (v := Nx (k + 1)) rfl rfl rfl (e_add (a := ((k : Nat) : Int)) (b := (1 : Int)) rfl rfl (i64n (by omega) (by omega))) ?_
  refine l_val (v := Nx (k + 1)) rfl rfl rfl (e_assign) ?_
  refine l_nil ?_
  refine f_mask (L' := [row v6 120 5 ((xs.length + k) + 1) (((xs ++ marksC k).flatMap compE) ++ [Bx ((markC k).kind), Ix ((markC k).v0), Ix ((markC k).v1), Ix ((markC k).v2), Ix ((markC k).v3)])]) [false, true] rfl ?_
  exact f_cut ⟨(k + 1, v6), ⟨⟨rfl, rfl, rfl⟩, (by rw [marksC_succ, ← List.append_assoc, List.flatMap_append (xs := xs ++ marksC k)]; simp [compE, Nat.add_assoc]), (by omega)⟩, (show 12 - (k + 1) < 12 - k from by omega)⟩
 ·
  refine c_exit ?_
  refine f_then_exit ?_
  refine f_then_exit ?_
  refine f_exit ?_
  refine f_then ?_
  refine c_seq ?_
  have hke : k = 12 := by omega
  subst hke
  refine c_rowform 0 rfl (fun rp rc hrv hrc hrm => ?_)
  subst hrv
  refine c_region ?_
  refine l_val (v := .slice rp (xs.length + 12) rc) rfl rfl rfl (e_move) ?_
  refine l_val (v := .slice va (xs.length) (vc)) rfl rfl rfl (e_move) ?_
  refine l_val (v := Nx (xs.length)) rfl rfl rfl (e_len (a := va) (n := xs.length) (c := vc) rfl uw13) ?_
  refine l_val (v := .slice rp (xs.length) rc) rfl rfl rfl (e_slice_hi (a := rp) (len := xs.length + 12) (cap := rc) (h := xs.length) uw14 rfl rfl (by omega)) ?_
  refine l_val (v := .slice rp (xs.length) rc) rfl rfl rfl (e_assign) ?_
  refine l_nil ?_
  refine f_then ?_
  refine c_ret ?_
  refine ret1 Tryz.results173 (v := .slice rp (xs.length) rc) rfl ?_
  intro w hw
  exact ⟨rp, rc, rfl, st_mask [true] rfl hw⟩
theorem lentEntity_ok (β : Base) (w : World) (hw : St β [] w) (e : KEnt) (v : Value) (hs : Sl CompR β.heap v e.comps) (hn : e.comps.length ≤ 1000) : Calls Tryz.prog 107 #[.agg #[Ix e.id, v]] w fun r w' => ∃ p c, r = .returned (.agg #[Ix e.id, .slice p e.comps.length c]) ∧ St β [row (.slice p (e.comps.length + 12) c) 120 5 (e.comps.length + 12) ((e.comps ++ marksC 12).flatMap compE)] w' := by
 obtain ⟨va, vc, rfl, vl, vm, ve⟩ := hs.get
 refine enter (n := 8) Tryz.func107 rfl Tryz.ntmps107 rfl ?_ hw
 refine c_seq ?_
 refine c_region ?_
 refine l_mv rfl rfl rfl (m_box (v := .agg #[Ix (e.id), .slice va (e.comps.length) (vc)]) rfl) ?_
 rintro _ _ ⟨b1, rfl, rfl⟩
 refine l_mv rfl rfl rfl (m_alloc uw33) ?_
 rintro _ _ ⟨b2, rfl, rfl⟩
 refine l_nil ?_
 refine f_then ?_
 refine c_seq ?_
 refine c_region ?_
 refine l_val (v := .pointer (some ⟨b1, 1, none⟩)) rfl rfl rfl (e_fieldPt (b := b1) (o := 0) rfl uw11) ?_
 refine l_val (v := .slice va (e.comps.length) (vc)) rfl rfl rfl (e_load1 uw12 (v := .slice va (e.comps.length) (vc)) rfl (k_pt 1 (cs := #[Ix (e.id), .slice va (e.comps.length) (vc)]) (vs := [.slice va (e.comps.length) (vc)]) rfl rfl)) ?_
 refine l_call rfl rfl rfl (cl_value (fst := []) (cap := []) (vs := [.slice va (e.comps.length) (vc)]) (all := [.slice va (e.comps.length) (vc)]) uw96 rfl rfl rfl) ?_
 intro w hw
 obtain ⟨β1, sb, kn, hw1, back⟩ := St.frame_all hw
 refine (lentComps_ok β1 w hw1 _ e.comps (Sl.mono _ _ _ _ _ sb (⟨⟨_, _, rfl, vl, vm, ve⟩⟩ : Sl CompR _ _ e.comps)) (by assumption)).mono ?_
 rintro e w' ⟨p3, c4, rfl, hw'⟩
 refine ⟨_, rfl, _, back _ _ hw', ?_⟩
 clear hw hw1 hw' back kn sb
 refine l_val (v := .pointer (some ⟨b1, 1, none⟩)) rfl rfl rfl (e_fieldPt (b := b1) (o := 0) rfl uw11) ?_
 refine l_mu rfl rfl (m_store 2 uw12 (b := b1) (o := 1) (T := 59) (cs := #[Ix (e.id), .slice va (e.comps.length) (vc)]) (cs' := #[Ix (e.id), .slice p3 (e.comps.length) c4]) (v := .slice p3 (e.comps.length) c4) rfl rfl rfl rfl rfl rfl rfl) ?_
 refine l_nil ?_
 refine f_then ?_
 refine c_seq ?_
 refine c_region ?_
 refine l_val (v := .agg #[Ix (e.id), .slice p3 (e.comps.length) c4]) rfl rfl rfl (e_load uw24 (cs := [Ix (e.id), .slice p3 (e.comps.length) c4]) rfl (k_pt 2 (cs := #[Ix (e.id), .slice p3 (e.comps.length) c4]) (vs := [Ix (e.id), .slice p3 (e.comps.length) c4]) rfl rfl) rfl) ?_
 refine l_mu rfl rfl (m_store 1 uw24 (b := b2) (o := 0) (T := 59) (cs := #[.int .i64 (0), .slice none 0 0]) (cs' := #[Ix (e.id), .slice p3 (e.comps.length) c4]) (v := .agg #[Ix (e.id), .slice p3 (e.comps.length) c4]) rfl rfl rfl rfl rfl rfl rfl) ?_
 refine l_nil ?_
 refine f_then ?_
 refine c_ret ?_
 refine retG (l := [.cell 2 59]) (m := [.agg #[Ix (e.id), .slice p3 (e.comps.length) c4]]) (v := .agg #[Ix (e.id), .slice p3 (e.comps.length) c4]) Tryz.results107 ⟨rd_cell uw24 (cs := [Ix (e.id), .slice p3 (e.comps.length) c4]) rfl (k_pt 1 (cs := #[Ix (e.id), .slice p3 (e.comps.length) c4]) (vs := [Ix (e.id), .slice p3 (e.comps.length) c4]) rfl rfl) rfl, trivial⟩ rfl ?_
 intro w hw
 exact ⟨_, _, rfl, st_mask [true, false, false] rfl hw⟩
theorem lentEntities_ok (β : Base) (w : World) (hw : St β [] w) (v : Value) (xs : List KEnt) (hs : Sl EntR β.heap v xs) (hn : xs.length ≤ 1000) (hbig : ∀ (i : Nat) e, xs[i]? = some e → e.comps.length ≤ 20) : Calls Tryz.prog 57 #[v] w fun r w' => ∃ p c vs, r = .returned (.slice p xs.length c) ∧ vs.length = xs.length ∧ St β (row (.slice p (xs.length + 12) c) 59 2 (xs.length + 12) (entCells (vs ++ nils 12) (xs ++ marksE 12)) :: lentRows vs xs) w' := by
 obtain ⟨va, vc, rfl, vl, vm, ve⟩ := hs.get
 refine enter (n := 39) Tryz.func57 rfl Tryz.ntmps57 rfl ?_ hw
 refine c_seq ?_
 refine c_region ?_
 refine l_val (v := .slice none 0 0) rfl rfl rfl (e_assign) ?_
 refine l_nil ?_
 refine f_then ?_
 refine c_seq ?_
 refine c_region ?_
 refine l_val (v := .slice va (xs.length) (vc)) rfl rfl rfl (e_move) ?_
 refine l_val (v := Nx (xs.length)) rfl rfl rfl (e_len (a := va) (n := xs.length) (c := vc) rfl uw31) ?_
 refine l_val (v := Nx (xs.length + 12)) rfl rfl rfl (e_add (a := ((xs.length : Nat) : Int)) (b := (12 : Int)) rfl rfl (i64n (by omega) (by omega))) ?_
 refine l_mv rfl rfl rfl (m_make0 (c := xs.length + 12) uw32 uw72 uw33 rfl rfl (by omega) (by unfold maxLen; omega) (by omega)) ?_
 rintro _ _ ⟨b1, rfl, rfl⟩
 refine l_val (v := .slice (some ⟨b1, 0, none⟩) 0 (xs.length + 12)) rfl rfl rfl (e_assign) ?_
 refine l_nil ?_
 refine f_then ?_
 refine c_seq ?_
 refine c_seq ?_
 refine c_region ?_
 refine l_val (v := .int .i64 (0)) rfl rfl rfl (e_assign) ?_
 refine l_nil ?_
 refine f_then ?_
 refine c_block ?_
 refine c_mask [true] rfl ?_
 refine c_loop (fun (x_ : Nat × Value × List Value) (f : Fm) (L : List Res) => match x_ with | (k, z, vs) => (f 0 = .slice va (xs.length) (vc) ∧ f 3 = z ∧ f 4 = Nx (k)) ∧ L = (row z 59 2 (k) ((entCells vs (xs.take k))) :: (lentRows vs (xs.take k))) ∧ (k ≤ xs.length ∧ vs.length = k)) (fun (x_ : Nat × Value × List Value) => match x_ with | (k, z, vs) => xs.length - k) (0, (.slice (some ⟨b1, 0, none⟩) 0 (xs.length + 12)), []) ?_ ?_
 ·exact ⟨⟨rfl, rfl, rfl⟩, (by simp [mask, entCells, lentRows]), ⟨by omega, rfl⟩⟩
 rintro ⟨k, z, vs⟩ f0 L0 ⟨⟨hs0, hs3, hs4⟩, hL, ⟨hp1, hp2⟩⟩
 subst L0
 refine rebase (d := 0) hs0 ?_
 refine rebase (d := 3) hs3 ?_
 refine rebase (d := 4) hs4 ?_
 clear hs0 hs3 hs4
 refine c_seq ?_
 refine c_seq ?_
 refine c_region ?_
 refine l_val (v := Nx (k)) rfl rfl rfl (e_move) ?_
 refine l_val (v := .slice va (xs.length) (vc)) rfl rfl rfl (e_move) ?_
 refine l_val (v := Nx (xs.length)) rfl rfl rfl (e_len (a := va) (n := xs.length) (c := vc) rfl uw31) ?_
 refine l_val (v := .bool (decide (((k : Nat) : Int) < ((xs.length : Nat) : Int)))) rfl rfl rfl (e_lss (a := ((k : Nat) : Int)) (b := ((xs.length : Nat) : Int)) rfl rfl) ?_
 refine l_nil ?_
 refine f_then ?_
 refine c_if (((k : Nat) : Int) < ((xs.length : Nat) : Int)) rfl (fun hc2 => ?_) (fun hc2 => ?_)
 ·
  refine c_skip ?_
  refine f_then ?_
  refine c_seq ?_
  refine c_block ?_
  refine c_seq ?_
  refine c_region ?_
  refine l_val (v := .slice va (xs.length) (vc)) rfl rfl rfl (e_move) ?_
  refine l_val (v := Nx (k)) rfl rfl rfl (e_move) ?_
  obtain ⟨x3, hx4⟩ : ∃ x_, (xs)[k]? = some x_ := ⟨_, List.getElem?_eq_getElem (by omega)⟩
  obtain ⟨ha5, cs6, hc7, hr8⟩ := ve _ _ hx4
  obtain ⟨v9, rfl, hv10⟩ := hr8
  obtain ⟨v9a, v9c, rfl, v9l, v9m, v9e⟩ := hv10.get
  refine l_val (v := .pointer (some ((ba va).add (k * 2)))) rfl rfl rfl (e_indexAddr (k := k) (len := xs.length) (cap := vc) (a := va) rfl rfl uw32 (by omega) ha5) ?_
  refine l_val (v := .agg #[Ix (x3.id), .slice v9a (x3.comps.length) (v9c)]) rfl rfl rfl (e_load uw24 (cs := [Ix (x3.id), .slice v9a (x3.comps.length) (v9c)]) rfl (Knows.of_base (Cs.mono _ _) hc7) rfl) ?_
  refine l_call rfl rfl rfl (cl_value (fst := []) (cap := []) (vs := [.agg #[Ix (x3.id), .slice v9a (x3.comps.length) (v9c)]]) (all := [.agg #[Ix (x3.id), .slice v9a (x3.comps.length) (v9c)]]) uw97 rfl rfl rfl) ?_
  intro w hw
  obtain ⟨β1, sb, kn, hw1, back⟩ := St.frame_all hw
  refine (lentEntity_ok β1 w hw1 x3 _ (Sl.mono _ _ _ _ _ sb (⟨⟨_, _, rfl, v9l, v9m, v9e⟩⟩ : Sl CompR _ _ x3.comps)) (by have := hbig _ _ hx4; omega)).mono ?_
  rintro e w' ⟨p11, c12, rfl, hw'⟩
  refine ⟨_, rfl, _, back _ _ hw', ?_⟩
  clear hw hw1 hw' back kn sb
  refine l_mv rfl rfl rfl (m_alloc uw33) ?_
  rintro _ _ ⟨b13, rfl, rfl⟩
  refine l_mu rfl rfl (m_store 0 uw24 (b := b13) (o := 0) (T := 59) (cs := #[.int .i64 (0), .slice none 0 0]) (cs' := #[Ix (x3.id), .slice p11 (x3.comps.length) c12]) (v := .agg #[Ix (x3.id), .slice p11 (x3.comps.length) c12]) rfl rfl rfl rfl rfl rfl rfl) ?_
  refine l_nil ?_
  refine f_then ?_
  refine c_region ?_
  refine l_val (v := z) rfl rfl rfl (e_move) ?_
  refine l_val (v := .agg #[Ix (x3.id), .slice p11 (x3.comps.length) c12]) rfl rfl rfl (e_load uw24 (cs := [Ix (x3.id), .slice p11 (x3.comps.length) c12]) rfl (k_pt 0 (cs := #[Ix (x3.id), .slice p11 (x3.comps.length) c12]) (vs := [Ix (x3.id), .slice p11 (x3.comps.length) c12]) rfl rfl) rfl) ?_
  refine l_mv rfl rfl rfl (m_slices uw32 uw33 (vs := [(0, .agg #[Ix (x3.id), .slice p11 (x3.comps.length) c12])]) (cells := #[Ix (x3.id), .slice p11 (x3.comps.length) c12]) rfl rfl rfl rfl) ?_
  rintro _ _ ⟨b14, rfl, rfl⟩
  refine l_mv rfl rfl rfl (m_append 3 uw32 uw72 (v := z) (m := k) (vs := (entCells vs (xs.take k))) (ad := ⟨b14, 0, none⟩) (k := 1) (c := 1) (news := [Ix (x3.id), .slice p11 (x3.comps.length) c12]) rfl rfl rfl rfl (k_pt 0 (cs := #[Ix (x3.id), .slice p11 (x3.comps.length) c12]) (vs := [Ix (x3.id), .slice p11 (x3.comps.length) c12]) rfl rfl) rfl (by unfold maxLen; omega) (by omega)) ?_
  rintro v15 _ ⟨hnv15, rfl⟩
  refine l_val (v := v15) rfl rfl rfl (e_assign) ?_
  refine l_nil ?_
  refine f_block ?_
  refine f_then ?_
  refine c_region ?_
  refine l_val (v := Nx (k)) rfl rfl rfl (e_move) ?_
  refine l_val (v := Nx (k + 1)) rfl rfl rfl (e_add (a := ((k : Nat) : Int)) (b := (1 : Int)) rfl rfl (i64n (by omega) (by omega))) ?_
  refine l_val (v := Nx (k + 1)) rfl rfl rfl (e_assign) ?_
  refine l_nil ?_
  refine f_mask (L' := (row (.slice p11 (x3.comps.length + 12) c12) 120 5 (x3.comps.length + 12) (((x3.comps ++ marksC 12).flatMap compE)) :: row v15 59 2 (k + 1) ((entCells vs (xs.take k)) ++ [Ix (x3.id), .slice p11 (x3.comps.length) c12]) :: (lentRows vs (xs.take k)))) [false, false, true, true] rfl ?_
  refine f_perm (List.Perm.swap _ _ _) ?_
  refine f_turn (L' := (row v15 59 2 (k + 1) ((entCells vs (xs.take k)) ++ [Ix (x3.id), .slice p11 (x3.comps.length) c12]) :: lentRow (.slice p11 (x3.comps.length) c12) x3 :: (lentRows vs (xs.take k)))) (fun w h => h.conseq_at 1 rfl (fun a h => ⟨_, _, rfl, h⟩)) ?_
  refine f_perm (L' := (row v15 59 2 (k + 1) ((entCells vs (xs.take k)) ++ [Ix (x3.id), .slice p11 (x3.comps.length) c12]) :: (lentRows (vs ++ [.slice p11 (x3.comps.length) c12]) (xs.take (k + 1))))) ((lent_rows_snoc hx4 hp2 (by omega)).cons _) ?_
  exact f_cut ⟨(k + 1, v15, (vs ++ [.slice p11 (x3.comps.length) c12])), ⟨⟨rfl, rfl, rfl⟩, (by rw [ent_cells_snoc hx4 hp2 (by omega)]), ⟨by omega, by simp; omega⟩⟩, (show xs.length - (k + 1) < xs.length - k from by omega)⟩
 ·
  refine c_exit ?_
  refine f_then_exit ?_
  refine f_then_exit ?_
  refine f_exit ?_
  refine f_then ?_
  refine c_seq ?_
  refine c_seq ?_
  have hke : k = xs.length := by omega
  subst hke
  rw [List.take_of_length_le (Nat.le_refl xs.length)]
  refine c_region ?_
  refine l_val (v := .int .i64 (0)) rfl rfl rfl (e_assign) ?_
  refine l_nil ?_
  refine f_then ?_
  refine c_block ?_
  refine c_mask [true] rfl ?_
  refine c_loop (fun (x_ : Nat × Value) (f : Fm) (L : List Res) => match x_ with | (k, y) => (f 0 = .slice va (xs.length) (vc) ∧ f 3 = y ∧ f 6 = Nx (k)) ∧ L = (row y 59 2 (xs.length + k) ((entCells (vs ++ nils k) (xs ++ marksE k))) :: (lentRows vs xs)) ∧ (k ≤ 12)) (fun (x_ : Nat × Value) => match x_ with | (k, y) => 12 - k) (0, z) ?_ ?_
  ·exact ⟨⟨rfl, rfl, rfl⟩, (by simp [mask, nils, marksE]), (by omega)⟩
  rintro ⟨k, y⟩ f0 L0 ⟨⟨hs0, hs3, hs6⟩, hL, hk⟩
  subst L0
  refine rebase (d := 0) hs0 ?_
  refine rebase (d := 3) hs3 ?_
  refine rebase (d := 6) hs6 ?_
  clear hs0 hs3 hs6
  refine c_seq ?_
  refine c_seq ?_
  refine c_region ?_
  refine l_val (v := Nx (k)) rfl rfl rfl (e_move) ?_
  refine l_val (v := .bool (decide (((k : Nat) : Int) < (12 : Int)))) rfl rfl rfl (e_lss (a := ((k : Nat) : Int)) (b := (12 : Int)) rfl rfl) ?_
  refine l_nil ?_
  refine f_then ?_
  refine c_if (((k : Nat) : Int) < (12 : Int)) rfl (fun hc16 => ?_) (fun hc16 => ?_)
  ·
   refine c_skip ?_
   refine f_then ?_
   refine c_seq ?_
   refine c_block ?_
   refine c_region ?_
   refine l_val (v := y) rfl rfl rfl (e_move) ?_
   refine l_val (v := Nx (k)) rfl rfl rfl (e_move) ?_
   refine l_call rfl rfl rfl (cl_value (fst := []) (cap := []) (vs := [.int .i64 (1), Nx (k)]) (all := [.int .i64 (1), Nx (k)]) uw93 rfl rfl rfl) ?_
   intro w hw
   obtain ⟨β1, sb, kn, hw1, back⟩ := St.frame_all hw
   refine (markEntity_ok β1 w hw1 k (by omega)).mono ?_
   rintro e w' ⟨rfl, hw'⟩
   refine ⟨_, rfl, _, back _ _ hw', ?_⟩
   clear hw hw1 hw' back kn sb
   refine l_mv rfl rfl rfl (m_slices uw32 uw33 (vs := [(0, .agg #[Ix ((markE k).id), .slice none 0 0])]) (cells := #[Ix ((markE k).id), .slice none 0 0]) rfl rfl rfl rfl) ?_
   rintro _ _ ⟨b17, rfl, rfl⟩
   refine l_mv rfl rfl rfl (m_append 1 uw32 uw72 (v := y) (m := xs.length + k) (vs := (entCells (vs ++ nils k) (xs ++ marksE k))) (ad := ⟨b17, 0, none⟩) (k := 1) (c := 1) (news := [Ix ((markE k).id), .slice none 0 0]) rfl rfl rfl rfl (k_pt 0 (cs := #[Ix ((markE k).id), .slice none 0 0]) (vs := [Ix ((markE k).id), .slice none 0 0]) rfl rfl) rfl (by unfold maxLen; omega) (by omega)) ?_
   rintro v18 _ ⟨hnv18, rfl⟩
   refine l_val (v := v18) rfl rfl rfl (e_assign) ?_
   refine l_nil ?_
   refine f_block ?_
   refine f_then ?_
   refine c_region ?_
   refine l_val (v := Nx (k)) rfl rfl rfl (e_move) ?_
   refine l_val (v := Nx (k + 1)) rfl rfl rfl (e_add (a := ((k : Nat) : Int)) (b := (1 : Int)) rfl rfl (i64n (by omega) (by omega))) ?_
   refine l_val (v := Nx (k + 1)) rfl rfl rfl (e_assign) ?_
   refine l_nil ?_
   refine f_mask (L' := (row v18 59 2 ((xs.length + k) + 1) ((entCells (vs ++ nils k) (xs ++ marksE k)) ++ [Ix ((markE k).id), .slice none 0 0]) :: (lentRows vs xs))) [false, true] rfl ?_
   exact f_cut ⟨(k + 1, v18), ⟨⟨rfl, rfl, rfl⟩, (by rw [nils_succ, marksE_succ, ← List.append_assoc, ← List.append_assoc, ent_cells_append (vs := vs ++ nils k) (es := xs ++ marksE k) (by simp [nils_len, marksE_len, hp2])]; rfl), (by omega)⟩, (show 12 - (k + 1) < 12 - k from by omega)⟩
  ·
   refine c_exit ?_
   refine f_then_exit ?_
   refine f_then_exit ?_
   refine f_exit ?_
   refine f_then ?_
   refine c_seq ?_
   have hke : k = 12 := by omega
   subst hke
   refine c_rowform 0 rfl (fun rp rc hrv hrc hrm => ?_)
   subst hrv
   refine c_region ?_
   refine l_val (v := .slice rp (xs.length + 12) rc) rfl rfl rfl (e_move) ?_
   refine l_val (v := .slice va (xs.length) (vc)) rfl rfl rfl (e_move) ?_
   refine l_val (v := Nx (xs.length)) rfl rfl rfl (e_len (a := va) (n := xs.length) (c := vc) rfl uw31) ?_
   refine l_val (v := .slice rp (xs.length) rc) rfl rfl rfl (e_slice_hi (a := rp) (len := xs.length + 12) (cap := rc) (h := xs.length) uw32 rfl rfl (by omega)) ?_
   refine l_val (v := .slice rp (xs.length) rc) rfl rfl rfl (e_assign) ?_
   refine l_nil ?_
   refine f_then ?_
   refine c_ret ?_
   refine ret1 Tryz.results57 (v := .slice rp (xs.length) rc) rfl ?_
   intro w hw
   exact ⟨rp, rc, vs, rfl, hp2, st_mask (L' := (row (.slice rp (xs.length + 12) rc) 59 2 (xs.length + 12) ((entCells (vs ++ nils 12) (xs ++ marksE 12))) :: (lentRows vs xs))) [true] rfl hw⟩
theorem lentWorld_ok (β : Base) (w : World) (hw : St β [] w) (x : KWorld) (v : Value) (hs : Sl EntR β.heap v x.ents) (hn : x.ents.length ≤ 1000) (hbig : ∀ (i : Nat) e, x.ents[i]? = some e → e.comps.length ≤ 20) : Calls Tryz.prog 16 #[.agg #[Ix x.tick, v]] w fun r w' => ∃ p c vs, r = .returned (.agg #[Ix x.tick, .slice p x.ents.length c]) ∧ vs.length = x.ents.length ∧ St β (row (.slice p (x.ents.length + 12) c) 59 2 (x.ents.length + 12) (entCells (vs ++ nils 12) (x.ents ++ marksE 12)) :: lentRows vs x.ents) w' := by
 obtain ⟨va, vc, rfl, vl, vm, ve⟩ := hs.get
 refine enter (n := 8) Tryz.func16 rfl Tryz.ntmps16 rfl ?_ hw
 refine c_seq ?_
 refine c_region ?_
 refine l_mv rfl rfl rfl (m_box (v := .agg #[Ix (x.tick), .slice va (x.ents.length) (vc)]) rfl) ?_
 rintro _ _ ⟨b1, rfl, rfl⟩
 refine l_mv rfl rfl rfl (m_alloc uw49) ?_
 rintro _ _ ⟨b2, rfl, rfl⟩
 refine l_nil ?_
 refine f_then ?_
 refine c_seq ?_
 refine c_region ?_
 refine l_val (v := .pointer (some ⟨b1, 1, none⟩)) rfl rfl rfl (e_fieldPt (b := b1) (o := 0) rfl uw29) ?_
 refine l_val (v := .slice va (x.ents.length) (vc)) rfl rfl rfl (e_load1 uw30 (v := .slice va (x.ents.length) (vc)) rfl (k_pt 1 (cs := #[Ix (x.tick), .slice va (x.ents.length) (vc)]) (vs := [.slice va (x.ents.length) (vc)]) rfl rfl)) ?_
 refine l_call rfl rfl rfl (cl_value (fst := []) (cap := []) (vs := [.slice va (x.ents.length) (vc)]) (all := [.slice va (x.ents.length) (vc)]) uw98 rfl rfl rfl) ?_
 intro w hw
 obtain ⟨β1, sb, kn, hw1, back⟩ := St.frame_all hw
 refine (lentEntities_ok β1 w hw1 _ x.ents (Sl.mono _ _ _ _ _ sb (⟨⟨_, _, rfl, vl, vm, ve⟩⟩ : Sl EntR _ _ x.ents)) (by assumption) (by assumption)).mono ?_
 rintro e w' ⟨p3, c4, vs5, rfl, hvs, hw'⟩
 refine ⟨_, rfl, _, St.perm (L' := row (.slice p3 (x.ents.length + 12) c4) 59 2 (x.ents.length + 12) ((entCells (vs5 ++ nils 12) (x.ents ++ marksE 12))) :: pt b2 (.cells #[.int .i64 (0), .slice none 0 0] 24) :: pt b1 (.cells #[Ix (x.tick), .slice va (x.ents.length) (vc)] 24) :: (lentRows vs5 x.ents)) (back _ _ hw') (List.Perm.cons _ List.perm_append_comm), ?_⟩
 clear hw hw1 hw' back kn sb
 refine l_val (v := .pointer (some ⟨b1, 1, none⟩)) rfl rfl rfl (e_fieldPt (b := b1) (o := 0) rfl uw29) ?_
 refine l_mu rfl rfl (m_store 2 uw30 (b := b1) (o := 1) (T := 24) (cs := #[Ix (x.tick), .slice va (x.ents.length) (vc)]) (cs' := #[Ix (x.tick), .slice p3 (x.ents.length) c4]) (v := .slice p3 (x.ents.length) c4) rfl rfl rfl rfl rfl rfl rfl) ?_
 refine l_nil ?_
 refine f_then ?_
 refine c_seq ?_
 refine c_region ?_
 refine l_val (v := .agg #[Ix (x.tick), .slice p3 (x.ents.length) c4]) rfl rfl rfl (e_load uw46 (cs := [Ix (x.tick), .slice p3 (x.ents.length) c4]) rfl (k_pt 2 (cs := #[Ix (x.tick), .slice p3 (x.ents.length) c4]) (vs := [Ix (x.tick), .slice p3 (x.ents.length) c4]) rfl rfl) rfl) ?_
 refine l_mu rfl rfl (m_store 1 uw46 (b := b2) (o := 0) (T := 24) (cs := #[.int .i64 (0), .slice none 0 0]) (cs' := #[Ix (x.tick), .slice p3 (x.ents.length) c4]) (v := .agg #[Ix (x.tick), .slice p3 (x.ents.length) c4]) rfl rfl rfl rfl rfl rfl rfl) ?_
 refine l_nil ?_
 refine f_then ?_
 refine c_ret ?_
 refine retG (l := [.cell 2 24]) (m := [.agg #[Ix (x.tick), .slice p3 (x.ents.length) c4]]) (v := .agg #[Ix (x.tick), .slice p3 (x.ents.length) c4]) Tryz.results16 ⟨rd_cell uw46 (cs := [Ix (x.tick), .slice p3 (x.ents.length) c4]) rfl (k_pt 1 (cs := #[Ix (x.tick), .slice p3 (x.ents.length) c4]) (vs := [Ix (x.tick), .slice p3 (x.ents.length) c4]) rfl rfl) rfl, trivial⟩ rfl ?_
 intro w hw
 exact ⟨_, _, _, rfl, hvs, st_mask (L' := (row (.slice p3 (x.ents.length + 12) c4) 59 2 (x.ents.length + 12) ((entCells (vs5 ++ nils 12) (x.ents ++ marksE 12))) :: (lentRows vs5 x.ents))) [true, false, false] rfl hw⟩
end Go.Proofs
