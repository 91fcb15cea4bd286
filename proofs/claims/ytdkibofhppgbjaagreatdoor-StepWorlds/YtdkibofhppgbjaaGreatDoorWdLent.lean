/-
 Worlds that are lent,kept,compared: chapter 4's walks under these numbers. Own work.
-/
import Derived.Test.YtdkibofhppgbjaaGreatDoorSlFlat
import Derived.Test.YtdkibofhppgbjaaGreatDoorSlRange
import Derived.Test.YtdkibofhppgbjaaGreatDoorProg
import Derived.Test.YtdkibofhppgbjaaGreatDoorSlFam
import Derived.Test.YtdkibofhppgbjaaGreatDoorSlBytes
import Derived.Test.YtdkibofhppgbjaaGreatDoorSlB
namespace Go.Proofs
open Go Go.Sl
def mixU (z : UInt64) : UInt64 :=
 let z := (z ^^^ z >>> 30) * 0xbf58476d1ce4e5b9
 let z := (z ^^^ z >>> 27) * 0x94d049bb133111eb
 z ^^^ z >>> 31
def seqF (h : UInt64) (xs : List UInt64) : UInt64 := xs.foldl (fun h w => h * 0x9e3779b97f4a7c15 + w + 1) h
def seqU (xs : List UInt64) : UInt64 := mixU (seqF 0 xs)
end Go.Proofs
namespace Go.Proofs
open Go Go.Sl
def wordsC (c : KComp) : List UInt64 := [c.kind.toUInt64, U c.v0, U c.v1, U c.v2, U c.v3]
def wordsE (e : KEnt) : List UInt64 := U e.id :: U ((e.comps.length : Nat) : Int) :: e.comps.flatMap wordsC
instance tx9 : FldC Tryz.prog 59 0 0 1 false := ⟨by kernel_rfl⟩
instance tx10 : TyC Tryz.prog 3 false 1 := ⟨by kernel_rfl⟩
instance tx11 : FldC Tryz.prog 59 1 1 1 false := ⟨by kernel_rfl⟩
instance tx12 : TyC Tryz.prog 57 false 1 := ⟨by kernel_rfl⟩
instance tx13 : UndC Tryz.prog 57 120 := ⟨by kernel_rfl⟩
theorem tx14 : slB Tryz.prog 57 120 5 = true := by kernel_rfl
instance tx15 : TyC Tryz.prog 120 true 5 := ⟨by kernel_rfl⟩
instance tx16 : ZerC Tryz.prog 120 (.agg #[.int .u8 (0), .int .i64 (0), .int .i64 (0), .int .i64 (0), .int .i64 (0)]) := ⟨by kernel_rfl⟩
instance tx21 : ArrC Tryz.prog 118 4 3 1 := ⟨by kernel_rfl⟩
end Go.Proofs
namespace Go.Proofs
open Go Go.Sl
def entU (e : KEnt) : UInt64 := seqU (wordsE e)
instance tx24 : TyC Tryz.prog 59 true 2 := ⟨by kernel_rfl⟩
end Go.Proofs
namespace Go.Proofs
open Go Go.Sl
instance tx27 : FldC Tryz.prog 24 0 0 1 false := ⟨by kernel_rfl⟩
instance tx29 : FldC Tryz.prog 24 1 1 1 false := ⟨by kernel_rfl⟩
instance tx30 : TyC Tryz.prog 22 false 1 := ⟨by kernel_rfl⟩
instance tx31 : UndC Tryz.prog 22 59 := ⟨by kernel_rfl⟩
theorem tx32 : slB Tryz.prog 22 59 2 = true := by kernel_rfl
instance tx33 : ZerC Tryz.prog 59 (.agg #[.int .i64 (0), .slice none 0 0]) := ⟨by kernel_rfl⟩
end Go.Proofs
namespace Go.Proofs
open Go Go.Sl
instance tx35 : ZerC Tryz.prog 118 (.agg #[.int .i64 (0), .int .i64 (0), .int .i64 (0), .int .i64 (0)]) := ⟨by kernel_rfl⟩
theorem tx36 : stB Tryz.prog 120 [(0, 1), (1, 4)] = true := by kernel_rfl
theorem tx37 : stB Tryz.prog 59 [(0, 1), (1, 1)] = true := by kernel_rfl
end Go.Proofs
namespace Go.Proofs
open Go Go.Sl
def dg (es : List KEnt) (i : Int) : List UInt64 := (es.filter fun e => decide (e.id = i)).map entU
end Go.Proofs
namespace Go.Proofs
open Go Go.Sl
instance tx46 : TyC Tryz.prog 24 true 2 := ⟨by kernel_rfl⟩
instance tx49 : ZerC Tryz.prog 24 (.agg #[.int .i64 (0), .slice none 0 0]) := ⟨by kernel_rfl⟩
end Go.Proofs
namespace Go.Proofs
open Go Go.Sl
end Go.Proofs
namespace Go.Proofs
open Go Go.Sl
end Go.Proofs
namespace Go.Proofs
open Go Go.Sl
end Go.Proofs
namespace Go.Proofs
open Go Go.Sl
theorem comp_len (xs : List KComp) : (xs.flatMap compE).length = xs.length * 5 := by
 induction xs with
 | nil => rfl
 | cons x xs ih => rw [List.flatMap_cons,List.length_append,ih,List.length_cons]; simp [compE]; omega
theorem comp_one (xs : List KComp) : (xs.flatMap compE).all (·.oneCell') = true := by
 rw [List.all_eq_true]
 intro v hv
 obtain ⟨x,_,hx⟩ := List.mem_flatMap.1 hv
 simp only [compE,List.mem_cons,List.not_mem_nil,or_false] at hx
 rcases hx with rfl | rfl | rfl | rfl | rfl <;> rfl
theorem elems_some {α : Type} {R : Rp α} {h : PHeap} {a : Option Addr} {xs : List α} (hx : xs ≠ []) (he : Elems R h a xs) : ∃ x, a = some x := by
 cases xs with
 | nil => exact absurd rfl hx
 | cons x xs => exact ⟨_,(he 0 x rfl).1⟩
theorem elems_cs {h : PHeap} {a : Addr} {xs : List KComp} (he : Elems CompR h (some a) xs) : Cs h a (xs.flatMap compE) := by
 intro j v hj
 have hjl := (List.getElem?_eq_some_iff.1 hj).1
 rw [comp_len] at hjl
 have hq : j / 5 < xs.length := by omega
 obtain ⟨_,cs,hc,hr⟩ := he (j / 5) _ (List.getElem?_eq_getElem hq)
 have hr : cs = compE xs[j / 5] := hr
 subst hr
 have key : ∀ (xs : List KComp) (j : Nat) (hq : j / 5 < xs.length),(xs.flatMap compE)[j]? = (compE xs[j / 5])[j % 5]? := by
  intro xs
  induction xs with
  | nil => intro j hq; simp at hq
  | cons x xs ih =>
   intro j hq
   rw [List.flatMap_cons]
   by_cases h5 : j < 5
   ·rw [List.getElem?_append_left (by simpa [compE] using h5)]
    have e1 : j / 5 = 0 := by omega
    have e2 : j % 5 = j := by omega
    simp [e1,e2]
   ·rw [List.getElem?_append_right (by simp [compE]; omega)]
    have hl : (compE x).length = 5 := rfl
    rw [hl,ih (j - 5) (by simp at hq; omega)]
    have e1 : j / 5 = (j - 5) / 5 + 1 := by omega
    have e2 : (j - 5) % 5 = j % 5 := by omega
    simp [e1,e2]
 rw [key xs j hq] at hj
 have h2 := hc (j % 5) v hj
 have e : ((ba (some a)).add (j / 5 * CompR.n)).add (j % 5) = a.add j := by
  rw [Addr.add_add']
  show a.add (j / 5 * 5 + j % 5) = _
  congr 1; omega
 rw [e] at h2
 exact h2
theorem tx69 : elB Tryz.prog 120 5 40 = true := by kernel_rfl
end Go.Proofs
namespace Go.Proofs
open Go Go.Sl
end Go.Proofs
namespace Go.Proofs
open Go Go.Sl
def entCells : List Value → List KEnt → List Value
 | v :: vs,e :: es => Ix e.id :: v :: entCells vs es
 | _,_ => []
theorem ent_cells_append {vs us : List Value} {es fs : List KEnt} (h : vs.length = es.length) : entCells (vs ++ us) (es ++ fs) = entCells vs es ++ entCells us fs := by
 induction vs generalizing es with
 | nil => cases es with
  | nil => rfl
  | cons e es => simp at h
 | cons v vs ih => cases es with
  | nil => simp at h
  | cons e es =>
   show Ix e.id :: v :: entCells (vs ++ us) (es ++ fs) = _
   rw [ih (by simpa using h)]; rfl
theorem ent_cells_snoc {es : List KEnt} {k : Nat} {e : KEnt} (hx : es[k]? = some e) {vs : List Value} {v : Value} (h : vs.length = k) (hk : k ≤ es.length) : entCells (vs ++ [v]) (es.take (k + 1)) = entCells vs (es.take k) ++ [Ix e.id, v] := by
 rw [take_succ hx,ent_cells_append (by simp; omega)]; rfl
theorem tx72 : elB Tryz.prog 59 2 32 = true := by kernel_rfl
end Go.Proofs
namespace Go.Proofs
open Go Go.Sl
end Go.Proofs
namespace Go.Proofs
open Go Go.Sl
end Go.Proofs
namespace Go.Proofs
open Go Go.Sl
def EGood (h : PHeap) (us : List Value) (zs : List KEnt) : Prop := us.length = zs.length ∧ ∀ (j : Nat) v e, us[j]? = some v → zs[j]? = some e → Sl CompR h v e.comps
theorem EGood.mono (us : List Value) (zs : List KEnt) : Mono (fun h => EGood h us zs) := fun h h' hs ⟨hl, hg⟩ => ⟨hl, fun j v e h1 h2 => Sl.mono CompR v _ h h' hs (hg j v e h1 h2)⟩
theorem EGood.get {h : PHeap} {us : List Value} {es : List KEnt} (g : EGood h us es) {k : Nat} (hk : k < es.length) : ∃ v e, us[k]? = some v ∧ es[k]? = some e ∧ Sl CompR h v e.comps :=
 ⟨_,_,List.getElem?_eq_getElem (by rw [g.1]; exact hk),List.getElem?_eq_getElem hk,g.2 k _ _ (List.getElem?_eq_getElem (by rw [g.1]; exact hk)) (List.getElem?_eq_getElem hk)⟩
theorem EGood.nil (h : PHeap) : EGood h [] [] := ⟨rfl, fun j v e hv => by cases hv⟩
theorem elems_ba {α : Type} {R : Rp α} {h : PHeap} {a : Option Addr} {xs : List α} (he : Elems R h a xs) (hx : 0 < xs.length) : a = some (ba a) :=
 (he 0 _ (List.getElem?_eq_getElem hx)).1
/-! sums -/
end Go.Proofs
namespace Go.Proofs
open Go Go.Sl
/-! one entity changed -/
end Go.Proofs
namespace Go.Proofs
open Go Go.Sl
/-! words -/
/-! cells -/
end Go.Proofs
namespace Go.Proofs
open Go Go.Sl
structure Apart (k : Nat) (ps bs : List KEnt) (ws : List Int) : Prop where
 la : ps.length = k
 lb : bs.length ≤ k
 lw : ws.length ≤ k
 ra : ∀ e ∈ ps,-20 ≤ e.id ∧ e.id < 3 * (k : Int) - 20
 rb : ∀ e ∈ bs,-20 ≤ e.id ∧ e.id < 3 * (k : Int) - 20
 sw : ws.Pairwise (· < ·)
 rw : ∀ z ∈ ws,-20 ≤ z ∧ z < 3 * (k : Int) - 20
 dif : ∀ z,z ∈ ws ↔ ¬ dg ps z = dg bs z
/-! the components of entities, some at the base and some of one's own -/
theorem EGood.one {h : PHeap} {u : Value} {e : KEnt} (hs : Sl CompR h u e.comps) : EGood h [u] [e] := ⟨rfl, fun j v f hv hf => by
 match j with
 | 0 => injection hv with hv; injection hf with hf; subst hv; subst hf; exact hs
 | j + 1 => cases hv⟩
end Go.Proofs
namespace Go.Sl
section
variable {P : Program} {ro : Option Nat} {n : Nat} {ds : List Deferred} {β : Base} {Q : Exit → Act → World → Prop} {f : Fm} {L : List Res}
theorem f_turn {e : Exit} {L' : List Res} (h : ∀ w, St β L w → St β L' w) (k : Fin n ds β Q e f L') : Fin n ds β Q e f L := fun a w ha hw => k a w ha (h w hw)
end
end Go.Sl
namespace Go.Proofs
open Go Go.Sl
end Go.Proofs
namespace Go.Proofs
open Go Go.Sl
def markC (i : Nat) : KComp := ⟨0, ((8000024 + i : Nat) : Int), 0, 0, 0⟩
def markE (i : Nat) : KEnt := ⟨((8000024 + i : Nat) : Int), []⟩
def marksC (k : Nat) : List KComp := (List.range k).map markC
def marksE (k : Nat) : List KEnt := (List.range k).map markE
theorem marksC_succ (k : Nat) : marksC (k + 1) = marksC k ++ [markC k] := by simp [marksC, List.range_succ]
theorem marksE_succ (k : Nat) : marksE (k + 1) = marksE k ++ [markE k] := by simp [marksE, List.range_succ]
theorem marksC_len (k : Nat) : (marksC k).length = k := by simp [marksC]
theorem marksE_len (k : Nat) : (marksE k).length = k := by simp [marksE]
def LSl (h : PHeap) (v : Value) (xs : List KComp) : Prop := ∃ p c, v = sB p xs c ∧ xs.length + 12 ≤ c ∧ c ≤ 9223372036854775807 ∧ Elems CompR h p (xs ++ marksC 12)
theorem LSl.mono (v : Value) (xs : List KComp) : Mono (fun h => LSl h v xs) := fun h h' hs ⟨p, c, h1, h2, h3, h4⟩ => ⟨p, c, h1, h2, h3, Elems.mono CompR p _ h h' hs h4⟩
theorem Elems.left {α : Type} {R : Rp α} {h : PHeap} {a : Option Addr} {xs ys : List α} (he : Elems R h a (xs ++ ys)) : Elems R h a xs := fun j x hx => he j x (by rw [List.getElem?_append_left (List.getElem?_eq_some_iff.1 hx).1]; exact hx)
/-- entities that were lent -/
def LEntR : Rp KEnt := ⟨2, fun h cs e => ∃ v, cs = [Ix e.id, v] ∧ LSl h v e.comps, fun _ _ _ ⟨_, e, _⟩ => by rw [e]; rfl, fun _ _ h h' hs ⟨v, e, hv⟩ => ⟨v, e, LSl.mono v _ h h' hs hv⟩⟩
def LESl (h : PHeap) (v : Value) (xs : List KEnt) : Prop := ∃ p c, v = sB p xs c ∧ xs.length + 12 ≤ c ∧ c ≤ 9223372036854775807 ∧ Elems LEntR h p xs ∧ Elems EntR h p (xs ++ marksE 12)
theorem LESl.mono (v : Value) (xs : List KEnt) : Mono (fun h => LESl h v xs) := fun h h' hs ⟨p, c, h1, h2, h3, h4, h5⟩ => ⟨p, c, h1, h2, h3, Elems.mono LEntR p _ h h' hs h4, Elems.mono EntR p _ h h' hs h5⟩
theorem elems_comps {h : PHeap} {a : Option Addr} {xs : List KComp} (he : Elems CompR h a xs) : Cs h (ba a) (xs.flatMap compE) := by
 by_cases hx : xs = []
 ·subst hx; intro j v hj; simp at hj
 ·obtain ⟨x,rfl⟩ := elems_some hx he
  exact elems_cs he
def lentRow (v : Value) (e : KEnt) : Res := fun h => ∃ p c, v = sB p e.comps c ∧ row (.slice p (e.comps.length + 12) c) 120 5 (e.comps.length + 12) ((e.comps ++ marksC 12).flatMap compE) h
def lentRows : List Value → List KEnt → List Res
 | v :: vs,e :: es => lentRow v e :: lentRows vs es
 | _,_ => []
theorem lent_rows_append {vs us : List Value} {es fs : List KEnt} (h : vs.length = es.length) : lentRows (vs ++ us) (es ++ fs) = lentRows vs es ++ lentRows us fs := by
 induction vs generalizing es with
 | nil => cases es with
  | nil => rfl
  | cons e es => simp at h
 | cons v vs ih => cases es with
  | nil => simp at h
  | cons e es =>
   show lentRow v e :: lentRows (vs ++ us) (es ++ fs) = _
   rw [ih (by simpa using h)]; rfl
theorem lent_rows_snoc {es : List KEnt} {k : Nat} {e : KEnt} (hx : es[k]? = some e) {vs : List Value} {v : Value} (h : vs.length = k) (hk : k ≤ es.length) : (lentRow v e :: lentRows vs (es.take k)).Perm (lentRows (vs ++ [v]) (es.take (k + 1))) := by
 rw [take_succ hx,lent_rows_append (by simp; omega)]
 exact List.perm_append_comm (l₁ := [lentRow v e])
def nils (k : Nat) : List Value := List.replicate k (.slice none 0 0)
theorem nils_succ (k : Nat) : nils (k + 1) = nils k ++ [.slice none 0 0] := by simp [nils, List.replicate_succ']
theorem nils_len (k : Nat) : (nils k).length = k := by simp [nils]
theorem lent_mark {xs al : List KComp} {k : Nat} {x : KComp} (h : al = xs ++ marksC 12) (hx : al[k]? = some x) {n : Nat} (hn : n = xs.length) (hk : n ≤ k) : x = markC (k - n) := by
 subst h; subst hn
 rw [List.getElem?_append_right hk] at hx
 have hlt := (List.getElem?_eq_some_iff.1 hx).1
 rw [marksC_len] at hlt
 unfold marksC at hx
 rw [List.getElem?_map,List.getElem?_range hlt] at hx
 injection hx with hx; exact hx.symm
theorem lent_markE {xs al : List KEnt} {k : Nat} {x : KEnt} (h : al = xs ++ marksE 12) (hx : al[k]? = some x) {n : Nat} (hn : n = xs.length) (hk : n ≤ k) : x = markE (k - n) := by
 subst h; subst hn
 rw [List.getElem?_append_right hk] at hx
 have hlt := (List.getElem?_eq_some_iff.1 hx).1
 rw [marksE_len] at hlt
 unfold marksE at hx
 rw [List.getElem?_map,List.getElem?_range hlt] at hx
 injection hx with hx; exact hx.symm
theorem compE_inj {x y : KComp} : compE x = compE y ↔ x = y := by
 constructor
 ·intro h
  cases x; cases y
  simp only [compE,List.cons.injEq,Value.int.injEq,true_and,and_true] at h
  obtain ⟨h1,h2,h3,h4,h5⟩ := h
  have h1 := UInt8.toNat_inj.1 (Int.ofNat_inj.1 h1)
  subst h1; subst h2; subst h3; subst h4; subst h5; rfl
 intro h; rw [h]
theorem ent_eq {x y : KEnt} (h : x.id = y.id) : (x.comps = y.comps) ↔ x = y := by
 constructor
 ·intro h2; cases x; cases y; simp only at h h2; subst h; subst h2; rfl
 intro h2; rw [h2]
theorem world_eq {x y : KWorld} (h : x.tick = y.tick) : (x.ents = y.ents) ↔ x = y := by
 constructor
 ·intro h2; cases x; cases y; simp only at h h2; subst h; subst h2; rfl
 intro h2; rw [h2]
theorem bool_i {p q : Prop} [Decidable p] [Decidable q] (h : p ↔ q) : Ending.returned (.bool (decide p)) = .returned (.bool (decide q)) := by rw [decide_eq_decide.2 h]
theorem upto_eq {α : Type} {xs ys : List α} {k : Nat} (hl : xs.length = ys.length) (hk : ys.length ≤ k) (h : ∀ j, j < k → j < ys.length → xs[j]? = ys[j]?) : xs = ys := by
 apply List.ext_getElem?
 intro j
 by_cases hj : j < ys.length
 ·exact h j (by omega) hj
 rw [List.getElem?_eq_none (by omega),List.getElem?_eq_none (by omega)]
theorem upto_succ {α : Type} {xs ys : List α} {k : Nat} (h : ∀ j, j < k → j < ys.length → xs[j]? = ys[j]?) (hk : xs[k]? = ys[k]?) : ∀ j, j < k + 1 → j < ys.length → xs[j]? = ys[j]? := fun j hj hl => by
 rcases Nat.lt_or_eq_of_le (Nat.le_of_lt_succ hj) with h1 | rfl
 ·exact h j h1 hl
 exact hk
theorem upto_past {α : Type} {xs ys : List α} {k : Nat} (h : ∀ j, j < k → j < ys.length → xs[j]? = ys[j]?) (hk : ys.length ≤ k) : ∀ j, j < k + 1 → j < ys.length → xs[j]? = ys[j]? := fun j hj hl => h j (by omega) hl
end Go.Proofs
namespace Go.Proofs
open Go Go.Sl
instance tx83 : CfC Tryz.prog 174 := ⟨by kernel_rfl⟩
theorem tx84 : lay Tryz.prog 10000 120 = some [.int .u8, .int .i64, .int .i64, .int .i64, .int .i64] := by kernel_rfl
theorem tx85 : isAggT Tryz.prog 120 = true := by kernel_rfl
theorem tx86 : Tryz.prog.eqGuardType Tryz.prog.depth 120 = false := by kernel_rfl
instance tx87 : CfC Tryz.prog 175 := ⟨by kernel_rfl⟩
instance tx88 : CfC Tryz.prog 113 := ⟨by kernel_rfl⟩
instance tx89 : CfC Tryz.prog 71 := ⟨by kernel_rfl⟩
theorem markW_ok (β : Base) (w : World) (hw : St β [] w) (i : Nat) (hi : i ≤ 100) : Ret Tryz.prog 174 #[.int .i64 1, Nx i] β w (Nx (8000024 + i)) := by
 refine enter (n := 10) Tryz.func174 rfl Tryz.ntmps174 rfl ?_ hw
 refine csr (lE oai (lnc (lE omi (lE opl (lv (v := .int .i64 (8000024)) (e_mul (a := (1000003 : Int)) (b := (8 : Int)) rfl rfl (by decide)) (lE omi ?_))))))
 refine lv (v := Nx (8000024 + i)) (e_add rfl rfl (i64n (by omega) (by omega))) (lE oai (lnf (c_ret (ret1 Tryz.results174 rfl ?_))))
 intro w hw
 exact ⟨rfl,st_mask [] rfl hw⟩
theorem markComp_ok (β : Base) (w : World) (hw : St β [] w) (i : Nat) (hi : i ≤ 100) : Ret Tryz.prog 184 #[.int .i64 1, Nx i] β w (.agg (compE (markC i)).toArray) := by
 refine enter (n := 10) Tryz.func184 rfl Tryz.ntmps184 rfl ?_ hw
 refine csr (alE fun b1 => lnc (lE omi (lE omi (lcR clA (fun w β1 sb kn hw1 => markW_ok β1 w hw1 i (by omega)) ?_))))
 refine lv (v := .agg #[Nx (8000024 + i),.int .i64 (0),.int .i64 (0),.int .i64 (0)]) (e_build_a tx35.ok tx21.ok (vs := [(0,Nx (8000024 + i))]) (cells := #[Nx (8000024 + i),.int .i64 (0),.int .i64 (0),.int .i64 (0)]) rfl rfl) ?_
 refine lv (v := .agg #[.int .u8 (0),Nx (8000024 + i),.int .i64 (0),.int .i64 (0),.int .i64 (0)]) (e_build tx16.ok tx36 (vs := [(1,.agg #[Nx (8000024 + i),.int .i64 (0),.int .i64 (0),.int .i64 (0)])]) (cells := #[.int .u8 (0),Nx (8000024 + i),.int .i64 (0),.int .i64 (0),.int .i64 (0)]) rfl rfl) ?_
 refine lu (mS 0 (#[.int .u8 (0),Nx (8000024 + i),.int .i64 (0),.int .i64 (0),.int .i64 (0)])) (lnf (c_ret ?_))
 refine retG (m := [.agg #[.int .u8 (0),Nx (8000024 + i),.int .i64 (0),.int .i64 (0),.int .i64 (0)]]) Tryz.results184 ⟨rd_cell tx15.ok rfl (k_pt 0 rfl rfl) rfl,trivial⟩ rfl ?_
 intro w hw
 exact ⟨rfl,st_mask [false] rfl hw⟩
theorem markEntity_ok (β : Base) (w : World) (hw : St β [] w) (i : Nat) (hi : i ≤ 100) : Ret Tryz.prog 108 #[.int .i64 1, Nx i] β w (.agg #[Ix (markE i).id, .slice none 0 0]) := by
 refine enter (n := 9) Tryz.func108 rfl Tryz.ntmps108 rfl ?_ hw
 refine csr (alE fun b1 => lnc (lE omi (lE omi (lcR clA (fun w β1 sb kn hw1 => markW_ok β1 w hw1 i (by omega)) ?_))))
 refine lv (v := .agg #[Nx (8000024 + i),.slice none 0 0]) (e_build tx33.ok tx37 (vs := [(0,Nx (8000024 + i))]) (cells := #[Nx (8000024 + i),.slice none 0 0]) rfl rfl) ?_
 refine lu (mS 0 (#[Nx (8000024 + i),.slice none 0 0])) (lnf (c_ret ?_))
 refine retG (m := [.agg #[Nx (8000024 + i),.slice none 0 0]]) Tryz.results108 ⟨rd_cell tx24.ok rfl (k_pt 0 rfl rfl) rfl,trivial⟩ rfl ?_
 intro w hw
 exact ⟨rfl,st_mask [false] rfl hw⟩
theorem sameComps_ok (β : Base) (w : World) (hw : St β [] w) (v v' : Value) (xs ys : List KComp) (hx : Sl CompR β.heap v xs) (hy : Sl CompR β.heap v' ys) : Ret Tryz.prog 175 #[v, v'] β w (.bool (decide (xs = ys))) := by
 obtain ⟨va,vc,rfl,vl,vm,ve⟩ := hx.get
 obtain ⟨v'a,v'c,rfl,v'l,v'm,v'e⟩ := hy.get
 refine enter (n := 26) Tryz.func175 rfl Tryz.ntmps175 rfl ?_ hw
 refine csr (lE oab (lnf (cs2 (c_region (lE oms (lE oln (lE oms (lE oln (lE onq (lnf (c_if _ rfl (fun hc1 => ?_) (fun hc1 => ?_))))))))))))
 ·refine csr (lE oab (lnf (c_ret (f_then_ret (ret1 Tryz.results175 rfl ?_)))))
  intro w hw
  exact ⟨bool_f (fun h => by subst h; omega),st_mask [] rfl hw⟩
 refine csk (cs2 (c_region (lE oai (lnf (c_block ?_)))))
 refine c_loop (fun (k : Nat) f L => (f 0 = sB va xs (vc) ∧ f 1 = sB v'a ys (v'c) ∧ f 5 = Nx (k)) ∧ L = [] ∧ (k ≤ xs.length ∧ xs.take (k) = ys.take (k))) (fun k => xs.length - k) 0 ?_ ?_
 ·exact ⟨⟨rfl,rfl,rfl⟩,rfl,⟨by omega,rfl⟩⟩
 rintro k f0 L0 ⟨⟨hs0,hs1,hs5⟩,hL,⟨hp1,hp2⟩⟩
 subst L0
 refine rbs 0 hs0 (rbs 1 hs1 (rbs 5 hs5 (cs2 (c_region (lE omi (lE oms (lE oln (lE olt (lnf (c_if _ rfl (fun hc2 => ?_) (fun hc2 => ?_)))))))))))
 ·refine csk (c_seq (c_block (c_seq (c_quiet (by kernel_rfl) (by kernel_rfl) (qE oms (qE omi ?_))))))
  obtain ⟨x3,hx4⟩ := getx xs k (by omega)
  obtain ⟨ha5,cs6,hc7,rfl⟩ := ve _ _ hx4
  refine qE (oia tx14 ha5) ?_
  refine q_val (v := .agg #[Bx (x3.kind),Ix (x3.v0),Ix (x3.v1),Ix (x3.v2),Ix (x3.v3)]) rfl rfl rfl (e_load tx15.ok rfl (kB hc7) rfl) (qE oms (qE omi ?_))
  obtain ⟨x9,hx10⟩ := getx ys k (by omega)
  obtain ⟨ha11,cs12,hc13,rfl⟩ := v'e _ _ hx10
  refine qE (oia tx14 ha11) ?_
  refine q_val (v := .agg #[Bx (x9.kind),Ix (x9.v0),Ix (x9.v1),Ix (x9.v2),Ix (x9.v3)]) rfl rfl rfl (e_load tx15.ok rfl (kB hc13) rfl) ?_
  refine q_val (v := .bool (decide (¬ (x3 = x9)))) rfl rfl rfl (e_neq_t (xs := compE x3) (ys := compE x9) tx84 tx85 tx86 rfl rfl rfl rfl (not_congr compE_inj)) ?_
  refine q_nil (f_then (c_if _ rfl (fun hc15 => ?_) (fun hc15 => ?_)))
  ·refine csr (lE oab (lnf (c_ret (f_block_ret (f_then_ret (f_then_ret (f_block_ret (f_then_ret (ret1 Tryz.results175 rfl ?_)))))))))
   intro w hw
   exact ⟨bool_f (list_ne hx4 hx10 hc15),st_mask [] rfl hw⟩
  refine c_skip (f_block (f_then (c_region (lE omi (lv (v := Nx (k + 1)) (e_add rfl rfl (i64n (by omega) (by omega))) (lE oai (l_nil ?_)))))))
  exact f_cut ⟨k + 1,⟨⟨rfl,rfl,rfl⟩,rfl,⟨by omega,take_next hx4 (by rw [hx10]; exact congrArg some (Decidable.not_not.1 hc15).symm) hp2⟩⟩,(show xs.length - (k + 1) < xs.length - k from by omega)⟩
 refine c_exit (f_then_exit (f_then_exit (f_exit (ftc (lE oab (lnf (c_ret (ret1 Tryz.results175 rfl ?_))))))))
 intro w hw
 exact ⟨bool_t (take_all hp2 (by omega) (by omega)),st_mask [] rfl hw⟩
theorem sameEntity_ok (β : Base) (w : World) (hw : St β [] w) (x y : KEnt) (v v' : Value) (hx : Sl CompR β.heap v x.comps) (hy : Sl CompR β.heap v' y.comps) : Ret Tryz.prog 113 #[.agg #[Ix x.id, v], .agg #[Ix y.id, v']] β w (.bool (decide (x = y))) := by
 obtain ⟨va,vc,rfl,vl,vm,ve⟩ := hx.get
 obtain ⟨v'a,v'c,rfl,v'l,v'm,v'e⟩ := hy.get
 refine enter (n := 17) Tryz.func113 rfl Tryz.ntmps113 rfl ?_ hw
 refine csr (bxa fun b1 => ?_)
 refine bxa fun b2 => ?_
 refine lE oab (lnc (lE ofp (lE (oli 1) (lE ofp (lE (oli 0) (lE oeq_ (lE omb (l_split (s := 10) rfl (fun hg3 => ?_) (fun hg3 => ?_)))))))))
 ·refine gE ofp (gE (ols 1) (gE ofp (gE (ols 0) (g_call rfl rfl rfl rfl rfl (cl0 (vs := [sB va x.comps (vc),sB v'a y.comps (v'c)]) tx87.ok rfl rfl) ?_))))
  intro w hw
  obtain ⟨β1,sb,kn,hw1,back⟩ := St.frame_all hw
  refine (sameComps_ok β1 w hw1 _ _ x.comps y.comps (Sl.mono _ _ _ _ _ sb (⟨⟨_,_,rfl,vl,vm,ve⟩⟩ : Sl CompR _ _ x.comps)) (Sl.mono _ _ _ _ _ sb (⟨⟨_,_,rfl,v'l,v'm,v'e⟩⟩ : Sl CompR _ _ y.comps))).mono ?_
  rintro e w' ⟨rfl,hw'⟩
  refine ⟨_,rfl,_,back _ _ hw',?_⟩
  clear hw hw1 hw' back kn sb
  refine lE oktb (lE oab (lnf (c_ret (ret1 Tryz.results113 rfl ?_))))
  intro w hw
  exact ⟨bool_i (ent_eq hg3),st_mask [false,false] rfl hw⟩
 iterate 5 refine skE ?_
 refine lE okfb (lE oab (lnf (c_ret (ret1 Tryz.results113 rfl ?_))))
 intro w hw
 exact ⟨bool_f (fun h => hg3 (by rw [h])),st_mask [false,false] rfl hw⟩
theorem sameEntities_ok (β : Base) (w : World) (hw : St β [] w) (v v' : Value) (xs ys : List KEnt) (hx : Sl EntR β.heap v xs) (hy : Sl EntR β.heap v' ys) : Ret Tryz.prog 71 #[v, v'] β w (.bool (decide (xs = ys))) := by
 obtain ⟨va,vc,rfl,vl,vm,ve⟩ := hx.get
 obtain ⟨v'a,v'c,rfl,v'l,v'm,v'e⟩ := hy.get
 refine enter (n := 27) Tryz.func71 rfl Tryz.ntmps71 rfl ?_ hw
 refine csr (lE oab (lnf (cs2 (c_region (lE oms (lE oln (lE oms (lE oln (lE onq (lnf (c_if _ rfl (fun hc1 => ?_) (fun hc1 => ?_))))))))))))
 ·refine csr (lE oab (lnf (c_ret (f_then_ret (ret1 Tryz.results71 rfl ?_)))))
  intro w hw
  exact ⟨bool_f (fun h => by subst h; omega),st_mask [] rfl hw⟩
 refine csk (cs2 (c_region (lE oai (lnf (c_block ?_)))))
 refine c_loop (fun (k : Nat) f L => (f 0 = sB va xs (vc) ∧ f 1 = sB v'a ys (v'c) ∧ f 5 = Nx (k)) ∧ L = [] ∧ (k ≤ xs.length ∧ xs.take (k) = ys.take (k))) (fun k => xs.length - k) 0 ?_ ?_
 ·exact ⟨⟨rfl,rfl,rfl⟩,rfl,⟨by omega,rfl⟩⟩
 rintro k f0 L0 ⟨⟨hs0,hs1,hs5⟩,hL,⟨hp1,hp2⟩⟩
 subst L0
 refine rbs 0 hs0 (rbs 1 hs1 (rbs 5 hs5 (cs2 (c_region (lE omi (lE oms (lE oln (lE olt (lnf (c_if _ rfl (fun hc2 => ?_) (fun hc2 => ?_)))))))))))
 ·refine csk (c_seq (c_block (c_seq (c_quiet (by kernel_rfl) (by kernel_rfl) (qE oms (qE omi ?_))))))
  obtain ⟨x3,hx4⟩ := getx xs k (by omega)
  obtain ⟨ha5,cs6,hc7,hr8⟩ := ve _ _ hx4
  obtain ⟨v9,rfl,hv10⟩ := hr8
  obtain ⟨v9a,v9c,rfl,v9l,v9m,v9e⟩ := hv10.get
  refine qE (oia tx32 ha5) (q_val (v := .agg #[Ix (x3.id),sB v9a x3.comps (v9c)]) rfl rfl rfl (e_load tx24.ok rfl (kB hc7) rfl) (qE oms (qE omi ?_)))
  obtain ⟨x11,hx12⟩ := getx ys k (by omega)
  obtain ⟨ha13,cs14,hc15,hr16⟩ := v'e _ _ hx12
  obtain ⟨v17,rfl,hv18⟩ := hr16
  obtain ⟨v17a,v17c,rfl,v17l,v17m,v17e⟩ := hv18.get
  refine qE (oia tx32 ha13) (q_val (v := .agg #[Ix (x11.id),sB v17a x11.comps (v17c)]) rfl rfl rfl (e_load tx24.ok rfl (kB hc15) rfl) ?_)
  refine q_call (v := .bool (decide (x3 = x11))) rfl rfl rfl (cl0 (vs := [.agg #[Ix (x3.id),sB v9a x3.comps (v9c)],.agg #[Ix (x11.id),sB v17a x11.comps (v17c)]]) tx88.ok rfl rfl) (fun w hw => ?_) ?_
  ·obtain ⟨β1,sb,kn,hw1,back⟩ := St.frame_all hw
   exact (sameEntity_ok β1 w hw1 x3 x11 _ _ (Sl.mono _ _ _ _ _ sb (⟨⟨_,_,rfl,v9l,v9m,v9e⟩⟩ : Sl CompR _ _ x3.comps)) (Sl.mono _ _ _ _ _ sb (⟨⟨_,_,rfl,v17l,v17m,v17e⟩⟩ : Sl CompR _ _ x11.comps))).mono (fun e w' ⟨he,hw'⟩ => ⟨he,st_mask [] rfl (back _ _ hw')⟩)
  refine qE ond (q_nil (f_then (c_if _ rfl (fun hc19 => ?_) (fun hc19 => ?_))))
  ·refine csr (lE oab (lnf (c_ret (f_block_ret (f_then_ret (f_then_ret (f_block_ret (f_then_ret (ret1 Tryz.results71 rfl ?_)))))))))
   intro w hw
   exact ⟨bool_f (list_ne hx4 hx12 hc19),st_mask [] rfl hw⟩
  refine c_skip (f_block (f_then (c_region (lE omi (lv (v := Nx (k + 1)) (e_add rfl rfl (i64n (by omega) (by omega))) (lE oai (l_nil ?_)))))))
  exact f_cut ⟨k + 1,⟨⟨rfl,rfl,rfl⟩,rfl,⟨by omega,take_next hx4 (by rw [hx12]; exact congrArg some (Decidable.not_not.1 hc19).symm) hp2⟩⟩,(show xs.length - (k + 1) < xs.length - k from by omega)⟩
 refine c_exit (f_then_exit (f_then_exit (f_exit (ftc (lE oab (lnf (c_ret (ret1 Tryz.results71 rfl ?_))))))))
 intro w hw
 exact ⟨bool_t (take_all hp2 (by omega) (by omega)),st_mask [] rfl hw⟩
theorem sameWorld_ok (β : Base) (w : World) (hw : St β [] w) (x y : KWorld) (v v' : Value) (hx : Sl EntR β.heap v x.ents) (hy : Sl EntR β.heap v' y.ents) : Ret Tryz.prog 21 #[.agg #[Ix x.tick, v], .agg #[Ix y.tick, v']] β w (.bool (decide (x = y))) := by
 obtain ⟨va,vc,rfl,vl,vm,ve⟩ := hx.get
 obtain ⟨v'a,v'c,rfl,v'l,v'm,v'e⟩ := hy.get
 refine enter (n := 17) Tryz.func21 rfl Tryz.ntmps21 rfl ?_ hw
 refine csr (bxa fun b1 => ?_)
 refine bxa fun b2 => ?_
 refine lE oab (lnc (lE ofp (lE (oli 1) (lE ofp (lE (oli 0) (lE oeq_ (lE omb (l_split (s := 10) rfl (fun hg3 => ?_) (fun hg3 => ?_)))))))))
 ·refine gE ofp (gE (ols 1) (gE ofp (gE (ols 0) (g_call rfl rfl rfl rfl rfl (cl0 (vs := [sB va x.ents (vc),sB v'a y.ents (v'c)]) tx89.ok rfl rfl) ?_))))
  intro w hw
  obtain ⟨β1,sb,kn,hw1,back⟩ := St.frame_all hw
  refine (sameEntities_ok β1 w hw1 _ _ x.ents y.ents (Sl.mono _ _ _ _ _ sb (⟨⟨_,_,rfl,vl,vm,ve⟩⟩ : Sl EntR _ _ x.ents)) (Sl.mono _ _ _ _ _ sb (⟨⟨_,_,rfl,v'l,v'm,v'e⟩⟩ : Sl EntR _ _ y.ents))).mono ?_
  rintro e w' ⟨rfl,hw'⟩
  refine ⟨_,rfl,_,back _ _ hw',?_⟩
  clear hw hw1 hw' back kn sb
  refine lE oktb (lE oab (lnf (c_ret (ret1 Tryz.results21 rfl ?_))))
  intro w hw
  exact ⟨bool_i (world_eq hg3),st_mask [false,false] rfl hw⟩
 iterate 5 refine skE ?_
 refine lE okfb (lE oab (lnf (c_ret (ret1 Tryz.results21 rfl ?_))))
 intro w hw
 exact ⟨bool_f (fun h => hg3 (by rw [h])),st_mask [false,false] rfl hw⟩
end Go.Proofs
namespace Go.Proofs
open Go Go.Sl
instance tx90 : CfC Tryz.prog 184 := ⟨by kernel_rfl⟩
instance tx91 : CfC Tryz.prog 200 := ⟨by kernel_rfl⟩
instance tx92 : CfC Tryz.prog 140 := ⟨by kernel_rfl⟩
instance tx93 : CfC Tryz.prog 108 := ⟨by kernel_rfl⟩
instance tx94 : CfC Tryz.prog 21 := ⟨by kernel_rfl⟩
instance tx95 : CfC Tryz.prog 78 := ⟨by kernel_rfl⟩
theorem keptComps_ok (β : Base) (w : World) (hw : St β [] w) (v v' : Value) (xs ys : List KComp) (hx : LSl β.heap v xs) (hy : Sl CompR β.heap v' ys) : Ret Tryz.prog 200 #[v, v'] β w (.bool (decide (xs = ys))) := by
 obtain ⟨va,vc,rfl,vl,vm,vf⟩ := hx
 have ve := Elems.left vf
 obtain ⟨v'a,v'c,rfl,v'l,v'm,v'e⟩ := hy.get
 obtain ⟨al,hal⟩ : ∃ z,z = xs ++ marksC 12 := ⟨_,rfl⟩
 have hall : al.length = xs.length + 12 := by rw [hal]; simp [marksC_len]
 have hale := vf
 rw [← hal] at hale
 refine enter (n := 58) Tryz.func200 rfl Tryz.ntmps200 rfl ?_ hw
 refine csr (lE oab (lnf (cs2 (c_region (lE oms (lE oln (lE oms (lE oln (lE onq (lnf (c_if _ rfl (fun hc1 => ?_) (fun hc1 => ?_))))))))))))
 ·refine csr (lE oab (lnf (c_ret (f_then_ret (ret1 Tryz.results200 rfl ?_)))))
  intro w hw
  exact ⟨bool_f (fun h => by subst h; omega),st_mask [] rfl hw⟩
 refine csk (c_seq ?_)
 have hxy : xs.length = ys.length := by omega
 refine c_region (lE oms (lE oms (lE oln (lv (v := Nx (ys.length + 12)) (e_add rfl rfl (i64n (by omega) (by omega))) ?_))))
 refine lv (v := .slice va (al.length) (vc)) (ev_eq (by rw [show al.length = ys.length + 12 by omega]) (e_slice_hi (a := va) (len := xs.length) (cap := vc) (h := ys.length + 12) tx14 rfl rfl (by omega))) ?_
 refine lE oas (lnf (cs2 (c_region (lE oai (lnf (c_block ?_))))))
 refine c_loop (fun (k : Nat) f L => (f 1 = sB v'a ys (v'c) ∧ f 5 = sB va al (vc) ∧ f 6 = Nx (k)) ∧ L = [] ∧ (k ≤ al.length ∧ (∀ j,j < k → j < ys.length → xs[j]? = ys[j]?))) (fun k => al.length - k) 0 ?_ ?_
 ·exact ⟨⟨rfl,rfl,rfl⟩,rfl,⟨by omega,fun j hj => by omega⟩⟩
 rintro k f0 L0 ⟨⟨hs1,hs5,hs6⟩,hL,⟨hp1,hp2⟩⟩
 subst L0
 refine rbs 1 hs1 (rbs 5 hs5 (rbs 6 hs6 (cs2 (c_region (lE omi (lE oms (lE oln (lE olt (lnf (c_if _ rfl (fun hc2 => ?_) (fun hc2 => ?_)))))))))))
 ·refine csk (c_seq (c_block (c_seq (c_quiet (by kernel_rfl) (by kernel_rfl) (qE omi (qE oms (qE oln (qE olt (qE omb ?_)))))))))
  refine q_split (s := 27) rfl (fun hg3 => ?_) (fun hg3 => ?_)
  ·refine rE oms (rE omi ?_)
   obtain ⟨x4,hx5⟩ := getx xs k (by omega)
   obtain ⟨ha6,cs7,hc8,rfl⟩ := ve _ _ hx5
   refine rE (oia tx14 ha6) ?_
   refine qg_val (v := .agg #[Bx (x4.kind),Ix (x4.v0),Ix (x4.v1),Ix (x4.v2),Ix (x4.v3)]) rfl rfl rfl rfl rfl (e_load tx15.ok rfl (kB hc8) rfl) ?_
   refine rE oms (rE omi ?_)
   obtain ⟨x10,hx11⟩ := getx ys k (by omega)
   obtain ⟨ha12,cs13,hc14,rfl⟩ := v'e _ _ hx11
   refine rE (oia tx14 ha12) ?_
   refine qg_val (v := .agg #[Bx (x10.kind),Ix (x10.v0),Ix (x10.v1),Ix (x10.v2),Ix (x10.v3)]) rfl rfl rfl rfl rfl (e_load tx15.ok rfl (kB hc14) rfl) ?_
   refine qg_val (v := .bool (decide (x4 = x10))) rfl rfl rfl rfl rfl (e_eql_t (xs := compE x4) (ys := compE x10) tx84 tx85 tx86 rfl rfl rfl rfl compE_inj) ?_
   refine rE ond (qE oktb (qE omb (q_split (s := 39) rfl (fun hg16 => ?_) (fun hg16 => ?_))))
   ·iterate 5 refine qsE ?_
    refine q_skip_u rfl rfl rfl rfl rfl (q_skip_u rfl rfl rfl rfl rfl (q_skip_u rfl rfl rfl rfl rfl (q_skip_u rfl rfl rfl rfl rfl ?_)))
    refine q_skip_u rfl rfl rfl rfl rfl (q_skip_u rfl rfl rfl rfl rfl (q_skip_u rfl rfl rfl rfl rfl (q_skip_u rfl rfl rfl rfl rfl ?_)))
    refine q_skip_u rfl rfl rfl rfl rfl (q_skip_u rfl rfl rfl rfl rfl (q_skip_u rfl rfl rfl rfl rfl (qsE (qE oktb (q_nil (f_then (c_yes rfl (csr ?_))))))))
    refine lE oab (lnf (c_ret (f_block_ret (f_then_ret (f_then_ret (f_block_ret (f_then_ret (ret1 Tryz.results200 rfl ?_))))))))
    intro w hw
    exact ⟨bool_f (list_ne hx5 hx11 hg16),st_mask [] rfl hw⟩
   refine rE omi (rE oms (rE oln (rE oge (rE omb (q_split (s := 44) rfl (fun h => ?_) (fun h => ?_))))))
   exact absurd h (by omega)
   iterate 11 refine qsE ?_
   refine rE okfb (qE okfb (q_nil (f_then (c_no rfl (c_skip (f_block (f_then (c_region (lE omi ?_)))))))))
   refine lv (v := Nx (k + 1)) (e_add rfl rfl (i64n (by omega) (by omega))) (lE oai (l_nil ?_))
   exact f_cut ⟨k + 1,⟨⟨rfl,rfl,rfl⟩,rfl,⟨by omega,upto_succ hp2 (by rw [hx5,hx11,Decidable.not_not.1 hg16])⟩⟩,(show al.length - (k + 1) < al.length - k from by omega)⟩
  iterate 10 refine qsE ?_
  refine qE okfb (qE omb (rE omi (rE oms (rE oln (rE oge (rE omb (q_split (s := 44) rfl (fun h => ?_) (fun h => ?_))))))))
  rotate_left; exact absurd (by omega) h
  refine rE oms (rE omi ?_)
  obtain ⟨x17,hx18⟩ := getx al k (by omega)
  obtain ⟨ha19,cs20,hc21,rfl⟩ := hale _ _ hx18
  refine rE (oia tx14 ha19) ?_
  refine qg_val (v := .agg #[Bx (x17.kind),Ix (x17.v0),Ix (x17.v1),Ix (x17.v2),Ix (x17.v3)]) rfl rfl rfl rfl rfl (e_load tx15.ok rfl (kB hc21) rfl) ?_
  refine rE omi (rE oms (rE oln ?_))
  refine qg_val (v := Nx (k - ys.length)) rfl rfl rfl rfl rfl (ev_eq (congrArg (Value.int .i64) (by omega)) (e_sub (a := ((k : Nat) : Int)) (b := ((ys.length : Nat) : Int)) rfl rfl (i64w (by omega)))) ?_
  refine qg_call (v := .agg #[Bx ((markC (k - ys.length)).kind),Ix ((markC (k - ys.length)).v0),Ix ((markC (k - ys.length)).v1),Ix ((markC (k - ys.length)).v2),Ix ((markC (k - ys.length)).v3)]) rfl rfl rfl rfl rfl (cl0 (vs := [.int .i64 (1),Nx (k - ys.length)]) tx90.ok rfl rfl) (fun w hw => ?_) ?_
  ·obtain ⟨β1,sb,kn,hw1,back⟩ := St.frame_all hw
   exact (markComp_ok β1 w hw1 (k - ys.length) (by omega)).mono (fun e w' ⟨he,hw'⟩ => ⟨he,st_mask [] rfl (back _ _ hw')⟩)
  refine qg_val (v := .bool (decide (x17 = (markC (k - ys.length))))) rfl rfl rfl rfl rfl (e_eql_t (xs := compE x17) (ys := compE (markC (k - ys.length))) tx84 tx85 tx86 rfl rfl rfl rfl compE_inj) ?_
  refine rE ond (rE oktb (qE okfb (q_nil (f_then (c_if _ rfl (fun hc23 => ?_) (fun hc23 => ?_))))))
  ·exact absurd hc23 (fun h => h (lent_mark hal hx18 (by omega) (by omega)))
  refine c_skip (f_block (f_then (c_region (lE omi (lv (v := Nx (k + 1)) (e_add rfl rfl (i64n (by omega) (by omega))) (lE oai (l_nil ?_)))))))
  exact f_cut ⟨k + 1,⟨⟨rfl,rfl,rfl⟩,rfl,⟨by omega,upto_past hp2 (by omega)⟩⟩,(show al.length - (k + 1) < al.length - k from by omega)⟩
 refine c_exit (f_then_exit (f_then_exit (f_exit (ftc (lE oab (lnf (c_ret (ret1 Tryz.results200 rfl ?_))))))))
 intro w hw
 exact ⟨bool_t (upto_eq hxy (show ys.length ≤ k by omega) hp2),st_mask [] rfl hw⟩
theorem keptEntity_ok (β : Base) (w : World) (hw : St β [] w) (x y : KEnt) (v v' : Value) (hx : LSl β.heap v x.comps) (hy : Sl CompR β.heap v' y.comps) : Ret Tryz.prog 140 #[.agg #[Ix x.id, v], .agg #[Ix y.id, v']] β w (.bool (decide (x = y))) := by
 obtain ⟨va,vc,rfl,vl,vm,vf⟩ := hx
 have ve := Elems.left vf
 obtain ⟨v'a,v'c,rfl,v'l,v'm,v'e⟩ := hy.get
 refine enter (n := 15) Tryz.func140 rfl Tryz.ntmps140 rfl ?_ hw
 refine csr (bxa fun b1 => ?_)
 refine bxa fun b2 => ?_
 refine lE oab (lnc (lE (olg 1) (lE (olg 0) ?_)))
 refine lcR clA (fun w β1 sb kn hw1 => sameEntity_ok β1 w hw1 x y _ _ (Sl.mono _ _ _ _ _ sb (⟨⟨_,_,rfl,by omega,vm,ve⟩⟩ : Sl CompR _ _ x.comps)) (Sl.mono _ _ _ _ _ sb (⟨⟨_,_,rfl,v'l,v'm,v'e⟩⟩ : Sl CompR _ _ y.comps))) ?_
 refine lE omb (l_split (s := 8) rfl (fun hg3 => ?_) (fun hg3 => ?_))
 ·refine gE ofp (gE (ols 1) (gE ofp (gE (ols 0) (g_call rfl rfl rfl rfl rfl (cl0 (vs := [sB va x.comps (vc),sB v'a y.comps (v'c)]) tx91.ok rfl rfl) ?_))))
  intro w hw
  obtain ⟨β1,sb,kn,hw1,back⟩ := St.frame_all hw
  refine (keptComps_ok β1 w hw1 _ _ x.comps y.comps (LSl.mono _ _ _ _ sb (⟨_,_,rfl,vl,vm,vf⟩ : LSl _ _ x.comps)) (Sl.mono _ _ _ _ _ sb (⟨⟨_,_,rfl,v'l,v'm,v'e⟩⟩ : Sl CompR _ _ y.comps))).mono ?_
  rintro e w' ⟨rfl,hw'⟩
  refine ⟨_,rfl,_,back _ _ hw',?_⟩
  clear hw hw1 hw' back kn sb
  refine lE oktb (lE oab (lnf (c_ret (ret1 Tryz.results140 rfl ?_))))
  intro w hw
  exact ⟨by rw [decide_eq_true hg3,decide_eq_true (congrArg KEnt.comps hg3)] <;> rfl,st_mask [false,false] rfl hw⟩
 iterate 5 refine skE ?_
 refine lE okfb (lE oab (lnf (c_ret (ret1 Tryz.results140 rfl ?_))))
 intro w hw
 exact ⟨bool_f hg3,st_mask [false,false] rfl hw⟩
theorem keptEntities_ok (β : Base) (w : World) (hw : St β [] w) (v v' : Value) (xs ys : List KEnt) (hx : LESl β.heap v xs) (hy : Sl EntR β.heap v' ys) : Ret Tryz.prog 78 #[v, v'] β w (.bool (decide (xs = ys))) := by
 obtain ⟨va,vc,rfl,vl,vm,ve,vf⟩ := hx
 obtain ⟨v'a,v'c,rfl,v'l,v'm,v'e⟩ := hy.get
 obtain ⟨al,hal⟩ : ∃ z,z = xs ++ marksE 12 := ⟨_,rfl⟩
 have hall : al.length = xs.length + 12 := by rw [hal]; simp [marksE_len]
 have hale := vf
 rw [← hal] at hale
 refine enter (n := 58) Tryz.func78 rfl Tryz.ntmps78 rfl ?_ hw
 refine csr (lE oab (lnf (cs2 (c_region (lE oms (lE oln (lE oms (lE oln (lE onq (lnf (c_if _ rfl (fun hc1 => ?_) (fun hc1 => ?_))))))))))))
 ·refine csr (lE oab (lnf (c_ret (f_then_ret (ret1 Tryz.results78 rfl ?_)))))
  intro w hw
  exact ⟨bool_f (fun h => by subst h; omega),st_mask [] rfl hw⟩
 refine csk (c_seq ?_)
 have hxy : xs.length = ys.length := by omega
 refine c_region (lE oms (lE oms (lE oln (lv (v := Nx (ys.length + 12)) (e_add rfl rfl (i64n (by omega) (by omega))) ?_))))
 refine lv (v := .slice va (al.length) (vc)) (ev_eq (by rw [show al.length = ys.length + 12 by omega]) (e_slice_hi (a := va) (len := xs.length) (cap := vc) (h := ys.length + 12) tx32 rfl rfl (by omega))) ?_
 refine lE oas (lnf (cs2 (c_region (lE oai (lnf (c_block ?_))))))
 refine c_loop (fun (k : Nat) f L => (f 1 = sB v'a ys (v'c) ∧ f 5 = sB va al (vc) ∧ f 6 = Nx (k)) ∧ L = [] ∧ (k ≤ al.length ∧ (∀ j,j < k → j < ys.length → xs[j]? = ys[j]?))) (fun k => al.length - k) 0 ?_ ?_
 ·exact ⟨⟨rfl,rfl,rfl⟩,rfl,⟨by omega,fun j hj => by omega⟩⟩
 rintro k f0 L0 ⟨⟨hs1,hs5,hs6⟩,hL,⟨hp1,hp2⟩⟩
 subst L0
 refine rbs 1 hs1 (rbs 5 hs5 (rbs 6 hs6 (cs2 (c_region (lE omi (lE oms (lE oln (lE olt (lnf (c_if _ rfl (fun hc2 => ?_) (fun hc2 => ?_)))))))))))
 ·refine csk (c_seq (c_block (c_seq (c_quiet (by kernel_rfl) (by kernel_rfl) (qE omi (qE oms (qE oln (qE olt (qE omb ?_)))))))))
  refine q_split (s := 27) rfl (fun hg3 => ?_) (fun hg3 => ?_)
  ·refine rE oms (rE omi ?_)
   obtain ⟨x4,hx5⟩ := getx xs k (by omega)
   obtain ⟨ha6,cs7,hc8,hr9⟩ := ve _ _ hx5
   obtain ⟨v10,rfl,hv11⟩ := hr9
   obtain ⟨v10a,v10c,rfl,v10l,v10m,v10f⟩ := hv11
   have v10e := Elems.left v10f
   refine rE (oia tx32 ha6) (qg_val (v := .agg #[Ix (x4.id),sB v10a x4.comps (v10c)]) rfl rfl rfl rfl rfl (e_load tx24.ok rfl (kB hc8) rfl) (rE oms ?_))
   refine rE omi ?_
   obtain ⟨x12,hx13⟩ := getx ys k (by omega)
   obtain ⟨ha14,cs15,hc16,hr17⟩ := v'e _ _ hx13
   obtain ⟨v18,rfl,hv19⟩ := hr17
   obtain ⟨v18a,v18c,rfl,v18l,v18m,v18e⟩ := hv19.get
   refine rE (oia tx32 ha14) (qg_val (v := .agg #[Ix (x12.id),sB v18a x12.comps (v18c)]) rfl rfl rfl rfl rfl (e_load tx24.ok rfl (kB hc16) rfl) ?_)
   refine qg_call (v := .bool (decide (x4 = x12))) rfl rfl rfl rfl rfl (cl0 (vs := [.agg #[Ix (x4.id),sB v10a x4.comps (v10c)],.agg #[Ix (x12.id),sB v18a x12.comps (v18c)]]) tx92.ok rfl rfl) (fun w hw => ?_) ?_
   ·obtain ⟨β1,sb,kn,hw1,back⟩ := St.frame_all hw
    exact (keptEntity_ok β1 w hw1 x4 x12 _ _ (LSl.mono _ _ _ _ sb (⟨_,_,rfl,v10l,v10m,v10f⟩ : LSl _ _ x4.comps)) (Sl.mono _ _ _ _ _ sb (⟨⟨_,_,rfl,v18l,v18m,v18e⟩⟩ : Sl CompR _ _ x12.comps))).mono (fun e w' ⟨he,hw'⟩ => ⟨he,st_mask [] rfl (back _ _ hw')⟩)
   refine rE ond (qE oktb (qE omb (q_split (s := 39) rfl (fun hg20 => ?_) (fun hg20 => ?_))))
   ·iterate 5 refine qsE ?_
    refine q_skip_u rfl rfl rfl rfl rfl (q_skip_u rfl rfl rfl rfl rfl (q_skip_u rfl rfl rfl rfl rfl (q_skip_u rfl rfl rfl rfl rfl ?_)))
    refine q_skip_u rfl rfl rfl rfl rfl (q_skip_u rfl rfl rfl rfl rfl (q_skip_u rfl rfl rfl rfl rfl (q_skip_u rfl rfl rfl rfl rfl ?_)))
    refine q_skip_u rfl rfl rfl rfl rfl (q_skip_u rfl rfl rfl rfl rfl (q_skip_u rfl rfl rfl rfl rfl (qsE (qE oktb (q_nil (f_then (c_yes rfl (csr ?_))))))))
    refine lE oab (lnf (c_ret (f_block_ret (f_then_ret (f_then_ret (f_block_ret (f_then_ret (ret1 Tryz.results78 rfl ?_))))))))
    intro w hw
    exact ⟨bool_f (list_ne hx5 hx13 hg20),st_mask [] rfl hw⟩
   refine rE omi (rE oms (rE oln (rE oge (rE omb (q_split (s := 44) rfl (fun h => ?_) (fun h => ?_))))))
   exact absurd h (by omega)
   iterate 11 refine qsE ?_
   refine rE okfb (qE okfb (q_nil (f_then (c_no rfl (c_skip (f_block (f_then (c_region (lE omi ?_)))))))))
   refine lv (v := Nx (k + 1)) (e_add rfl rfl (i64n (by omega) (by omega))) (lE oai (l_nil ?_))
   exact f_cut ⟨k + 1,⟨⟨rfl,rfl,rfl⟩,rfl,⟨by omega,upto_succ hp2 (by rw [hx5,hx13,Decidable.not_not.1 hg20])⟩⟩,(show al.length - (k + 1) < al.length - k from by omega)⟩
  iterate 10 refine qsE ?_
  refine qE okfb (qE omb (rE omi (rE oms (rE oln (rE oge (rE omb (q_split (s := 44) rfl (fun h => ?_) (fun h => ?_))))))))
  rotate_left; exact absurd (by omega) h
  refine rE oms (rE omi ?_)
  obtain ⟨x21,hx22⟩ := getx al k (by omega)
  obtain ⟨ha23,cs24,hc25,hr26⟩ := hale _ _ hx22
  obtain ⟨v27,rfl,hv28⟩ := hr26
  obtain ⟨v27a,v27c,rfl,v27l,v27m,v27e⟩ := hv28.get
  refine rE (oia tx32 ha23) (qg_val (v := .agg #[Ix (x21.id),sB v27a x21.comps (v27c)]) rfl rfl rfl rfl rfl (e_load tx24.ok rfl (kB hc25) rfl) ?_)
  refine rE omi (rE oms (rE oln ?_))
  refine qg_val (v := Nx (k - ys.length)) rfl rfl rfl rfl rfl (ev_eq (congrArg (Value.int .i64) (by omega)) (e_sub (a := ((k : Nat) : Int)) (b := ((ys.length : Nat) : Int)) rfl rfl (i64w (by omega)))) ?_
  refine qg_call (v := .agg #[Ix ((markE (k - ys.length)).id),.slice none 0 0]) rfl rfl rfl rfl rfl (cl0 (vs := [.int .i64 (1),Nx (k - ys.length)]) tx93.ok rfl rfl) (fun w hw => ?_) ?_
  ·obtain ⟨β1,sb,kn,hw1,back⟩ := St.frame_all hw
   exact (markEntity_ok β1 w hw1 (k - ys.length) (by omega)).mono (fun e w' ⟨he,hw'⟩ => ⟨he,st_mask [] rfl (back _ _ hw')⟩)
  refine qg_call (v := .bool (decide (x21 = (markE (k - ys.length))))) rfl rfl rfl rfl rfl (cl0 (vs := [.agg #[Ix (x21.id),sB v27a x21.comps (v27c)],.agg #[Ix ((markE (k - ys.length)).id),.slice none 0 0]]) tx88.ok rfl rfl) (fun w hw => ?_) ?_
  ·obtain ⟨β1,sb,kn,hw1,back⟩ := St.frame_all hw
   exact (sameEntity_ok β1 w hw1 x21 (markE (k - ys.length)) _ _ (Sl.mono _ _ _ _ _ sb (⟨⟨_,_,rfl,v27l,v27m,v27e⟩⟩ : Sl CompR _ _ x21.comps)) (Sl.nil CompR _ : Sl CompR _ _ (markE (k - ys.length)).comps)).mono (fun e w' ⟨he,hw'⟩ => ⟨he,st_mask [] rfl (back _ _ hw')⟩)
  refine rE ond (rE oktb (qE okfb (q_nil (f_then (c_if _ rfl (fun hc29 => ?_) (fun hc29 => ?_))))))
  ·exact absurd hc29 (fun h => h (lent_markE hal hx22 (by omega) (by omega)))
  refine c_skip (f_block (f_then (c_region (lE omi (lv (v := Nx (k + 1)) (e_add rfl rfl (i64n (by omega) (by omega))) (lE oai (l_nil ?_)))))))
  exact f_cut ⟨k + 1,⟨⟨rfl,rfl,rfl⟩,rfl,⟨by omega,upto_past hp2 (by omega)⟩⟩,(show al.length - (k + 1) < al.length - k from by omega)⟩
 refine c_exit (f_then_exit (f_then_exit (f_exit (ftc (lE oab (lnf (c_ret (ret1 Tryz.results78 rfl ?_))))))))
 intro w hw
 exact ⟨bool_t (upto_eq hxy (show ys.length ≤ k by omega) hp2),st_mask [] rfl hw⟩
theorem keptWorld_ok (β : Base) (w : World) (hw : St β [] w) (x y : KWorld) (v v' : Value) (hx : LESl β.heap v x.ents) (hy : Sl EntR β.heap v' y.ents) : Ret Tryz.prog 27 #[.agg #[Ix x.tick, v], .agg #[Ix y.tick, v']] β w (.bool (decide (x = y))) := by
 obtain ⟨va,vc,rfl,vl,vm,ve,vf⟩ := hx
 obtain ⟨v'a,v'c,rfl,v'l,v'm,v'e⟩ := hy.get
 refine enter (n := 15) Tryz.func27 rfl Tryz.ntmps27 rfl ?_ hw
 refine csr (bxa fun b1 => ?_)
 refine bxa fun b2 => ?_
 refine lE oab (lnc (lE (olg 1) (lE (olg 0) ?_)))
 refine lcR clA (fun w β1 sb kn hw1 => sameWorld_ok β1 w hw1 (⟨x.tick,x.ents⟩ : KWorld) (⟨y.tick,y.ents⟩ : KWorld) _ _ (Sl.mono _ _ _ _ _ sb (⟨⟨_,_,rfl,by omega,vm,Elems.left vf⟩⟩ : Sl EntR _ _ x.ents)) (Sl.mono _ _ _ _ _ sb (⟨⟨_,_,rfl,v'l,v'm,v'e⟩⟩ : Sl EntR _ _ y.ents))) ?_
 refine lE omb (l_split (s := 8) rfl (fun hg3 => ?_) (fun hg3 => ?_))
 ·refine gE ofp (gE (ols 1) (gE ofp (gE (ols 0) (g_call rfl rfl rfl rfl rfl (cl0 (vs := [sB va x.ents (vc),sB v'a y.ents (v'c)]) tx95.ok rfl rfl) ?_))))
  intro w hw
  obtain ⟨β1,sb,kn,hw1,back⟩ := St.frame_all hw
  refine (keptEntities_ok β1 w hw1 _ _ x.ents y.ents (LESl.mono _ _ _ _ sb (⟨_,_,rfl,vl,vm,ve,vf⟩ : LESl _ _ x.ents)) (Sl.mono _ _ _ _ _ sb (⟨⟨_,_,rfl,v'l,v'm,v'e⟩⟩ : Sl EntR _ _ y.ents))).mono ?_
  rintro e w' ⟨rfl,hw'⟩
  refine ⟨_,rfl,_,back _ _ hw',?_⟩
  clear hw hw1 hw' back kn sb
  refine lE oktb (lE oab (lnf (c_ret (ret1 Tryz.results27 rfl ?_))))
  intro w hw
  exact ⟨by rw [decide_eq_true hg3,decide_eq_true (congrArg KWorld.ents hg3)] <;> rfl,st_mask [false,false] rfl hw⟩
 iterate 5 refine skE ?_
 refine lE okfb (lE oab (lnf (c_ret (ret1 Tryz.results27 rfl ?_))))
 intro w hw
 exact ⟨bool_f hg3,st_mask [false,false] rfl hw⟩
end Go.Proofs
namespace Go.Proofs
open Go Go.Sl
instance tx96 : CfC Tryz.prog 173 := ⟨by kernel_rfl⟩
instance tx97 : CfC Tryz.prog 107 := ⟨by kernel_rfl⟩
instance tx98 : CfC Tryz.prog 57 := ⟨by kernel_rfl⟩
theorem lentComps_ok (β : Base) (w : World) (hw : St β [] w) (v : Value) (xs : List KComp) (hs : Sl CompR β.heap v xs) (hn : xs.length ≤ 1000) : Calls Tryz.prog 173 #[v] w fun r w' => ∃ p c, r = .returned (sB p xs c) ∧ St β [row (.slice p (xs.length + 12) c) 120 5 (xs.length + 12) ((xs ++ marksC 12).flatMap compE)] w' := by
 obtain ⟨va,vc,rfl,vl,vm,ve⟩ := hs.get
 refine enter (n := 25) Tryz.func173 rfl Tryz.ntmps173 rfl ?_ hw
 refine csr (lE oas (lnc (lE oms (lE oln (lv (v := Nx (xs.length + 12)) (e_add rfl rfl (i64n (by omega) (by omega))) ?_)))))
 refine l_mv rfl rfl rfl (m_make0 (c := xs.length + 12) tx14 tx69 tx16.ok rfl rfl (by omega) (by unfold maxLen; omega) (by omega)) ?_
 rintro _ _ ⟨b1,rfl,rfl⟩
 refine lE oas (lnc (lE oms (lE oms ?_)))
 refine l_mv rfl rfl rfl (m_append_w 0 tx14 tx69 (v := .slice (some ⟨b1,0,none⟩) 0 (xs.length + 12)) (m := 0) (vs := []) (ao := va) (k := xs.length) (c := vc) (news := (xs.flatMap compE)) rfl rfl rfl (comp_len xs) (Knows.of_base (Cs.mono _ _) (elems_comps ve)) (comp_one xs) (elems_ba ve) (by unfold maxLen; omega) (by omega)) ?_
 rintro _ _ ⟨rp2,rc3,rfl,rfl⟩
 refine lE oas (lnf (cs2 (c_region (lE oai (lnf (c_block (c_mask [true] rfl ?_)))))))
 refine c_loop (fun (x_ : Nat × Value) f L => match x_ with | (k,z) => (f 0 = sB va xs (vc) ∧ f 3 = z ∧ f 4 = Nx (k)) ∧ L = [row z 120 5 (xs.length + k) (((xs ++ marksC k).flatMap compE))] ∧ (k ≤ 12)) (fun (k,z) => 12 - k) (0,(.slice rp2 (0 + xs.length) rc3)) ?_ ?_
 ·exact ⟨⟨rfl,rfl,rfl⟩,(by simp [mask,marksC]),(by omega)⟩
 rintro ⟨k,z⟩ f0 L0 ⟨⟨hs0,hs3,hs4⟩,hL,hk⟩
 subst L0
 refine rbs 0 hs0 (rbs 3 hs3 (rbs 4 hs4 (cs2 (c_region (lE omi (lE olt (lnf (c_if _ rfl (fun hc4 => ?_) (fun hc4 => ?_)))))))))
 ·refine csk (c_seq (c_block (c_region (lv e_move (lE omi (lcR clA (fun w β1 sb kn hw1 => markComp_ok β1 w hw1 k (by omega)) ?_))))))
  refine l_mv rfl rfl rfl (m_slices tx14 tx16.ok (cells := #[Bx ((markC k).kind),Ix ((markC k).v0),Ix ((markC k).v1),Ix ((markC k).v2),Ix ((markC k).v3)]) rfl rfl rfl rfl) ?_
  rintro _ _ ⟨b5,rfl,rfl⟩
  refine l_mv rfl rfl rfl (m_append 1 tx14 tx69 (v := z) (m := xs.length + k) (vs := ((xs ++ marksC k).flatMap compE)) (ad := ⟨b5,0,none⟩) (k := 1) (c := 1) (news := [Bx ((markC k).kind),Ix ((markC k).v0),Ix ((markC k).v1),Ix ((markC k).v2),Ix ((markC k).v3)]) rfl rfl rfl rfl (k_pt 0 rfl rfl) rfl (by unfold maxLen; omega) (by omega)) ?_
  rintro v6 _ ⟨hnv6,rfl⟩
  refine lv e_assign (l_nil (f_block (f_then (c_region (lE omi (lv (v := Nx (k + 1)) (e_add rfl rfl (i64n (by omega) (by omega))) (lE oai (l_nil ?_))))))))
  refine f_mask (L' := [row v6 120 5 ((xs.length + k) + 1) (((xs ++ marksC k).flatMap compE) ++ [Bx ((markC k).kind),Ix ((markC k).v0),Ix ((markC k).v1),Ix ((markC k).v2),Ix ((markC k).v3)])]) [false,true] rfl ?_
  exact f_cut ⟨(k + 1,v6),⟨⟨rfl,rfl,rfl⟩,(by rw [marksC_succ,← List.append_assoc,List.flatMap_append (xs := xs ++ marksC k)]; simp [compE,Nat.add_assoc]),(by omega)⟩,(show 12 - (k + 1) < 12 - k from by omega)⟩
 refine c_exit (f_then_exit (f_then_exit (f_exit (fts ?_))))
 have hke : k = 12 := by omega
 subst hke
 refine c_rowform 0 rfl (fun rp rc hrv hrc hrm => ?_)
 subst hrv
 refine c_region (lE oms (lE oms (lE oln ?_)))
 refine lv (v := sB rp xs rc) (e_slice_hi (a := rp) (len := xs.length + 12) (cap := rc) (h := xs.length) tx14 rfl rfl (by omega)) (lE oas (lnf ?_))
 refine c_ret (ret1 Tryz.results173 rfl ?_)
 intro w hw
 exact ⟨rp,rc,rfl,st_mask [true] rfl hw⟩
theorem lentEntity_ok (β : Base) (w : World) (hw : St β [] w) (e : KEnt) (v : Value) (hs : Sl CompR β.heap v e.comps) (hn : e.comps.length ≤ 1000) : Calls Tryz.prog 107 #[.agg #[Ix e.id, v]] w fun r w' => ∃ p c, r = .returned (.agg #[Ix e.id, sB p e.comps c]) ∧ St β [row (.slice p (e.comps.length + 12) c) 120 5 (e.comps.length + 12) ((e.comps ++ marksC 12).flatMap compE)] w' := by
 obtain ⟨va,vc,rfl,vl,vm,ve⟩ := hs.get
 refine enter (n := 8) Tryz.func107 rfl Tryz.ntmps107 rfl ?_ hw
 refine csr (bxa fun b1 => ?_)
 refine alE fun b2 => lnc (lE ofp (lE (ols 1) ?_))
 refine lcf (cl0 (vs := [sB va e.comps (vc)]) tx96.ok rfl rfl) rfl fun w β1 sb kn hw1 back => (lentComps_ok β1 w hw1 _ e.comps (Sl.mono _ _ _ _ _ sb (⟨⟨_,_,rfl,vl,vm,ve⟩⟩ : Sl CompR _ _ e.comps)) (by assumption)).mono ?_
 rintro e w' ⟨p3,c4,rfl,hw'⟩
 refine ⟨_,rfl,_,back _ _ hw',?_⟩
 clear hw1 hw' back kn sb
 refine lE ofp (lu (mS 2 (#[Ix (e.id),sB p3 e.comps c4])) (lnc (lE (olg 2) (lu (mS 1 (#[Ix (e.id),sB p3 e.comps c4])) (lnf (c_ret ?_))))))
 refine retG (m := [.agg #[Ix (e.id),sB p3 e.comps c4]]) Tryz.results107 ⟨rd_cell tx24.ok rfl (k_pt 1 rfl rfl) rfl,trivial⟩ rfl ?_
 intro w hw
 exact ⟨_,_,rfl,st_mask [true,false,false] rfl hw⟩
theorem lentEntities_ok (β : Base) (w : World) (hw : St β [] w) (v : Value) (xs : List KEnt) (hs : Sl EntR β.heap v xs) (hn : xs.length ≤ 1000) (hbig : ∀ (i : Nat) e, xs[i]? = some e → e.comps.length ≤ 20) : Calls Tryz.prog 57 #[v] w fun r w' => ∃ p c vs, r = .returned (sB p xs c) ∧ vs.length = xs.length ∧ St β (row (.slice p (xs.length + 12) c) 59 2 (xs.length + 12) (entCells (vs ++ nils 12) (xs ++ marksE 12)) :: lentRows vs xs) w' := by
 obtain ⟨va,vc,rfl,vl,vm,ve⟩ := hs.get
 refine enter (n := 39) Tryz.func57 rfl Tryz.ntmps57 rfl ?_ hw
 refine csr (lE oas (lnc (lE oms (lE oln (lv (v := Nx (xs.length + 12)) (e_add rfl rfl (i64n (by omega) (by omega))) ?_)))))
 refine l_mv rfl rfl rfl (m_make0 (c := xs.length + 12) tx32 tx72 tx33.ok rfl rfl (by omega) (by unfold maxLen; omega) (by omega)) ?_
 rintro _ _ ⟨b1,rfl,rfl⟩
 refine lE oas (lnf (cs2 (c_region (lE oai (lnf (c_block (c_mask [true] rfl ?_)))))))
 refine c_loop (fun (x_ : Nat × Value × List Value) f L => match x_ with | (k,z,vs) => (f 0 = sB va xs (vc) ∧ f 3 = z ∧ f 4 = Nx (k)) ∧ L = (row z 59 2 (k) ((entCells vs (xs.take k))) :: (lentRows vs (xs.take k))) ∧ (k ≤ xs.length ∧ vs.length = k)) (fun (k,z,vs) => xs.length - k) (0,(.slice (some ⟨b1,0,none⟩) 0 (xs.length + 12)),[]) ?_ ?_
 ·exact ⟨⟨rfl,rfl,rfl⟩,(by simp [mask,entCells,lentRows]),⟨by omega,rfl⟩⟩
 rintro ⟨k,z,vs⟩ f0 L0 ⟨⟨hs0,hs3,hs4⟩,hL,⟨hp1,hp2⟩⟩
 subst L0
 refine rbs 0 hs0 (rbs 3 hs3 (rbs 4 hs4 (cs2 (c_region (lE omi (lE oms (lE oln (lE olt (lnf (c_if _ rfl (fun hc2 => ?_) (fun hc2 => ?_)))))))))))
 ·refine csk (c_seq (c_block (csr (lE oms (lE omi ?_)))))
  obtain ⟨x3,hx4⟩ := getx xs k (by omega)
  obtain ⟨ha5,cs6,hc7,hr8⟩ := ve _ _ hx4
  obtain ⟨v9,rfl,hv10⟩ := hr8
  obtain ⟨v9a,v9c,rfl,v9l,v9m,v9e⟩ := hv10.get
  refine lE (oia tx32 ha5) (lv (v := .agg #[Ix (x3.id),sB v9a x3.comps (v9c)]) (e_load tx24.ok rfl (kB hc7) rfl) ?_)
  refine lcf (cl0 (vs := [.agg #[Ix (x3.id),sB v9a x3.comps (v9c)]]) tx97.ok rfl rfl) rfl fun w β1 sb kn hw1 back => (lentEntity_ok β1 w hw1 x3 _ (Sl.mono _ _ _ _ _ sb (⟨⟨_,_,rfl,v9l,v9m,v9e⟩⟩ : Sl CompR _ _ x3.comps)) (by have := hbig _ _ hx4; omega)).mono ?_
  rintro e w' ⟨p11,c12,rfl,hw'⟩
  refine ⟨_,rfl,_,back _ _ hw',?_⟩
  clear hw1 hw' back kn sb
  refine alE fun b13 => lu (mS 0 (#[Ix (x3.id),sB p11 x3.comps c12])) (lnr (lv e_move (lE (olg 0) ?_)))
  refine l_mv rfl rfl rfl (m_slices tx32 tx33.ok (cells := #[Ix (x3.id),sB p11 x3.comps c12]) rfl rfl rfl rfl) ?_
  rintro _ _ ⟨b14,rfl,rfl⟩
  refine l_mv rfl rfl rfl (m_append 3 tx32 tx72 (v := z) (m := k) (vs := (entCells vs (xs.take k))) (ad := ⟨b14,0,none⟩) (k := 1) (c := 1) (news := [Ix (x3.id),sB p11 x3.comps c12]) rfl rfl rfl rfl (k_pt 0 rfl rfl) rfl (by unfold maxLen; omega) (by omega)) ?_
  rintro v15 _ ⟨hnv15,rfl⟩
  refine lv e_assign (l_nil (f_block (f_then (c_region (lE omi (lv (v := Nx (k + 1)) (e_add rfl rfl (i64n (by omega) (by omega))) (lE oai (l_nil ?_))))))))
  refine f_mask [false,false,true,true] rfl (f_perm (List.Perm.swap _ _ _) ?_)
  refine f_turn (L' := (row v15 59 2 (k + 1) ((entCells vs (xs.take k)) ++ [Ix (x3.id),sB p11 x3.comps c12]) :: lentRow (sB p11 x3.comps c12) x3 :: (lentRows vs (xs.take k)))) (fun w h => h.conseq_at 1 rfl (fun a h => ⟨_,_,rfl,h⟩)) ?_
  refine f_perm (L' := (row v15 59 2 (k + 1) ((entCells vs (xs.take k)) ++ [Ix (x3.id),sB p11 x3.comps c12]) :: (lentRows (vs ++ [sB p11 x3.comps c12]) (xs.take (k + 1))))) ((lent_rows_snoc hx4 hp2 (by omega)).cons _) ?_
  exact f_cut ⟨(k + 1,v15,(vs ++ [sB p11 x3.comps c12])),⟨⟨rfl,rfl,rfl⟩,(by rw [ent_cells_snoc hx4 hp2 (by omega)]),⟨by omega,by simp; omega⟩⟩,(show xs.length - (k + 1) < xs.length - k from by omega)⟩
 refine c_exit (f_then_exit (f_then_exit (f_exit (fts (c_seq ?_)))))
 have hke : k = xs.length := by omega
 subst hke
 rw [List.take_of_length_le (Nat.le_refl xs.length)]
 refine c_region (lE oai (lnf (c_block (c_mask [true] rfl ?_))))
 refine c_loop (fun (x_ : Nat × Value) f L => match x_ with | (k,y) => (f 0 = sB va xs (vc) ∧ f 3 = y ∧ f 6 = Nx (k)) ∧ L = (row y 59 2 (xs.length + k) ((entCells (vs ++ nils k) (xs ++ marksE k))) :: (lentRows vs xs)) ∧ (k ≤ 12)) (fun (k,y) => 12 - k) (0,z) ?_ ?_
 ·exact ⟨⟨rfl,rfl,rfl⟩,(by simp [mask,nils,marksE]),(by omega)⟩
 rintro ⟨k,y⟩ f0 L0 ⟨⟨hs0,hs3,hs6⟩,hL,hk⟩
 subst L0
 refine rbs 0 hs0 (rbs 3 hs3 (rbs 6 hs6 (cs2 (c_region (lE omi (lE olt (lnf (c_if _ rfl (fun hc16 => ?_) (fun hc16 => ?_)))))))))
 ·refine csk (c_seq (c_block (c_region (lv e_move (lE omi (lcR clA (fun w β1 sb kn hw1 => markEntity_ok β1 w hw1 k (by omega)) ?_))))))
  refine l_mv rfl rfl rfl (m_slices tx32 tx33.ok (cells := #[Ix ((markE k).id),.slice none 0 0]) rfl rfl rfl rfl) ?_
  rintro _ _ ⟨b17,rfl,rfl⟩
  refine l_mv rfl rfl rfl (m_append 1 tx32 tx72 (v := y) (m := xs.length + k) (vs := (entCells (vs ++ nils k) (xs ++ marksE k))) (ad := ⟨b17,0,none⟩) (k := 1) (c := 1) (news := [Ix ((markE k).id),.slice none 0 0]) rfl rfl rfl rfl (k_pt 0 rfl rfl) rfl (by unfold maxLen; omega) (by omega)) ?_
  rintro v18 _ ⟨hnv18,rfl⟩
  refine lv e_assign (l_nil (f_block (f_then (c_region (lE omi (lv (v := Nx (k + 1)) (e_add rfl rfl (i64n (by omega) (by omega))) (lE oai (l_nil ?_))))))))
  refine f_mask [false,true] rfl ?_
  exact f_cut ⟨(k + 1,v18),⟨⟨rfl,rfl,rfl⟩,(by rw [nils_succ,marksE_succ,← List.append_assoc,← List.append_assoc,ent_cells_append (vs := vs ++ nils k) (es := xs ++ marksE k) (by simp [nils_len,marksE_len,hp2])]; rfl),(by omega)⟩,(show 12 - (k + 1) < 12 - k from by omega)⟩
 refine c_exit (f_then_exit (f_then_exit (f_exit (fts ?_))))
 have hke : k = 12 := by omega
 subst hke
 refine c_rowform 0 rfl (fun rp rc hrv hrc hrm => ?_)
 subst hrv
 refine c_region (lE oms (lE oms (lE oln ?_)))
 refine lv (v := sB rp xs rc) (e_slice_hi (a := rp) (len := xs.length + 12) (cap := rc) (h := xs.length) tx32 rfl rfl (by omega)) (lE oas (lnf ?_))
 refine c_ret (ret1 Tryz.results57 rfl ?_)
 intro w hw
 exact ⟨rp,rc,vs,rfl,hp2,st_mask (L' := (row (.slice rp (xs.length + 12) rc) 59 2 (xs.length + 12) ((entCells (vs ++ nils 12) (xs ++ marksE 12))) :: (lentRows vs xs))) [true] rfl hw⟩
theorem lentWorld_ok (β : Base) (w : World) (hw : St β [] w) (x : KWorld) (v : Value) (hs : Sl EntR β.heap v x.ents) (hn : x.ents.length ≤ 1000) (hbig : ∀ (i : Nat) e, x.ents[i]? = some e → e.comps.length ≤ 20) : Calls Tryz.prog 16 #[.agg #[Ix x.tick, v]] w fun r w' => ∃ p c vs, r = .returned (.agg #[Ix x.tick, sB p x.ents c]) ∧ vs.length = x.ents.length ∧ St β (row (.slice p (x.ents.length + 12) c) 59 2 (x.ents.length + 12) (entCells (vs ++ nils 12) (x.ents ++ marksE 12)) :: lentRows vs x.ents) w' := by
 obtain ⟨va,vc,rfl,vl,vm,ve⟩ := hs.get
 refine enter (n := 8) Tryz.func16 rfl Tryz.ntmps16 rfl ?_ hw
 refine csr (bxa fun b1 => ?_)
 refine alE fun b2 => lnc (lE ofp (lE (ols 1) ?_))
 refine lcf (cl0 (vs := [sB va x.ents (vc)]) tx98.ok rfl rfl) rfl fun w β1 sb kn hw1 back => (lentEntities_ok β1 w hw1 _ x.ents (Sl.mono _ _ _ _ _ sb (⟨⟨_,_,rfl,vl,vm,ve⟩⟩ : Sl EntR _ _ x.ents)) (by assumption) (by assumption)).mono ?_
 rintro e w' ⟨p3,c4,vs5,rfl,hvs,hw'⟩
 refine ⟨_,rfl,_,St.perm (L' := row (.slice p3 (x.ents.length + 12) c4) 59 2 (x.ents.length + 12) ((entCells (vs5 ++ nils 12) (x.ents ++ marksE 12))) :: pt b2 (.cells #[.int .i64 (0),.slice none 0 0] 24) :: pt b1 (.cells #[Ix (x.tick),sB va x.ents (vc)] 24) :: (lentRows vs5 x.ents)) (back _ _ hw') (List.Perm.cons _ List.perm_append_comm),?_⟩
 clear hw1 hw' back kn sb
 refine lE ofp (lu (mS 2 (#[Ix (x.tick),sB p3 x.ents c4])) (lnc (lE (olg 2) (lu (mS 1 (#[Ix (x.tick),sB p3 x.ents c4])) (lnf (c_ret ?_))))))
 refine retG (m := [.agg #[Ix (x.tick),sB p3 x.ents c4]]) Tryz.results16 ⟨rd_cell tx46.ok rfl (k_pt 1 rfl rfl) rfl,trivial⟩ rfl ?_
 intro w hw
 exact ⟨_,_,_,rfl,hvs,st_mask (L' := (row (.slice p3 (x.ents.length + 12) c4) 59 2 (x.ents.length + 12) ((entCells (vs5 ++ nils 12) (x.ents ++ marksE 12))) :: (lentRows vs5 x.ents))) [true,false,false] rfl hw⟩
end Go.Proofs
