/-
  The chapter's laws in plain terms. Own work; plain Lean.
-/
import Derived.Test.YtmgpmgckbcjalaaBrSp
namespace Go.Brd
open Go.Sl Go.Proofs
structure KF where
  x : UInt8
  y : UInt8
  w : UInt8
  h : UInt8
  deriving DecidableEq
abbrev FormF : Fl KF := ⟨4, fun f => [Bx f.x, Bx f.y, Bx f.w, Bx f.h], fun _ => rfl, fun _ => rfl, by decide⟩
def madeA (f : KF) : KA := ⟨((f.x.toNat % 128 : Nat) : Int) - 64, ((f.y.toNat % 128 : Nat) : Int) - 64, ((f.x.toNat % 128 : Nat) : Int) - 64 + (f.w.toNat : Int), ((f.y.toNat % 128 : Nat) : Int) - 64 + (f.h.toNat : Int)⟩
theorem u8_lt (x : UInt8) : x.toNat < 256 := x.toNat_lt
theorem made_okA (f : KF) : okA (madeA f) := by
  have h1 := u8_lt f.w; have h2 := u8_lt f.h
  unfold okA okSpan madeA; simp only; omega
def listA (l : List KF) : List KA := (l.take 40).map madeA
theorem listA_ok {l : List KF} {a : KA} (h : a ∈ listA l) : okA a := by
  obtain ⟨f, _, rfl⟩ := List.mem_map.1 h
  exact made_okA f
theorem list_next {l : List KF} {k : Nat} {x : KF} (hx : l[k]? = some x) : (l.take k).map madeA ++ [madeA x] = (l.take (k + 1)).map madeA := by
  rw [List.take_add_one, hx, List.map_append]; rfl
theorem list_done {l : List KF} {k : Nat} (h : k ≤ 40) (h2 : k ≤ l.length) (h3 : ¬ (k < l.length ∧ k < 40)) : (l.take k).map madeA = listA l := by
  unfold listA
  by_cases h4 : k = 40
  · rw [h4]
  · rw [List.take_of_length_le (by omega), List.take_of_length_le (by omega)]
/-! a space that is filled -/
def fillS (l : List KA) (m : Int) : KSp := ⟨(things l 0).map fun t => (t.id * m, t.ar), []⟩
theorem fill_len (l : List KA) (m : Int) : (fillS l m).ar.length = l.length := by unfold fillS; rw [List.length_map, things_len]
theorem fill_ids {l : List KA} {m : Int} {id : Int} (h : id ∈ (fillS l m).ar.map (·.1)) : ∃ k : Nat, k < l.length ∧ id = (k : Int) * m := by
  obtain ⟨p, hp, rfl⟩ := List.mem_map.1 h
  obtain ⟨t, ht, rfl⟩ := List.mem_map.1 hp
  obtain ⟨k, hk⟩ := List.getElem?_of_mem ht
  rw [things_get] at hk
  cases hl : l[k]? with
  | none => rw [hl] at hk; cases hk
  | some a => rw [hl] at hk; injection hk with hk; subst hk; exact ⟨k, (List.getElem?_eq_some_iff.1 hl).1, by simp⟩
theorem fill_no {l : List KA} {m : Int} (hm : 0 < m) : ¬ hasS (fillS l m) ((l.length : Int) * m) := fun h => by
  obtain ⟨k, hk, e⟩ := fill_ids h
  have h1 := Int.eq_of_mul_eq_mul_right (by omega) e
  omega
theorem fill_put {l : List KA} {m : Int} {k : Nat} {x : KA} (hm : 0 < m) (hm5 : m ≤ 5) (hl : l.length ≤ 40) (hx : l[k]? = some x) (hok : okA x) :
    errPut (fillS (l.take k) m) ((k : Int) * m) x = 0 ∧ putX (fillS (l.take k) m) ((k : Int) * m) x = fillS (l.take (k + 1)) m := by
  have hk := (List.getElem?_eq_some_iff.1 hx).1
  have htk : (l.take k).length = k := by rw [List.length_take]; omega
  have hno : ¬ hasS (fillS (l.take k) m) ((k : Int) * m) := by have := fill_no (l := l.take k) hm; rwa [htk] at this
  have h1 : 0 ≤ (k : Int) * m := Int.mul_nonneg (by omega) (by omega)
  have h2 : (k : Int) * m ≤ 40 * 5 := Int.mul_le_mul (by omega) hm5 (by omega) (by omega)
  have he : errPut (fillS (l.take k) m) ((k : Int) * m) x = 0 := by
    unfold errPut
    rw [if_pos ⟨h1, by omega, hok⟩, if_neg]
    rintro ⟨_, h3⟩
    rw [fill_len, htk] at h3; omega
  refine ⟨he, ?_⟩
  unfold putX
  rw [if_pos he]
  unfold putS
  rw [del_no hno, List.take_add_one, hx]
  show (⟨_, _⟩ : KSp) = ⟨(things (l.take k ++ [x]) 0).map _, _⟩
  rw [things_snoc, List.map_append, htk, Nat.zero_add]; rfl
theorem fill_okS {l : List KA} {m : Int} (hm : 0 < m) (hl : l.length ≤ 128) (hok : ∀ a ∈ l, okA a) : (fillS l m).ok := by
  refine ⟨by rw [fill_len]; exact hl, ?_, Nat.zero_le _, ?_, List.nodup_nil⟩
  · intro p hp
    obtain ⟨t, ht, rfl⟩ := List.mem_map.1 hp
    obtain ⟨k, hk⟩ := List.getElem?_of_mem ht
    rw [things_get] at hk
    cases hl : l[k]? with
    | none => rw [hl] at hk; cases hk
    | some a => rw [hl] at hk; injection hk with hk; subst hk; exact hok a (List.mem_of_getElem? hl)
  · show (((things l 0).map fun t => (t.id * m, t.ar)).map (·.1)).Nodup
    rw [List.map_map]
    have := things_ids l 0
    refine (List.pairwise_map.2 (this.imp fun {x y} h => ?_) : List.Pairwise (· ≠ ·) _)
    exact fun e => by have := Int.eq_of_mul_eq_mul_right (by omega) e; omega
/-! without -/
def inL (l m : List KP) : Int := ((l.filter fun p => decide (p ∈ m)).length : Nat)
theorem wo_yes {l m : List KP} {k : Nat} {x : KP} (hx : l[k]? = some x) (h : x ∈ m) : beganL m (l.take k) = beganL m (l.take (k + 1)) ∧ inL (l.take k) m + 1 = inL (l.take (k + 1)) m := by
  rw [List.take_add_one, hx]
  refine ⟨began_no h, ?_⟩
  unfold inL
  rw [List.filter_append]; simp [h]
theorem wo_no {l m : List KP} {k : Nat} {x : KP} (hx : l[k]? = some x) (h : x ∉ m) : beganL m (l.take k) ++ [x] = beganL m (l.take (k + 1)) ∧ inL (l.take k) m = inL (l.take (k + 1)) m := by
  rw [List.take_add_one, hx]
  refine ⟨began_yes h, ?_⟩
  unfold inL
  rw [List.filter_append]; simp [h]
theorem inL_le (l m : List KP) : 0 ≤ inL l m ∧ inL l m ≤ l.length := by
  unfold inL
  have := List.length_filter_le (fun p => decide (p ∈ m)) l
  omega
theorem some_next {m : List KP} {k : Nat} {x y : KP} (hy : m[k]? = some y) : (decide (x ∈ m.take k) || decide (x = y)) = decide (x ∈ m.take (k + 1)) := by
  rw [List.take_add_one, hy]; simp
/-! areas -/
end Go.Brd
