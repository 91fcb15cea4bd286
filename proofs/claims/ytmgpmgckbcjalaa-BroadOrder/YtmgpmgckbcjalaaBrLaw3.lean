/-
  Areas that are put in another order, in plain terms. Own work; plain Lean.
-/
import Derived.Test.YtmgpmgckbcjalaaBrLaw2
namespace Go.Sl
theorem rowF_take {α : Type} {F : Fl α} {T c k : Nat} {p : Option Addr} {xs : List α} (hk : k ≤ xs.length) (a : PHeap) (h : rowF F T p c xs a) : rowF F T p c (xs.take k) a := by
  have hkl : (xs.take k).length = k := by rw [List.length_take]; omega
  have hm : k * F.n ≤ xs.length * F.n := Nat.mul_le_mul_right _ hk
  obtain ⟨hl, hr⟩ := h
  refine ⟨fl_len _, ?_⟩
  rw [hkl]
  rcases hr with ⟨e, h0⟩ | ⟨g, cap, cur, e, hg, h1, h2, h3, h4⟩
  · injection e with e1 _ e3
    subst e1; subst e3
    exact .inl ⟨by rw [show k = 0 by omega], by omega⟩
  · injection e with e1 _ e3
    subst e1; subst e3
    refine .inr ⟨g, c, cur, rfl, hg, by omega, h2, h3, ?_⟩
    rw [← fl_take, ← h4, List.take_take, Nat.min_eq_left hm]
end Go.Sl
namespace Go.Brd
open Go.Sl Go.Proofs
/-- areas in another order, with their numbers -/
def ordE (l : List KA) (t i : Nat) : List (Int × KA) := (List.range i).map fun j => ((((j + t) % l.length : Nat) : Int), l.getD ((j + t) % l.length) zeroA)
def lastE (l : List KA) (i : Nat) : List (Int × KA) := match i with | 0 => [] | i + 1 => [(((l.length + 7 : Nat) : Int), l.getD i zeroA)]
def ordS (l : List KA) (t i : Nat) : KSp := ⟨ordE l t i ++ lastE l i, []⟩
def entS (l : List KA) (t i : Nat) : KSp := ⟨ordE l t i, []⟩
def rotL (l : List KA) (t i : Nat) : List KA := (ordE l t i).map (·.2)
theorem ordE_next (l : List KA) (t i : Nat) : ordE l t (i + 1) = ordE l t i ++ [((((i + t) % l.length : Nat) : Int), l.getD ((i + t) % l.length) zeroA)] := by
  unfold ordE; rw [List.range_succ, List.map_append]; rfl
theorem ordE_len (l : List KA) (t i : Nat) : (ordE l t i).length = i := by unfold ordE; rw [List.length_map, List.length_range]
theorem rotL_next {l : List KA} {t i : Nat} {x : KA} (hx : l[(i + t) % l.length]? = some x) : rotL l t i ++ [x] = rotL l t (i + 1) := by
  unfold rotL
  rw [ordE_next, List.map_append]
  show _ = _ ++ [l.getD ((i + t) % l.length) zeroA]
  rw [List.getD_eq_getElem?_getD, hx]; rfl
theorem rot_inj {n t i j : Nat} (hi : i < n) (hj : j < n) (h : (i + t) % n = (j + t) % n) : i = j := by
  have e1 := Nat.div_add_mod (i + t) n
  have e2 := Nat.div_add_mod (j + t) n
  rw [h] at e1
  rcases Nat.lt_trichotomy ((i + t) / n) ((j + t) / n) with q | q | q
  · have := Nat.mul_le_mul_left n (show (i + t) / n + 1 ≤ (j + t) / n from q)
    rw [Nat.mul_add] at this; omega
  · rw [q] at e1; omega
  · have := Nat.mul_le_mul_left n (show (j + t) / n + 1 ≤ (i + t) / n from q)
    rw [Nat.mul_add] at this; omega
theorem ordE_ids {l : List KA} {t i : Nat} {id : Int} (h : id ∈ (ordE l t i).map (·.1)) : ∃ j, j < i ∧ id = (((j + t) % l.length : Nat) : Int) := by
  unfold ordE at h
  rw [List.map_map] at h
  obtain ⟨j, hj, rfl⟩ := List.mem_map.1 h
  exact ⟨j, List.mem_range.1 hj, rfl⟩
theorem lastE_ids {l : List KA} {i : Nat} {id : Int} (h : id ∈ (lastE l i).map (·.1)) : id = ((l.length + 7 : Nat) : Int) := by
  cases i with
  | zero => simp [lastE] at h
  | succ i => simp [lastE] at h; omega
theorem filter_keep {l : List (Int × KA)} {id : Int} (h : id ∉ l.map (·.1)) : (l.filter fun p => !decide (p.1 = id)) = l :=
  List.filter_eq_self.2 fun p hp => by
    have : p.1 ≠ id := fun e => h (List.mem_map.2 ⟨p, hp, e⟩)
    simp [this]
theorem ord_new {l : List KA} {t i : Nat} (hi : i < l.length) : (((i + t) % l.length : Nat) : Int) ∉ (ordE l t i).map (·.1) := fun h => by
  obtain ⟨j, hj, e⟩ := ordE_ids h
  have : (i + t) % l.length = (j + t) % l.length := by omega
  have := rot_inj hi (by omega) this
  omega
theorem last_new {l : List KA} {t i : Nat} (hi : i < l.length) : (((i + t) % l.length : Nat) : Int) ∉ (lastE l i).map (·.1) := fun h => by
  have := lastE_ids h
  have := Nat.mod_lt (i + t) (show 0 < l.length by omega)
  omega
theorem ord_seven {l : List KA} {t i : Nat} (hi : i ≤ l.length) : ((l.length + 7 : Nat) : Int) ∉ (ordE l t i).map (·.1) := fun h => by
  obtain ⟨j, hj, e⟩ := ordE_ids h
  have := Nat.mod_lt (j + t) (show 0 < l.length by omega)
  omega
theorem filter_last (l : List KA) (i : Nat) : ((lastE l i).filter fun p => !decide (p.1 = ((l.length + 7 : Nat) : Int))) = [] := by
  cases i with
  | zero => rfl
  | succ i => simp [lastE]
theorem errPut_zero {s : KSp} {id : Int} {a : KA} (h : argS id a) (hl : s.ar.length < 128) : errPut s id a = 0 := by
  unfold errPut; rw [if_pos h, if_neg (fun q => by have := q.2; omega)]
theorem lastE_len (l : List KA) (i : Nat) : (lastE l i).length ≤ 1 := by cases i <;> simp [lastE]
theorem ord_step {l : List KA} {t i : Nat} {x1 x2 x3 : KA} (h30 : l.length ≤ 30) (hok : ∀ a ∈ l, okA a) (hi : i < l.length) (hx1 : l[((i + t) % l.length + 1) % l.length]? = some x1) (hx2 : l[(i + t) % l.length]? = some x2) (hx3 : l[i]? = some x3) :
    errPut (ordS l t i) (((i + t) % l.length : Nat) : Int) x1 = 0 ∧ errPut (putX (ordS l t i) (((i + t) % l.length : Nat) : Int) x1) (((i + t) % l.length : Nat) : Int) x2 = 0 ∧
    errPut (putX (putX (ordS l t i) (((i + t) % l.length : Nat) : Int) x1) (((i + t) % l.length : Nat) : Int) x2) ((l.length + 7 : Nat) : Int) x3 = 0 ∧
    putX (putX (putX (ordS l t i) (((i + t) % l.length : Nat) : Int) x1) (((i + t) % l.length : Nat) : Int) x2) ((l.length + 7 : Nat) : Int) x3 = ordS l t (i + 1) := by
  have hr := Nat.mod_lt (i + t) (show 0 < l.length by omega)
  have k1 := ord_new (t := t) hi
  have k2 := last_new (t := t) hi
  have k3 := ord_seven (t := t) (show i ≤ l.length by omega)
  have k5 := lastE_len l i
  generalize hk : (i + t) % l.length = k at *
  have a1 : argS ((k : Nat) : Int) x1 := ⟨by omega, by omega, hok _ (List.mem_of_getElem? hx1)⟩
  have a2 : argS ((k : Nat) : Int) x2 := ⟨by omega, by omega, hok _ (List.mem_of_getElem? hx2)⟩
  have a3 : argS ((l.length + 7 : Nat) : Int) x3 := ⟨by omega, by omega, hok _ (List.mem_of_getElem? hx3)⟩
  have l0 : (ordS l t i).ar.length ≤ i + 1 := by show (ordE l t i ++ lastE l i).length ≤ _; rw [List.length_append, ordE_len]; omega
  have e1 : errPut (ordS l t i) (k : Int) x1 = 0 := errPut_zero a1 (by omega)
  have s1 : putX (ordS l t i) (k : Int) x1 = ⟨ordE l t i ++ lastE l i ++ [((k : Int), x1)], []⟩ := by
    unfold putX; rw [if_pos e1]
    show (⟨(ordE l t i ++ lastE l i).filter _ ++ _, _⟩ : KSp) = _
    rw [List.filter_append, filter_keep k1, filter_keep k2]; rfl
  rw [s1]
  have e2 : errPut ⟨ordE l t i ++ lastE l i ++ [((k : Int), x1)], []⟩ (k : Int) x2 = 0 := errPut_zero a2 (by simp only [List.length_append, ordE_len, List.length_singleton]; omega)
  have s2 : putX ⟨ordE l t i ++ lastE l i ++ [((k : Int), x1)], []⟩ (k : Int) x2 = ⟨ordE l t i ++ lastE l i ++ [((k : Int), x2)], []⟩ := by
    unfold putX; rw [if_pos e2]
    show (⟨(ordE l t i ++ lastE l i ++ [((k : Int), x1)]).filter _ ++ _, _⟩ : KSp) = _
    rw [List.filter_append, List.filter_append, filter_keep k1, filter_keep k2]; simp
  rw [s2]
  have e3 : errPut ⟨ordE l t i ++ lastE l i ++ [((k : Int), x2)], []⟩ ((l.length + 7 : Nat) : Int) x3 = 0 := errPut_zero a3 (by simp only [List.length_append, ordE_len, List.length_singleton]; omega)
  refine ⟨e1, e2, e3, ?_⟩
  unfold putX; rw [if_pos e3]
  show (⟨(ordE l t i ++ lastE l i ++ [((k : Int), x2)]).filter _ ++ _, _⟩ : KSp) = _
  rw [List.filter_append, List.filter_append, filter_keep k3, filter_last, List.append_nil]
  have k4 : ([((k : Int), x2)].filter fun p => !decide (p.1 = ((l.length + 7 : Nat) : Int))) = [((k : Int), x2)] := filter_keep (by simp; omega)
  rw [k4]
  unfold ordS
  rw [ordE_next, hk, List.getD_eq_getElem?_getD, hx2]
  show _ = (⟨_ ++ [(((l.length + 7 : Nat) : Int), l.getD i zeroA)], _⟩ : KSp)
  rw [List.getD_eq_getElem?_getD, hx3]; rfl
theorem ordE_nodup {l : List KA} {t : Nat} : ∀ {i}, i ≤ l.length → ((ordE l t i).map (·.1)).Nodup
  | 0, _ => List.nodup_nil
  | i + 1, h => by
    rw [ordE_next, List.map_append, List.nodup_append]
    refine ⟨ordE_nodup (by omega), by simp, ?_⟩
    rintro a ha b hb rfl
    have hb : a = _ := List.mem_singleton.1 hb
    rw [hb] at ha
    exact ord_new (t := t) (show i < l.length by omega) ha
theorem getD_ok {l : List KA} (hok : ∀ a ∈ l, okA a) {k : Nat} (hk : k < l.length) : okA (l.getD k zeroA) := by
  rw [List.getD_eq_getElem?_getD, List.getElem?_eq_getElem hk]; exact hok _ (List.getElem_mem hk)
theorem ent_okS {l : List KA} {t i : Nat} (h30 : l.length ≤ 30) (hok : ∀ a ∈ l, okA a) (hi : i ≤ l.length) : (entS l t i).ok := by
  refine ⟨by show (ordE l t i).length ≤ _; rw [ordE_len]; omega, ?_, Nat.zero_le _, ordE_nodup hi, List.nodup_nil⟩
  intro p hp
  obtain ⟨j, hj, rfl⟩ := List.mem_map.1 hp
  have := List.mem_range.1 hj
  exact getD_ok hok (Nat.mod_lt _ (by omega))
theorem ord_okS {l : List KA} {t i : Nat} (h30 : l.length ≤ 30) (hok : ∀ a ∈ l, okA a) (hi : i ≤ l.length) : (ordS l t i).ok := by
  have h1 := ent_okS (t := t) h30 hok hi
  have h2 := lastE_len l i
  refine ⟨by show (ordE l t i ++ lastE l i).length ≤ _; rw [List.length_append, ordE_len]; omega, ?_, Nat.zero_le _, ?_, List.nodup_nil⟩
  · intro p hp
    rcases List.mem_append.1 hp with hp | hp
    · exact h1.areas p hp
    · cases i with
      | zero => simp [lastE] at hp
      | succ i => simp [lastE] at hp; rw [hp]; have := getD_ok hok (show i < l.length by omega); rwa [List.getD_eq_getElem?_getD] at this
  · show ((ordE l t i ++ lastE l i).map (·.1)).Nodup
    rw [List.map_append, List.nodup_append]
    refine ⟨ordE_nodup hi, by cases i <;> simp [lastE], ?_⟩
    rintro a ha b hb rfl
    rw [lastE_ids hb] at ha
    exact ord_seven hi ha
theorem ord_drop {l : List KA} {t i : Nat} (hi : i ≤ l.length) : delS (ordS l t i) ((l.length + 7 : Nat) : Int) = entS l t i := by
  show (⟨(ordE l t i ++ lastE l i).filter _, _⟩ : KSp) = _
  rw [List.filter_append, filter_keep (ord_seven hi), filter_last, List.append_nil]; rfl
theorem ord_has {l : List KA} {t i : Nat} (h0 : 0 < i) : errDrop (ordS l t i) ((l.length + 7 : Nat) : Int) = 0 := by
  refine if_pos ?_
  show _ ∈ (ordE l t i ++ lastE l i).map (·.1)
  cases i with
  | zero => omega
  | succ i => rw [List.map_append, List.mem_append]; right; simp [lastE]
/-- turning a list permutes it -/
theorem rot_perm (n t : Nat) : ((List.range n).map fun j => (j + t) % n).Perm (List.range n) := by
  refine (List.perm_ext_iff_of_nodup ?_ List.nodup_range).2 fun k => ?_
  · refine (List.pairwise_map.2 ?_ : List.Pairwise (· ≠ ·) _)
    rw [List.pairwise_iff_getElem]
    intro i j hi hj hij
    rw [List.length_range] at hi hj
    rw [List.getElem_range, List.getElem_range]
    intro e
    have := rot_inj hi hj e
    omega
  · rw [List.mem_map, List.mem_range]
    constructor
    · rintro ⟨j, hj, rfl⟩
      exact Nat.mod_lt _ (by have := List.mem_range.1 hj; omega)
    · intro hk
      refine ⟨(k + (n - t % n)) % n, List.mem_range.2 (Nat.mod_lt _ (by omega)), ?_⟩
      have h1 := Nat.mod_lt t (show 0 < n by omega)
      rw [Nat.mod_add_mod]
      have h2 := Nat.div_add_mod t n
      have e : k + (n - t % n) + t = k + n * (t / n + 1) := by rw [Nat.mul_add]; omega
      rw [e, Nat.add_mul_mod_self_left, Nat.mod_eq_of_lt hk]
theorem things_range (l : List KA) : (things l 0).map (fun t => (t.id * 1, t.ar)) = (List.range l.length).map fun j => (((j : Nat) : Int), l.getD j zeroA) := by
  apply List.ext_getElem?
  intro k
  rw [List.getElem?_map, things_get, List.getElem?_map]
  by_cases hk : k < l.length
  · rw [List.getElem?_eq_getElem hk, List.getElem?_range hk]
    simp [hk]
  · rw [List.getElem?_eq_none (by omega), List.getElem?_eq_none (by rw [List.length_range]; omega)]; rfl
theorem ord_perm (l : List KA) (t : Nat) : (ordE l t l.length).Perm (fillS l 1).ar := by
  have h := (rot_perm l.length t).map fun j => ((((j : Nat) : Int)), l.getD j zeroA)
  rw [List.map_map] at h
  show (ordE l t l.length).Perm ((things l 0).map fun t => (t.id * 1, t.ar))
  rw [things_range]
  exact h
theorem ord_pairs (l : List KA) (t : Nat) : pairsS (fillS l 1) = pairsS (entS l t l.length) :=
  sortP_perm_eq (pairsT_perm ((ord_perm l t).symm.map thg))
/-! pairs under other numbers -/
def renP (f : Int → Int) (p : KP) : KP := ⟨min (f p.a) (f p.b), max (f p.a) (f p.b)⟩
theorem pairsT_ren (f : Int → Int) : ∀ l : List KT, pairsT (l.map fun t => ⟨f t.id, t.ar⟩) = (pairsT l).map (renP f)
  | [] => rfl
  | x :: l => by
    show hitsT _ _ ++ pairsT _ = (hitsT x l ++ pairsT l).map _
    rw [pairsT_ren f l, List.map_append]
    congr 1
    unfold hitsT
    rw [List.filter_map, List.map_map, List.map_map]
    refine List.map_congr_left fun y _ => ?_
    show mkP _ _ = renP f (mkP x y)
    unfold mkP renP
    simp only
    rcases Int.le_total x.id y.id with h | h
    · rw [Int.min_eq_left h, Int.max_eq_right h]
    · rw [Int.min_eq_right h, Int.max_eq_left h, Int.min_comm, Int.max_comm]
def turnF (t n : Nat) (x : Int) : Int := Int.tmod (x + (t : Int)) (n : Int)
theorem turn_nat (t n j : Nat) : turnF t n (j : Int) = (((j + t) % n : Nat) : Int) := by
  unfold turnF
  rw [show (j : Int) + (t : Int) = ((j + t : Nat) : Int) by omega]
  exact (Int.ofNat_tmod (j + t) n).symm
theorem rotL_len (l : List KA) (t i : Nat) : (rotL l t i).length = i := by unfold rotL; rw [List.length_map, ordE_len]
theorem rotL_ok {l : List KA} {t i : Nat} (hok : ∀ a ∈ l, okA a) (hi : i ≤ l.length) : ∀ a ∈ rotL l t i, okA a := by
  intro a ha
  unfold rotL ordE at ha
  rw [List.map_map] at ha
  obtain ⟨j, hj, rfl⟩ := List.mem_map.1 ha
  have := List.mem_range.1 hj
  exact getD_ok hok (Nat.mod_lt _ (by omega))
theorem rot_things (l : List KA) (t n : Nat) : ((things (rotL l t n) 0).map fun u => (⟨turnF t l.length u.id, u.ar⟩ : KT)) = (ordE l t n).map thg := by
  apply List.ext_getElem?
  intro k
  rw [List.getElem?_map, things_get, List.getElem?_map]
  unfold rotL ordE
  rw [List.getElem?_map, List.getElem?_map]
  by_cases hk : k < n
  · rw [List.getElem?_range hk]
    simp only [Option.map_some, Nat.zero_add, turn_nat]; rfl
  · rw [List.getElem?_eq_none (by rw [List.length_range]; omega)]; rfl
theorem fill_things (l : List KA) : (fillS l 1).ar.map thg = things l 0 := by
  unfold fillS
  rw [List.map_map]
  refine (List.map_congr_left fun t _ => ?_).trans (List.map_id _)
  show (⟨t.id * 1, t.ar⟩ : KT) = t
  rw [Int.mul_one]
theorem back_perm {l : List KA} {t : Nat} : ((pairsT (things (rotL l t l.length) 0)).map (renP (turnF t l.length))).Perm (pairsT (things l 0)) := by
  rw [← pairsT_ren, rot_things, ← fill_things l]
  exact pairsT_perm ((ord_perm l t).map thg)
theorem pair_bd {l : List KA} {p : KP} (h : p ∈ pairsT (things l 0)) : 0 ≤ p.a ∧ p.a < l.length ∧ 0 ≤ p.b ∧ p.b < l.length := by
  obtain ⟨x, hx, y, hy, rfl⟩ := mem_pairsT h
  obtain ⟨i, hi, e1⟩ := things_in hx
  obtain ⟨k, hk, e2⟩ := things_in hy
  have := (List.getElem?_eq_some_iff.1 hi).1
  have := (List.getElem?_eq_some_iff.1 hk).1
  unfold mkP
  simp only
  omega
theorem perm_none {l m : List KP} (h : m.Perm l) : beganL m l = [] ∧ inL l m = (m.length : Int) := by
  refine ⟨List.filter_eq_nil_iff.2 fun p hp => by simp [h.mem_iff.2 hp], ?_⟩
  unfold inL
  rw [List.filter_eq_self.2 fun p hp => by simp [h.mem_iff.2 hp], h.length_eq]
theorem ren_next {f : Int → Int} {l : List KP} {k : Nat} {p : KP} (hp : l[k]? = some p) : (l.take k).map (renP f) ++ [⟨min (f p.a) (f p.b), max (f p.a) (f p.b)⟩] = (l.take (k + 1)).map (renP f) := by
  rw [List.take_add_one, hp, List.map_append]; rfl
end Go.Brd
