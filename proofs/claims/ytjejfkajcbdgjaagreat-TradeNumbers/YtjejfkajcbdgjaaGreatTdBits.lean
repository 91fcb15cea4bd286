/-
 Own work; plain Lean (TdDo, TdMl, TdEq, TdBits).
-/
import Derived.Test.YtjejfkajcbdgjaaGreatTdKind
import Derived.Test.YtjejfkajcbdgjaaGreatTdBit
namespace Go.Td
open Go Go.Sl Go.Proofs
theorem run_holds {s0 : KSt} : ∀ {xs : List KAct} {s : KSt} {made : List Int} {k : Nat}, (runA s0 s made k xs).2.holds.length ≤ made.length + xs.length
 | [], _, _, _ => by simp [runA]
 | x :: xs, s, made, k => by
  unfold runA
  split
  ·refine Nat.le_trans (run_holds) ?_
   split <;> simp <;> omega
  ·simp
theorem carry_holds {s : KSt} {xs : List KAct} : (carryF s xs).2.holds.length ≤ xs.length := by
 have := run_holds (s0 := s) (xs := xs) (s := s) (made := []) (k := 0)
 simpa [carryF] using this
/-- a house: its state, and the last transaction of each author -/
structure KHs where
 s : KSt
 done : Int → Option KMem
def zeroRes : KRes := ⟨false, 0, 0, []⟩
/-- what Do answers, when the journal has room and power -/
noncomputable def doF (h : KHs) (au nu : Int) (al : List KAct) : KHs × KRes × Int :=
 if dformed au nu al = false then (h, zeroRes, 2)
 else match h.done au with
 | some m =>
  if m.d.number = nu then (if m.d.acts = al then (h, m.r, 0) else (h, zeroRes, 331))
  else if nu < m.d.number then (h, zeroRes, 332)
  else (⟨(carryF h.s al).1, fun a => if a = au then some ⟨⟨au, nu, al⟩, (carryF h.s al).2⟩ else h.done a⟩, (carryF h.s al).2, 0)
 | none => (⟨(carryF h.s al).1, fun a => if a = au then some ⟨⟨au, nu, al⟩, (carryF h.s al).2⟩ else h.done a⟩, (carryF h.s al).2, 0)
end Go.Td

namespace Go.Td
open Go Go.Sl Go.Proofs
section
variable {P : Program} {κ ν : Type} {K : MapK P κ ν} {ks : List (κ × ν)}
theorem look_cons (p : κ × ν) (k : κ) : K.look (p :: ks) k = if (letI := K.dec; decide (p.1 = k)) = true then some p.2 else K.look ks k := by
 letI := K.dec
 unfold MapK.look
 rw [List.find?_cons]
 by_cases h : p.1 = k
 ·simp [h]
 ·simp [h]
theorem map_same (a : κ) (v : ν) : ∀ ks : List (κ × ν), (K.look ks a).isSome = true → K.look (ks.map fun p => @ite _ (p.1 = a) (K.dec _ _) (a, v) p) a = some v
 | [], h => by simp [MapK.look] at h
 | p :: ks, h => by
  letI := K.dec
  rw [List.map_cons, look_cons]
  rw [look_cons] at h
  by_cases e : p.1 = a
  ·simp [e]
  ·simp [e] at h
   simp only [e, if_false, decide_false, Bool.false_eq_true]
   exact map_same a v ks h
theorem map_ne {a b : κ} (hb : b ≠ a) (v : ν) : ∀ ks : List (κ × ν), K.look (ks.map fun p => @ite _ (p.1 = a) (K.dec _ _) (a, v) p) b = K.look ks b
 | [] => rfl
 | p :: ks => by
  letI := K.dec
  rw [List.map_cons, look_cons, look_cons, map_ne hb v ks]
  by_cases e : p.1 = a
  ·have h1 : ¬ a = b := fun q => hb q.symm
   have h2 : ¬ p.1 = b := fun q => h1 (e.symm.trans q)
   simp [e, h1]
  ·simp [e]
theorem look_app {a b : κ} (v : ν) : ∀ ks : List (κ × ν), K.look (ks ++ [(a, v)]) b = match K.look ks b with | some u => some u | none => if (letI := K.dec; decide (a = b)) = true then some v else none
 | [] => by
  rw [List.nil_append, look_cons]; rfl
 | p :: ks => by
  letI := K.dec
  rw [List.cons_append, look_cons, look_cons, look_app v ks]
  by_cases e : p.1 = b
  ·simp [e]
  ·simp [e]
theorem put_same (a : κ) (v : ν) : K.look (K.put ks a v) a = some v := by
 letI := K.dec
 unfold MapK.put
 split
 ·rename_i h; exact map_same a v ks h
 ·rename_i h
  rw [look_app]
  have : K.look ks a = none := by cases q : K.look ks a with | none => rfl | some u => rw [q] at h; exact absurd rfl h
  rw [this]; simp
theorem put_ne {a b : κ} (hb : b ≠ a) (v : ν) : K.look (K.put ks a v) b = K.look ks b := by
 letI := K.dec
 unfold MapK.put
 split
 ·exact map_ne hb v ks
 ·rw [look_app]
  have h1 : ¬ a = b := fun q => hb q.symm
  cases q : K.look ks b with
  | none => simp [h1]
  | some u => rfl
end
end Go.Td

namespace Go.Td
open Go Go.Sl Go.Proofs
section
variable {P : Program} {κ ν : Type} {K : MapK P κ ν} {ks ls : List (κ × ν)}
theorem look_of_mem {k : κ} {v : ν} (hn : (ks.map (·.1)).Nodup) (h : (k, v) ∈ ks) : K.look ks k = some v := by
 obtain ⟨j, hj, e⟩ := List.getElem_of_mem h
 exact look_at hn (j := j) (by rw [List.getElem?_eq_getElem hj, e])
theorem perm_nodup (hp : ks.Perm ls) (hn : (ks.map (·.1)).Nodup) : (ls.map (·.1)).Nodup := (hp.map _).nodup_iff.1 hn
theorem look_perm (hp : ks.Perm ls) (hn : (ks.map (·.1)).Nodup) (k : κ) : K.look ks k = K.look ls k := by
 cases e : K.look ks k with
 | none =>
  symm
  rw [look_none] at e ⊢
  exact fun h => e ((hp.map _).mem_iff.2 h)
 | some v => exact (look_of_mem (perm_nodup hp hn) (hp.mem_iff.1 (look_mem e))).symm
theorem put_perm (hp : ks.Perm ls) (hn : (ks.map (·.1)).Nodup) (k : κ) (v : ν) : (K.put ks k v).Perm (K.put ls k v) := by
 unfold MapK.put
 rw [look_perm hp hn]
 split
 ·exact hp.map _
 ·exact hp.append_right _
theorem put_keys (k : κ) (v : ν) (h : (K.look ks k).isSome = true) : (K.put ks k v).map (·.1) = ks.map (·.1) := by
 unfold MapK.put
 rw [if_pos h, List.map_map]
 refine List.map_congr_left fun p _ => ?_
 letI := K.dec
 show (if p.1 = k then (k, v) else p).1 = p.1
 split
 ·rename_i e; exact e.symm
 ·rfl
theorem put_nodup (hn : (ks.map (·.1)).Nodup) (k : κ) (v : ν) : ((K.put ks k v).map (·.1)).Nodup := by
 by_cases h : (K.look ks k).isSome = true
 ·rw [put_keys k v h]; exact hn
 ·have e : K.look ks k = none := by cases q : K.look ks k with | none => rfl | some u => rw [q] at h; exact absurd rfl h
  unfold MapK.put
  rw [if_neg h, List.map_append]
  refine List.nodup_append.2 ⟨hn, by simp, fun a ha b hb => ?_⟩
  have : b = k := by simpa using hb
  rw [this]; rintro rfl
  exact look_none.1 e ha
theorem put_new {k : κ} {v : ν} (h : K.look ks k = none) : K.put ks k v = ks ++ [(k, v)] := by unfold MapK.put; rw [h]; rfl
theorem del_perm (hp : ks.Perm ls) (k : κ) : (K.del ks k).Perm (K.del ls k) := hp.filter _
theorem del_nodup (hn : (ks.map (·.1)).Nodup) (k : κ) : ((K.del ks k).map (·.1)).Nodup := by
 unfold MapK.del
 exact List.Nodup.sublist (List.Sublist.map _ List.filter_sublist) hn
end
structure EqS (s t : KSt) : Prop where
 p : s.ps.Perm t.ps
 h : s.hs.Perm t.hs
 l : s.last = t.last
 u : s.su = t.su
 np : (s.ps.map (·.1)).Nodup
 nh : (s.hs.map (·.1)).Nodup
theorem EqS.symm {s t : KSt} (h : EqS s t) : EqS t s := ⟨h.p.symm, h.h.symm, h.l.symm, h.u.symm, perm_nodup h.p h.np, perm_nodup h.h h.nh⟩
theorem EqS.trans {s t r : KSt} (h : EqS s t) (g : EqS t r) : EqS s r := ⟨h.p.trans g.p, h.h.trans g.h, h.l.trans g.l, h.u.trans g.u, h.np, h.nh⟩
section
variable {ps qs : List (Int × KAm)} (hp : ps.Perm qs) (hn : (ps.map (·.1)).Nodup) (n : Int) (a : KAm)
include hp hn
theorem puA_perm : puA ps n = puA qs n := by unfold puA; rw [look_perm hp hn]
theorem addX_perm : addX ps n a = addX qs n a := by unfold addX; rw [puA_perm hp hn, look_perm hp hn, hp.length_eq]
theorem takeX_perm : takeX ps n a = takeX qs n a := by unfold takeX; rw [puA_perm hp hn]
theorem addE_perm : addE ps n a = addE qs n a := by unfold addE; rw [addX_perm hp hn]
theorem takeE_perm : takeE ps n a = takeE qs n a := by unfold takeE; rw [takeX_perm hp hn]
theorem addP_perm : (addP ps n a).Perm (addP qs n a) ∧ ((addP ps n a).map (·.1)).Nodup := by
 unfold addP
 rw [← addX_perm hp hn, ← puA_perm hp hn]
 split
 ·exact ⟨hp, hn⟩
 ·split
  ·exact ⟨hp, hn⟩
  ·exact ⟨put_perm hp hn _ _, put_nodup hn _ _⟩
theorem takeP_perm : (takeP ps n a).Perm (takeP qs n a) ∧ ((takeP ps n a).map (·.1)).Nodup := by
 unfold takeP
 rw [← takeX_perm hp hn, ← puA_perm hp hn]
 split
 ·exact ⟨hp, hn⟩
 ·split
  ·exact ⟨del_perm (put_perm hp hn _ _) _, del_nodup (put_nodup hn _ _) _⟩
  ·exact ⟨put_perm hp hn _ _, put_nodup hn _ _⟩
end
theorem hoA_perm {hs gs : List (Int × KHo)} (hp : hs.Perm gs) (hn : (hs.map (·.1)).Nodup) (n : Int) : hoA hs n = hoA gs n := by unfold hoA; rw [look_perm hp hn]
theorem payS_eq {s t : KSt} (h : EqS s t) (q o : Int) : EqS (payS s q o).1 (payS t q o).1 ∧ (payS s q o).2 = (payS t q o).2 := by
 unfold payS
 rw [← look_perm h.h h.nh, ← hoA_perm h.h h.nh]
 split
 ·obtain ⟨h1, h2⟩ := addP_perm h.p h.np o (hoA s.hs q).a
  exact ⟨⟨h1, del_perm h.h _, h.l, h.u, h2, del_nodup h.nh _⟩, by simp only [addE_perm h.p h.np]⟩
 ·exact ⟨h, rfl⟩
theorem actS_eq {s t : KSt} (h : EqS s t) (x : KAct) : EqS (actS s x).1 (actS t x).1 ∧ (actS s x).2 = (actS t x).2 := by
 have ha := addP_perm h.p h.np x.owner x.a
 have ht := takeP_perm h.p h.np x.owner x.a
 unfold actS
 rw [hoA_perm h.h h.nh]
 split
 ·unfold mintS
  rw [addE_perm h.p h.np, h.u]
  exact ⟨⟨ha.1, h.h, h.l, rfl, ha.2, h.nh⟩, rfl⟩
 ·split
  ·unfold burnS
   rw [takeE_perm h.p h.np, h.u]
   exact ⟨⟨ht.1, h.h, h.l, rfl, ht.2, h.nh⟩, rfl⟩
  ·split
   ·unfold moveS
    rw [takeE_perm h.p h.np]
    split
    ·obtain ⟨h1, h2⟩ := addP_perm ht.1 ht.2 x.other x.a
     exact ⟨⟨h1, h.h, h.l, h.u, h2, h.nh⟩, by simp only [addE_perm ht.1 ht.2]⟩
    ·exact ⟨⟨ht.1, h.h, h.l, h.u, ht.2, h.nh⟩, rfl⟩
   ·split
    ·unfold holdS
     rw [takeE_perm h.p h.np, h.h.length_eq, h.l]
     split
     ·split
      ·exact ⟨⟨ht.1, h.h, rfl, h.u, ht.2, h.nh⟩, rfl⟩
      ·exact ⟨⟨ht.1, put_perm h.h h.nh _ _, rfl, h.u, ht.2, put_nodup h.nh _ _⟩, rfl⟩
     ·exact ⟨⟨ht.1, h.h, rfl, h.u, ht.2, h.nh⟩, rfl⟩
    ·split
     ·exact payS_eq h _ _
     ·split
      ·exact payS_eq h _ _
      ·unfold needS
       exact ⟨h, by simp only [takeE_perm h.p h.np]⟩
theorem run_eq {s0 t0 : KSt} (h0 : EqS s0 t0) : ∀ {xs : List KAct} {s t : KSt} {made : List Int} {k : Nat}, EqS s t → EqS (runA s0 s made k xs).1 (runA t0 t made k xs).1 ∧ (runA s0 s made k xs).2 = (runA t0 t made k xs).2
 | [], s, t, made, k, h => ⟨h, rfl⟩
 | x :: xs, s, t, made, k, h => by
  obtain ⟨h1, h2⟩ := actS_eq h x
  unfold runA
  rw [h2]
  split
  ·exact run_eq h0 h1
  ·exact ⟨h0, rfl⟩
theorem carry_eq {s t : KSt} (h : EqS s t) (xs : List KAct) : EqS (carryF s xs).1 (carryF t xs).1 ∧ (carryF s xs).2 = (carryF t xs).2 := run_eq h h
/-! Sums. -/
def KAm.add (a b : KAm) : KAm := ⟨a.a0 + b.a0, a.a1 + b.a1, a.a2 + b.a2, a.a3 + b.a3⟩
def sumA : List KAm → KAm
 | [] => zeroA
 | a :: l => a.add (sumA l)
theorem am_ext {a b : KAm} (h0 : a.a0 = b.a0) (h1 : a.a1 = b.a1) (h2 : a.a2 = b.a2) (h3 : a.a3 = b.a3) : a = b := by cases a; cases b; simp_all
theorem add_comm' (a b : KAm) : a.add b = b.add a := am_ext (Int.add_comm _ _) (Int.add_comm _ _) (Int.add_comm _ _) (Int.add_comm _ _)
theorem add_assoc' (a b c : KAm) : (a.add b).add c = a.add (b.add c) := am_ext (Int.add_assoc _ _ _) (Int.add_assoc _ _ _) (Int.add_assoc _ _ _) (Int.add_assoc _ _ _)
theorem zero_add' (a : KAm) : zeroA.add a = a := am_ext (Int.zero_add _) (Int.zero_add _) (Int.zero_add _) (Int.zero_add _)
theorem add_zero' (a : KAm) : a.add zeroA = a := am_ext (Int.add_zero _) (Int.add_zero _) (Int.add_zero _) (Int.add_zero _)
theorem plus_one (a b : KAm) : a.plus b 1 = a.add b := by unfold KAm.plus KAm.add; simp only [Int.one_mul]
theorem sumA_perm {l m : List KAm} (h : l.Perm m) : sumA l = sumA m := by
 induction h with
 | nil => rfl
 | cons x _ ih => show x.add _ = x.add _; rw [ih]
 | swap x y l => show KAm.add y (KAm.add x (sumA l)) = KAm.add x (KAm.add y (sumA l)); rw [← add_assoc', ← add_assoc', add_comm' y x]
 | trans _ _ h1 h2 => exact h1.trans h2
section
variable {P : Program} {ν : Type} {K : MapK P Int ν} (f : ν → KAm)
/-- the sum of what a map holds -/
def sumM (ks : List (Int × ν)) : KAm := sumA (ks.map fun p => f p.2)
theorem del_perm_cons {ks : List (Int × ν)} (hn : (ks.map (·.1)).Nodup) {k : Int} {v : ν} (h : K.look ks k = some v) : ks.Perm ((k, v) :: K.del ks k) := by
 induction ks with
 | nil => simp [MapK.look] at h
 | cons p ks ih =>
  rw [look_cons] at h
  rw [List.map_cons, List.nodup_cons] at hn
  letI := K.dec
  by_cases e : p.1 = k
  ·simp [e] at h
   subst h
   have hd : K.del ks k = ks := del_none (look_none.2 (by rw [← e]; exact hn.1))
   have : K.del (p :: ks) k = ks := by
    conv => rhs; rw [← hd]
    unfold MapK.del
    rw [List.filter_cons]; simp [e]
   rw [this, show (k, p.2) = p by rw [← e]]
  ·simp [e] at h
   have : K.del (p :: ks) k = p :: K.del ks k := by unfold MapK.del; rw [List.filter_cons]; simp [e]
   rw [this]
   exact ((ih hn.2 h).cons p).trans (List.Perm.swap _ _ _)
theorem sum_del {ks : List (Int × ν)} (hn : (ks.map (·.1)).Nodup) {k : Int} {v : ν} (h : K.look ks k = some v) : sumM f ks = (f v).add (sumM f (K.del ks k)) := by
 have := sumA_perm ((del_perm_cons hn h).map fun p => f p.2)
 rwa [List.map_cons] at this
theorem put_perm_cons {ks : List (Int × ν)} (hn : (ks.map (·.1)).Nodup) (k : Int) (v : ν) : (K.put ks k v).Perm ((k, v) :: K.del ks k) := by
 cases h : K.look ks k with
 | none =>
  rw [put_new h, del_none h]
  exact List.perm_append_comm
 | some u =>
  have h1 := del_perm_cons (put_nodup hn k v) (put_same (K := K) k v)
  have h2 : K.del (K.put ks k v) k = K.del ks k := by
   letI := K.dec
   unfold MapK.put MapK.del
   rw [h, if_pos (show (some u).isSome = true from rfl), List.filter_map]
   clear h1 h hn
   induction ks with
   | nil => rfl
   | cons p ks ih =>
    rw [List.filter_cons, List.filter_cons]
    by_cases e : p.1 = k
    ·simp only [Function.comp_def, e, if_true, decide_true, Bool.not_true, Bool.false_eq_true, if_false]
     exact ih
    ·simp only [Function.comp_def, e, if_false, decide_false, Bool.not_false, if_true, List.map_cons]
     exact congrArg _ ih
  rwa [h2] at h1
theorem sum_put {ks : List (Int × ν)} (hn : (ks.map (·.1)).Nodup) (k : Int) (v : ν) : sumM f (K.put ks k v) = (f v).add (sumM f (K.del ks k)) := by
 have := sumA_perm ((put_perm_cons (K := K) hn k v).map fun p => f p.2)
 rwa [List.map_cons] at this
end
theorem win_iff {a : KAm} : a.within = true ↔ ((0 ≤ a.a0 ∧ a.a0 ≤ 2147483647) ∧ (0 ≤ a.a1 ∧ a.a1 ≤ 2147483647)) ∧ ((0 ≤ a.a2 ∧ a.a2 ≤ 2147483647) ∧ (0 ≤ a.a3 ∧ a.a3 ≤ 2147483647)) := by
 unfold KAm.within inA
 simp only [Bool.and_eq_true, decide_eq_true_eq]
 omega
theorem am_zero {a : KAm} : a = zeroA ↔ a.a0 = 0 ∧ a.a1 = 0 ∧ a.a2 = 0 ∧ a.a3 = 0 := ⟨fun h => by rw [h]; exact ⟨rfl, rfl, rfl, rfl⟩, fun h => am_ext h.1 h.2.1 h.2.2.1 h.2.2.2⟩
/-- purses in order -/
structure PsOk (ps : List (Int × KAm)) : Prop where
 np : (ps.map (·.1)).Nodup
 pn : ps.length ≤ 256
 pk : ∀ p ∈ ps, ownB p.1 = true ∧ p.2.within = true ∧ p.2 ≠ zeroA
theorem PsOk.at {ps : List (Int × KAm)} (h : PsOk ps) (n : Int) : (puA ps n).within = true := okP_at (fun p hp => (h.pk p hp).2.1) n
theorem sum_puA {ps : List (Int × KAm)} (hn : (ps.map (·.1)).Nodup) (n : Int) : sumM id ps = (puA ps n).add (sumM id (PuM.del ps n)) := by
 unfold puA
 cases e : PuM.look ps n with
 | none => rw [del_none e]; exact (zero_add' _).symm
 | some v => exact sum_del id hn e
theorem addP_good {ps : List (Int × KAm)} (h : PsOk ps) {n : Int} {a : KAm} (hn : ownB n = true) (ha : a.within = true) (hx : addX ps n a = false) : PsOk (addP ps n a) ∧ sumM id (addP ps n a) = (sumM id ps).add a := by
 have hw := win_iff.1 (h.at n); have hb := win_iff.1 ha
 unfold addP
 rw [hx, if_neg (by decide)]
 unfold addX at hx
 rw [Bool.or_eq_false_iff] at hx
 split
 ·rename_i hz
  rw [am_zero] at hz
  simp only [KAm.plus] at hz
  have : a = zeroA := am_zero.2 (by omega)
  rw [this]
  exact ⟨h, (add_zero' _).symm⟩
 ·rename_i hz
  refine ⟨⟨put_nodup h.np _ _, ?_, ?_⟩, ?_⟩
  ·cases e : PuM.look ps n with
   | none =>
    rw [put_new e]
    have := hx.2
    rw [e] at this
    simp [hz] at this
    simp; omega
   | some v =>
    have := congrArg List.length (put_keys (K := PuM) (ks := ps) n ((puA ps n).plus a 1) (by rw [e]; rfl))
    simp only [List.length_map] at this
    rw [this]; exact h.pn
  ·intro p hp
   have := (put_perm_cons (K := PuM) h.np n ((puA ps n).plus a 1)).mem_iff.1 hp
   rcases List.mem_cons.1 this with rfl | hp'
   ·exact ⟨hn, by simpa using hx.1, hz⟩
   ·exact h.pk p (List.mem_filter.1 hp').1
  ·rw [sum_put id h.np, sum_puA h.np n]
   show ((puA ps n).plus a 1).add _ = _
   rw [plus_one, add_assoc', add_assoc', add_comm' a]
theorem takeP_good {ps : List (Int × KAm)} (h : PsOk ps) {n : Int} {a : KAm} (hn : ownB n = true) (ha : a.within = true) (hx : takeX ps n a = false) : PsOk (takeP ps n a) ∧ (sumM id (takeP ps n a)).add a = sumM id ps := by
 have key : ∀ x : KAm, ((((puA ps n).plus a (-1)).add x).add a) = (puA ps n).add x := fun x => by
  apply am_ext <;> simp only [KAm.add, KAm.plus] <;> omega
 unfold takeP
 rw [hx, if_neg (by decide)]
 unfold takeX at hx
 split
 ·rename_i hz
  have h1 := put_perm_cons (K := PuM) h.np n ((puA ps n).plus a (-1))
  have h2 : (PuM.del (PuM.put ps n ((puA ps n).plus a (-1))) n).Perm (PuM.del ps n) := by
   have := del_perm (K := PuM) h1 n
   refine this.trans ?_
   have e3 : PuM.del ((n, (puA ps n).plus a (-1)) :: PuM.del ps n) n = PuM.del ps n := by
    unfold MapK.del
    rw [List.filter_cons]
    simp
   rw [e3]
  have h3 : (PuM.del ps n).length ≤ ps.length := List.length_filter_le _ _
  refine ⟨⟨del_nodup (put_nodup h.np _ _) _, by rw [h2.length_eq]; have := h.pn; omega, fun p hp => h.pk p (List.mem_filter.1 (h2.mem_iff.1 hp)).1⟩, ?_⟩
  rw [show sumM id (PuM.del (PuM.put ps n ((puA ps n).plus a (-1))) n) = sumM id (PuM.del ps n) from sumA_perm (h2.map fun p => id p.2), sum_puA h.np n, ← key, hz, zero_add']
 ·rename_i hz
  refine ⟨⟨put_nodup h.np _ _, ?_, ?_⟩, ?_⟩
  ·cases e : PuM.look ps n with
   | none =>
    have hp0 : puA ps n = zeroA := by unfold puA; rw [e]; rfl
    exfalso
    apply hz
    have hw : ((puA ps n).plus a (-1)).within = true := by simpa using hx
    rw [am_zero]
    have h1 := win_iff.1 hw
    have h2 := win_iff.1 ha
    rw [hp0] at h1 ⊢
    simp only [KAm.plus, zeroA] at h1 ⊢
    omega
   | some v =>
    have := congrArg List.length (put_keys (K := PuM) (ks := ps) n ((puA ps n).plus a (-1)) (by rw [e]; rfl))
    simp only [List.length_map] at this
    rw [this]; exact h.pn
  ·intro p hp
   have := (put_perm_cons (K := PuM) h.np n ((puA ps n).plus a (-1))).mem_iff.1 hp
   rcases List.mem_cons.1 this with rfl | hp'
   ·exact ⟨hn, by simpa using hx, hz⟩
   ·exact h.pk p (List.mem_filter.1 hp').1
  ·rw [sum_put id h.np, sum_puA h.np n]
   exact key _
/-- holds in order -/
structure HsOk (hs : List (Int × KHo)) (last : Int) : Prop where
 nh : (hs.map (·.1)).Nodup
 hn : hs.length ≤ 128
 hk : ∀ p ∈ hs, p.2.number = p.1 ∧ 1 ≤ p.1 ∧ p.1 ≤ last ∧ ownB p.2.owner = true ∧ p.2.a.within = true
/-- what holds of the state of a house -/
structure Good2 (s : KSt) : Prop where
 p : PsOk s.ps
 h : HsOk s.hs s.last
 l0 : 0 ≤ s.last
 su : s.su = (sumM id s.ps).add (sumM KHo.a s.hs)
theorem HsOk.at {hs : List (Int × KHo)} {l : Int} (h : HsOk hs l) {n : Int} {v : KHo} (e : HoM.look hs n = some v) : v.number = n ∧ 1 ≤ n ∧ n ≤ l ∧ ownB v.owner = true ∧ v.a.within = true := h.hk _ (look_mem e)
theorem addE_zero {ps : List (Int × KAm)} {n : Int} {a : KAm} (h : addE ps n a = 0) : addX ps n a = false := by
 unfold addE at h
 cases e : addX ps n a with
 | false => rfl
 | true => rw [e] at h; simp at h
theorem takeE_zero {ps : List (Int × KAm)} {n : Int} {a : KAm} (h : takeE ps n a = 0) : takeX ps n a = false := by
 unfold takeE at h
 cases e : takeX ps n a with
 | false => rfl
 | true => rw [e] at h; simp at h
theorem pay_good2 {s : KSt} (h : Good2 s) {q o : Int} (ho : ∀ v, HoM.look s.hs q = some v → ownB o = true) (he : (payS s q o).2.2 = 0) : Good2 (payS s q o).1 ∧ (payS s q o).1.last = s.last ∧ (payS s q o).1.su = s.su ∧ (payS s q o).2.1 = 0 := by
 unfold payS at he ⊢
 cases e : HoM.look s.hs q with
 | none => rw [e] at he; simp at he
 | some v =>
  rw [e] at he
  rw [if_pos (show (some v).isSome = true from rfl)] at he
  rw [if_pos (show (some v).isSome = true from rfl)]
  have hv := h.h.at e
  have hx := addE_zero he
  have ha : (hoA s.hs q) = v := by unfold hoA; rw [e]; rfl
  rw [ha] at hx ⊢
  obtain ⟨h1, h2⟩ := addP_good h.p (ho v e) hv.2.2.2.2 hx
  refine ⟨⟨h1, ⟨del_nodup h.h.nh _, Nat.le_trans (List.length_filter_le _ _) h.h.hn, fun p hp => h.h.hk p (List.mem_filter.1 hp).1⟩, h.l0, ?_⟩, rfl, rfl, rfl⟩
  show s.su = _
  rw [h.su, h2, sum_del KHo.a h.h.nh e, add_assoc']
/-- what an act makes of the supply -/
noncomputable def supD (x : KAct) (su : KAm) : KAm := if (x.kind.toNat : Int) = 1 then su.plus x.a 1 else if (x.kind.toNat : Int) = 2 then su.plus x.a (-1) else su
theorem actS_good2 {s : KSt} {x : KAct} (h : Good2 s) (hf : x.formed = true) (he : (actS s x).2.2 = 0) : Good2 (actS s x).1 ∧ (actS s x).1.last ≤ s.last + 1 ∧ s.last ≤ (actS s x).1.last ∧ (actS s x).1.su = supD x s.su ∧ 0 ≤ (actS s x).2.1 ∧ (actS s x).2.1 ≤ (actS s x).1.last := by
 have hw := formed_within hf
 have l0 := h.l0
 have hk := formed_kind hf
 unfold KAct.formed KAct.plain at hf
 unfold actS at he ⊢
 unfold supD
 by_cases k1 : (x.kind.toNat : Int) = 1
 ·rw [if_pos k1] at he ⊢
  rw [if_pos k1]
  have ho : ownB x.owner = true := by simp [k1] at hf; exact hf.1.1.1
  obtain ⟨h1, h2⟩ := addP_good h.p ho hw (addE_zero he)
  have he' : addE s.ps x.owner x.a = 0 := he
  refine ⟨⟨h1, h.h, l0, ?_⟩, by show s.last ≤ _; omega, Int.le_refl _, by show (if _ then _ else _) = _; rw [if_pos he'], Int.le_refl _, l0⟩
  show (if _ then _ else _) = _
  rw [if_pos he', plus_one, h.su]
  show _ = (sumM id (addP s.ps x.owner x.a)).add (sumM KHo.a s.hs)
  rw [h2, add_assoc', add_assoc', add_comm' x.a]
 ·by_cases k2 : (x.kind.toNat : Int) = 2
  ·rw [if_neg k1, if_pos k2] at he ⊢
   rw [if_neg k1, if_pos k2]
   have ho : ownB x.owner = true := by simp [k2] at hf; exact hf.1.1.1
   have he' : takeE s.ps x.owner x.a = 0 := he
   obtain ⟨h1, h2⟩ := takeP_good h.p ho hw (takeE_zero he')
   refine ⟨⟨h1, h.h, l0, ?_⟩, by show s.last ≤ _; omega, Int.le_refl _, by show (if _ then _ else _) = _; rw [if_pos he'], Int.le_refl _, l0⟩
   show (if _ then _ else _) = _
   rw [if_pos he', h.su, ← h2]
   show _ = (sumM id (takeP s.ps x.owner x.a)).add (sumM KHo.a s.hs)
   apply am_ext <;> simp only [KAm.add, KAm.plus] <;> omega
  ·rw [if_neg k1, if_neg k2]
   rw [if_neg k1, if_neg k2] at he ⊢
   by_cases k3 : (x.kind.toNat : Int) = 3
   ·rw [if_pos k3] at he ⊢
    have ho : ownB x.owner = true ∧ ownB x.other = true := by simp [k3] at hf; exact ⟨hf.1.1.1.1, hf.1.1.1.2⟩
    unfold moveS at he ⊢
    by_cases ht : takeE s.ps x.owner x.a = 0
    ·rw [if_pos ht] at he ⊢
     obtain ⟨h1, h2⟩ := takeP_good h.p ho.1 hw (takeE_zero ht)
     obtain ⟨h3, h4⟩ := addP_good h1 ho.2 hw (addE_zero he)
     refine ⟨⟨h3, h.h, l0, ?_⟩, by show s.last ≤ _; omega, Int.le_refl _, rfl, Int.le_refl _, l0⟩
     show s.su = _
     rw [h.su, h4, h2]
    ·rw [if_neg ht] at he; exact absurd he ht
   ·rw [if_neg k3] at he ⊢
    by_cases k4 : (x.kind.toNat : Int) = 4
    ·rw [if_pos k4] at he ⊢
     have ho : ownB x.owner = true := by simp [k4] at hf; exact hf.1.1.1
     unfold holdS at he ⊢
     by_cases ht : takeE s.ps x.owner x.a = 0
     ·rw [if_pos ht] at he ⊢
      obtain ⟨h1, h2⟩ := takeP_good h.p ho hw (takeE_zero ht)
      by_cases h128 : (128 : Int) ≤ (s.hs.length : Int)
      ·rw [if_pos h128] at he; simp at he
      ·rw [if_neg h128]
       have hl : HoM.look s.hs (s.last + 1) = none := by
        cases e : HoM.look s.hs (s.last + 1) with
        | none => rfl
        | some v => have := h.h.at e; omega
       refine ⟨⟨h1, ⟨put_nodup h.h.nh _ _, by rw [put_new hl]; simp; omega, fun p hp => ?_⟩, by show 0 ≤ s.last + 1; omega, ?_⟩, Int.le_refl _, by show s.last ≤ s.last + 1; omega, rfl, by show 0 ≤ s.last + 1; omega, Int.le_refl _⟩
       ·show _ ∧ _ ∧ p.1 ≤ s.last + 1 ∧ _
        have hp : p ∈ HoM.put s.hs (s.last + 1) ⟨s.last + 1, x.owner, x.a⟩ := hp
        rw [put_new hl] at hp
        rcases List.mem_append.1 hp with hp | hp
        ·have := h.h.hk p hp
         exact ⟨this.1, this.2.1, by omega, this.2.2.2.1, this.2.2.2.2⟩
        ·rw [List.mem_singleton.1 hp]
         exact ⟨rfl, by show 1 ≤ s.last + 1; omega, Int.le_refl _, ho, hw⟩
       ·show s.su = (sumM id (takeP s.ps x.owner x.a)).add (sumM KHo.a (HoM.put s.hs (s.last + 1) ⟨s.last + 1, x.owner, x.a⟩))
        rw [h.su, ← h2, sum_put KHo.a h.h.nh, del_none hl, add_assoc']
     ·rw [if_neg ht] at he; exact absurd he ht
    ·rw [if_neg k4] at he ⊢
     have fin : ∀ o, (∀ v, HoM.look s.hs x.hold = some v → ownB o = true) → (payS s x.hold o).2.2 = 0 → Good2 (payS s x.hold o).1 ∧ (payS s x.hold o).1.last ≤ s.last + 1 ∧ s.last ≤ (payS s x.hold o).1.last ∧ (payS s x.hold o).1.su = s.su ∧ 0 ≤ (payS s x.hold o).2.1 ∧ (payS s x.hold o).2.1 ≤ (payS s x.hold o).1.last := fun o ho he => by
      obtain ⟨h1, h2, h3, h4⟩ := pay_good2 h ho he
      exact ⟨h1, by omega, by omega, h3, by omega, by omega⟩
     by_cases k5 : (x.kind.toNat : Int) = 5
     ·rw [if_pos k5] at he ⊢
      refine fin _ (fun v e => ?_) he
      have : hoA s.hs x.hold = v := by unfold hoA; rw [e]; rfl
      rw [this]; exact (h.h.at e).2.2.2.1
     ·rw [if_neg k5] at he ⊢
      by_cases k6 : (x.kind.toNat : Int) = 6
      ·rw [if_pos k6] at he ⊢
       refine fin _ (fun v e => ?_) he
       simp [k6] at hf
       exact hf.1.1.2
      ·rw [if_neg k6] at he ⊢
       exact ⟨h, by show s.last ≤ _; omega, Int.le_refl _, rfl, Int.le_refl _, l0⟩
/-- a result in order -/
structure ResOk (r : KRes) (last : Int) : Prop where
 dn : r.done = decide (r.e = 0)
 at0 : 0 ≤ r.at_ ∧ r.at_ < 16
 e : 0 ≤ r.e ∧ r.e < 65536
 hn : r.holds.length ≤ 16
 hk : ∀ n ∈ r.holds, 1 ≤ n ∧ n ≤ last
theorem ResOk.le {r : KRes} {l m : Int} (h : ResOk r l) (hl : l ≤ m) : ResOk r m := ⟨h.dn, h.at0, h.e, h.hn, fun n hn => ⟨(h.hk n hn).1, by have := (h.hk n hn).2; omega⟩⟩
theorem c5_ : (0:Int) ≤ 5 ∧ (5:Int) < 65536 := by decide
theorem c6_ : (0:Int) ≤ 6 ∧ (6:Int) < 65536 := by decide
theorem c0_ : (0:Int) ≤ 0 ∧ (0:Int) < 65536 := by decide
theorem c00_ : (0:Int) ≤ 0 ∧ (0:Int) < 16 := by decide
theorem actS_err (s : KSt) (x : KAct) : 0 ≤ (actS s x).2.2 ∧ (actS s x).2.2 < 65536 := by
 have ha : ∀ ps n a, 0 ≤ addE ps n a ∧ addE ps n a < 65536 := fun ps n a => by unfold addE; split <;> omega
 have ht : ∀ ps n a, 0 ≤ takeE ps n a ∧ takeE ps n a < 65536 := fun ps n a => by unfold takeE; split <;> omega
 have hp : ∀ q o, 0 ≤ (payS s q o).2.2 ∧ (payS s q o).2.2 < 65536 := fun q o => by
  unfold payS; split
  ·exact ha _ _ _
  ·exact c6_
 unfold actS
 split
 ·exact ha _ _ _
 ·split
  ·exact ht _ _ _
  ·split
   ·unfold moveS; split
    ·exact ha _ _ _
    ·exact ht _ _ _
   ·split
    ·unfold holdS; split
     ·split
      ·exact c5_
      ·exact c0_
     ·exact ht _ _ _
    ·split
     ·exact hp _ _
     ·split
      ·exact hp _ _
      ·exact ht _ _ _
/-- what a list of acts makes of the supply -/
noncomputable def supL : List KAct → KAm → KAm
 | [], su => su
 | x :: l, su => supL l (supD x su)
theorem run_good2 {s0 : KSt} (h0 : Good2 s0) : ∀ {xs : List KAct} {s : KSt} {made : List Int} {k : Nat}, Good2 s → s0.last ≤ s.last → (∀ x ∈ xs, x.formed = true) → k + xs.length ≤ 16 → made.length ≤ k → (∀ n ∈ made, 1 ≤ n ∧ n ≤ s.last) →
  Good2 (runA s0 s made k xs).1 ∧ (runA s0 s made k xs).1.last ≤ s.last + xs.length ∧ s0.last ≤ (runA s0 s made k xs).1.last ∧ ResOk (runA s0 s made k xs).2 (runA s0 s made k xs).1.last ∧
  (runA s0 s made k xs).1.su = if (runA s0 s made k xs).2.done then supL xs s.su else s0.su
 | [], s, made, k, h, hl, _, hk, hm, hh => ⟨h, by show s.last ≤ _; simp, hl, ⟨rfl, c00_, c0_, by show made.length ≤ 16; omega, hh⟩, rfl⟩
 | x :: xs, s, made, k, h, hl, hf, hk, hm, hh => by
  rw [List.length_cons] at hk ⊢
  unfold runA
  by_cases e : (actS s x).2.2 = 0
  ·rw [if_pos e]
   obtain ⟨h1, h2, h3, h4, h5, h6⟩ := actS_good2 h (hf x (by simp)) e
   have := run_good2 h0 (xs := xs) (s := (actS s x).1) (made := if 0 < (actS s x).2.1 then made ++ [(actS s x).2.1] else made) (k := k + 1) h1 (by omega) (fun y hy => hf y (by simp [hy])) (by omega) (by split <;> (try rw [List.length_append, List.length_singleton]) <;> omega) (fun n hn => by
    split at hn
    ·rcases List.mem_append.1 hn with hn | hn
     ·have := hh n hn; omega
     ·rw [List.mem_singleton.1 hn]; omega
    ·have := hh n hn; omega)
   obtain ⟨g1, g2, g3, g4, g5⟩ := this
   refine ⟨g1, by push_cast; omega, g3, g4, ?_⟩
   rw [g5, h4]; rfl
  ·rw [if_neg e]
   have he := actS_err s x
   exact ⟨h0, by push_cast; show s0.last ≤ _; omega, Int.le_refl _, ⟨by show false = decide _; simp [e], ⟨by show (0 : Int) ≤ (k : Int); omega, by show (k : Int) < 16; omega⟩, he, by simp, fun n hn => by cases hn⟩, rfl⟩
theorem carry_good2 {s : KSt} (h : Good2 s) {xs : List KAct} (hf : ∀ x ∈ xs, x.formed = true) (hl : xs.length ≤ 16) :
  Good2 (carryF s xs).1 ∧ (carryF s xs).1.last ≤ s.last + xs.length ∧ s.last ≤ (carryF s xs).1.last ∧ ResOk (carryF s xs).2 (carryF s xs).1.last ∧ (carryF s xs).1.su = if (carryF s xs).2.done then supL xs s.su else s.su :=
 run_good2 h (made := []) h (Int.le_refl _) hf (by omega) (by simp) (fun n hn => by cases hn)
theorem sum_bd : ∀ {l : List KAm}, (∀ a ∈ l, a.within = true) → (sumA l).bd (l.length * 2147483647) ∧ (0 ≤ (sumA l).a0 ∧ 0 ≤ (sumA l).a1 ∧ 0 ≤ (sumA l).a2 ∧ 0 ≤ (sumA l).a3)
 | [], _ => by unfold sumA KAm.bd zeroA; simp
 | a :: l, h => by
  obtain ⟨h1, h2⟩ := sum_bd (l := l) fun b hb => h b (by simp [hb])
  have hw := win_iff.1 (h a (by simp))
  unfold KAm.bd at h1 ⊢
  rw [List.length_cons]
  push_cast
  simp only [sumA, KAm.add]
  omega
/-- the supply is in bounds -/
theorem Good2.sup {s : KSt} (h : Good2 s) : (0 ≤ s.su.a0 ∧ s.su.a0 < 1099511627776) ∧ (0 ≤ s.su.a1 ∧ s.su.a1 < 1099511627776) ∧ (0 ≤ s.su.a2 ∧ s.su.a2 < 1099511627776) ∧ (0 ≤ s.su.a3 ∧ s.su.a3 < 1099511627776) := by
 have h1 := sum_bd (l := s.ps.map fun p => id p.2) (fun a ha => by obtain ⟨p, hp, rfl⟩ := List.mem_map.1 ha; exact (h.p.pk p hp).2.1)
 have h2 := sum_bd (l := s.hs.map fun p => p.2.a) (fun a ha => by obtain ⟨p, hp, rfl⟩ := List.mem_map.1 ha; exact (h.h.hk p hp).2.2.2.2)
 rw [List.length_map] at h1 h2
 have p1 := h.p.pn; have p2 := h.h.hn
 have e := h.su
 unfold KAm.bd at h1 h2
 rw [e]
 unfold sumM
 simp only [KAm.add]
 omega
theorem Good2.good {s : KSt} (h : Good2 s) {M : Int} (hM : s.last ≤ M) (hM2 : 1099511627776 ≤ M) : GoodS s M := by
 have := h.sup
 exact ⟨fun p hp => (h.p.pk p hp).2.1, fun p hp => (h.h.hk p hp).2.2.2.2, by unfold KAm.bd; omega, h.l0, hM⟩
theorem EqS.good2 {s t : KSt} (h : EqS s t) (g : Good2 t) : Good2 s := by
 refine ⟨⟨h.np, by rw [h.p.length_eq]; exact g.p.pn, fun p hp => g.p.pk p (h.p.mem_iff.1 hp)⟩, ⟨h.nh, by rw [h.h.length_eq]; exact g.h.hn, fun p hp => by rw [h.l]; exact g.h.hk p (h.h.mem_iff.1 hp)⟩, by rw [h.l]; exact g.l0, ?_⟩
 rw [h.u, g.su]
 unfold sumM
 rw [sumA_perm (h.p.symm.map fun p => id p.2), sumA_perm (h.h.symm.map fun p => KHo.a p.2)]
theorem Good2.refl {s : KSt} (g : Good2 s) : EqS s s := ⟨List.Perm.refl _, List.Perm.refl _, rfl, rfl, g.p.np, g.h.nh⟩
end Go.Td

namespace Go.Td
open Go.Sl
/-- bit i of some bytes, the highest of a byte first -/
def bitAt (xs : List UInt8) (i : Nat) : Bool := (xs.getD (i / 8) 0).toNat.testBit (7 - i % 8)
/-- the bits of a number, the highest first -/
def bitsV (v : UInt64) (k : Nat) : List Bool := (List.range k).map fun j => v.toNat.testBit (k - 1 - j)
theorem bitsV_len (v : UInt64) (k : Nat) : (bitsV v k).length = k := by simp [bitsV]
theorem bitsV_at {v : UInt64} {k i : Nat} (h : i < k) : (bitsV v k)[i]? = some (v.toNat.testBit (k - 1 - i)) := by
 unfold bitsV
 rw [List.getElem?_map, List.getElem?_range h]; rfl
theorem bitsV_succ (v : UInt64) (k : Nat) : bitsV v (k + 1) = v.toNat.testBit k :: bitsV v k := by
 unfold bitsV
 rw [List.range_succ_eq_map, List.map_cons, List.map_map]
 rw [show v.toNat.testBit (k + 1 - 1 - 0) = v.toNat.testBit k from rfl]
 refine congrArg _ (List.map_congr_left fun j _ => ?_)
 show v.toNat.testBit (k + 1 - 1 - (j + 1)) = _
 rw [show k + 1 - 1 - (j + 1) = k - 1 - j by omega]
/-- a writer has written these bits -/
structure Wr (xs : List UInt8) (n : Nat) (l : List Bool) : Prop where
 len : xs.length = (n + 7) / 8
 num : l.length = n
 bit : ∀ i, bitAt xs i = l.getD i false
theorem wr_nil : Wr [] 0 [] := ⟨rfl, rfl, fun i => by simp [bitAt]⟩
theorem bitB_test (v : UInt64) (j n i : Nat) (hj : j < 64) (hi : i < 8) : (bitB v j n).toNat.testBit (7 - i) = (decide (i = n % 8) && v.toNat.testBit j) := by
 have hb : ((v >>> UInt64.ofNat j) &&& (1 : UInt64)).toUInt8.toNat = (v.toNat.testBit j).toNat := by
  have e : (UInt64.ofNat j).toNat % 64 = j := by simp; omega
  rw [UInt64.toNat_toUInt8, UInt64.toNat_and, UInt64.toNat_shiftRight, e]
  show (v.toNat >>> j &&& 1) % 256 = _
  rw [Nat.and_one_is_mod, Nat.testBit_eq_decide_div_mod_eq, Nat.shiftRight_eq_div_pow]
  rcases Nat.mod_two_eq_zero_or_one (v.toNat / 2 ^ j) with h | h <;> simp [h]
 have h8 : (UInt8.ofNat (7 - n % 8)).toNat % 8 = 7 - n % 8 := by simp; omega
 unfold bitB
 rw [UInt8.toNat_shiftLeft, h8, hb]
 show ((v.toNat.testBit j).toNat <<< (7 - n % 8) % 2 ^ 8).testBit (7 - i) = _
 rw [Nat.testBit_mod_two_pow, Nat.testBit_shiftLeft]
 cases v.toNat.testBit j
 ·simp
 ·have e1 : decide (7 - i < 8) = true := by simp; omega
  rw [e1, Bool.true_and, Bool.and_true]
  by_cases hi' : i = n % 8
  ·subst hi'
   simp
  ·by_cases hg : 7 - n % 8 ≤ 7 - i
   ·have e2 : (true.toNat).testBit (7 - i - (7 - n % 8)) = false := by
     have e3 : 7 - i - (7 - n % 8) = (7 - i - (7 - n % 8) - 1) + 1 := by omega
     rw [e3]; show Nat.testBit 1 _ = false
     rw [Nat.testBit_succ]; simp
    rw [e2]; simp [hi']
   ·simp [hg, hi']
theorem growW_bit (xs : List UInt8) (n i : Nat) : bitAt (growW xs n) i = bitAt xs i := by
 unfold growW
 split
 ·unfold bitAt
  by_cases h : i / 8 < xs.length
  ·rw [List.getD_eq_getElem?_getD, List.getD_eq_getElem?_getD, List.getElem?_append_left h]
  ·rw [List.getD_eq_getElem?_getD, List.getD_eq_getElem?_getD, List.getElem?_append_right (by omega), List.getElem?_eq_none (l := xs) (by omega)]
   cases e : ([0] : List UInt8)[i / 8 - xs.length]? with
   | none => rfl
   | some y =>
    obtain ⟨h1, h2⟩ := List.getElem?_eq_some_iff.1 e
    have : y = 0 := by
     rw [← h2]; simp at h1
     simp [h1]
    rw [this]; rfl
 ·rfl
theorem push_bit {xs : List UInt8} {n : Nat} {v : UInt64} {j : Nat} (hl : xs.length = (n + 7) / 8) (hj : j < 64) (i : Nat) : bitAt (pushW xs n (bitB v j n)) i = (bitAt xs i || (decide (i = n) && v.toNat.testBit j)) := by
 have hg : n / 8 < (growW xs n).length := by unfold growW; split <;> (try rw [List.length_append, List.length_singleton]) <;> omega
 have hx := growW_bit xs n i
 unfold bitAt at hx
 unfold pushW bitAt
 by_cases h : i / 8 = n / 8
 ·rw [List.getD_eq_getElem?_getD, h, List.getElem?_set_self hg]
  rw [h] at hx
  simp only [Option.getD_some]
  rw [UInt8.toNat_or, Nat.testBit_or, bitB_test v j n (i % 8) hj (Nat.mod_lt _ (by decide)), hx]
  congr 2
  exact decide_eq_decide.2 ⟨fun e => by omega, fun e => by rw [e]⟩
 ·rw [List.getD_eq_getElem?_getD, List.getElem?_set_ne (by omega), ← List.getD_eq_getElem?_getD, hx]
  have : ¬ i = n := fun e => h (by rw [e])
  simp [this]
theorem push_wr {xs : List UInt8} {n : Nat} {l : List Bool} {v : UInt64} {j : Nat} (h : Wr xs n l) (hj : j < 64) : Wr (pushW xs n (bitB v j n)) (n + 1) (l ++ [v.toNat.testBit j]) := by
 refine ⟨push_len h.len, by simp [h.num], fun i => ?_⟩
 rw [push_bit h.len hj, h.bit]
 have hn := h.num
 rcases Nat.lt_trichotomy i n with h1 | h1 | h1
 ·rw [List.getD_eq_getElem?_getD, List.getD_eq_getElem?_getD, List.getElem?_append_left (by omega)]
  simp [Nat.ne_of_lt h1]
 ·subst h1
  rw [List.getD_eq_getElem?_getD, List.getD_eq_getElem?_getD, List.getElem?_append_right (by omega), List.getElem?_eq_none (by omega), hn]
  simp
 ·rw [List.getD_eq_getElem?_getD, List.getD_eq_getElem?_getD, List.getElem?_eq_none (by omega), List.getElem?_eq_none (by simp; omega)]
  simp [Nat.ne_of_gt h1]
theorem putB_wr {v : UInt64} : ∀ {k : Nat} {xs : List UInt8} {n : Nat} {l : List Bool}, k ≤ 64 → Wr xs n l → Wr (putB v k xs n) (n + k) (l ++ bitsV v k)
 | 0, _, _, _, _, h => by
  rw [show ∀ l : List Bool, l ++ bitsV v 0 = l from fun l => List.append_nil l]; exact h
 | k + 1, xs, n, l, hk, h => by
  have := putB_wr (v := v) (k := k) (by omega) (push_wr (v := v) (j := k) h (by omega))
  rw [bitsV_succ, show n + (k + 1) = n + 1 + k by omega, show l ++ v.toNat.testBit k :: bitsV v k = l ++ [v.toNat.testBit k] ++ bitsV v k by simp]
  exact this
/-- bits of amounts, acts, transactions -/
def amL (a : KAm) (k : Nat) : List Bool := bitsV (U a.a0) k ++ (bitsV (U a.a1) k ++ (bitsV (U a.a2) k ++ bitsV (U a.a3) k))
def actL (x : KAct) : List Bool := bitsV (U ((x.kind.toNat : Nat) : Int)) 3 ++ (bitsV (U x.owner) 17 ++ (bitsV (U x.other) 17 ++ (bitsV (U x.hold) 64 ++ amL x.a 31)))
def actsL : List KAct → List Bool
 | [] => []
 | x :: l => actL x ++ actsL l
def dealL (au nu : Int) (al : List KAct) : List Bool := bitsV (U au) 7 ++ (bitsV (U nu) 41 ++ (bitsV (U (al.length : Int)) 9 ++ actsL al))
theorem amB_wr {a : KAm} {k : Nat} {xs : List UInt8} {n : Nat} {l : List Bool} (hk : k ≤ 64) (h : Wr xs n l) : Wr (amB a k xs n) (n + k + k + k + k) (l ++ amL a k) := by
 have := putB_wr (v := U a.a3) hk (putB_wr (v := U a.a2) hk (putB_wr (v := U a.a1) hk (putB_wr (v := U a.a0) hk h)))
 simpa only [List.append_assoc, amL, amB] using this
theorem actB_wr {x : KAct} {xs : List UInt8} {n : Nat} {l : List Bool} (h : Wr xs n l) : Wr (actB x xs n) (n + 225) (l ++ actL x) := by
 have := amB_wr (a := x.a) (k := 31) (by decide) (putB_wr (v := U x.hold) (k := 64) (by decide) (putB_wr (v := U x.other) (k := 17) (by decide) (putB_wr (v := U x.owner) (k := 17) (by decide) (putB_wr (v := U ((x.kind.toNat : Nat) : Int)) (k := 3) (by decide) h))))
 rw [show n + 225 = n + 3 + 17 + 17 + 64 + 31 + 31 + 31 + 31 by omega]
 simpa only [List.append_assoc, actL, actB] using this
theorem actsB_wr : ∀ {al : List KAct} {xs : List UInt8} {n : Nat} {l : List Bool}, Wr xs n l → Wr (actsB al xs n) (n + 225 * al.length) (l ++ actsL al)
 | [], _, _, _, h => by simpa [actsB, actsL] using h
 | x :: al, xs, n, l, h => by
  have := actsB_wr (al := al) (actB_wr (x := x) h)
  rw [List.length_cons, show n + 225 * (al.length + 1) = n + 225 + 225 * al.length by omega]
  simpa only [List.append_assoc, actsL, actsB] using this
theorem dealB_wr {au nu : Int} {al : List KAct} {xs : List UInt8} {n : Nat} {l : List Bool} (h : Wr xs n l) : Wr (dealB au nu al xs n) (n + (57 + 225 * al.length)) (l ++ dealL au nu al) := by
 have := actsB_wr (al := al) (putB_wr (v := U (al.length : Int)) (k := 9) (by decide) (putB_wr (v := U nu) (k := 41) (by decide) (putB_wr (v := U au) (k := 7) (by decide) h)))
 rw [show n + (57 + 225 * al.length) = n + 7 + 41 + 9 + 225 * al.length by omega]
 simpa only [List.append_assoc, dealL, dealB] using this
/-- what is left to be read of some bytes, behind n bits; but for the padding -/
structure Rd (xs : List UInt8) (n : Nat) (l : List Bool) : Prop where
 pad : n + l.length ≤ 8 * xs.length ∧ 8 * xs.length ≤ n + l.length + 7
 bit : ∀ i, bitAt xs (n + i) = l.getD i false
theorem Wr.rd {xs : List UInt8} {n : Nat} {l : List Bool} (h : Wr xs n l) : Rd xs 0 l := by
 have h1 := h.len; have h2 := h.num
 exact ⟨by omega, fun i => by rw [Nat.zero_add]; exact h.bit i⟩
theorem Rd.drop {xs : List UInt8} {n : Nat} {a l : List Bool} (h : Rd xs n (a ++ l)) : Rd xs (n + a.length) l := by
 have h1 := h.pad
 rw [List.length_append] at h1
 refine ⟨by omega, fun i => ?_⟩
 rw [Nat.add_assoc, h.bit, List.getD_eq_getElem?_getD, List.getD_eq_getElem?_getD, List.getElem?_append_right (by omega), show a.length + i - a.length = i by omega]
/-- what a reader makes of j bits -/
def bit64 (xs : List UInt8) (i : Nat) : UInt64 := ((xs.getD (i / 8) 0) >>> UInt8.ofNat (7 - i % 8) &&& (1 : UInt8)).toUInt64
def rdU (xs : List UInt8) (n : Nat) : Nat → UInt64
 | 0 => 0
 | j + 1 => (rdU xs n j <<< (1 : UInt64)) ||| bit64 xs (n + j)
theorem bit64_nat (xs : List UInt8) (i : Nat) : (bit64 xs i).toNat = (bitAt xs i).toNat := by
 unfold bit64 bitAt
 have h8 : (UInt8.ofNat (7 - i % 8)).toNat % 8 = 7 - i % 8 := by simp; omega
 rw [UInt8.toNat_toUInt64, UInt8.toNat_and, UInt8.toNat_shiftRight, h8]
 show ((xs.getD (i / 8) 0).toNat >>> (7 - i % 8) &&& 1) = _
 rw [Nat.and_one_is_mod, Nat.testBit_eq_decide_div_mod_eq, Nat.shiftRight_eq_div_pow]
 generalize (xs.getD (i / 8) 0).toNat / 2 ^ (7 - i % 8) = z
 rcases Nat.mod_two_eq_zero_or_one z with h | h <;> simp [h]
theorem rdU_nat {xs : List UInt8} {n k : Nat} {v : UInt64} (hk : k ≤ 64) (hv : k = 64 ∨ v.toNat < 2 ^ k) (h : ∀ i, i < k → bitAt xs (n + i) = v.toNat.testBit (k - 1 - i)) : ∀ j, j ≤ k → (rdU xs n j).toNat = v.toNat >>> (k - j)
 | 0, _ => by
  have hv' : v.toNat < 2 ^ k := by
   rcases hv with rfl | h
   ·exact v.toNat_lt
   ·exact h
  rw [Nat.sub_zero, Nat.shiftRight_eq_div_pow, Nat.div_eq_of_lt hv']; rfl
 | j + 1, hj => by
  have ih := rdU_nat hk hv h j (by omega)
  have hv' : v.toNat < 2 ^ 64 := v.toNat_lt
  unfold rdU
  rw [UInt64.toNat_or, UInt64.toNat_shiftLeft, ih, bit64_nat, h j (by omega)]
  have e1 : (1 : UInt64).toNat % 64 = 1 := rfl
  rw [e1]
  have e2 : v.toNat >>> (k - j) <<< 1 % 2 ^ 64 = v.toNat >>> (k - j) <<< 1 := by
   refine Nat.mod_eq_of_lt ?_
   rw [Nat.shiftLeft_eq, Nat.shiftRight_eq_div_pow]
   have h1 : 2 ^ 1 ≤ 2 ^ (k - j) := Nat.pow_le_pow_right (by decide) (by omega)
   have h2 : v.toNat / 2 ^ (k - j) ≤ v.toNat / 2 ^ 1 := Nat.div_le_div_left h1 (by decide)
   omega
  rw [e2]
  apply Nat.eq_of_testBit_eq
  intro i
  rw [Nat.testBit_or, Nat.testBit_shiftLeft, Nat.testBit_shiftRight, Nat.testBit_shiftRight]
  cases i with
  | zero =>
   have : k - 1 - j = k - (j + 1) + 0 := by omega
   rw [← this]
   cases v.toNat.testBit (k - 1 - j) <;> rfl
  | succ i =>
   have : k - j + (i + 1 - 1) = k - (j + 1) + (i + 1) := by omega
   rw [this]
   have e3 : ((v.toNat.testBit (k - 1 - j)).toNat).testBit (i + 1) = false := by cases v.toNat.testBit (k - 1 - j) <;> simp [Nat.testBit_succ]
   rw [e3]; simp
theorem Rd.get {xs : List UInt8} {n k : Nat} {v : UInt64} {l : List Bool} (h : Rd xs n (bitsV v k ++ l)) (hk : k ≤ 64) (hv : k = 64 ∨ v.toNat < 2 ^ k) : rdU xs n k = v ∧ Rd xs (n + k) l ∧ n + k ≤ 8 * xs.length := by
 have hd := h.drop
 have hp := h.pad
 rw [List.length_append, bitsV_len] at hp
 rw [bitsV_len] at hd
 refine ⟨UInt64.toNat_inj.1 ?_, hd, by omega⟩
 have := rdU_nat (xs := xs) (n := n) hk hv (fun i hi => by
  rw [h.bit, List.getD_eq_getElem?_getD, List.getElem?_append_left (by rw [bitsV_len]; exact hi), bitsV_at hi]; rfl) k (Nat.le_refl _)
 rw [this, Nat.sub_self]; rfl
theorem Rd.end_ {xs : List UInt8} {n : Nat} (h : Rd xs n []) : rdU xs n (8 * xs.length - n) = 0 ∧ n ≤ 8 * xs.length ∧ 8 * xs.length ≤ n + 7 := by
 have hp := h.pad
 simp only [List.length_nil, Nat.add_zero] at hp
 refine ⟨?_, hp.1, hp.2⟩
 have hz : ∀ j, rdU xs n j = 0 := by
  intro j
  induction j with
  | zero => rfl
  | succ j ih =>
   unfold rdU
   rw [ih]
   have : bit64 xs (n + j) = 0 := by
    apply UInt64.toNat_inj.1
    rw [bit64_nat, h.bit]; rfl
   rw [this]; rfl
 exact hz _
end Go.Td
