/-
 Own work; plain Lean (TdDo, TdMl, TdEq, TdBits, JnMem, JnOp, JnLaw, JnDig, JnLaw2, JnLaw3, TdJl, TdHouse, TdLk, TdRd, TdShow, TdLd, TdLd2, TdRs, TdOp, TdAw, TdFit, TdNum, TdHouE).
-/
import Derived.Test.YtjejfkajcbdgjaaGreatTdKind
import Derived.Test.YtjejfkajcbdgjaaGreatTdBit
import Derived.Test.YtjejfkajcbdgjaaGreatJnDef
import Derived.Test.YtjejfkajcbdgjaaGreatSlJb
import Derived.Test.YtjejfkajcbdgjaaGreatTdMem
import Derived.Test.YtjejfkajcbdgjaaGreatTd5
import Derived.Test.YtjejfkajcbdgjaaGreatTdSortI
namespace Go.Td
open Go Go.Sl Go.Proofs
theorem run_holds {s0 : KSt} : ∀ {xs : List KAct} {s : KSt} {made : List Int} {k : Nat}, (runA s0 s made k xs).2.holds.length ≤ made.length + xs.length
 | [], _, _, _ => by simp [runA]
 | x :: xs, s, made, k => by
  unfold runA
  split
  ·refine Nat.le_trans (run_holds) ?_
   split <;> simp <;> omega
  ·simp
theorem carry_holds {s : KSt} {xs : List KAct} : (carryF s xs).2.holds.length ≤ xs.length := by
 have := run_holds (s0 := s) (xs := xs) (s := s) (made := []) (k := 0)
 simpa [carryF] using this
/-- a house: its state, and the last transaction of each author -/
structure KHs where
 s : KSt
 done : Int → Option KMem
def zeroRes : KRes := ⟨false, 0, 0, []⟩
/-- what Do answers, when the journal has room and power -/
noncomputable def doF (h : KHs) (au nu : Int) (al : List KAct) : KHs × KRes × Int :=
 if dformed au nu al = false then (h, zeroRes, 2)
 else match h.done au with
 | some m =>
  if m.d.number = nu then (if m.d.acts = al then (h, m.r, 0) else (h, zeroRes, 331))
  else if nu < m.d.number then (h, zeroRes, 332)
  else (⟨(carryF h.s al).1, fun a => if a = au then some ⟨⟨au, nu, al⟩, (carryF h.s al).2⟩ else h.done a⟩, (carryF h.s al).2, 0)
 | none => (⟨(carryF h.s al).1, fun a => if a = au then some ⟨⟨au, nu, al⟩, (carryF h.s al).2⟩ else h.done a⟩, (carryF h.s al).2, 0)
end Go.Td

namespace Go.Td
open Go Go.Sl Go.Proofs
section
variable {P : Program} {κ ν : Type} {K : MapK P κ ν} {ks : List (κ × ν)}
theorem look_cons (p : κ × ν) (k : κ) : K.look (p :: ks) k = if (letI := K.dec; decide (p.1 = k)) = true then some p.2 else K.look ks k := by
 letI := K.dec
 unfold MapK.look
 rw [List.find?_cons]
 by_cases h : p.1 = k
 ·simp [h]
 ·simp [h]
theorem map_same (a : κ) (v : ν) : ∀ ks : List (κ × ν), (K.look ks a).isSome = true → K.look (ks.map fun p => @ite _ (p.1 = a) (K.dec _ _) (a, v) p) a = some v
 | [], h => by simp [MapK.look] at h
 | p :: ks, h => by
  letI := K.dec
  rw [List.map_cons, look_cons]
  rw [look_cons] at h
  by_cases e : p.1 = a
  ·simp [e]
  ·simp [e] at h
   simp only [e, if_false, decide_false, Bool.false_eq_true]
   exact map_same a v ks h
theorem map_ne {a b : κ} (hb : b ≠ a) (v : ν) : ∀ ks : List (κ × ν), K.look (ks.map fun p => @ite _ (p.1 = a) (K.dec _ _) (a, v) p) b = K.look ks b
 | [] => rfl
 | p :: ks => by
  letI := K.dec
  rw [List.map_cons, look_cons, look_cons, map_ne hb v ks]
  by_cases e : p.1 = a
  ·have h1 : ¬ a = b := fun q => hb q.symm
   have h2 : ¬ p.1 = b := fun q => h1 (e.symm.trans q)
   simp [e, h1]
  ·simp [e]
theorem look_app {a b : κ} (v : ν) : ∀ ks : List (κ × ν), K.look (ks ++ [(a, v)]) b = match K.look ks b with | some u => some u | none => if (letI := K.dec; decide (a = b)) = true then some v else none
 | [] => by
  rw [List.nil_append, look_cons]; rfl
 | p :: ks => by
  letI := K.dec
  rw [List.cons_append, look_cons, look_cons, look_app v ks]
  by_cases e : p.1 = b
  ·simp [e]
  ·simp [e]
theorem put_same (a : κ) (v : ν) : K.look (K.put ks a v) a = some v := by
 letI := K.dec
 unfold MapK.put
 split
 ·rename_i h; exact map_same a v ks h
 ·rename_i h
  rw [look_app]
  have : K.look ks a = none := by cases q : K.look ks a with | none => rfl | some u => rw [q] at h; exact absurd rfl h
  rw [this]; simp
theorem put_ne {a b : κ} (hb : b ≠ a) (v : ν) : K.look (K.put ks a v) b = K.look ks b := by
 letI := K.dec
 unfold MapK.put
 split
 ·exact map_ne hb v ks
 ·rw [look_app]
  have h1 : ¬ a = b := fun q => hb q.symm
  cases q : K.look ks b with
  | none => simp [h1]
  | some u => rfl
end
end Go.Td

namespace Go.Td
open Go Go.Sl Go.Proofs
section
variable {P : Program} {κ ν : Type} {K : MapK P κ ν} {ks ls : List (κ × ν)}
theorem look_of_mem {k : κ} {v : ν} (hn : (ks.map (·.1)).Nodup) (h : (k, v) ∈ ks) : K.look ks k = some v := by
 obtain ⟨j, hj, e⟩ := List.getElem_of_mem h
 exact look_at hn (j := j) (by rw [List.getElem?_eq_getElem hj, e])
theorem perm_nodup (hp : ks.Perm ls) (hn : (ks.map (·.1)).Nodup) : (ls.map (·.1)).Nodup := (hp.map _).nodup_iff.1 hn
theorem look_perm (hp : ks.Perm ls) (hn : (ks.map (·.1)).Nodup) (k : κ) : K.look ks k = K.look ls k := by
 cases e : K.look ks k with
 | none =>
  symm
  rw [look_none] at e ⊢
  exact fun h => e ((hp.map _).mem_iff.2 h)
 | some v => exact (look_of_mem (perm_nodup hp hn) (hp.mem_iff.1 (look_mem e))).symm
theorem put_perm (hp : ks.Perm ls) (hn : (ks.map (·.1)).Nodup) (k : κ) (v : ν) : (K.put ks k v).Perm (K.put ls k v) := by
 unfold MapK.put
 rw [look_perm hp hn]
 split
 ·exact hp.map _
 ·exact hp.append_right _
theorem put_keys (k : κ) (v : ν) (h : (K.look ks k).isSome = true) : (K.put ks k v).map (·.1) = ks.map (·.1) := by
 unfold MapK.put
 rw [if_pos h, List.map_map]
 refine List.map_congr_left fun p _ => ?_
 letI := K.dec
 show (if p.1 = k then (k, v) else p).1 = p.1
 split
 ·rename_i e; exact e.symm
 ·rfl
theorem put_nodup (hn : (ks.map (·.1)).Nodup) (k : κ) (v : ν) : ((K.put ks k v).map (·.1)).Nodup := by
 by_cases h : (K.look ks k).isSome = true
 ·rw [put_keys k v h]; exact hn
 ·have e : K.look ks k = none := by cases q : K.look ks k with | none => rfl | some u => rw [q] at h; exact absurd rfl h
  unfold MapK.put
  rw [if_neg h, List.map_append]
  refine List.nodup_append.2 ⟨hn, by simp, fun a ha b hb => ?_⟩
  have : b = k := by simpa using hb
  rw [this]; rintro rfl
  exact look_none.1 e ha
theorem put_new {k : κ} {v : ν} (h : K.look ks k = none) : K.put ks k v = ks ++ [(k, v)] := by unfold MapK.put; rw [h]; rfl
theorem del_perm (hp : ks.Perm ls) (k : κ) : (K.del ks k).Perm (K.del ls k) := hp.filter _
theorem del_nodup (hn : (ks.map (·.1)).Nodup) (k : κ) : ((K.del ks k).map (·.1)).Nodup := by
 unfold MapK.del
 exact List.Nodup.sublist (List.Sublist.map _ List.filter_sublist) hn
end
structure EqS (s t : KSt) : Prop where
 p : s.ps.Perm t.ps
 h : s.hs.Perm t.hs
 l : s.last = t.last
 u : s.su = t.su
 np : (s.ps.map (·.1)).Nodup
 nh : (s.hs.map (·.1)).Nodup
theorem EqS.symm {s t : KSt} (h : EqS s t) : EqS t s := ⟨h.p.symm, h.h.symm, h.l.symm, h.u.symm, perm_nodup h.p h.np, perm_nodup h.h h.nh⟩
theorem EqS.trans {s t r : KSt} (h : EqS s t) (g : EqS t r) : EqS s r := ⟨h.p.trans g.p, h.h.trans g.h, h.l.trans g.l, h.u.trans g.u, h.np, h.nh⟩
section
variable {ps qs : List (Int × KAm)} (hp : ps.Perm qs) (hn : (ps.map (·.1)).Nodup) (n : Int) (a : KAm)
include hp hn
theorem puA_perm : puA ps n = puA qs n := by unfold puA; rw [look_perm hp hn]
theorem addX_perm : addX ps n a = addX qs n a := by unfold addX; rw [puA_perm hp hn, look_perm hp hn, hp.length_eq]
theorem takeX_perm : takeX ps n a = takeX qs n a := by unfold takeX; rw [puA_perm hp hn]
theorem addE_perm : addE ps n a = addE qs n a := by unfold addE; rw [addX_perm hp hn]
theorem takeE_perm : takeE ps n a = takeE qs n a := by unfold takeE; rw [takeX_perm hp hn]
theorem addP_perm : (addP ps n a).Perm (addP qs n a) ∧ ((addP ps n a).map (·.1)).Nodup := by
 unfold addP
 rw [← addX_perm hp hn, ← puA_perm hp hn]
 split
 ·exact ⟨hp, hn⟩
 ·split
  ·exact ⟨hp, hn⟩
  ·exact ⟨put_perm hp hn _ _, put_nodup hn _ _⟩
theorem takeP_perm : (takeP ps n a).Perm (takeP qs n a) ∧ ((takeP ps n a).map (·.1)).Nodup := by
 unfold takeP
 rw [← takeX_perm hp hn, ← puA_perm hp hn]
 split
 ·exact ⟨hp, hn⟩
 ·split
  ·exact ⟨del_perm (put_perm hp hn _ _) _, del_nodup (put_nodup hn _ _) _⟩
  ·exact ⟨put_perm hp hn _ _, put_nodup hn _ _⟩
end
theorem hoA_perm {hs gs : List (Int × KHo)} (hp : hs.Perm gs) (hn : (hs.map (·.1)).Nodup) (n : Int) : hoA hs n = hoA gs n := by unfold hoA; rw [look_perm hp hn]
theorem payS_eq {s t : KSt} (h : EqS s t) (q o : Int) : EqS (payS s q o).1 (payS t q o).1 ∧ (payS s q o).2 = (payS t q o).2 := by
 unfold payS
 rw [← look_perm h.h h.nh, ← hoA_perm h.h h.nh]
 split
 ·obtain ⟨h1, h2⟩ := addP_perm h.p h.np o (hoA s.hs q).a
  exact ⟨⟨h1, del_perm h.h _, h.l, h.u, h2, del_nodup h.nh _⟩, by simp only [addE_perm h.p h.np]⟩
 ·exact ⟨h, rfl⟩
theorem actS_eq {s t : KSt} (h : EqS s t) (x : KAct) : EqS (actS s x).1 (actS t x).1 ∧ (actS s x).2 = (actS t x).2 := by
 have ha := addP_perm h.p h.np x.owner x.a
 have ht := takeP_perm h.p h.np x.owner x.a
 unfold actS
 rw [hoA_perm h.h h.nh]
 split
 ·unfold mintS
  rw [addE_perm h.p h.np, h.u]
  exact ⟨⟨ha.1, h.h, h.l, rfl, ha.2, h.nh⟩, rfl⟩
 ·split
  ·unfold burnS
   rw [takeE_perm h.p h.np, h.u]
   exact ⟨⟨ht.1, h.h, h.l, rfl, ht.2, h.nh⟩, rfl⟩
  ·split
   ·unfold moveS
    rw [takeE_perm h.p h.np]
    split
    ·obtain ⟨h1, h2⟩ := addP_perm ht.1 ht.2 x.other x.a
     exact ⟨⟨h1, h.h, h.l, h.u, h2, h.nh⟩, by simp only [addE_perm ht.1 ht.2]⟩
    ·exact ⟨⟨ht.1, h.h, h.l, h.u, ht.2, h.nh⟩, rfl⟩
   ·split
    ·unfold holdS
     rw [takeE_perm h.p h.np, h.h.length_eq, h.l]
     split
     ·split
      ·exact ⟨⟨ht.1, h.h, rfl, h.u, ht.2, h.nh⟩, rfl⟩
      ·exact ⟨⟨ht.1, put_perm h.h h.nh _ _, rfl, h.u, ht.2, put_nodup h.nh _ _⟩, rfl⟩
     ·exact ⟨⟨ht.1, h.h, rfl, h.u, ht.2, h.nh⟩, rfl⟩
    ·split
     ·exact payS_eq h _ _
     ·split
      ·exact payS_eq h _ _
      ·unfold needS
       exact ⟨h, by simp only [takeE_perm h.p h.np]⟩
theorem run_eq {s0 t0 : KSt} (h0 : EqS s0 t0) : ∀ {xs : List KAct} {s t : KSt} {made : List Int} {k : Nat}, EqS s t → EqS (runA s0 s made k xs).1 (runA t0 t made k xs).1 ∧ (runA s0 s made k xs).2 = (runA t0 t made k xs).2
 | [], s, t, made, k, h => ⟨h, rfl⟩
 | x :: xs, s, t, made, k, h => by
  obtain ⟨h1, h2⟩ := actS_eq h x
  unfold runA
  rw [h2]
  split
  ·exact run_eq h0 h1
  ·exact ⟨h0, rfl⟩
theorem carry_eq {s t : KSt} (h : EqS s t) (xs : List KAct) : EqS (carryF s xs).1 (carryF t xs).1 ∧ (carryF s xs).2 = (carryF t xs).2 := run_eq h h
/-! Sums. -/
def KAm.add (a b : KAm) : KAm := ⟨a.a0 + b.a0, a.a1 + b.a1, a.a2 + b.a2, a.a3 + b.a3⟩
def sumA : List KAm → KAm
 | [] => zeroA
 | a :: l => a.add (sumA l)
theorem am_ext {a b : KAm} (h0 : a.a0 = b.a0) (h1 : a.a1 = b.a1) (h2 : a.a2 = b.a2) (h3 : a.a3 = b.a3) : a = b := by cases a; cases b; simp_all
theorem add_comm' (a b : KAm) : a.add b = b.add a := am_ext (Int.add_comm _ _) (Int.add_comm _ _) (Int.add_comm _ _) (Int.add_comm _ _)
theorem add_assoc' (a b c : KAm) : (a.add b).add c = a.add (b.add c) := am_ext (Int.add_assoc _ _ _) (Int.add_assoc _ _ _) (Int.add_assoc _ _ _) (Int.add_assoc _ _ _)
theorem zero_add' (a : KAm) : zeroA.add a = a := am_ext (Int.zero_add _) (Int.zero_add _) (Int.zero_add _) (Int.zero_add _)
theorem add_zero' (a : KAm) : a.add zeroA = a := am_ext (Int.add_zero _) (Int.add_zero _) (Int.add_zero _) (Int.add_zero _)
theorem plus_one (a b : KAm) : a.plus b 1 = a.add b := by unfold KAm.plus KAm.add; simp only [Int.one_mul]
theorem sumA_app : ∀ (l m : List KAm), sumA (l ++ m) = (sumA l).add (sumA m)
 | [], m => (zero_add' _).symm
 | a :: l, m => by show a.add (sumA (l ++ m)) = (a.add (sumA l)).add (sumA m); rw [sumA_app l m, add_assoc']
theorem sumA_perm {l m : List KAm} (h : l.Perm m) : sumA l = sumA m := by
 induction h with
 | nil => rfl
 | cons x _ ih => show x.add _ = x.add _; rw [ih]
 | swap x y l => show KAm.add y (KAm.add x (sumA l)) = KAm.add x (KAm.add y (sumA l)); rw [← add_assoc', ← add_assoc', add_comm' y x]
 | trans _ _ h1 h2 => exact h1.trans h2
section
variable {P : Program} {ν : Type} {K : MapK P Int ν} (f : ν → KAm)
/-- the sum of what a map holds -/
def sumM (ks : List (Int × ν)) : KAm := sumA (ks.map fun p => f p.2)
theorem del_perm_cons {ks : List (Int × ν)} (hn : (ks.map (·.1)).Nodup) {k : Int} {v : ν} (h : K.look ks k = some v) : ks.Perm ((k, v) :: K.del ks k) := by
 induction ks with
 | nil => simp [MapK.look] at h
 | cons p ks ih =>
  rw [look_cons] at h
  rw [List.map_cons, List.nodup_cons] at hn
  letI := K.dec
  by_cases e : p.1 = k
  ·simp [e] at h
   subst h
   have hd : K.del ks k = ks := del_none (look_none.2 (by rw [← e]; exact hn.1))
   have : K.del (p :: ks) k = ks := by
    conv => rhs; rw [← hd]
    unfold MapK.del
    rw [List.filter_cons]; simp [e]
   rw [this, show (k, p.2) = p by rw [← e]]
  ·simp [e] at h
   have : K.del (p :: ks) k = p :: K.del ks k := by unfold MapK.del; rw [List.filter_cons]; simp [e]
   rw [this]
   exact ((ih hn.2 h).cons p).trans (List.Perm.swap _ _ _)
theorem sum_del {ks : List (Int × ν)} (hn : (ks.map (·.1)).Nodup) {k : Int} {v : ν} (h : K.look ks k = some v) : sumM f ks = (f v).add (sumM f (K.del ks k)) := by
 have := sumA_perm ((del_perm_cons hn h).map fun p => f p.2)
 rwa [List.map_cons] at this
theorem put_perm_cons {ks : List (Int × ν)} (hn : (ks.map (·.1)).Nodup) (k : Int) (v : ν) : (K.put ks k v).Perm ((k, v) :: K.del ks k) := by
 cases h : K.look ks k with
 | none =>
  rw [put_new h, del_none h]
  exact List.perm_append_comm
 | some u =>
  have h1 := del_perm_cons (put_nodup hn k v) (put_same (K := K) k v)
  have h2 : K.del (K.put ks k v) k = K.del ks k := by
   letI := K.dec
   unfold MapK.put MapK.del
   rw [h, if_pos (show (some u).isSome = true from rfl), List.filter_map]
   clear h1 h hn
   induction ks with
   | nil => rfl
   | cons p ks ih =>
    rw [List.filter_cons, List.filter_cons]
    by_cases e : p.1 = k
    ·simp only [Function.comp_def, e, if_true, decide_true, Bool.not_true, Bool.false_eq_true, if_false]
     exact ih
    ·simp only [Function.comp_def, e, if_false, decide_false, Bool.not_false, if_true, List.map_cons]
     exact congrArg _ ih
  rwa [h2] at h1
theorem sum_put {ks : List (Int × ν)} (hn : (ks.map (·.1)).Nodup) (k : Int) (v : ν) : sumM f (K.put ks k v) = (f v).add (sumM f (K.del ks k)) := by
 have := sumA_perm ((put_perm_cons (K := K) hn k v).map fun p => f p.2)
 rwa [List.map_cons] at this
end
theorem win_iff {a : KAm} : a.within = true ↔ ((0 ≤ a.a0 ∧ a.a0 ≤ 2147483647) ∧ (0 ≤ a.a1 ∧ a.a1 ≤ 2147483647)) ∧ ((0 ≤ a.a2 ∧ a.a2 ≤ 2147483647) ∧ (0 ≤ a.a3 ∧ a.a3 ≤ 2147483647)) := by
 unfold KAm.within inA
 simp only [Bool.and_eq_true, decide_eq_true_eq]
 omega
theorem am_zero {a : KAm} : a = zeroA ↔ a.a0 = 0 ∧ a.a1 = 0 ∧ a.a2 = 0 ∧ a.a3 = 0 := ⟨fun h => by rw [h]; exact ⟨rfl, rfl, rfl, rfl⟩, fun h => am_ext h.1 h.2.1 h.2.2.1 h.2.2.2⟩
/-- purses in order -/
structure PsOk (ps : List (Int × KAm)) : Prop where
 np : (ps.map (·.1)).Nodup
 pn : ps.length ≤ 256
 pk : ∀ p ∈ ps, ownB p.1 = true ∧ p.2.within = true ∧ p.2 ≠ zeroA
theorem PsOk.at {ps : List (Int × KAm)} (h : PsOk ps) (n : Int) : (puA ps n).within = true := okP_at (fun p hp => (h.pk p hp).2.1) n
theorem sum_puA {ps : List (Int × KAm)} (hn : (ps.map (·.1)).Nodup) (n : Int) : sumM id ps = (puA ps n).add (sumM id (PuM.del ps n)) := by
 unfold puA
 cases e : PuM.look ps n with
 | none => rw [del_none e]; exact (zero_add' _).symm
 | some v => exact sum_del id hn e
theorem addP_good {ps : List (Int × KAm)} (h : PsOk ps) {n : Int} {a : KAm} (hn : ownB n = true) (ha : a.within = true) (hx : addX ps n a = false) : PsOk (addP ps n a) ∧ sumM id (addP ps n a) = (sumM id ps).add a := by
 have hw := win_iff.1 (h.at n); have hb := win_iff.1 ha
 unfold addP
 rw [hx, if_neg (by decide)]
 unfold addX at hx
 rw [Bool.or_eq_false_iff] at hx
 split
 ·rename_i hz
  rw [am_zero] at hz
  simp only [KAm.plus] at hz
  have : a = zeroA := am_zero.2 (by omega)
  rw [this]
  exact ⟨h, (add_zero' _).symm⟩
 ·rename_i hz
  refine ⟨⟨put_nodup h.np _ _, ?_, ?_⟩, ?_⟩
  ·cases e : PuM.look ps n with
   | none =>
    rw [put_new e]
    have := hx.2
    rw [e] at this
    simp [hz] at this
    simp; omega
   | some v =>
    have := congrArg List.length (put_keys (K := PuM) (ks := ps) n ((puA ps n).plus a 1) (by rw [e]; rfl))
    simp only [List.length_map] at this
    rw [this]; exact h.pn
  ·intro p hp
   have := (put_perm_cons (K := PuM) h.np n ((puA ps n).plus a 1)).mem_iff.1 hp
   rcases List.mem_cons.1 this with rfl | hp'
   ·exact ⟨hn, by simpa using hx.1, hz⟩
   ·exact h.pk p (List.mem_filter.1 hp').1
  ·rw [sum_put id h.np, sum_puA h.np n]
   show ((puA ps n).plus a 1).add _ = _
   rw [plus_one, add_assoc', add_assoc', add_comm' a]
theorem takeP_good {ps : List (Int × KAm)} (h : PsOk ps) {n : Int} {a : KAm} (hn : ownB n = true) (ha : a.within = true) (hx : takeX ps n a = false) : PsOk (takeP ps n a) ∧ (sumM id (takeP ps n a)).add a = sumM id ps := by
 have key : ∀ x : KAm, ((((puA ps n).plus a (-1)).add x).add a) = (puA ps n).add x := fun x => by
  apply am_ext <;> simp only [KAm.add, KAm.plus] <;> omega
 unfold takeP
 rw [hx, if_neg (by decide)]
 unfold takeX at hx
 split
 ·rename_i hz
  have h1 := put_perm_cons (K := PuM) h.np n ((puA ps n).plus a (-1))
  have h2 : (PuM.del (PuM.put ps n ((puA ps n).plus a (-1))) n).Perm (PuM.del ps n) := by
   have := del_perm (K := PuM) h1 n
   refine this.trans ?_
   have e3 : PuM.del ((n, (puA ps n).plus a (-1)) :: PuM.del ps n) n = PuM.del ps n := by
    unfold MapK.del
    rw [List.filter_cons]
    simp
   rw [e3]
  have h3 : (PuM.del ps n).length ≤ ps.length := List.length_filter_le _ _
  refine ⟨⟨del_nodup (put_nodup h.np _ _) _, by rw [h2.length_eq]; have := h.pn; omega, fun p hp => h.pk p (List.mem_filter.1 (h2.mem_iff.1 hp)).1⟩, ?_⟩
  rw [show sumM id (PuM.del (PuM.put ps n ((puA ps n).plus a (-1))) n) = sumM id (PuM.del ps n) from sumA_perm (h2.map fun p => id p.2), sum_puA h.np n, ← key, hz, zero_add']
 ·rename_i hz
  refine ⟨⟨put_nodup h.np _ _, ?_, ?_⟩, ?_⟩
  ·cases e : PuM.look ps n with
   | none =>
    have hp0 : puA ps n = zeroA := by unfold puA; rw [e]; rfl
    exfalso
    apply hz
    have hw : ((puA ps n).plus a (-1)).within = true := by simpa using hx
    rw [am_zero]
    have h1 := win_iff.1 hw
    have h2 := win_iff.1 ha
    rw [hp0] at h1 ⊢
    simp only [KAm.plus, zeroA] at h1 ⊢
    omega
   | some v =>
    have := congrArg List.length (put_keys (K := PuM) (ks := ps) n ((puA ps n).plus a (-1)) (by rw [e]; rfl))
    simp only [List.length_map] at this
    rw [this]; exact h.pn
  ·intro p hp
   have := (put_perm_cons (K := PuM) h.np n ((puA ps n).plus a (-1))).mem_iff.1 hp
   rcases List.mem_cons.1 this with rfl | hp'
   ·exact ⟨hn, by simpa using hx, hz⟩
   ·exact h.pk p (List.mem_filter.1 hp').1
  ·rw [sum_put id h.np, sum_puA h.np n]
   exact key _
/-- holds in order -/
structure HsOk (hs : List (Int × KHo)) (last : Int) : Prop where
 nh : (hs.map (·.1)).Nodup
 hn : hs.length ≤ 128
 hk : ∀ p ∈ hs, p.2.number = p.1 ∧ 1 ≤ p.1 ∧ p.1 ≤ last ∧ ownB p.2.owner = true ∧ p.2.a.within = true
/-- what holds of the state of a house -/
structure Good2 (s : KSt) : Prop where
 p : PsOk s.ps
 h : HsOk s.hs s.last
 l0 : 0 ≤ s.last
 su : s.su = (sumM id s.ps).add (sumM KHo.a s.hs)
theorem HsOk.at {hs : List (Int × KHo)} {l : Int} (h : HsOk hs l) {n : Int} {v : KHo} (e : HoM.look hs n = some v) : v.number = n ∧ 1 ≤ n ∧ n ≤ l ∧ ownB v.owner = true ∧ v.a.within = true := h.hk _ (look_mem e)
theorem addE_zero {ps : List (Int × KAm)} {n : Int} {a : KAm} (h : addE ps n a = 0) : addX ps n a = false := by
 unfold addE at h
 cases e : addX ps n a with
 | false => rfl
 | true => rw [e] at h; simp at h
theorem takeE_zero {ps : List (Int × KAm)} {n : Int} {a : KAm} (h : takeE ps n a = 0) : takeX ps n a = false := by
 unfold takeE at h
 cases e : takeX ps n a with
 | false => rfl
 | true => rw [e] at h; simp at h
theorem pay_good2 {s : KSt} (h : Good2 s) {q o : Int} (ho : ∀ v, HoM.look s.hs q = some v → ownB o = true) (he : (payS s q o).2.2 = 0) : Good2 (payS s q o).1 ∧ (payS s q o).1.last = s.last ∧ (payS s q o).1.su = s.su ∧ (payS s q o).2.1 = 0 := by
 unfold payS at he ⊢
 cases e : HoM.look s.hs q with
 | none => rw [e] at he; simp at he
 | some v =>
  rw [e] at he
  rw [if_pos (show (some v).isSome = true from rfl)] at he
  rw [if_pos (show (some v).isSome = true from rfl)]
  have hv := h.h.at e
  have hx := addE_zero he
  have ha : (hoA s.hs q) = v := by unfold hoA; rw [e]; rfl
  rw [ha] at hx ⊢
  obtain ⟨h1, h2⟩ := addP_good h.p (ho v e) hv.2.2.2.2 hx
  refine ⟨⟨h1, ⟨del_nodup h.h.nh _, Nat.le_trans (List.length_filter_le _ _) h.h.hn, fun p hp => h.h.hk p (List.mem_filter.1 hp).1⟩, h.l0, ?_⟩, rfl, rfl, rfl⟩
  show s.su = _
  rw [h.su, h2, sum_del KHo.a h.h.nh e, add_assoc']
/-- what an act makes of the supply -/
noncomputable def supD (x : KAct) (su : KAm) : KAm := if (x.kind.toNat : Int) = 1 then su.plus x.a 1 else if (x.kind.toNat : Int) = 2 then su.plus x.a (-1) else su
theorem actS_good2 {s : KSt} {x : KAct} (h : Good2 s) (hf : x.formed = true) (he : (actS s x).2.2 = 0) : Good2 (actS s x).1 ∧ (actS s x).1.last ≤ s.last + 1 ∧ s.last ≤ (actS s x).1.last ∧ (actS s x).1.su = supD x s.su ∧ 0 ≤ (actS s x).2.1 ∧ (actS s x).2.1 ≤ (actS s x).1.last := by
 have hw := formed_within hf
 have l0 := h.l0
 have hk := formed_kind hf
 unfold KAct.formed KAct.plain at hf
 unfold actS at he ⊢
 unfold supD
 by_cases k1 : (x.kind.toNat : Int) = 1
 ·rw [if_pos k1] at he ⊢
  rw [if_pos k1]
  have ho : ownB x.owner = true := by simp [k1] at hf; exact hf.1.1.1
  obtain ⟨h1, h2⟩ := addP_good h.p ho hw (addE_zero he)
  have he' : addE s.ps x.owner x.a = 0 := he
  refine ⟨⟨h1, h.h, l0, ?_⟩, by show s.last ≤ _; omega, Int.le_refl _, by show (if _ then _ else _) = _; rw [if_pos he'], Int.le_refl _, l0⟩
  show (if _ then _ else _) = _
  rw [if_pos he', plus_one, h.su]
  show _ = (sumM id (addP s.ps x.owner x.a)).add (sumM KHo.a s.hs)
  rw [h2, add_assoc', add_assoc', add_comm' x.a]
 ·by_cases k2 : (x.kind.toNat : Int) = 2
  ·rw [if_neg k1, if_pos k2] at he ⊢
   rw [if_neg k1, if_pos k2]
   have ho : ownB x.owner = true := by simp [k2] at hf; exact hf.1.1.1
   have he' : takeE s.ps x.owner x.a = 0 := he
   obtain ⟨h1, h2⟩ := takeP_good h.p ho hw (takeE_zero he')
   refine ⟨⟨h1, h.h, l0, ?_⟩, by show s.last ≤ _; omega, Int.le_refl _, by show (if _ then _ else _) = _; rw [if_pos he'], Int.le_refl _, l0⟩
   show (if _ then _ else _) = _
   rw [if_pos he', h.su, ← h2]
   show _ = (sumM id (takeP s.ps x.owner x.a)).add (sumM KHo.a s.hs)
   apply am_ext <;> simp only [KAm.add, KAm.plus] <;> omega
  ·rw [if_neg k1, if_neg k2]
   rw [if_neg k1, if_neg k2] at he ⊢
   by_cases k3 : (x.kind.toNat : Int) = 3
   ·rw [if_pos k3] at he ⊢
    have ho : ownB x.owner = true ∧ ownB x.other = true := by simp [k3] at hf; exact ⟨hf.1.1.1.1, hf.1.1.1.2⟩
    unfold moveS at he ⊢
    by_cases ht : takeE s.ps x.owner x.a = 0
    ·rw [if_pos ht] at he ⊢
     obtain ⟨h1, h2⟩ := takeP_good h.p ho.1 hw (takeE_zero ht)
     obtain ⟨h3, h4⟩ := addP_good h1 ho.2 hw (addE_zero he)
     refine ⟨⟨h3, h.h, l0, ?_⟩, by show s.last ≤ _; omega, Int.le_refl _, rfl, Int.le_refl _, l0⟩
     show s.su = _
     rw [h.su, h4, h2]
    ·rw [if_neg ht] at he; exact absurd he ht
   ·rw [if_neg k3] at he ⊢
    by_cases k4 : (x.kind.toNat : Int) = 4
    ·rw [if_pos k4] at he ⊢
     have ho : ownB x.owner = true := by simp [k4] at hf; exact hf.1.1.1
     unfold holdS at he ⊢
     by_cases ht : takeE s.ps x.owner x.a = 0
     ·rw [if_pos ht] at he ⊢
      obtain ⟨h1, h2⟩ := takeP_good h.p ho hw (takeE_zero ht)
      by_cases h128 : (128 : Int) ≤ (s.hs.length : Int)
      ·rw [if_pos h128] at he; simp at he
      ·rw [if_neg h128]
       have hl : HoM.look s.hs (s.last + 1) = none := by
        cases e : HoM.look s.hs (s.last + 1) with
        | none => rfl
        | some v => have := h.h.at e; omega
       refine ⟨⟨h1, ⟨put_nodup h.h.nh _ _, by rw [put_new hl]; simp; omega, fun p hp => ?_⟩, by show 0 ≤ s.last + 1; omega, ?_⟩, Int.le_refl _, by show s.last ≤ s.last + 1; omega, rfl, by show 0 ≤ s.last + 1; omega, Int.le_refl _⟩
       ·show _ ∧ _ ∧ p.1 ≤ s.last + 1 ∧ _
        have hp : p ∈ HoM.put s.hs (s.last + 1) ⟨s.last + 1, x.owner, x.a⟩ := hp
        rw [put_new hl] at hp
        rcases List.mem_append.1 hp with hp | hp
        ·have := h.h.hk p hp
         exact ⟨this.1, this.2.1, by omega, this.2.2.2.1, this.2.2.2.2⟩
        ·rw [List.mem_singleton.1 hp]
         exact ⟨rfl, by show 1 ≤ s.last + 1; omega, Int.le_refl _, ho, hw⟩
       ·show s.su = (sumM id (takeP s.ps x.owner x.a)).add (sumM KHo.a (HoM.put s.hs (s.last + 1) ⟨s.last + 1, x.owner, x.a⟩))
        rw [h.su, ← h2, sum_put KHo.a h.h.nh, del_none hl, add_assoc']
     ·rw [if_neg ht] at he; exact absurd he ht
    ·rw [if_neg k4] at he ⊢
     have fin : ∀ o, (∀ v, HoM.look s.hs x.hold = some v → ownB o = true) → (payS s x.hold o).2.2 = 0 → Good2 (payS s x.hold o).1 ∧ (payS s x.hold o).1.last ≤ s.last + 1 ∧ s.last ≤ (payS s x.hold o).1.last ∧ (payS s x.hold o).1.su = s.su ∧ 0 ≤ (payS s x.hold o).2.1 ∧ (payS s x.hold o).2.1 ≤ (payS s x.hold o).1.last := fun o ho he => by
      obtain ⟨h1, h2, h3, h4⟩ := pay_good2 h ho he
      exact ⟨h1, by omega, by omega, h3, by omega, by omega⟩
     by_cases k5 : (x.kind.toNat : Int) = 5
     ·rw [if_pos k5] at he ⊢
      refine fin _ (fun v e => ?_) he
      have : hoA s.hs x.hold = v := by unfold hoA; rw [e]; rfl
      rw [this]; exact (h.h.at e).2.2.2.1
     ·rw [if_neg k5] at he ⊢
      by_cases k6 : (x.kind.toNat : Int) = 6
      ·rw [if_pos k6] at he ⊢
       refine fin _ (fun v e => ?_) he
       simp [k6] at hf
       exact hf.1.1.2
      ·rw [if_neg k6] at he ⊢
       exact ⟨h, by show s.last ≤ _; omega, Int.le_refl _, rfl, Int.le_refl _, l0⟩
/-- a result in order -/
structure ResOk (r : KRes) (last : Int) : Prop where
 dn : r.done = decide (r.e = 0)
 at0 : 0 ≤ r.at_ ∧ r.at_ < 16
 e : 0 ≤ r.e ∧ r.e < 65536
 hn : r.holds.length ≤ 16
 hk : ∀ n ∈ r.holds, 1 ≤ n ∧ n ≤ last
theorem ResOk.le {r : KRes} {l m : Int} (h : ResOk r l) (hl : l ≤ m) : ResOk r m := ⟨h.dn, h.at0, h.e, h.hn, fun n hn => ⟨(h.hk n hn).1, by have := (h.hk n hn).2; omega⟩⟩
theorem c5_ : (0:Int) ≤ 5 ∧ (5:Int) < 65536 := by decide
theorem c6_ : (0:Int) ≤ 6 ∧ (6:Int) < 65536 := by decide
theorem c0_ : (0:Int) ≤ 0 ∧ (0:Int) < 65536 := by decide
theorem c00_ : (0:Int) ≤ 0 ∧ (0:Int) < 16 := by decide
theorem actS_err (s : KSt) (x : KAct) : 0 ≤ (actS s x).2.2 ∧ (actS s x).2.2 < 65536 := by
 have ha : ∀ ps n a, 0 ≤ addE ps n a ∧ addE ps n a < 65536 := fun ps n a => by unfold addE; split <;> omega
 have ht : ∀ ps n a, 0 ≤ takeE ps n a ∧ takeE ps n a < 65536 := fun ps n a => by unfold takeE; split <;> omega
 have hp : ∀ q o, 0 ≤ (payS s q o).2.2 ∧ (payS s q o).2.2 < 65536 := fun q o => by
  unfold payS; split
  ·exact ha _ _ _
  ·exact c6_
 unfold actS
 split
 ·exact ha _ _ _
 ·split
  ·exact ht _ _ _
  ·split
   ·unfold moveS; split
    ·exact ha _ _ _
    ·exact ht _ _ _
   ·split
    ·unfold holdS; split
     ·split
      ·exact c5_
      ·exact c0_
     ·exact ht _ _ _
    ·split
     ·exact hp _ _
     ·split
      ·exact hp _ _
      ·exact ht _ _ _
/-- what a list of acts makes of the supply -/
noncomputable def supL : List KAct → KAm → KAm
 | [], su => su
 | x :: l, su => supL l (supD x su)
theorem run_good2 {s0 : KSt} (h0 : Good2 s0) : ∀ {xs : List KAct} {s : KSt} {made : List Int} {k : Nat}, Good2 s → s0.last ≤ s.last → (∀ x ∈ xs, x.formed = true) → k + xs.length ≤ 16 → made.length ≤ k → (∀ n ∈ made, 1 ≤ n ∧ n ≤ s.last) →
  Good2 (runA s0 s made k xs).1 ∧ (runA s0 s made k xs).1.last ≤ s.last + xs.length ∧ s0.last ≤ (runA s0 s made k xs).1.last ∧ ResOk (runA s0 s made k xs).2 (runA s0 s made k xs).1.last ∧
  (runA s0 s made k xs).1.su = if (runA s0 s made k xs).2.done then supL xs s.su else s0.su
 | [], s, made, k, h, hl, _, hk, hm, hh => ⟨h, by show s.last ≤ _; simp, hl, ⟨rfl, c00_, c0_, by show made.length ≤ 16; omega, hh⟩, rfl⟩
 | x :: xs, s, made, k, h, hl, hf, hk, hm, hh => by
  rw [List.length_cons] at hk ⊢
  unfold runA
  by_cases e : (actS s x).2.2 = 0
  ·rw [if_pos e]
   obtain ⟨h1, h2, h3, h4, h5, h6⟩ := actS_good2 h (hf x (by simp)) e
   have := run_good2 h0 (xs := xs) (s := (actS s x).1) (made := if 0 < (actS s x).2.1 then made ++ [(actS s x).2.1] else made) (k := k + 1) h1 (by omega) (fun y hy => hf y (by simp [hy])) (by omega) (by split <;> (try rw [List.length_append, List.length_singleton]) <;> omega) (fun n hn => by
    split at hn
    ·rcases List.mem_append.1 hn with hn | hn
     ·have := hh n hn; omega
     ·rw [List.mem_singleton.1 hn]; omega
    ·have := hh n hn; omega)
   obtain ⟨g1, g2, g3, g4, g5⟩ := this
   refine ⟨g1, by push_cast; omega, g3, g4, ?_⟩
   rw [g5, h4]; rfl
  ·rw [if_neg e]
   have he := actS_err s x
   exact ⟨h0, by push_cast; show s0.last ≤ _; omega, Int.le_refl _, ⟨by show false = decide _; simp [e], ⟨by show (0 : Int) ≤ (k : Int); omega, by show (k : Int) < 16; omega⟩, he, by simp, fun n hn => by cases hn⟩, rfl⟩
theorem carry_good2 {s : KSt} (h : Good2 s) {xs : List KAct} (hf : ∀ x ∈ xs, x.formed = true) (hl : xs.length ≤ 16) :
  Good2 (carryF s xs).1 ∧ (carryF s xs).1.last ≤ s.last + xs.length ∧ s.last ≤ (carryF s xs).1.last ∧ ResOk (carryF s xs).2 (carryF s xs).1.last ∧ (carryF s xs).1.su = if (carryF s xs).2.done then supL xs s.su else s.su :=
 run_good2 h (made := []) h (Int.le_refl _) hf (by omega) (by simp) (fun n hn => by cases hn)
theorem sum_bd : ∀ {l : List KAm}, (∀ a ∈ l, a.within = true) → (sumA l).bd (l.length * 2147483647) ∧ (0 ≤ (sumA l).a0 ∧ 0 ≤ (sumA l).a1 ∧ 0 ≤ (sumA l).a2 ∧ 0 ≤ (sumA l).a3)
 | [], _ => by unfold sumA KAm.bd zeroA; simp
 | a :: l, h => by
  obtain ⟨h1, h2⟩ := sum_bd (l := l) fun b hb => h b (by simp [hb])
  have hw := win_iff.1 (h a (by simp))
  unfold KAm.bd at h1 ⊢
  rw [List.length_cons]
  push_cast
  simp only [sumA, KAm.add]
  omega
/-- the supply is in bounds -/
theorem Good2.sup {s : KSt} (h : Good2 s) : (0 ≤ s.su.a0 ∧ s.su.a0 < 1099511627776) ∧ (0 ≤ s.su.a1 ∧ s.su.a1 < 1099511627776) ∧ (0 ≤ s.su.a2 ∧ s.su.a2 < 1099511627776) ∧ (0 ≤ s.su.a3 ∧ s.su.a3 < 1099511627776) := by
 have h1 := sum_bd (l := s.ps.map fun p => id p.2) (fun a ha => by obtain ⟨p, hp, rfl⟩ := List.mem_map.1 ha; exact (h.p.pk p hp).2.1)
 have h2 := sum_bd (l := s.hs.map fun p => p.2.a) (fun a ha => by obtain ⟨p, hp, rfl⟩ := List.mem_map.1 ha; exact (h.h.hk p hp).2.2.2.2)
 rw [List.length_map] at h1 h2
 have p1 := h.p.pn; have p2 := h.h.hn
 have e := h.su
 unfold KAm.bd at h1 h2
 rw [e]
 unfold sumM
 simp only [KAm.add]
 omega
theorem Good2.good {s : KSt} (h : Good2 s) {M : Int} (hM : s.last ≤ M) (hM2 : 1099511627776 ≤ M) : GoodS s M := by
 have := h.sup
 exact ⟨fun p hp => (h.p.pk p hp).2.1, fun p hp => (h.h.hk p hp).2.2.2.2, by unfold KAm.bd; omega, h.l0, hM⟩
theorem EqS.good2 {s t : KSt} (h : EqS s t) (g : Good2 t) : Good2 s := by
 refine ⟨⟨h.np, by rw [h.p.length_eq]; exact g.p.pn, fun p hp => g.p.pk p (h.p.mem_iff.1 hp)⟩, ⟨h.nh, by rw [h.h.length_eq]; exact g.h.hn, fun p hp => by rw [h.l]; exact g.h.hk p (h.h.mem_iff.1 hp)⟩, by rw [h.l]; exact g.l0, ?_⟩
 rw [h.u, g.su]
 unfold sumM
 rw [sumA_perm (h.p.symm.map fun p => id p.2), sumA_perm (h.h.symm.map fun p => KHo.a p.2)]
theorem Good2.refl {s : KSt} (g : Good2 s) : EqS s s := ⟨List.Perm.refl _, List.Perm.refl _, rfl, rfl, g.p.np, g.h.nh⟩
end Go.Td

namespace Go.Td
open Go.Sl
/-- bit i of some bytes, the highest of a byte first -/
def bitAt (xs : List UInt8) (i : Nat) : Bool := (xs.getD (i / 8) 0).toNat.testBit (7 - i % 8)
/-- the bits of a number, the highest first -/
def bitsV (v : UInt64) (k : Nat) : List Bool := (List.range k).map fun j => v.toNat.testBit (k - 1 - j)
theorem bitsV_len (v : UInt64) (k : Nat) : (bitsV v k).length = k := by simp [bitsV]
theorem bitsV_at {v : UInt64} {k i : Nat} (h : i < k) : (bitsV v k)[i]? = some (v.toNat.testBit (k - 1 - i)) := by
 unfold bitsV
 rw [List.getElem?_map, List.getElem?_range h]; rfl
theorem bitsV_succ (v : UInt64) (k : Nat) : bitsV v (k + 1) = v.toNat.testBit k :: bitsV v k := by
 unfold bitsV
 rw [List.range_succ_eq_map, List.map_cons, List.map_map]
 rw [show v.toNat.testBit (k + 1 - 1 - 0) = v.toNat.testBit k from rfl]
 refine congrArg _ (List.map_congr_left fun j _ => ?_)
 show v.toNat.testBit (k + 1 - 1 - (j + 1)) = _
 rw [show k + 1 - 1 - (j + 1) = k - 1 - j by omega]
/-- a writer has written these bits -/
structure Wr (xs : List UInt8) (n : Nat) (l : List Bool) : Prop where
 len : xs.length = (n + 7) / 8
 num : l.length = n
 bit : ∀ i, bitAt xs i = l.getD i false
theorem wr_nil : Wr [] 0 [] := ⟨rfl, rfl, fun i => by simp [bitAt]⟩
theorem bitB_test (v : UInt64) (j n i : Nat) (hj : j < 64) (hi : i < 8) : (bitB v j n).toNat.testBit (7 - i) = (decide (i = n % 8) && v.toNat.testBit j) := by
 have hb : ((v >>> UInt64.ofNat j) &&& (1 : UInt64)).toUInt8.toNat = (v.toNat.testBit j).toNat := by
  have e : (UInt64.ofNat j).toNat % 64 = j := by simp; omega
  rw [UInt64.toNat_toUInt8, UInt64.toNat_and, UInt64.toNat_shiftRight, e]
  show (v.toNat >>> j &&& 1) % 256 = _
  rw [Nat.and_one_is_mod, Nat.testBit_eq_decide_div_mod_eq, Nat.shiftRight_eq_div_pow]
  rcases Nat.mod_two_eq_zero_or_one (v.toNat / 2 ^ j) with h | h <;> simp [h]
 have h8 : (UInt8.ofNat (7 - n % 8)).toNat % 8 = 7 - n % 8 := by simp; omega
 unfold bitB
 rw [UInt8.toNat_shiftLeft, h8, hb]
 show ((v.toNat.testBit j).toNat <<< (7 - n % 8) % 2 ^ 8).testBit (7 - i) = _
 rw [Nat.testBit_mod_two_pow, Nat.testBit_shiftLeft]
 cases v.toNat.testBit j
 ·simp
 ·have e1 : decide (7 - i < 8) = true := by simp; omega
  rw [e1, Bool.true_and, Bool.and_true]
  by_cases hi' : i = n % 8
  ·subst hi'
   simp
  ·by_cases hg : 7 - n % 8 ≤ 7 - i
   ·have e2 : (true.toNat).testBit (7 - i - (7 - n % 8)) = false := by
     have e3 : 7 - i - (7 - n % 8) = (7 - i - (7 - n % 8) - 1) + 1 := by omega
     rw [e3]; show Nat.testBit 1 _ = false
     rw [Nat.testBit_succ]; simp
    rw [e2]; simp [hi']
   ·simp [hg, hi']
theorem growW_bit (xs : List UInt8) (n i : Nat) : bitAt (growW xs n) i = bitAt xs i := by
 unfold growW
 split
 ·unfold bitAt
  by_cases h : i / 8 < xs.length
  ·rw [List.getD_eq_getElem?_getD, List.getD_eq_getElem?_getD, List.getElem?_append_left h]
  ·rw [List.getD_eq_getElem?_getD, List.getD_eq_getElem?_getD, List.getElem?_append_right (by omega), List.getElem?_eq_none (l := xs) (by omega)]
   cases e : ([0] : List UInt8)[i / 8 - xs.length]? with
   | none => rfl
   | some y =>
    obtain ⟨h1, h2⟩ := List.getElem?_eq_some_iff.1 e
    have : y = 0 := by
     rw [← h2]; simp at h1
     simp [h1]
    rw [this]; rfl
 ·rfl
theorem push_bit {xs : List UInt8} {n : Nat} {v : UInt64} {j : Nat} (hl : xs.length = (n + 7) / 8) (hj : j < 64) (i : Nat) : bitAt (pushW xs n (bitB v j n)) i = (bitAt xs i || (decide (i = n) && v.toNat.testBit j)) := by
 have hg : n / 8 < (growW xs n).length := by unfold growW; split <;> (try rw [List.length_append, List.length_singleton]) <;> omega
 have hx := growW_bit xs n i
 unfold bitAt at hx
 unfold pushW bitAt
 by_cases h : i / 8 = n / 8
 ·rw [List.getD_eq_getElem?_getD, h, List.getElem?_set_self hg]
  rw [h] at hx
  simp only [Option.getD_some]
  rw [UInt8.toNat_or, Nat.testBit_or, bitB_test v j n (i % 8) hj (Nat.mod_lt _ (by decide)), hx]
  congr 2
  exact decide_eq_decide.2 ⟨fun e => by omega, fun e => by rw [e]⟩
 ·rw [List.getD_eq_getElem?_getD, List.getElem?_set_ne (by omega), ← List.getD_eq_getElem?_getD, hx]
  have : ¬ i = n := fun e => h (by rw [e])
  simp [this]
theorem push_wr {xs : List UInt8} {n : Nat} {l : List Bool} {v : UInt64} {j : Nat} (h : Wr xs n l) (hj : j < 64) : Wr (pushW xs n (bitB v j n)) (n + 1) (l ++ [v.toNat.testBit j]) := by
 refine ⟨push_len h.len, by simp [h.num], fun i => ?_⟩
 rw [push_bit h.len hj, h.bit]
 have hn := h.num
 rcases Nat.lt_trichotomy i n with h1 | h1 | h1
 ·rw [List.getD_eq_getElem?_getD, List.getD_eq_getElem?_getD, List.getElem?_append_left (by omega)]
  simp [Nat.ne_of_lt h1]
 ·subst h1
  rw [List.getD_eq_getElem?_getD, List.getD_eq_getElem?_getD, List.getElem?_append_right (by omega), List.getElem?_eq_none (by omega), hn]
  simp
 ·rw [List.getD_eq_getElem?_getD, List.getD_eq_getElem?_getD, List.getElem?_eq_none (by omega), List.getElem?_eq_none (by simp; omega)]
  simp [Nat.ne_of_gt h1]
theorem putB_wr {v : UInt64} : ∀ {k : Nat} {xs : List UInt8} {n : Nat} {l : List Bool}, k ≤ 64 → Wr xs n l → Wr (putB v k xs n) (n + k) (l ++ bitsV v k)
 | 0, _, _, _, _, h => by
  rw [show ∀ l : List Bool, l ++ bitsV v 0 = l from fun l => List.append_nil l]; exact h
 | k + 1, xs, n, l, hk, h => by
  have := putB_wr (v := v) (k := k) (by omega) (push_wr (v := v) (j := k) h (by omega))
  rw [bitsV_succ, show n + (k + 1) = n + 1 + k by omega, show l ++ v.toNat.testBit k :: bitsV v k = l ++ [v.toNat.testBit k] ++ bitsV v k by simp]
  exact this
/-- bits of amounts, acts, transactions -/
def amL (a : KAm) (k : Nat) : List Bool := bitsV (U a.a0) k ++ (bitsV (U a.a1) k ++ (bitsV (U a.a2) k ++ bitsV (U a.a3) k))
def actL (x : KAct) : List Bool := bitsV (U ((x.kind.toNat : Nat) : Int)) 3 ++ (bitsV (U x.owner) 17 ++ (bitsV (U x.other) 17 ++ (bitsV (U x.hold) 64 ++ amL x.a 31)))
def actsL : List KAct → List Bool
 | [] => []
 | x :: l => actL x ++ actsL l
def dealL (au nu : Int) (al : List KAct) : List Bool := bitsV (U au) 7 ++ (bitsV (U nu) 41 ++ (bitsV (U (al.length : Int)) 9 ++ actsL al))
theorem amB_wr {a : KAm} {k : Nat} {xs : List UInt8} {n : Nat} {l : List Bool} (hk : k ≤ 64) (h : Wr xs n l) : Wr (amB a k xs n) (n + k + k + k + k) (l ++ amL a k) := by
 have := putB_wr (v := U a.a3) hk (putB_wr (v := U a.a2) hk (putB_wr (v := U a.a1) hk (putB_wr (v := U a.a0) hk h)))
 simpa only [List.append_assoc, amL, amB] using this
theorem actB_wr {x : KAct} {xs : List UInt8} {n : Nat} {l : List Bool} (h : Wr xs n l) : Wr (actB x xs n) (n + 225) (l ++ actL x) := by
 have := amB_wr (a := x.a) (k := 31) (by decide) (putB_wr (v := U x.hold) (k := 64) (by decide) (putB_wr (v := U x.other) (k := 17) (by decide) (putB_wr (v := U x.owner) (k := 17) (by decide) (putB_wr (v := U ((x.kind.toNat : Nat) : Int)) (k := 3) (by decide) h))))
 rw [show n + 225 = n + 3 + 17 + 17 + 64 + 31 + 31 + 31 + 31 by omega]
 simpa only [List.append_assoc, actL, actB] using this
theorem actsB_wr : ∀ {al : List KAct} {xs : List UInt8} {n : Nat} {l : List Bool}, Wr xs n l → Wr (actsB al xs n) (n + 225 * al.length) (l ++ actsL al)
 | [], _, _, _, h => by simpa [actsB, actsL] using h
 | x :: al, xs, n, l, h => by
  have := actsB_wr (al := al) (actB_wr (x := x) h)
  rw [List.length_cons, show n + 225 * (al.length + 1) = n + 225 + 225 * al.length by omega]
  simpa only [List.append_assoc, actsL, actsB] using this
theorem dealB_wr {au nu : Int} {al : List KAct} {xs : List UInt8} {n : Nat} {l : List Bool} (h : Wr xs n l) : Wr (dealB au nu al xs n) (n + (57 + 225 * al.length)) (l ++ dealL au nu al) := by
 have := actsB_wr (al := al) (putB_wr (v := U (al.length : Int)) (k := 9) (by decide) (putB_wr (v := U nu) (k := 41) (by decide) (putB_wr (v := U au) (k := 7) (by decide) h)))
 rw [show n + (57 + 225 * al.length) = n + 7 + 41 + 9 + 225 * al.length by omega]
 simpa only [List.append_assoc, dealL, dealB] using this
/-- what is left to be read of some bytes, behind n bits; but for the padding -/
structure Rd (xs : List UInt8) (n : Nat) (l : List Bool) : Prop where
 pad : n + l.length ≤ 8 * xs.length ∧ 8 * xs.length ≤ n + l.length + 7
 bit : ∀ i, bitAt xs (n + i) = l.getD i false
theorem Wr.rd {xs : List UInt8} {n : Nat} {l : List Bool} (h : Wr xs n l) : Rd xs 0 l := by
 have h1 := h.len; have h2 := h.num
 exact ⟨by omega, fun i => by rw [Nat.zero_add]; exact h.bit i⟩
theorem Rd.drop {xs : List UInt8} {n : Nat} {a l : List Bool} (h : Rd xs n (a ++ l)) : Rd xs (n + a.length) l := by
 have h1 := h.pad
 rw [List.length_append] at h1
 refine ⟨by omega, fun i => ?_⟩
 rw [Nat.add_assoc, h.bit, List.getD_eq_getElem?_getD, List.getD_eq_getElem?_getD, List.getElem?_append_right (by omega), show a.length + i - a.length = i by omega]
/-- what a reader makes of j bits -/
def bit64 (xs : List UInt8) (i : Nat) : UInt64 := ((xs.getD (i / 8) 0) >>> UInt8.ofNat (7 - i % 8) &&& (1 : UInt8)).toUInt64
def rdU (xs : List UInt8) (n : Nat) : Nat → UInt64
 | 0 => 0
 | j + 1 => (rdU xs n j <<< (1 : UInt64)) ||| bit64 xs (n + j)
theorem bit64_nat (xs : List UInt8) (i : Nat) : (bit64 xs i).toNat = (bitAt xs i).toNat := by
 unfold bit64 bitAt
 have h8 : (UInt8.ofNat (7 - i % 8)).toNat % 8 = 7 - i % 8 := by simp; omega
 rw [UInt8.toNat_toUInt64, UInt8.toNat_and, UInt8.toNat_shiftRight, h8]
 show ((xs.getD (i / 8) 0).toNat >>> (7 - i % 8) &&& 1) = _
 rw [Nat.and_one_is_mod, Nat.testBit_eq_decide_div_mod_eq, Nat.shiftRight_eq_div_pow]
 generalize (xs.getD (i / 8) 0).toNat / 2 ^ (7 - i % 8) = z
 rcases Nat.mod_two_eq_zero_or_one z with h | h <;> simp [h]
theorem rdU_nat {xs : List UInt8} {n k : Nat} {v : UInt64} (hk : k ≤ 64) (hv : k = 64 ∨ v.toNat < 2 ^ k) (h : ∀ i, i < k → bitAt xs (n + i) = v.toNat.testBit (k - 1 - i)) : ∀ j, j ≤ k → (rdU xs n j).toNat = v.toNat >>> (k - j)
 | 0, _ => by
  have hv' : v.toNat < 2 ^ k := by
   rcases hv with rfl | h
   ·exact v.toNat_lt
   ·exact h
  rw [Nat.sub_zero, Nat.shiftRight_eq_div_pow, Nat.div_eq_of_lt hv']; rfl
 | j + 1, hj => by
  have ih := rdU_nat hk hv h j (by omega)
  have hv' : v.toNat < 2 ^ 64 := v.toNat_lt
  unfold rdU
  rw [UInt64.toNat_or, UInt64.toNat_shiftLeft, ih, bit64_nat, h j (by omega)]
  have e1 : (1 : UInt64).toNat % 64 = 1 := rfl
  rw [e1]
  have e2 : v.toNat >>> (k - j) <<< 1 % 2 ^ 64 = v.toNat >>> (k - j) <<< 1 := by
   refine Nat.mod_eq_of_lt ?_
   rw [Nat.shiftLeft_eq, Nat.shiftRight_eq_div_pow]
   have h1 : 2 ^ 1 ≤ 2 ^ (k - j) := Nat.pow_le_pow_right (by decide) (by omega)
   have h2 : v.toNat / 2 ^ (k - j) ≤ v.toNat / 2 ^ 1 := Nat.div_le_div_left h1 (by decide)
   omega
  rw [e2]
  apply Nat.eq_of_testBit_eq
  intro i
  rw [Nat.testBit_or, Nat.testBit_shiftLeft, Nat.testBit_shiftRight, Nat.testBit_shiftRight]
  cases i with
  | zero =>
   have : k - 1 - j = k - (j + 1) + 0 := by omega
   rw [← this]
   cases v.toNat.testBit (k - 1 - j) <;> rfl
  | succ i =>
   have : k - j + (i + 1 - 1) = k - (j + 1) + (i + 1) := by omega
   rw [this]
   have e3 : ((v.toNat.testBit (k - 1 - j)).toNat).testBit (i + 1) = false := by cases v.toNat.testBit (k - 1 - j) <;> simp [Nat.testBit_succ]
   rw [e3]; simp
theorem Rd.get {xs : List UInt8} {n k : Nat} {v : UInt64} {l : List Bool} (h : Rd xs n (bitsV v k ++ l)) (hk : k ≤ 64) (hv : k = 64 ∨ v.toNat < 2 ^ k) : rdU xs n k = v ∧ Rd xs (n + k) l ∧ n + k ≤ 8 * xs.length := by
 have hd := h.drop
 have hp := h.pad
 rw [List.length_append, bitsV_len] at hp
 rw [bitsV_len] at hd
 refine ⟨UInt64.toNat_inj.1 ?_, hd, by omega⟩
 have := rdU_nat (xs := xs) (n := n) hk hv (fun i hi => by
  rw [h.bit, List.getD_eq_getElem?_getD, List.getElem?_append_left (by rw [bitsV_len]; exact hi), bitsV_at hi]; rfl) k (Nat.le_refl _)
 rw [this, Nat.sub_self]; rfl
theorem Rd.end_ {xs : List UInt8} {n : Nat} (h : Rd xs n []) : rdU xs n (8 * xs.length - n) = 0 ∧ n ≤ 8 * xs.length ∧ 8 * xs.length ≤ n + 7 := by
 have hp := h.pad
 simp only [List.length_nil, Nat.add_zero] at hp
 refine ⟨?_, hp.1, hp.2⟩
 have hz : ∀ j, rdU xs n j = 0 := by
  intro j
  induction j with
  | zero => rfl
  | succ j ih =>
   unfold rdU
   rw [ih]
   have : bit64 xs (n + j) = 0 := by
    apply UInt64.toNat_inj.1
    rw [bit64_nat, h.bit]; rfl
   rw [this]; rfl
 exact hz _
end Go.Td

namespace Go.Jn
open Go.Sl

abbrev stCells (pH pA pB : Option Addr) (cH cA cB : Nat) (k : KS) : Array Value := #[.slice pH k.head.length cH, .slice pA k.a.length cA, .slice pB k.b.length cB, Ix k.power]
abbrev stL (S : Nat) (pH pA pB : Option Addr) (cH cA cB : Nat) (k : KS) : List Res :=
 [pt S (.cells (stCells pH pA pB cH cA cB k) 29), row (.slice pH k.head.length cH) 5 1 k.head.length (BX k.head), row (.slice pA k.a.length cA) 5 1 k.a.length (BX k.a), row (.slice pB k.b.length cB) 5 1 k.b.length (BX k.b)]
/-- a store of one's own, in block S -/
def storeR (S : Nat) (k : KS) : Res := fun h => ∃ pH pA pB cH cA cB, Sat (stL S pH pA pB cH cA cB k) h
theorem St.openStore {β : Base} {S : Nat} {k : KS} {M : List Res} {w : World} (h : St β (storeR S k :: M) w) : ∃ pH pA pB cH cA cB, St β (stL S pH pA pB cH cA cB k ++ M) w := by
 obtain ⟨ho, ht, hp, a, hd, hs, hs', p, q, h1, h2, h3, ⟨pH, pA, pB, cH, cA, cB, hx⟩, h5⟩ := h
 exact ⟨pH, pA, pB, cH, cA, cB, St.unbun ⟨ho, ht, hp, a, hd, hs, hs', p, q, h1, h2, h3, hx, h5⟩⟩
theorem St.closeStore {β : Base} {S : Nat} {pH pA pB : Option Addr} {cH cA cB : Nat} {k : KS} {M : List Res} {w : World} (h : St β (stL S pH pA pB cH cA cB k ++ M) w) : St β (storeR S k :: M) w :=
 h.merge fun _ h => ⟨pH, pA, pB, cH, cA, cB, h⟩

abbrev jCells (S : Nat) (ps pr : Option Addr) (cs cr : Nat) (i : KI) (dn : Bool) : Array Value :=
 #[.pointer (some ⟨S, 0, none⟩), Nx i.epoch, Nx i.next, .slice ps i.state.length cs, .slice pr i.recs.length cr, Nx i.size, .bool dn]
abbrev jL (J S : Nat) (ps pr : Option Addr) (cs cr : Nat) (i : KI) (dn : Bool) : List Res :=
 [pt J (.cells (jCells S ps pr cs cr i dn) 143), row (.slice ps i.state.length cs) 5 1 i.state.length (BX i.state), recsR 27 pr cr i.recs]
/-- a Journal of one's own, in block J, on the store in block S -/
def jourR (J S : Nat) (i : KI) (dn : Bool) : Res := fun h => ∃ ps pr cs cr, Sat (jL J S ps pr cs cr i dn) h
theorem St.openJour {β : Base} {J S : Nat} {i : KI} {dn : Bool} {M : List Res} {w : World} (h : St β (jourR J S i dn :: M) w) : ∃ ps pr cs cr, St β (jL J S ps pr cs cr i dn ++ M) w := by
 obtain ⟨ho, ht, hp, a, hd, hs, hs', p, q, h1, h2, h3, ⟨ps, pr, cs, cr, hx⟩, h5⟩ := h
 exact ⟨ps, pr, cs, cr, St.unbun ⟨ho, ht, hp, a, hd, hs, hs', p, q, h1, h2, h3, hx, h5⟩⟩
theorem St.closeJour {β : Base} {J S : Nat} {ps pr : Option Addr} {cs cr : Nat} {i : KI} {dn : Bool} {M : List Res} {w : World} (h : St β (jL J S ps pr cs cr i dn ++ M) w) : St β (jourR J S i dn :: M) w :=
 h.merge fun _ h => ⟨ps, pr, cs, cr, h⟩

/-- what a failure of the power hands on -/
def chP : List PanicEntry := [{ v := .iface 185 (.agg #[]), recovered := false }]

/-! What the journal's methods make of a store. -/
def spendP (p : Int) : Int := if 0 < p then p - 1 else p
theorem wr_length {xs : Bs} : ∀ {bs : Bs} {at_ : Nat}, (wr xs at_ bs).length ≤ xs.length + bs.length
 | [], _ => by simp [wr]
 | b :: bs, at_ => by
  unfold wr
  refine Nat.le_trans (wr_length (bs := bs)) ?_
  split <;> simp <;> omega
theorem wr_snoc {xs : Bs} {b : UInt8} : ∀ {bs : Bs} {at_ : Nat}, wr xs at_ (bs ++ [b]) = (if at_ + bs.length < (wr xs at_ bs).length then (wr xs at_ bs).set (at_ + bs.length) b else wr xs at_ bs ++ [b])
 | [], at_ => by simp [wr]; rfl
 | c :: bs, at_ => by
  show wr _ (at_ + 1) (bs ++ [b]) = _
  rw [wr_snoc (bs := bs)]
  simp only [wr, List.length_cons, show at_ + 1 + bs.length = at_ + (bs.length + 1) by omega]
  rfl
theorem wr_take {xs bs : Bs} {at_ k : Nat} {b : UInt8} (h : bs[k]? = some b) : wr xs at_ (bs.take (k + 1)) = (if at_ + k < (wr xs at_ (bs.take k)).length then (wr xs at_ (bs.take k)).set (at_ + k) b else wr xs at_ (bs.take k) ++ [b]) := by
 have hl := (List.getElem?_eq_some_iff.1 h).1
 rw [take_succ h, wr_snoc]
 simp [Nat.min_eq_left (Nat.le_of_lt hl)]
theorem pw_step {p : Int} {k m : Nat} (h : k ≤ pw p m) (hk : k < m) (hp : pl p k ≠ 0) : k + 1 ≤ pw p m ∧ spendP (pl p k) = pl p (k + 1) := by
 unfold pw pl spendP at *
 by_cases h0 : p < 0
 ·rw [if_pos h0] at h hp ⊢
  rw [if_pos h0, if_pos h0]
  exact ⟨by omega, if_neg (by omega)⟩
 ·rw [if_neg h0] at h hp ⊢
  rw [if_neg h0, if_neg h0]
  refine ⟨by omega, ?_⟩
  split <;> omega
theorem pw_stop {p : Int} {k m : Nat} (h : k ≤ pw p m) (hk : k < m) (hp : pl p k = 0) : pw p m = k ∧ pl p m = 0 := by
 unfold pw pl at *
 by_cases h0 : p < 0
 ·rw [if_pos h0] at hp; omega
 ·rw [if_neg h0] at h hp
  rw [if_neg h0, if_neg h0]
  omega
theorem pw_all {p : Int} {m k : Nat} (h : k ≤ pw p m) (hk : m ≤ k) : pw p m = m ∧ k = m := by
 unfold pw at *
 split at h <;> (constructor <;> (try split) <;> omega)
/-- write: the area, the power left, and whether all was written -/
def wrA (xs : Bs) (p : Int) (at_ : Nat) (bs : Bs) : Bs := wr xs at_ (bs.take (pw p bs.length))
def wrOk (p : Int) (bs : Bs) : Prop := pw p bs.length = bs.length
instance (p : Int) (bs : Bs) : Decidable (wrOk p bs) := by unfold wrOk; infer_instance
/-- cut -/
def cutOk (xs : Bs) (p : Int) (size : Nat) : Prop := xs.length ≤ size ∨ p ≠ 0
instance (xs : Bs) (p : Int) (size : Nat) : Decidable (cutOk xs p size) := by unfold cutOk; infer_instance
def cutA (xs : Bs) (p : Int) (size : Nat) : Bs := if p = 0 then xs else xs.take size
def cutP (xs : Bs) (p : Int) (size : Nat) : Int := if size < xs.length then spendP p else p

/-- the store behind writing to the area of an epoch, behind cutting it -/
def wrS (k : KS) (e at_ : Nat) (bs : Bs) : KS := { k.setArea e (wrA (k.area e) k.power at_ bs) with power := pl k.power bs.length }
def cutS (k : KS) (e size : Nat) : KS := { k.setArea e (cutA (k.area e) k.power size) with power := cutP (k.area e) k.power size }
/-- the head written -/
def wrH (k : KS) (at_ : Nat) (bs : Bs) : KS := { k with head := wrA k.head k.power at_ bs, power := pl k.power bs.length }
/-- what Append does to the store -/
def apS (k : KS) (i : KI) (bs : Bs) : KS := wrS k i.epoch i.size (formB i.epoch i.next bs)
def apOk (k : KS) (i : KI) (bs : Bs) : Prop := wrOk k.power (formB i.epoch i.next bs)
instance (k : KS) (i : KI) (bs : Bs) : Decidable (apOk k i bs) := by unfold apOk; infer_instance
def ckI (i : KI) (bs : Bs) : KI := { epoch := i.epoch + 1, next := i.next, state := bs, recs := [], size := 24 + bs.length }
def apI (i : KI) (bs : Bs) : KI := { i with recs := i.recs ++ [bs], size := i.size + (formB i.epoch i.next bs).length, next := i.next + 1 }
/-- what Checkpoint does to the store: epoch e, number n -/
def copyB (e : Nat) : Bs := be 8 (U (e : Int)) ++ be 8 (tickU (e : Int))
def ck1 (k : KS) (e : Nat) : KS := cutS k e 0
def ck2 (k : KS) (e n : Nat) (bs : Bs) : KS := wrS (ck1 k e) e 0 (formB e n bs)
def ck3 (k : KS) (e n : Nat) (bs : Bs) : KS := let q := ck2 k e n bs; if q.head.length = 0 then { q with head := List.replicate 32 0 } else q
def ck4 (k : KS) (e n : Nat) (bs : Bs) : KS := wrH (ck3 k e n bs) (e % 2 * 16) (copyB e)
def ckOk1 (k : KS) (e : Nat) : Prop := cutOk (k.area e) k.power 0
def ckOk2 (k : KS) (e n : Nat) (bs : Bs) : Prop := wrOk (ck1 k e).power (formB e n bs)
def ckOk3 (k : KS) (e n : Nat) (bs : Bs) : Prop := wrOk (ck3 k e n bs).power (copyB e)
instance (k : KS) (e : Nat) : Decidable (ckOk1 k e) := by unfold ckOk1; infer_instance
instance (k : KS) (e n : Nat) (bs : Bs) : Decidable (ckOk2 k e n bs) := by unfold ckOk2; infer_instance
instance (k : KS) (e n : Nat) (bs : Bs) : Decidable (ckOk3 k e n bs) := by unfold ckOk3; infer_instance
def ckS (k : KS) (e n : Nat) (bs : Bs) : KS := if ckOk1 k e then (if ckOk2 k e n bs then ck4 k e n bs else ck2 k e n bs) else k
def ckOk (k : KS) (e n : Nat) (bs : Bs) : Prop := ckOk1 k e ∧ ckOk2 k e n bs ∧ ckOk3 k e n bs
instance (k : KS) (e n : Nat) (bs : Bs) : Decidable (ckOk k e n bs) := by unfold ckOk; infer_instance
end Go.Jn
namespace Go.Jn
open Go.Sl
section
variable {P : Program} {ro : Option Nat} {n : Nat} {ds : List Deferred} {β : Base} {Q : Exit → Act → World → Prop} {f : Fm} {L : List Res} {ops : Array Oper} {rest : List Oper}
variable {d : Option Tmp} {ty : TypeId} {ps : String} {af : Array Edge} {g : Option (Nat × Bool)}

theorem c_openStore {c : Code} {S : Nat} {k : KS} {M : List Res} (hL : L = storeR S k :: M) (K : ∀ pH pA pB cH cA cB, RunC P ro n ds β c Q f (stL S pH pA pB cH cA cB k ++ M)) : RunC P ro n ds β c Q f L := fun a w ha hw => by
 subst hL
 obtain ⟨pH, pA, pB, cH, cA, cB, h⟩ := St.openStore hw
 exact K pH pA pB cH cA cB a w ha h
theorem c_closeStore {c : Code} {S : Nat} {pH pA pB : Option Addr} {cH cA cB : Nat} {k : KS} {M : List Res} (hL : L = stL S pH pA pB cH cA cB k ++ M) (K : RunC P ro n ds β c Q f (storeR S k :: M)) : RunC P ro n ds β c Q f L := fun a w ha hw => by
 subst hL
 exact K a w ha (St.closeStore hw)
theorem f_closeStore {e : Exit} {S : Nat} {pH pA pB : Option Addr} {cH cA cB : Nat} {k : KS} {M : List Res} (hL : L = stL S pH pA pB cH cA cB k ++ M) (K : Fin n ds β Q e f (storeR S k :: M)) : Fin n ds β Q e f L := fun a w ha hw => by
 subst hL
 exact K a w ha (St.closeStore hw)

/-- append of one slice of bytes to a row of such -/
theorem m_appendRec {x y : Operand} {t T bytes b n2 c2 c : Nat} {p q : Option Addr} {xs : List Bs} {bs : Bs} {M : List Res} (hL : L = recsR T p c xs :: row (.slice q n2 c2) 5 1 n2 (BX bs) :: pt b (.cells #[.slice q n2 c2] T) :: M)
  (hsl : slB P t T 1 = true) (hel : elB P T 1 bytes = true) (hx : ev f x = .slice p xs.length c) (hy : ev f y = .slice (some ⟨b, 0, none⟩) 1 1) (hby : (xs.length + 1) * bytes ≤ 140737488355328) (h63 : xs.length + 1 ≤ 140737488355328) :
  MV P β L f ⟨d, .call ⟨.builtin .append, #[x, y], #[t, t]⟩, ty, ps, af, g⟩ (fun v' L' => ∃ p' c', v' = .slice p' (xs ++ [bs]).length c' ∧ L' = recsR T p' c' (xs ++ [bs]) :: pt b (.cells #[.slice q n2 c2] T) :: M) := fun w hw => by
 subst hL
 obtain ⟨us, hw1⟩ := hw.ex (r := fun us h => Sat [row (.slice p xs.length c) T 1 xs.length us, ins us xs] h)
 have hw2 := hw1.unbun
 have hk : Knows β (row (.slice p xs.length c) T 1 xs.length us :: ins us xs :: row (.slice q n2 c2) 5 1 n2 (BX bs) :: pt b (.cells #[.slice q n2 c2] T) :: M) (fun h => Cs h (ba (some ⟨b, 0, none⟩)) [.slice q n2 c2]) :=
  k_pt 3 (cs := #[.slice q n2 c2]) (vs := [.slice q n2 c2]) rfl rfl
 obtain ⟨v', w', L', g1, g2, p', c', rfl, rfl⟩ := m_append_w (P := P) (ty := ty) (ps := ps) (af := af) (g := g) (d := d) (m := xs.length) (vs := us) (n := 1) 0 hsl hel hx rfl hy (by rfl) hk (by rfl) (fun _ => rfl) (by unfold maxLen; omega) hby w hw2
 have e1 : (xs ++ [bs]).length = xs.length + 1 := by simp
 refine ⟨_, w', _, g1, ?_, p', c', by rw [e1], rfl⟩
 have g3 : St β ([row (.slice p' (xs.length + 1) c') T 1 (xs.length + 1) (us ++ [.slice q n2 c2]), ins us xs, row (.slice q n2 c2) 5 1 n2 (BX bs)] ++ (pt b (.cells #[.slice q n2 c2] T) :: M)) w' := g2
 refine St.merge g3 ?_
 rintro a ⟨a1, b1, hd, h1, h2, hr, a2, b2, hd2, h3, h4, hi, a3, b3, hd3, h5, h6, hr2, _⟩
 refine ⟨us ++ [.slice q n2 c2], a1, b1, hd, h1, h2, by rw [e1]; exact hr, b1, fun _ => none, fun _ => .inr rfl, Sub.refl _, fun _ _ h => (by cases h), ?_, trivial⟩
 exact ins_snoc (ins.mono _ _ _ _ h3 hi) (Sl.mono _ _ _ _ _ (h5.trans h4) (row_u8 hr2)) (shp.mono _ _ _ (h5.trans h4) (row_shp hr2))
end

/-- what is to be read of a Journal -/
def JF (J S : Nat) (i : KI) (dn : Bool) : PHeap → Prop := fun h => ∃ ps pr cs cr, Cs h ⟨J, 0, none⟩ (jCells S ps pr cs cr i dn).toList ∧ Sl U8R h (.slice ps i.state.length cs) i.state ∧ Sl BsR h (.slice pr i.recs.length cr) i.recs
theorem JF.mono (J S : Nat) (i : KI) (dn : Bool) : Mono (JF J S i dn) := fun h h' hs ⟨ps, pr, cs, cr, h1, h2, h3⟩ => ⟨ps, pr, cs, cr, Cs.mono _ _ _ _ hs h1, Sl.mono _ _ _ _ _ hs h2, Sl.mono _ _ _ _ _ hs h3⟩
theorem wrS_even {k : KS} {e at_ : Nat} {bs : Bs} (h : e % 2 = 0) : { k with a := wrA k.a k.power at_ bs, power := pl k.power bs.length } = wrS k e at_ bs := by simp [wrS, KS.setArea, KS.area, h]
theorem wrS_odd {k : KS} {e at_ : Nat} {bs : Bs} (h : e % 2 = 1) : { k with b := wrA k.b k.power at_ bs, power := pl k.power bs.length } = wrS k e at_ bs := by simp [wrS, KS.setArea, KS.area, h]
theorem cutS_even {k : KS} {e size : Nat} (h : e % 2 = 0) : { k with a := cutA k.a k.power size, power := cutP k.a k.power size } = cutS k e size := by simp [cutS, KS.setArea, KS.area, h]
theorem cutS_odd {k : KS} {e size : Nat} (h : e % 2 = 1) : { k with b := cutA k.b k.power size, power := cutP k.b k.power size } = cutS k e size := by simp [cutS, KS.setArea, KS.area, h]
theorem area_even {k : KS} {e : Nat} (h : e % 2 = 0) : k.area e = k.a := if_pos h
theorem area_odd {k : KS} {e : Nat} (h : e % 2 = 1) : k.area e = k.b := if_neg (by omega)
def KS.fits (k : KS) (m : Nat) : Prop := k.head.length ≤ 1048576 ∧ k.a.length ≤ m ∧ k.b.length ≤ m ∧ k.power ≤ 9223372036854775807
theorem KS.fits.le {k : KS} {m m' : Nat} (h : k.fits m) (hm : m ≤ m') : k.fits m' := ⟨h.1, by have := h.2.1; omega, by have := h.2.2.1; omega, h.2.2.2⟩
theorem KS.fits.wr {k : KS} {m e at_ : Nat} {bs : Bs} (h : k.fits m) : (wrS k e at_ bs).fits (m + bs.length) := by
 have h1 : ∀ xs : Bs, xs.length ≤ m → (wrA xs k.power at_ bs).length ≤ m + bs.length := fun xs hx => by
  unfold wrA
  refine Nat.le_trans wr_length ?_
  simp; omega
 have hp : pl k.power bs.length ≤ k.power := by unfold pl; split <;> omega
 unfold wrS KS.setArea KS.area
 obtain ⟨a, b, c, d⟩ := h
 split <;> rename_i hh <;> simp only [hh, if_true] <;> exact ⟨a, by first | (simp; omega) | (have := h1 k.a b; omega), by first | (simp; omega) | (have := h1 k.b c; omega), by show pl _ _ ≤ _; omega⟩
theorem KS.fits.cut {k : KS} {m e size : Nat} (h : k.fits m) : (cutS k e size).fits m := by
 have h1 : ∀ xs : Bs, xs.length ≤ m → (cutA xs k.power size).length ≤ m := fun xs hx => by
  unfold cutA; split
  ·exact hx
  ·simp; omega
 have hp : ∀ xs, cutP xs k.power size ≤ k.power := fun xs => by unfold cutP spendP; split <;> (try split) <;> omega
 unfold cutS KS.setArea KS.area
 obtain ⟨a, b, c, d⟩ := h
 split <;> rename_i hh <;> simp only [hh, if_true] <;> exact ⟨a, by first | (have := h1 k.a b; omega) | exact b, by first | (have := h1 k.b c; omega) | exact c, by first | (have := hp k.a; show cutP _ _ _ ≤ _; omega) | (have := hp k.b; show cutP _ _ _ ≤ _; omega)⟩
theorem fits_head {k : KS} {m : Nat} {x : Bs} (h : k.fits m) (hx : x.length ≤ 1048576) : ({ k with head := x } : KS).fits m := ⟨hx, h.2.1, h.2.2.1, h.2.2.2⟩
end Go.Jn

namespace Go.Jn
open Go.Sl
structure KOp where
 kind : UInt8
 power : UInt8
 body : Bs
structure KC where
 epoch : Nat
 next : Nat
 state : ByteArray
 recs : List ByteArray
def isP (c : KC) (i : KI) : Prop := i.epoch = c.epoch ∧ i.next = c.next ∧ str i.state = c.state ∧ i.recs.map str = c.recs
instance (c : KC) (i : KI) : Decidable (isP c i) := by unfold isP; infer_instance
end Go.Jn

namespace Go.Jn
open Go.Sl

/-! Bytes of numbers. -/
def natB (bs : Bs) : Nat := bs.foldl (fun n x => n * 256 + x.toNat) 0
theorem natB_go (h : Nat) : ∀ bs : Bs, bs.foldl (fun n x => n * 256 + x.toNat) h = h * 256 ^ bs.length + natB bs
 | [] => by simp [natB]
 | x :: bs => by
  have h1 := natB_go (h * 256 + x.toNat) bs
  have h2 := natB_go (0 * 256 + x.toNat) bs
  simp only [List.foldl_cons, natB, List.length_cons] at *
  rw [h1, h2, Nat.pow_succ, Nat.add_mul]
  simp only [Nat.zero_mul, Nat.zero_add]
  rw [Nat.mul_assoc h, Nat.mul_comm 256]
  omega
theorem natB_cons (x : UInt8) (bs : Bs) : natB (x :: bs) = x.toNat * 256 ^ bs.length + natB bs := by
 have := natB_go (0 * 256 + x.toNat) bs
 simpa [natB] using this
theorem natB_lt : ∀ bs : Bs, natB bs < 256 ^ bs.length
 | [] => by simp [natB]
 | x :: bs => by
  rw [natB_cons, List.length_cons, Nat.pow_succ]
  have h1 := natB_lt bs
  have h2 := x.toNat_lt
  have h3 : x.toNat * 256 ^ bs.length ≤ 255 * 256 ^ bs.length := Nat.mul_le_mul_right _ (by omega)
  omega
theorem word_step {h : UInt64} {x : UInt8} (hh : h.toNat < 72057594037927936) : ((h <<< 8) ||| x.toUInt64).toNat = h.toNat * 256 + x.toNat := by
 have h2 := x.toNat_lt
 have e1 : (h <<< (8 : UInt64)).toNat = h.toNat <<< 8 := by
  rw [UInt64.toNat_shiftLeft]
  simp only [UInt64.reduceToNat, Nat.reduceMod, Nat.shiftLeft_eq]
  omega
 rw [UInt64.toNat_or, e1]
 have e2 : x.toUInt64.toNat = x.toNat := by simp
 rw [e2, ← Nat.shiftLeft_add_eq_or_of_lt (by omega), Nat.shiftLeft_eq]
theorem wordF_nat : ∀ (bs : Bs) (h : UInt64), h.toNat * 256 ^ bs.length + natB bs < 18446744073709551616 → (wordF h bs).toNat = h.toNat * 256 ^ bs.length + natB bs
 | [], h, _ => by simp [wordF, natB]
 | x :: bs, h, hlt => by
  rw [natB_cons, List.length_cons, Nat.pow_succ] at hlt
  have hp : 0 < 256 ^ bs.length := Nat.pow_pos (by decide)
  have h1 : h.toNat < 72057594037927936 := by
   have : h.toNat * (256 ^ bs.length * 256) = h.toNat * 256 * 256 ^ bs.length := by rw [Nat.mul_comm (256 ^ bs.length), Nat.mul_assoc]
   have h3 : h.toNat * 256 * 1 ≤ h.toNat * 256 * 256 ^ bs.length := Nat.mul_le_mul_left _ hp
   omega
  have e := word_step (x := x) h1
  have ih := wordF_nat bs ((h <<< 8) ||| x.toUInt64) (by
   rw [e, Nat.add_mul, Nat.mul_assoc, Nat.mul_comm 256]; omega)
  show (wordF ((h <<< 8) ||| x.toUInt64) bs).toNat = _
  rw [ih, e, natB_cons, List.length_cons, Nat.pow_succ, Nat.add_mul, Nat.mul_assoc, Nat.mul_comm 256]
  omega
theorem wordU_nat {bs : Bs} (h : bs.length ≤ 8) : (wordU bs).toNat = natB bs := by
 have h1 := natB_lt bs
 have h2 : 256 ^ bs.length ≤ 256 ^ 8 := Nat.pow_le_pow_right (by decide) h
 have := wordF_nat bs 0 (by simp only [UInt64.reduceToNat, Nat.zero_mul, Nat.zero_add]; omega)
 simpa [wordU] using this
theorem natB_be : ∀ (k : Nat) (n : UInt64), k ≤ 8 → natB (be k n) = n.toNat % 256 ^ k
 | 0, n, _ => by simp [be, natB, Nat.mod_one]
 | k + 1, n, hk => by
  have ih := natB_be k n (by omega)
  have h8 : (UInt64.ofNat (8 * k)).toNat % 64 = 8 * k := by simp; omega
  have hs : ((n >>> UInt64.ofNat (8 * k)).toUInt8).toNat = (n.toNat / 256 ^ k) % 256 := by
   rw [UInt64.toNat_toUInt8, UInt64.toNat_shiftRight, h8, Nat.shiftRight_eq_div_pow, Nat.pow_mul]
  rw [be, natB_cons, ih, be_length, hs, Nat.pow_succ, Nat.mod_mul]
  rw [Nat.mul_comm]
  omega
theorem wordU_be8 (n : UInt64) : wordU (be 8 n) = n := by
 apply UInt64.toNat_inj.1
 rw [wordU_nat (by simp [be_length]), natB_be 8 n (by omega)]
 exact Nat.mod_eq_of_lt (by have := n.toNat_lt; simpa using this)
theorem wordU_be4 (n : UInt64) : (wordU (be 4 n)).toNat = n.toNat % 4294967296 := by
 rw [wordU_nat (by simp [be_length]), natB_be 4 n (by omega)]
theorem xor_comp {x : UInt64} (h : x.toNat < 4294967296) : (x ^^^ wordU (be 4 (~~~x))) = 4294967295 := by
 have e1 : wordU (be 4 (~~~x)) = ~~~x % 4294967296 := by
  apply UInt64.toNat_inj.1
  rw [wordU_be4, UInt64.toNat_mod]
  rfl
 rw [e1]
 have e2 : ~~~x % 4294967296 = ~~~x &&& 4294967295 := by
  apply UInt64.toNat_inj.1
  rw [UInt64.toNat_mod, UInt64.toNat_and]
  show _ % 2 ^ 32 = _ &&& (2 ^ 32 - 1)
  rw [Nat.and_two_pow_sub_one_eq_mod]
 rw [e2]
 have e3 : x &&& 4294967295 = x := by
  apply UInt64.toNat_inj.1
  rw [UInt64.toNat_and]
  show _ &&& (2 ^ 32 - 1) = _
  rw [Nat.and_two_pow_sub_one_eq_mod]
  exact Nat.mod_eq_of_lt h
 conv => lhs; lhs; rw [← e3]
 apply UInt64.toBitVec_inj.1
 simp only [UInt64.toBitVec_xor, UInt64.toBitVec_and, UInt64.toBitVec_not]
 ext i hi
 simp only [BitVec.getElem_xor, BitVec.getElem_and, BitVec.getElem_not]
 cases x.toBitVec[i] <;> simp
end Go.Jn

namespace Go.Jn
open Go.Sl
theorem U_toNat {n : Nat} (h : n < 18446744073709551616) : (U (n : Int)).toNat = n := by
 have h1 := ux_of (n : Int)
 rw [u64w] at h1
 omega
end Go.Jn

namespace Go.Jn
open Go.Sl

theorem tk {a b : Bs} {k : Nat} (h : a.length = k) : (a ++ b).take k = a := by rw [← h]; simp
theorem dr {a b : Bs} {k : Nat} (h : a.length = k) : (a ++ b).drop k = b := by rw [← h]; simp
theorem rec_parts {A B C p D rest : Bs} (hA : A.length = 4) (hB : B.length = 4) (hC : C.length = 8) (hD : D.length = 8) :
  rsz (A ++ B ++ C ++ p ++ D ++ rest) = wordU A ∧ rin (A ++ B ++ C ++ p ++ D ++ rest) = wordU B ∧ rno (A ++ B ++ C ++ p ++ D ++ rest) = wordU C ∧
  ((wordU A).toNat = p.length → rpl (A ++ B ++ C ++ p ++ D ++ rest) = p ∧ rsum (A ++ B ++ C ++ p ++ D ++ rest) = wordU D) := by
 have e0 : (A ++ B ++ C ++ p ++ D ++ rest).take 4 = A := by simp only [List.append_assoc]; exact tk hA
 have e1 : rsz (A ++ B ++ C ++ p ++ D ++ rest) = wordU A := by rw [rsz, e0]
 refine ⟨e1, ?_, ?_, fun hl => ⟨?_, ?_⟩⟩
 ·rw [rin, List.drop_take, show (8 : Nat) - 4 = 4 from rfl]
  simp only [List.append_assoc]
  rw [dr hA, tk hB]
 ·rw [rno, List.drop_take, show (16 : Nat) - 8 = 8 from rfl]
  rw [show A ++ B ++ C ++ p ++ D ++ rest = (A ++ B) ++ (C ++ (p ++ (D ++ rest))) by simp, dr (by simp [hA, hB]), tk hC]
 ·rw [rpl, e1, hl, List.drop_take, show 16 + p.length - 16 = p.length by omega]
  rw [show A ++ B ++ C ++ p ++ D ++ rest = (A ++ B ++ C) ++ (p ++ (D ++ rest)) by simp, dr (by simp [hA, hB, hC]), tk rfl]
 ·rw [rsum, e1, hl, List.drop_take, show 24 + p.length - (16 + p.length) = 8 by omega]
  rw [show A ++ B ++ C ++ p ++ D ++ rest = (A ++ B ++ C ++ p) ++ (D ++ rest) by simp, dr (by simp [hA, hB, hC]; omega), tk hD]
theorem form_eq (e n : Int) (p : Bs) : formB e n p = be 4 (U (p.length : Int)) ++ be 4 (~~~(U (p.length : Int))) ++ be 8 (U n) ++ p ++ be 8 (chkU e n p) := rfl
theorem rec_form {e : Int} {n : Nat} {p rest : Bs} (hp : p.length ≤ 65536) (hn : n ≤ 4611686018427387904) : recB e (formB e n p ++ rest) = true ∧ recN (formB e n p ++ rest) = n ∧ recP (formB e n p ++ rest) = p := by
 have hU : (U (p.length : Int)).toNat = p.length := U_toNat (by omega)
 have hs : wordU (be 4 (U (p.length : Int))) = U (p.length : Int) := by
  apply UInt64.toNat_inj.1
  rw [wordU_be4, hU]; omega
 have h := rec_parts (A := be 4 (U (p.length : Int))) (B := be 4 (~~~(U (p.length : Int)))) (C := be 8 (U n)) (p := p) (D := be 8 (chkU e n p)) (rest := rest) (be_length _ _) (be_length _ _) (be_length _ _) (be_length _ _)
 rw [← form_eq] at h
 obtain ⟨h1, h2, h3, h4⟩ := h
 obtain ⟨h5, h6⟩ := h4 (by rw [hs, hU])
 rw [hs] at h1
 rw [wordU_be8] at h3 h6
 have hno : (U (n : Int)).toNat = n := U_toNat (by omega)
 have hok : ¬ rbad (formB e n p ++ rest) := by
  unfold rbad
  rw [h1, h2, h3, hU, hno, xor_comp (by rw [hU]; omega)]
  have hl : (formB e n p ++ rest).length = 24 + p.length + rest.length := by simp [formB_length]
  rw [hl]
  have h7 : ((4294967295 : UInt64).toNat : Int) = 4294967295 := rfl
  omega
 refine ⟨?_, ?_, ?_⟩
 ·rw [recB, if_neg hok, h6, h3, h5, hno]; simp
 ·rw [recN, if_neg hok, h3, hno]
 ·rw [recP, if_neg hok, h5]
theorem rec_torn {e e' : Int} {n m : Nat} {p : Bs} (hp : p.length ≤ 65536) (hm : m < 24 + p.length) : recB e' ((formB e n p).take m) = false := by
 have hb : rbad ((formB e n p).take m) := by
  unfold rbad
  have hlen : ((formB e n p).take m).length = m := by simp [formB_length]; omega
  rw [hlen]
  by_cases h24 : m < 24
  ·left; omega
  ·have hU : (U (p.length : Int)).toNat = p.length := U_toNat (by omega)
   have hs : rsz ((formB e n p).take m) = U (p.length : Int) := by
    rw [rsz, List.take_take, Nat.min_eq_left (by omega)]
    have : (formB e n p).take 4 = be 4 (U (p.length : Int)) := by
     simp only [formB, List.append_assoc]; exact tk (be_length _ _)
    rw [this]
    apply UInt64.toNat_inj.1
    rw [wordU_be4, hU]; omega
   rw [hs, hU]
   right; right; right; left; omega
 rw [recB, if_pos hb]
theorem rec_nil (e : Int) : recB e [] = false := by
 rw [recB, if_pos (.inl (by simp))]
end Go.Jn

namespace Go.Jn
open Go.Sl

def encR (e : Nat) : Nat → List Bs → Bs
 | _, [] => []
 | n, r :: rs => formB e n r ++ encR e (n + 1) rs
theorem encR_nil (e n : Nat) : encR e n [] = [] := by rw [encR]
theorem encR_cons (e n : Nat) (r : Bs) (rs : List Bs) : encR e n (r :: rs) = formB e n r ++ encR e (n + 1) rs := by rw [encR]
theorem encR_length (e : Nat) (rs : List Bs) : ∀ n : Nat, (encR e n rs).length = sizes rs := by
 induction rs with
 | nil => intro n; rw [encR_nil, sizes]; rfl
 | cons r rs ih => intro n; rw [encR_cons, List.length_append, formB_length, ih (n + 1), sizes]
theorem encR_snoc (e : Nat) (b : Bs) (rs : List Bs) : ∀ n : Nat, encR e n (rs ++ [b]) = encR e n rs ++ formB e ((n + rs.length : Nat) : Int) b := by
 induction rs with
 | nil => intro n; rw [List.nil_append, encR_cons, encR_nil, encR_nil, List.append_nil, List.nil_append, List.length_nil, Nat.add_zero]
 | cons r rs ih => intro n; rw [List.cons_append, encR_cons, ih (n + 1), encR_cons, List.append_assoc, List.length_cons, show n + 1 + rs.length = n + (rs.length + 1) by omega]
theorem parse_one {e n f : Nat} {r tail : Bs} (hr : r.length ≤ 65536) (hn : n < 4611686018427387904) : parse e (f + 1) n (formB e n r ++ tail) = r :: parse e f (n + 1) tail := by
 have h1 := rec_form (e := e) (n := n) (p := r) (rest := tail) hr (by omega)
 have e2 : (formB e n r ++ tail).drop (24 + r.length) = tail := dr (formB_length _ _ _)
 rw [parse, if_pos ⟨h1.1, h1.2.1, by omega⟩, h1.2.2, e2]
theorem parse_enc {e : Nat} (rs : List Bs) : ∀ (n f : Nat) (tail : Bs), (∀ b ∈ rs, b.length ≤ 65536) → n + rs.length ≤ 4611686018427387904 → recB e tail = false → rs.length < f → parse e f n (encR e n rs ++ tail) = rs := by
 induction rs with
 | nil =>
  intro n f tail _ _ ht hf
  obtain ⟨f, rfl⟩ : ∃ g, f = g + 1 := ⟨f - 1, by simp at hf; omega⟩
  rw [encR_nil, List.nil_append, parse, if_neg (by rw [ht]; simp)]
 | cons r rs ih =>
  intro n f tail hb hn ht hf
  obtain ⟨f, rfl⟩ : ∃ g, f = g + 1 := ⟨f - 1, by simp at hf; omega⟩
  simp only [List.length_cons] at hn hf
  have e1 : encR e n (r :: rs) ++ tail = formB e n r ++ (encR e (n + 1) rs ++ tail) := by rw [encR_cons, List.append_assoc]
  rw [e1, parse_one (hb r (by simp)) (by omega), ih (n + 1) f tail (fun b hb' => hb b (by simp [hb'])) (by omega) ht (by omega)]

def encI (i : KI) : Bs := (if i.epoch = 0 then [] else formB i.epoch ((i.next - i.recs.length : Nat) : Int) i.state) ++ encR i.epoch (i.next - i.recs.length) i.recs
structure WF (i : KI) : Prop where
 size : i.size = (encI i).length
 next : i.recs.length ≤ i.next
 zero : i.epoch = 0 → i.state = [] ∧ i.next = i.recs.length
 big : i.next ≤ 4611686018427387904
 state : i.state.length ≤ 65536
 recs : ∀ b ∈ i.recs, b.length ≤ 65536
theorem recsF_enc {e n : Nat} {rs : List Bs} {tail : Bs} (hb : ∀ b ∈ rs, b.length ≤ 65536) (hn : n + rs.length ≤ 4611686018427387904) (ht : recB e tail = false) : recsF e n (encR e n rs ++ tail) = rs := by
 refine parse_enc rs n _ tail hb hn ht ?_
 have h1 : rs.length ≤ (encR e n rs).length := by
  rw [encR_length]
  clear hb hn ht
  induction rs with
  | nil => simp
  | cons a l ih => simp only [List.length_cons, sizes]; omega
 simp; omega
theorem read_enc {k : KS} {i : KI} {tail : Bs} (he : epochF k.head = i.epoch) (ha : k.area i.epoch = encI i ++ tail) (ht : recB i.epoch tail = false) (wf : WF i) : readI k = some i := by
 obtain ⟨ep, nx, stt, rs, sz⟩ := i
 obtain ⟨w1, w2, w3, w4, w5, w6⟩ := wf
 simp only at *
 unfold readI
 simp only [he, ha]
 by_cases h0 : ep = 0
 ·subst h0
  obtain ⟨z1, z2⟩ := w3 rfl
  subst z1; subst z2
  have e1 : encI ⟨0, rs.length, [], rs, sz⟩ = encR 0 0 rs := by simp [encI]
  rw [e1] at w1 ⊢
  rw [if_pos rfl, recsF_enc w6 (by omega) ht]
  rw [encR_length] at w1
  rw [w1]
 ·have e1 : encI ⟨ep, nx, stt, rs, sz⟩ = formB ep ((nx - rs.length : Nat) : Int) stt ++ encR ep (nx - rs.length) rs := by simp [encI, h0]
  rw [e1] at w1 ⊢
  rw [List.append_assoc]
  have h1 := rec_form (e := ep) (n := nx - rs.length) (p := stt) (rest := encR ep (nx - rs.length) rs ++ tail) w5 (by omega)
  have e2 : (formB ep ((nx - rs.length : Nat) : Int) stt ++ (encR ep (nx - rs.length) rs ++ tail)).drop (24 + stt.length) = encR ep (nx - rs.length) rs ++ tail := dr (formB_length _ _ _)
  rw [if_neg h0, if_pos h1.1, h1.2.1, h1.2.2, e2, recsF_enc w6 (by omega) ht]
  simp only [List.length_append, formB_length, encR_length] at w1
  rw [w1, show nx - rs.length + rs.length = nx by omega]

/-! Heads. -/
def hd4 (m0 : UInt64) (s0 : Bs) (m1 : UInt64) (s1 : Bs) : Bs := be 8 m0 ++ s0 ++ (be 8 m1 ++ s1)
def ok4 (j m : UInt64) (s : Bs) : Prop := m < 4611686018427387904 ∧ m % 2 = j ∧ wordU s = tickU ((m.toNat : Nat) : Int)
instance (j m : UInt64) (s : Bs) : Decidable (ok4 j m s) := by unfold ok4; infer_instance
def ep4 (b j m : UInt64) (s : Bs) : UInt64 := if b < m ∧ ok4 j m s then m else b
theorem hd4_length {m0 m1 : UInt64} {s0 s1 : Bs} (h0 : s0.length = 8) (h1 : s1.length = 8) : (hd4 m0 s0 m1 s1).length = 32 := by simp [hd4, be_length, h0, h1]
theorem epoch_hd4 {m0 m1 : UInt64} {s0 s1 : Bs} (h0 : s0.length = 8) (h1 : s1.length = 8) : epochF (hd4 m0 s0 m1 s1) = (ep4 (ep4 0 0 m0 s0) 1 m1 s1).toNat := by
 have hl := hd4_length (m0 := m0) (m1 := m1) h0 h1
 have b0 := be_length 8 m0
 have b1 := be_length 8 m1
 have w0 : wordU (((hd4 m0 s0 m1 s1).take (0 * 16 + 8)).drop (0 * 16)) = m0 := by
  simp only [hd4, List.append_assoc]
  rw [show 0 * 16 + 8 = 8 from rfl, tk b0, show 0 * 16 = 0 from rfl, List.drop_zero, wordU_be8]
 have w1 : ((hd4 m0 s0 m1 s1).take (0 * 16 + 16)).drop (0 * 16 + 8) = s0 := by
  rw [List.drop_take]
  simp only [hd4, List.append_assoc]
  rw [show 0 * 16 + 8 = 8 from rfl, dr b0, show 0 * 16 + 16 - 8 = 8 from rfl, tk h0]
 have w2 : wordU (((hd4 m0 s0 m1 s1).take (1 * 16 + 8)).drop (1 * 16)) = m1 := by
  rw [List.drop_take]
  unfold hd4
  rw [show 1 * 16 = 16 from rfl, dr (by simp [b0, h0]), show 16 + 8 - 16 = 8 from rfl, tk b1, wordU_be8]
 have w3 : ((hd4 m0 s0 m1 s1).take (1 * 16 + 16)).drop (1 * 16 + 8) = s1 := by
  rw [List.drop_take, show hd4 m0 s0 m1 s1 = (be 8 m0 ++ s0 ++ be 8 m1) ++ s1 by simp [hd4]]
  rw [show 1 * 16 + 8 = 24 from rfl, dr (by simp [b0, h0, b1]), show 1 * 16 + 16 - 24 = 8 from rfl, List.take_of_length_le (by omega)]
 unfold epochF
 rw [hl]
 show (epLoop _ 2).toNat = _
 rw [epLoop, epLoop, epLoop]
 unfold epStep
 simp only [w0, w1, w2, w3]
 have u0 : U ((0 * 16 / 16 : Nat) : Int) = 0 := by decide
 have u1 : U ((1 * 16 / 16 : Nat) : Int) = 1 := by decide
 rw [u0, u1]
 rfl
theorem be8_small : ∀ m : Fin 256, be 8 (U ((m.val : Nat) : Int)) = List.replicate 7 0 ++ [UInt8.ofNat m.val] := by decide +kernel
theorem be8_s {m : Nat} (h : m < 256) : be 8 (U (m : Int)) = List.replicate 7 0 ++ [UInt8.ofNat m] := be8_small ⟨m, h⟩
theorem slot_part {m e q : Nat} {s t : Bs} (hm : m < 256) (he : e < 256) (hs : s.length = 8) (ht : t.length = 8) (hq : q ≤ 16) :
  ∃ (m' : Nat) (s' : Bs), m' < 256 ∧ s'.length = 8 ∧ (be 8 (U (e : Int)) ++ t).take q ++ (be 8 (U (m : Int)) ++ s).drop q = be 8 (U (m' : Int)) ++ s' ∧ (m' = m ∧ s' = s ∨ m' = e) ∧ (q = 16 → m' = e ∧ s' = t) := by
 have b0 := be_length 8 (U (e : Int))
 have b1 := be_length 8 (U (m : Int))
 by_cases h8 : q < 8
 ·refine ⟨m, s, hm, hs, ?_, .inl ⟨rfl, rfl⟩, fun h => by omega⟩
  rw [List.take_append_of_le_length (by omega), List.drop_append_of_le_length (by omega), be8_s hm, be8_s he]
  rw [List.take_append_of_le_length (by simp; omega), List.drop_append_of_le_length (by simp; omega), List.take_replicate, List.drop_replicate, ← List.append_assoc, ← List.append_assoc, List.replicate_append_replicate, Nat.min_eq_left (by omega), show q + (7 - q) = 7 by omega]
 ·refine ⟨e, t.take (q - 8) ++ s.drop (q - 8), he, by simp [hs, ht]; omega, ?_, .inr rfl, fun h => ⟨rfl, ?_⟩⟩
  ·rw [List.take_append, List.drop_append, List.take_of_length_le (by omega : (be 8 (U (e : Int))).length ≤ q), List.drop_of_length_le (by omega : (be 8 (U (m : Int))).length ≤ q), b0, b1]
   simp
  ·subst h
   rw [List.take_of_length_le (by omega), List.drop_of_length_le (by omega)]; simp
theorem wr_full : ∀ {bs xs : Bs} {at_ : Nat}, at_ + bs.length ≤ xs.length → wr xs at_ bs = xs.take at_ ++ bs ++ xs.drop (at_ + bs.length)
 | [], xs, at_, _ => by simp [wr]
 | b :: bs, xs, at_, h => by
  have hl : at_ < xs.length := by simp at h; omega
  rw [wr, if_pos hl, wr_full (by simp at h ⊢; omega)]
  simp only [List.length_cons]
  rw [List.drop_set_of_lt (by omega), show at_ + 1 + bs.length = at_ + (bs.length + 1) by omega]
  congr 1
  rw [List.take_add_one]
  rw [List.getElem?_set_self hl, List.take_set_of_le (by omega)]
  simp
theorem wr_end : ∀ {bs xs : Bs}, wr xs xs.length bs = xs ++ bs
 | [], xs => by simp [wr]
 | b :: bs, xs => by
  rw [wr, if_neg (by omega)]
  have := wr_end (bs := bs) (xs := xs ++ [b])
  simp only [List.length_append, List.length_cons, List.length_nil] at this
  rw [this]; simp

/-- a head of epoch e whose copies have small numbers -/
def HeadOk (head : Bs) (e : Nat) : Prop := (head = [] ∧ e = 0) ∨ ∃ m0 s0 m1 s1, m0 < 256 ∧ m1 < 256 ∧ s0.length = 8 ∧ s1.length = 8 ∧ head = hd4 (U ((m0 : Nat) : Int)) s0 (U ((m1 : Nat) : Int)) s1 ∧ epochF head = e
theorem HeadOk.epoch {head : Bs} {e : Nat} (h : HeadOk head e) : epochF head = e := by
 rcases h with ⟨rfl, rfl⟩ | ⟨_, _, _, _, _, _, _, _, _, h⟩
 ·rfl
 ·exact h
theorem HeadOk.len {head : Bs} {e : Nat} (h : HeadOk head e) : head.length = 0 ∨ head.length = 32 := by
 rcases h with ⟨rfl, rfl⟩ | ⟨_, _, _, _, _, _, h0, h1, rfl, _⟩
 ·left; rfl
 ·right; exact hd4_length h0 h1
theorem zero_head : HeadOk (List.replicate 32 0) 0 := .inr ⟨0, List.replicate 8 0, 0, List.replicate 8 0, by decide, by decide, by decide, by decide, by decide +kernel, by decide +kernel⟩
theorem ux_lt {a b : UInt64} : a < b ↔ a.toNat < b.toNat := UInt64.lt_iff_toNat_lt
theorem ep4_cases (b j m : UInt64) (s : Bs) : (ep4 b j m s = m ∧ b < m ∧ ok4 j m s) ∨ (ep4 b j m s = b ∧ ¬ (b < m ∧ ok4 j m s)) := by
 unfold ep4
 split
 ·rename_i h; exact .inl ⟨rfl, h⟩
 ·rename_i h; exact .inr ⟨rfl, h⟩
theorem par_U {e : Nat} (h : e < 256) : (U (e : Int)) % 2 = U ((e % 2 : Nat) : Int) := by
 apply UInt64.toNat_inj.1
 rw [UInt64.toNat_mod, U_toNat (by omega), U_toNat (by omega)]; rfl
/-- the copy of epoch e + 1 is written, wholly or in part -/
theorem head_write {head : Bs} {e q : Nat} (h : HeadOk head e) (hl : head.length = 32) (he : e + 1 < 256) (hq : q ≤ 16) :
  (HeadOk (wr head ((e + 1) % 2 * 16) ((copyB (e + 1)).take q)) e ∨ HeadOk (wr head ((e + 1) % 2 * 16) ((copyB (e + 1)).take q)) (e + 1)) ∧ (q = 16 → HeadOk (wr head ((e + 1) % 2 * 16) ((copyB (e + 1)).take q)) (e + 1)) := by
 rcases h with ⟨rfl, _⟩ | ⟨m0, s0, m1, s1, hm0, hm1, h0, h1, rfl, hep⟩
 ·simp at hl
 have ht : (be 8 (tickU ((e + 1 : Nat) : Int))).length = 8 := be_length _ _
 have hb := be_length 8 (U ((e + 1 : Nat) : Int))
 have hcl : ((copyB (e + 1)).take q).length = q := by simp [copyB, be_length]; omega
 rw [epoch_hd4 h0 h1] at hep
 have hUe : (U ((e + 1 : Nat) : Int)).toNat = e + 1 := U_toNat (by omega)
 have u62 : (4611686018427387904 : UInt64).toNat = 4611686018427387904 := rfl
 -- the numbers of copies that count are at most e
 have key0 : ok4 0 (U ((m0 : Nat) : Int)) s0 → (U ((m0 : Nat) : Int)).toNat ≤ e := by
  intro ho
  rcases ep4_cases 0 0 (U ((m0 : Nat) : Int)) s0 with ⟨q1, _⟩ | ⟨q1, q2⟩
  ·rcases ep4_cases (ep4 0 0 (U ((m0 : Nat) : Int)) s0) 1 (U ((m1 : Nat) : Int)) s1 with ⟨r1, r2, _⟩ | ⟨r1, _⟩
   ·rw [q1] at r2; rw [r1] at hep; have := ux_lt.1 r2; omega
   ·rw [r1, q1] at hep; omega
  ·have : ¬ (0 : UInt64) < U ((m0 : Nat) : Int) := fun hlt => q2 ⟨hlt, ho⟩
   have := mt ux_lt.2 this
   simp at this
   omega
 have key1 : ok4 1 (U ((m1 : Nat) : Int)) s1 → (U ((m1 : Nat) : Int)).toNat ≤ e := by
  intro ho
  rcases ep4_cases (ep4 0 0 (U ((m0 : Nat) : Int)) s0) 1 (U ((m1 : Nat) : Int)) s1 with ⟨r1, _⟩ | ⟨r1, r2⟩
  ·rw [r1] at hep; omega
  ·rw [r1] at hep
   have : ¬ ep4 0 0 (U ((m0 : Nat) : Int)) s0 < U ((m1 : Nat) : Int) := fun hlt => r2 ⟨hlt, ho⟩
   have := mt ux_lt.2 this
   omega
 rcases Nat.mod_two_eq_zero_or_one (e + 1) with hp | hp
 ·-- the first copy
  obtain ⟨m', s', hm', hs', hpart, hwhat, hall⟩ := slot_part (q := q) hm0 he h0 ht hq
  have hw : wr (hd4 (U ((m0 : Nat) : Int)) s0 (U ((m1 : Nat) : Int)) s1) ((e + 1) % 2 * 16) ((copyB (e + 1)).take q) = hd4 (U ((m' : Nat) : Int)) s' (U ((m1 : Nat) : Int)) s1 := by
   rw [wr_full (by rw [hcl, hp, hd4_length h0 h1]; omega), hp, hcl]
   simp only [Nat.zero_mul, List.take_zero, List.nil_append, Nat.zero_add]
   unfold hd4
   rw [List.drop_append_of_le_length (by simp [be_length, h0]; omega), ← List.append_assoc, copyB, hpart]
  rw [hw]
  have hq16 : q = 16 → epochF (hd4 (U ((m' : Nat) : Int)) s' (U ((m1 : Nat) : Int)) s1) = e + 1 := by
   intro h16
   obtain ⟨rfl, rfl⟩ := hall h16
   rw [epoch_hd4 ht h1]
   have o0 : ok4 0 (U ((e + 1 : Nat) : Int)) (be 8 (tickU ((e + 1 : Nat) : Int))) := ⟨ux_lt.2 (by rw [hUe, u62]; omega), by rw [par_U he, hp]; rfl, by rw [wordU_be8, hUe]⟩
   have e0 : ep4 0 0 (U ((e + 1 : Nat) : Int)) (be 8 (tickU ((e + 1 : Nat) : Int))) = U ((e + 1 : Nat) : Int) := if_pos ⟨ux_lt.2 (by rw [hUe]; simp), o0⟩
   rw [e0]
   rcases ep4_cases (U ((e + 1 : Nat) : Int)) 1 (U ((m1 : Nat) : Int)) s1 with ⟨_, r2, r3⟩ | ⟨r1, _⟩
   ·have := key1 r3; have := ux_lt.1 r2; omega
   ·rw [r1, hUe]
  refine ⟨?_, fun h16 => .inr ⟨m', s', m1, s1, hm', hm1, hs', h1, rfl, hq16 h16⟩⟩
  by_cases ho : ok4 0 (U ((m' : Nat) : Int)) s' ∧ m' = e + 1
  ·right
   refine .inr ⟨m', s', m1, s1, hm', hm1, hs', h1, rfl, ?_⟩
   obtain ⟨ho, rfl⟩ := ho
   rw [epoch_hd4 hs' h1]
   have e0 : ep4 0 0 (U ((e + 1 : Nat) : Int)) s' = U ((e + 1 : Nat) : Int) := if_pos ⟨ux_lt.2 (by rw [hUe]; simp), ho⟩
   rw [e0]
   rcases ep4_cases (U ((e + 1 : Nat) : Int)) 1 (U ((m1 : Nat) : Int)) s1 with ⟨_, r2, r3⟩ | ⟨r1, _⟩
   ·have := key1 r3; have := ux_lt.1 r2; omega
   ·rw [r1, hUe]
  ·left
   refine .inr ⟨m', s', m1, s1, hm', hm1, hs', h1, rfl, ?_⟩
   rw [epoch_hd4 hs' h1]
   rcases hwhat with ⟨rfl, rfl⟩ | rfl
   ·exact hep
   ·have hno : ¬ ok4 0 (U ((e + 1 : Nat) : Int)) s' := fun h => ho ⟨h, rfl⟩
    have e0 : ep4 0 0 (U ((e + 1 : Nat) : Int)) s' = 0 := if_neg fun h => hno h.2
    rw [e0]
    -- the second copy was e, or nothing was
    rcases ep4_cases (ep4 0 0 (U ((m0 : Nat) : Int)) s0) 1 (U ((m1 : Nat) : Int)) s1 with ⟨r1, r2, r3⟩ | ⟨r1, r2⟩
    ·rw [r1] at hep
     have : ep4 0 1 (U ((m1 : Nat) : Int)) s1 = U ((m1 : Nat) : Int) := if_pos ⟨ux_lt.2 (by have := ux_lt.1 r2; simp; omega), r3⟩
     rw [this]; exact hep
    ·rw [r1] at hep
     have h00 : ep4 0 0 (U ((m0 : Nat) : Int)) s0 = 0 := by
      rcases ep4_cases 0 0 (U ((m0 : Nat) : Int)) s0 with ⟨q1, q2, q3⟩ | ⟨q1, _⟩
      ·exfalso
       have h2 := q3.2.1
       rw [par_U hm0] at h2
       rw [q1, U_toNat (by omega)] at hep
       have : m0 % 2 = 0 := by
        have := congrArg UInt64.toNat h2
        rw [U_toNat (by omega)] at this
        exact this
       omega
      ·exact q1
     rw [h00] at hep r2
     have : ep4 0 1 (U ((m1 : Nat) : Int)) s1 = 0 := if_neg r2
     rw [this]; exact hep
 ·-- the second copy
  obtain ⟨m', s', hm', hs', hpart, hwhat, hall⟩ := slot_part (q := q) hm1 he h1 ht hq
  have hw : wr (hd4 (U ((m0 : Nat) : Int)) s0 (U ((m1 : Nat) : Int)) s1) ((e + 1) % 2 * 16) ((copyB (e + 1)).take q) = hd4 (U ((m0 : Nat) : Int)) s0 (U ((m' : Nat) : Int)) s' := by
   rw [wr_full (by rw [hcl, hp, hd4_length h0 h1]; omega), hp, hcl]
   have hsl : (be 8 (U ((m0 : Nat) : Int)) ++ s0).length = 16 := by simp [be_length, h0]
   unfold hd4
   rw [show 1 * 16 = 16 from rfl, tk hsl, List.append_assoc]
   congr 1
   rw [← List.drop_drop, dr hsl, copyB, hpart]
  rw [hw]
  have hq16 : q = 16 → epochF (hd4 (U ((m0 : Nat) : Int)) s0 (U ((m' : Nat) : Int)) s') = e + 1 := by
   intro h16
   obtain ⟨rfl, rfl⟩ := hall h16
   rw [epoch_hd4 h0 ht]
   have o1 : ok4 1 (U ((e + 1 : Nat) : Int)) (be 8 (tickU ((e + 1 : Nat) : Int))) := ⟨ux_lt.2 (by rw [hUe, u62]; omega), by rw [par_U he, hp]; rfl, by rw [wordU_be8, hUe]⟩
   have hb0 : ep4 0 0 (U ((m0 : Nat) : Int)) s0 < U ((e + 1 : Nat) : Int) := by
    rcases ep4_cases 0 0 (U ((m0 : Nat) : Int)) s0 with ⟨q1, _, q3⟩ | ⟨q1, _⟩
    ·rw [q1]; have := key0 q3; exact ux_lt.2 (by omega)
    ·rw [q1]; exact ux_lt.2 (by rw [hUe]; simp)
   rw [show ep4 (ep4 0 0 (U ((m0 : Nat) : Int)) s0) 1 (U ((e + 1 : Nat) : Int)) (be 8 (tickU ((e + 1 : Nat) : Int))) = U ((e + 1 : Nat) : Int) from if_pos ⟨hb0, o1⟩, hUe]
  refine ⟨?_, fun h16 => .inr ⟨m0, s0, m', s', hm0, hm', h0, hs', rfl, hq16 h16⟩⟩
  by_cases ho : ok4 1 (U ((m' : Nat) : Int)) s' ∧ m' = e + 1
  ·right
   refine .inr ⟨m0, s0, m', s', hm0, hm', h0, hs', rfl, ?_⟩
   obtain ⟨ho, rfl⟩ := ho
   rw [epoch_hd4 h0 hs']
   have hb0 : ep4 0 0 (U ((m0 : Nat) : Int)) s0 < U ((e + 1 : Nat) : Int) := by
    rcases ep4_cases 0 0 (U ((m0 : Nat) : Int)) s0 with ⟨q1, _, q3⟩ | ⟨q1, _⟩
    ·rw [q1]; have := key0 q3; exact ux_lt.2 (by omega)
    ·rw [q1]; exact ux_lt.2 (by rw [hUe]; simp)
   rw [show ep4 (ep4 0 0 (U ((m0 : Nat) : Int)) s0) 1 (U ((e + 1 : Nat) : Int)) s' = U ((e + 1 : Nat) : Int) from if_pos ⟨hb0, ho⟩, hUe]
  ·left
   refine .inr ⟨m0, s0, m', s', hm0, hm', h0, hs', rfl, ?_⟩
   rw [epoch_hd4 h0 hs']
   rcases hwhat with ⟨rfl, rfl⟩ | rfl
   ·exact hep
   ·have hno : ¬ ok4 1 (U ((e + 1 : Nat) : Int)) s' := fun h => ho ⟨h, rfl⟩
    rw [show ep4 (ep4 0 0 (U ((m0 : Nat) : Int)) s0) 1 (U ((e + 1 : Nat) : Int)) s' = ep4 0 0 (U ((m0 : Nat) : Int)) s0 from if_neg fun h => hno h.2]
    rcases ep4_cases (ep4 0 0 (U ((m0 : Nat) : Int)) s0) 1 (U ((m1 : Nat) : Int)) s1 with ⟨r1, r2, r3⟩ | ⟨r1, _⟩
    ·exfalso
     have h2 := r3.2.1
     rw [par_U hm1] at h2
     rw [r1, U_toNat (by omega)] at hep
     have : m1 % 2 = 1 := by
      have := congrArg UInt64.toNat h2
      rw [U_toNat (by omega)] at this
      exact this
     omega
    ·rw [r1] at hep; exact hep
end Go.Jn

namespace Go.Jn
open Go.Sl

theorem area_set (k : KS) (e : Nat) (xs : Bs) : (k.setArea e xs).area e = xs := by
 unfold KS.setArea KS.area
 split <;> rfl
theorem area_set_ne (k : KS) {e e' : Nat} (h : e % 2 ≠ e' % 2) (xs : Bs) : (k.setArea e xs).area e' = k.area e' := by
 unfold KS.setArea KS.area
 by_cases h1 : e % 2 = 0
 ·rw [if_pos h1, if_neg (by omega), if_neg (by omega)]
 ·rw [if_neg h1, if_pos (by omega), if_pos (by omega)]
theorem area_pow (k : KS) (e : Nat) (p : Int) : ({ k with power := p } : KS).area e = k.area e := rfl
theorem set_head (k : KS) (e : Nat) (xs : Bs) : (k.setArea e xs).head = k.head := by unfold KS.setArea; split <;> rfl
theorem area_both {P : Bs → Prop} {k : KS} (ha : P k.a) (hb : P k.b) (e : Nat) : P (k.area e) := by unfold KS.area; split <;> assumption

structure Inv (k : KS) (i : KI) (N : Nat) (x : Bool) : Prop where
 head : HeadOk k.head i.epoch
 area : ∃ tail, k.area i.epoch = encI i ++ tail ∧ recB i.epoch tail = false ∧ (x = true → tail = [])
 wf : WF i
 eN : i.epoch ≤ N
 nN : i.next ≤ N
 sz : i.size ≤ 43400 + 494 * N
 sm : i.size ≤ 262144
 la : (k.area 0).length ≤ 262144
 lb : (k.area 1).length ≤ 262144
 st : i.state.length ≤ 43300
 rs : ∀ b ∈ i.recs, b.length ≤ 470
 pw : -1 ≤ k.power ∧ k.power ≤ 1000

theorem Inv.mono {k : KS} {i : KI} {N M : Nat} {x : Bool} (h : Inv k i N x) (hM : N ≤ M) : Inv k i M x :=
 ⟨h.head, h.area, h.wf, by have := h.eN; omega, by have := h.nN; omega, by have := h.sz; omega, h.sm, h.la, h.lb, h.st, h.rs, h.pw⟩
theorem Inv.weak {k : KS} {i : KI} {N : Nat} (h : Inv k i N true) : Inv k i N false :=
 ⟨h.head, let ⟨t, a, b, _⟩ := h.area; ⟨t, a, b, fun e => by cases e⟩, h.wf, h.eN, h.nN, h.sz, h.sm, h.la, h.lb, h.st, h.rs, h.pw⟩
theorem Inv.any {k : KS} {i : KI} {N : Nat} {x : Bool} (h : Inv k i N x) : Inv k i N false := by cases x; exact h; exact h.weak
theorem Inv.pow {k : KS} {i : KI} {N : Nat} {x : Bool} (h : Inv k i N x) {p : Int} (h1 : -1 ≤ p) (h2 : p ≤ 1000) : Inv { k with power := p } i N x :=
 ⟨h.head, h.area, h.wf, h.eN, h.nN, h.sz, h.sm, h.la, h.lb, h.st, h.rs, h1, h2⟩
theorem Inv.exact {k : KS} {i : KI} {N : Nat} (h : Inv k i N true) : k.area i.epoch = encI i := by
 obtain ⟨t, a, _, c⟩ := h.area
 rw [a, c rfl, List.append_nil]
theorem Inv.lens {k : KS} {i : KI} {N : Nat} {x : Bool} (h : Inv k i N x) : k.a.length ≤ 262144 ∧ k.b.length ≤ 262144 := ⟨h.la, h.lb⟩
theorem Inv.fits {k : KS} {i : KI} {N : Nat} {x : Bool} (h : Inv k i N x) (hN : N ≤ 1000000) : k.fits 524288 := by
 have h1 := h.lens
 have h2 := h.head.len
 exact ⟨by omega, by omega, by omega, by have := h.pw; omega⟩
theorem Inv.okP {k : KS} {i : KI} {N : Nat} {x : Bool} (h : Inv k i N x) (hN : N ≤ 1000000) : k.okP := by
 have h1 := h.lens
 have h2 := h.head.len
 exact ⟨h2, by omega, by omega, h.pw.1⟩
theorem Inv.read {k : KS} {i : KI} {N : Nat} {x : Bool} (h : Inv k i N x) : readI k = some i := by
 obtain ⟨t, a, b, _⟩ := h.area
 exact read_enc h.head.epoch a b h.wf
theorem cut_pow {k : KS} {e size : Nat} (hp : k.power ≠ 0) : (cutS k e size).area e = (k.area e).take size := by
 unfold cutS
 rw [area_pow, area_set, cutA, if_neg hp]
/-- opened with enough power -/
theorem Inv.cut {k : KS} {i : KI} {N : Nat} {x : Bool} (h : Inv k i N x) (hp : k.power ≠ 0) : Inv (cutS k i.epoch i.size) i N true := by
 obtain ⟨t, a, b, _⟩ := h.area
 have e1 : (cutS k i.epoch i.size).area i.epoch = encI i := by
  rw [cut_pow hp, a, h.wf.size, List.take_left']
  rfl
 have hle : ∀ e, ((cutS k i.epoch i.size).area e).length ≤ 262144 := by
  have h1 : ∀ xs : Bs, xs.length ≤ 262144 → (cutA xs k.power i.size).length ≤ 262144 := fun xs hx => by
   unfold cutA; split
   ·exact hx
   ·simp; omega
  intro e
  by_cases he : i.epoch % 2 = e % 2
  ·have e2 : (cutS k i.epoch i.size).area e = (cutS k i.epoch i.size).area i.epoch := by unfold KS.area; rw [he]
   rw [e2]
   unfold cutS
   rw [area_pow, area_set]
   exact h1 _ (area_both (P := fun z => z.length ≤ _) h.la h.lb _)
  ·unfold cutS
   rw [area_pow, area_set_ne _ he]
   exact area_both (P := fun z => z.length ≤ _) h.la h.lb _
 refine ⟨?_, ⟨[], by rw [e1, List.append_nil], rec_nil _, fun _ => rfl⟩, h.wf, h.eN, h.nN, h.sz, h.sm, hle 0, hle 1, h.st, h.rs, ?_⟩
 ·show HeadOk (k.setArea _ _).head _
  rw [set_head]; exact h.head
 ·show -1 ≤ cutP _ _ _ ∧ cutP _ _ _ ≤ 1000
  have := h.pw
  unfold cutP spendP
  split <;> (try split) <;> omega
theorem pl_bounds {p : Int} {m : Nat} (h : -1 ≤ p ∧ p ≤ 1000) : -1 ≤ pl p m ∧ pl p m ≤ 1000 := by unfold pl; split <;> omega

theorem enc_ap {i : KI} {bs : Bs} (wf : WF i) : encI (apI i bs) = encI i ++ formB i.epoch i.next bs := by
 have h1 : (apI i bs).next - (apI i bs).recs.length = i.next - i.recs.length := by simp [apI]
 have h2 := encR_snoc i.epoch bs i.recs (i.next - i.recs.length)
 have h3 : i.next - i.recs.length + i.recs.length = i.next := by have := wf.next; omega
 rw [h3] at h2
 unfold encI
 rw [h1]
 show _ ++ encR i.epoch _ (i.recs ++ [bs]) = _
 rw [h2, List.append_assoc]
 rfl
theorem wf_ap {i : KI} {bs : Bs} (wf : WF i) (hn : i.next < 4611686018427387904) (hb : bs.length ≤ 470) : WF (apI i bs) := by
 refine ⟨?_, ?_, fun h => ?_, ?_, wf.state, ?_⟩
 ·rw [enc_ap wf, List.length_append, ← wf.size]; rfl
 ·have := wf.next; simp [apI]; omega
 ·have := wf.zero h; simp [apI]; exact this
 ·show i.next + 1 ≤ _; omega
 ·intro b hb'
  rcases List.mem_append.1 hb' with h | h
  ·exact wf.recs b h
  ·simp at h; subst h; omega
theorem ap_area {k : KS} {i : KI} {bs : Bs} (ha : k.area i.epoch = encI i) (wf : WF i) : (apS k i bs).area i.epoch = encI i ++ (formB i.epoch i.next bs).take (Jn.pw k.power (formB i.epoch i.next bs).length) := by
 unfold apS wrS
 rw [area_pow, area_set, wrA, ha, wf.size, wr_end]
theorem Inv.apLen {k : KS} {i : KI} {N : Nat} {bs : Bs} (h : Inv k i N true) (hr : i.size + 24 + bs.length ≤ 262144) (e : Nat) : ((apS k i bs).area e).length ≤ 262144 := by
 have hl := formB_length i.epoch i.next bs
 by_cases he : i.epoch % 2 = e % 2
 ·have e2 : (apS k i bs).area e = (apS k i bs).area i.epoch := by unfold KS.area; rw [he]
  rw [e2, ap_area h.exact h.wf, List.length_append, ← h.wf.size]
  have := h.sz
  simp; omega
 ·unfold apS wrS
  rw [area_pow, area_set_ne _ he]
  have := area_both (P := fun z => z.length ≤ _) h.la h.lb e
  omega
theorem Inv.ap_ok {k : KS} {i : KI} {N : Nat} {bs : Bs} (h : Inv k i N true) (hN : N ≤ 1000000) (hb : bs.length ≤ 470) (hr : i.size + 24 + bs.length ≤ 262144) (hok : apOk k i bs) : Inv (apS k i bs) (apI i bs) (N + 1) true := by
 have hl := formB_length i.epoch i.next bs
 refine ⟨?_, ⟨[], ?_, rec_nil _, fun _ => rfl⟩, wf_ap h.wf (by have := h.nN; omega) hb, by have := h.eN; show i.epoch ≤ _; omega, by have := h.nN; show i.next + 1 ≤ _; omega, ?_, ?_, h.apLen hr 0, h.apLen hr 1, h.st, ?_, pl_bounds h.pw⟩
 ·show HeadOk (k.setArea _ _).head _
  rw [set_head]; exact h.head
 ·rw [List.append_nil, enc_ap h.wf]
  show (apS k i bs).area i.epoch = _
  rw [ap_area h.exact h.wf]
  have : Jn.pw k.power (formB i.epoch i.next bs).length = (formB i.epoch i.next bs).length := hok
  rw [this, List.take_length]
 ·have := h.sz; show i.size + _ ≤ _; omega
 ·show i.size + _ ≤ _; omega
 ·intro b hb'
  rcases List.mem_append.1 hb' with h' | h'
  ·exact h.rs b h'
  ·simp at h'; subst h'; exact hb
theorem Inv.ap_no {k : KS} {i : KI} {N : Nat} {bs : Bs} (h : Inv k i N true) (hb : bs.length ≤ 65536) (hr : i.size + 24 + bs.length ≤ 262144) (hok : ¬ apOk k i bs) : Inv (apS k i bs) i (N + 1) false := by
 have hl := formB_length i.epoch i.next bs
 refine ⟨?_, ⟨_, ap_area h.exact h.wf, ?_, fun e => by cases e⟩, h.wf, by have := h.eN; omega, by have := h.nN; omega, by have := h.sz; omega, h.sm, h.apLen hr 0, h.apLen hr 1, h.st, h.rs, pl_bounds h.pw⟩
 ·show HeadOk (k.setArea _ _).head _
  rw [set_head]; exact h.head
 ·refine rec_torn (by omega) ?_
  have h1 : Jn.pw k.power (formB i.epoch i.next bs).length ≠ (formB i.epoch i.next bs).length := hok
  have h2 : Jn.pw k.power (formB i.epoch i.next bs).length ≤ (formB i.epoch i.next bs).length := by unfold Jn.pw; split <;> omega
  omega

/-! Checkpoints. -/
theorem ck1_area {k : KS} {e : Nat} (h : ckOk1 k e) : (ck1 k e).area e = [] := by
 unfold ck1 cutS
 rw [area_pow, area_set, cutA]
 split
 ·rename_i hp
  rcases h with h | h
  ·exact List.eq_nil_of_length_eq_zero (by omega)
  ·exact absurd hp h
 ·simp
theorem ck1_other {k : KS} {e e' : Nat} (h : e % 2 ≠ e' % 2) : (ck1 k e).area e' = k.area e' := by
 unfold ck1 cutS
 rw [area_pow, area_set_ne _ h]
theorem ck1_head (k : KS) (e : Nat) : (ck1 k e).head = k.head := by
 show (k.setArea _ _).head = _
 rw [set_head]
theorem ck2_area {k : KS} {e n : Nat} {bs : Bs} (h : ckOk1 k e) : (ck2 k e n bs).area e = (formB e n bs).take (Jn.pw (ck1 k e).power (formB e n bs).length) := by
 unfold ck2 wrS
 rw [area_pow, area_set, wrA, ck1_area h]
 have := wr_end (bs := (formB e n bs).take (Jn.pw (ck1 k e).power (formB e n bs).length)) (xs := [])
 simpa using this
theorem ck2_other {k : KS} {e e' n : Nat} {bs : Bs} (h : e % 2 ≠ e' % 2) : (ck2 k e n bs).area e' = k.area e' := by
 unfold ck2 wrS
 rw [area_pow, area_set_ne _ h, ck1_other h]
theorem ck2_head (k : KS) (e n : Nat) (bs : Bs) : (ck2 k e n bs).head = k.head := by
 show ((ck1 k e).setArea _ _).head = _
 rw [set_head, ck1_head]
theorem ck3_area (k : KS) (e n : Nat) (bs : Bs) (e' : Nat) : (ck3 k e n bs).area e' = (ck2 k e n bs).area e' := by
 unfold ck3; simp only; split <;> rfl
theorem ck4_area (k : KS) (e n : Nat) (bs : Bs) (e' : Nat) : (ck4 k e n bs).area e' = (ck2 k e n bs).area e' := by
 rw [← ck3_area]; rfl
theorem ck_pows {k : KS} {e n : Nat} {bs : Bs} (h : -1 ≤ k.power ∧ k.power ≤ 1000) : (-1 ≤ (ck1 k e).power ∧ (ck1 k e).power ≤ 1000) ∧ (-1 ≤ (ck2 k e n bs).power ∧ (ck2 k e n bs).power ≤ 1000) ∧ (-1 ≤ (ck4 k e n bs).power ∧ (ck4 k e n bs).power ≤ 1000) := by
 have h1 : -1 ≤ (ck1 k e).power ∧ (ck1 k e).power ≤ 1000 := by
  show -1 ≤ cutP _ _ _ ∧ cutP _ _ _ ≤ 1000
  unfold cutP spendP
  split <;> (try split) <;> omega
 have h2 : -1 ≤ (ck2 k e n bs).power ∧ (ck2 k e n bs).power ≤ 1000 := pl_bounds h1
 have h3 : (ck3 k e n bs).power = (ck2 k e n bs).power := by unfold ck3; simp only; split <;> rfl
 exact ⟨h1, h2, by show -1 ≤ pl (ck3 k e n bs).power _ ∧ pl (ck3 k e n bs).power _ ≤ 1000; rw [h3]; exact pl_bounds h2⟩
theorem wf_ck {i : KI} {bs : Bs} (wf : WF i) (hb : bs.length ≤ 43300) : WF (ckI i bs) := by
 refine ⟨?_, by simp [ckI], fun h => by simp [ckI] at h, wf.big, by show bs.length ≤ _; omega, fun b h => by simp [ckI] at h⟩
 unfold encI
 rw [if_neg (by simp [ckI])]
 show 24 + bs.length = _
 rw [List.length_append, formB_length, encR_length]
 simp [ckI, sizes]
theorem enc_ck (i : KI) (bs : Bs) : encI (ckI i bs) = formB ((i.epoch + 1 : Nat) : Int) i.next bs := by
 unfold encI
 rw [if_neg (by simp [ckI])]
 show formB ((i.epoch + 1 : Nat) : Int) ((i.next - 0 : Nat) : Int) bs ++ encR (i.epoch + 1) _ [] = _
 rw [encR_nil, List.append_nil, Nat.sub_zero]
theorem Inv.ckLen {k : KS} {i : KI} {N : Nat} {bs : Bs} (h : Inv k i N true) (hb : bs.length ≤ 43300) (h1 : ckOk1 k (i.epoch + 1)) (e : Nat) : ((ck2 k (i.epoch + 1) i.next bs).area e).length ≤ 262144 := by
 have hl := formB_length ((i.epoch + 1 : Nat) : Int) i.next bs
 by_cases he : (i.epoch + 1) % 2 = e % 2
 ·have e2 : (ck2 k (i.epoch + 1) i.next bs).area e = (ck2 k (i.epoch + 1) i.next bs).area (i.epoch + 1) := by unfold KS.area; rw [he]
  rw [e2, ck2_area h1, List.length_take]
  omega
 ·rw [ck2_other he]
  have := area_both (P := fun z => z.length ≤ _) h.la h.lb e
  omega
theorem Inv.ck3head {k : KS} {i : KI} {N : Nat} {bs : Bs} (h : Inv k i N true) : HeadOk (ck3 k (i.epoch + 1) i.next bs).head i.epoch ∧ (ck3 k (i.epoch + 1) i.next bs).head.length = 32 := by
 have e1 := ck2_head k (i.epoch + 1) i.next bs
 by_cases h0 : (ck2 k (i.epoch + 1) i.next bs).head.length = 0
 ·have e2 : (ck3 k (i.epoch + 1) i.next bs).head = List.replicate 32 0 := by unfold ck3; simp only; rw [if_pos h0]
  have e3 : i.epoch = 0 := by
   rcases h.head with ⟨_, h2⟩ | ⟨_, _, _, _, _, _, a, b, c, _⟩
   ·exact h2
   ·rw [e1, c, hd4_length a b] at h0; omega
  rw [e2, e3]
  exact ⟨zero_head, by simp⟩
 ·have e2 : (ck3 k (i.epoch + 1) i.next bs).head = k.head := by unfold ck3; simp only; rw [if_neg h0, e1]
  rw [e2]
  refine ⟨h.head, ?_⟩
  rcases h.head.len with h3 | h3
  ·rw [e1] at h0; omega
  ·exact h3
theorem Inv.ck_base {k k' : KS} {i : KI} {N : Nat} {bs : Bs} (h : Inv k i N true) (hb : bs.length ≤ 43300) (h1 : ckOk1 k (i.epoch + 1)) (hk : ∀ e, k'.area e = (ck2 k (i.epoch + 1) i.next bs).area e) (hh : HeadOk k'.head i.epoch) (hp : -1 ≤ k'.power ∧ k'.power ≤ 1000) : Inv k' i (N + 1) false :=
 ⟨hh, ⟨[], by rw [hk, ck2_other (by omega), h.exact, List.append_nil], rec_nil _, fun e => by cases e⟩, h.wf, by have := h.eN; omega, by have := h.nN; omega, by have := h.sz; omega, h.sm, by rw [hk]; exact h.ckLen hb h1 0, by rw [hk]; exact h.ckLen hb h1 1, h.st, h.rs, hp⟩
theorem Inv.ck_new {k k' : KS} {i : KI} {N : Nat} {bs : Bs} (h : Inv k i N true) (hN : N ≤ 1000000) (hb : bs.length ≤ 43300) (h1 : ckOk1 k (i.epoch + 1)) (h2 : ckOk2 k (i.epoch + 1) i.next bs) (hk : ∀ e, k'.area e = (ck2 k (i.epoch + 1) i.next bs).area e) (hh : HeadOk k'.head (i.epoch + 1)) (hp : -1 ≤ k'.power ∧ k'.power ≤ 1000) : Inv k' (ckI i bs) (N + 1) true := by
 have e1 : k'.area (i.epoch + 1) = encI (ckI i bs) := by
  rw [hk, ck2_area h1, enc_ck]
  have : Jn.pw (ck1 k (i.epoch + 1)).power (formB ((i.epoch + 1 : Nat) : Int) i.next bs).length = (formB ((i.epoch + 1 : Nat) : Int) i.next bs).length := h2
  rw [this, List.take_length]
 refine ⟨hh, ⟨[], by rw [List.append_nil]; exact e1, rec_nil _, fun _ => rfl⟩, wf_ck h.wf hb, ?_, ?_, ?_, ?_, by rw [hk]; exact h.ckLen hb h1 0, by rw [hk]; exact h.ckLen hb h1 1, hb, fun b h => by simp [ckI] at h, hp⟩
 ·have := h.eN; show i.epoch + 1 ≤ _; omega
 ·have := h.nN; show i.next ≤ _; omega
 ·show 24 + bs.length ≤ _; omega
 ·show 24 + bs.length ≤ _; omega
theorem copy_len (e : Nat) : (copyB e).length = 16 := by simp [copyB, be_length]
theorem Inv.ck_ok {k : KS} {i : KI} {N : Nat} {bs : Bs} (h : Inv k i N true) (hN : N ≤ 1000000) (he : i.epoch < 250) (hb : bs.length ≤ 43300) (hok : ckOk k (i.epoch + 1) i.next bs) : Inv (ckS k (i.epoch + 1) i.next bs) (ckI i bs) (N + 1) true := by
 obtain ⟨h1, h2, h3⟩ := hok
 rw [ckS, if_pos h1, if_pos h2]
 obtain ⟨g1, g2⟩ := h.ck3head (bs := bs)
 have hw := head_write (q := Jn.pw (ck3 k (i.epoch + 1) i.next bs).power (copyB (i.epoch + 1)).length) g1 g2 (by omega) (by rw [copy_len]; unfold Jn.pw; split <;> omega)
 have h16 : Jn.pw (ck3 k (i.epoch + 1) i.next bs).power (copyB (i.epoch + 1)).length = 16 := by
  have : Jn.pw (ck3 k (i.epoch + 1) i.next bs).power (copyB (i.epoch + 1)).length = (copyB (i.epoch + 1)).length := h3
  rw [this, copy_len]
 exact h.ck_new hN hb h1 h2 (ck4_area k _ _ _) (hw.2 h16) (ck_pows h.pw).2.2
theorem Inv.ck_no {k : KS} {i : KI} {N : Nat} {bs : Bs} (h : Inv k i N true) (hN : N ≤ 1000000) (he : i.epoch < 250) (hb : bs.length ≤ 43300) (hok : ¬ ckOk k (i.epoch + 1) i.next bs) : Inv (ckS k (i.epoch + 1) i.next bs) i (N + 1) false ∨ Inv (ckS k (i.epoch + 1) i.next bs) (ckI i bs) (N + 1) false := by
 by_cases h1 : ckOk1 k (i.epoch + 1)
 ·by_cases h2 : ckOk2 k (i.epoch + 1) i.next bs
  ·rw [ckS, if_pos h1, if_pos h2]
   obtain ⟨g1, g2⟩ := h.ck3head (bs := bs)
   have hw := head_write (q := Jn.pw (ck3 k (i.epoch + 1) i.next bs).power (copyB (i.epoch + 1)).length) g1 g2 (by omega) (by rw [copy_len]; unfold Jn.pw; split <;> omega)
   rcases hw.1 with hh | hh
   ·exact .inl (h.ck_base hb h1 (ck4_area k _ _ _) hh (ck_pows h.pw).2.2)
   ·exact .inr (h.ck_new hN hb h1 h2 (ck4_area k _ _ _) hh (ck_pows h.pw).2.2).weak
  ·rw [ckS, if_pos h1, if_neg h2]
   exact .inl (h.ck_base hb h1 (fun _ => rfl) (by rw [ck2_head]; exact h.head) (ck_pows h.pw).2.1)
 ·rw [ckS, if_neg h1]
  exact .inl (h.weak.mono (by omega))
/-- the empty store -/
theorem inv_empty {p : Int} (h : -1 ≤ p ∧ p ≤ 1000) : Inv ⟨[], [], [], p⟩ ⟨0, 0, [], [], 0⟩ 0 true :=
 ⟨.inl ⟨rfl, rfl⟩, ⟨[], by simp [KS.area, encI, encR_nil], by decide +kernel, fun _ => rfl⟩, ⟨by decide, by decide, fun _ => ⟨rfl, rfl⟩, by decide, by decide, by simp⟩, by decide, by decide, by decide, by decide, by simp [KS.area], by simp [KS.area], by decide, by simp, h⟩
end Go.Jn

namespace Go.Td
open Go Go.Sl Go.Proofs Go.Jn
def freshX : KHs := ⟨⟨[], [], 0, zeroA⟩, fun _ => none⟩
/-- a transaction is carried out -/
noncomputable def carryX (X : KHs) (au nu : Int) (al : List KAct) : KHs := ⟨(carryF X.s al).1, fun a => if a = au then some ⟨⟨au, nu, al⟩, (carryF X.s al).2⟩ else X.done a⟩
/-- the numbers of holds are numbers of the machine -/
abbrev hb63 (al : List KAct) : Prop := ∀ x ∈ al, x.hold ≤ 9223372036854775807
/-- what is remembered of an author -/
structure MemOk (a : Int) (m : KMem) (last : Int) : Prop where
 au : m.d.author = a
 fm : dformed a m.d.number m.d.acts = true
 hb : hb63 m.d.acts
 r : ResOk m.r last
structure XOk (X : KHs) : Prop where
 g : Good2 X.s
 m : ∀ a m, X.done a = some m → MemOk a m X.s.last
theorem dformed_iff {au nu : Int} {xs : List KAct} : dformed au nu xs = true ↔ (1 ≤ au ∧ au ≤ 64) ∧ (1 ≤ nu ∧ nu ≤ 1099511627776) ∧ (1 ≤ xs.length ∧ xs.length ≤ 16) ∧ ∀ x ∈ xs, x.formed = true := by
 unfold dformed
 simp only [Bool.and_eq_true, decide_eq_true_eq, Bool.not_eq_true', List.any_eq_false, Bool.not_eq_true, Bool.not_eq_false']
 constructor
 ·rintro ⟨⟨⟨⟨⟨⟨a, b⟩, c⟩, d⟩, e⟩, f⟩, g⟩
  exact ⟨⟨a, b⟩, ⟨c, d⟩, ⟨by omega, by omega⟩, fun x hx => by simpa using g x hx⟩
 ·rintro ⟨⟨a, b⟩, ⟨c, d⟩, ⟨e, f⟩, g⟩
  exact ⟨⟨⟨⟨⟨⟨a, b⟩, c⟩, d⟩, by omega⟩, by omega⟩, fun x hx => by simpa using g x hx⟩
theorem freshX_ok : XOk freshX := ⟨⟨⟨by simp [freshX], by simp [freshX], fun p hp => by cases hp⟩, ⟨by simp [freshX], by simp [freshX], fun p hp => by cases hp⟩, Int.le_refl _, by unfold freshX sumM sumA KAm.add zeroA; rfl⟩, fun a m h => by cases h⟩
theorem carryX_ok {X : KHs} (h : XOk X) {au nu : Int} {al : List KAct} (hf : dformed au nu al = true) (hh : hb63 al) : XOk (carryX X au nu al) ∧ (carryX X au nu al).s.last ≤ X.s.last + 16 ∧ X.s.last ≤ (carryX X au nu al).s.last ∧ ResOk (carryF X.s al).2 (carryX X au nu al).s.last := by
 obtain ⟨h1, h2, h3, h4⟩ := dformed_iff.1 hf
 obtain ⟨g1, g2, g3, g4, _⟩ := carry_good2 h.g h4 h3.2
 refine ⟨⟨g1, fun a m hm => ?_⟩, by show (carryF X.s al).1.last ≤ _; omega, g3, g4⟩
 by_cases e : a = au
 ·subst e
  have hm : (if a = a then some (⟨⟨a, nu, al⟩, (carryF X.s al).2⟩ : KMem) else X.done a) = some m := hm
  rw [if_pos rfl] at hm; injection hm with hm; subst hm
  exact ⟨rfl, hf, hh, g4⟩
 ·have hm : (if a = au then some (⟨⟨au, nu, al⟩, (carryF X.s al).2⟩ : KMem) else X.done a) = some m := hm
  rw [if_neg e] at hm
  have := h.m a m hm
  exact ⟨this.au, this.fm, this.hb, this.r.le g3⟩
/-- the same but for the order -/
structure EqX (X Y : KHs) : Prop where
 s : EqS X.s Y.s
 d : X.done = Y.done
theorem EqX.symm {X Y : KHs} (h : EqX X Y) : EqX Y X := ⟨h.s.symm, h.d.symm⟩
theorem EqX.trans {X Y Z : KHs} (h : EqX X Y) (g : EqX Y Z) : EqX X Z := ⟨h.s.trans g.s, h.d.trans g.d⟩
theorem XOk.refl {X : KHs} (h : XOk X) : EqX X X := ⟨h.g.refl, rfl⟩
theorem carryX_eq {X Y : KHs} (h : EqX X Y) (au nu : Int) (al : List KAct) : EqX (carryX X au nu al) (carryX Y au nu al) := by
 obtain ⟨h1, h2⟩ := carry_eq h.s al
 refine ⟨h1, funext fun a => ?_⟩
 show (if _ then _ else _) = (if _ then _ else _)
 rw [h2, h.d]
theorem EqX.ok {X Y : KHs} (h : EqX X Y) (g : XOk Y) : XOk X := ⟨h.s.good2 g.g, fun a m hm => by rw [h.s.l]; exact g.m a m (by rw [← h.d]; exact hm)⟩
/-! States as bits. -/
def psL : List (Int × KAm) → List Bool
 | [] => []
 | p :: l => bitsV (U p.1) 17 ++ (amL p.2 31 ++ psL l)
def hsL : List (Int × KHo) → List Bool
 | [] => []
 | p :: l => bitsV (U p.1) 48 ++ (bitsV (U p.2.owner) 17 ++ (amL p.2.a 31 ++ hsL l))
def nsL : List Int → List Bool
 | [] => []
 | n :: l => bitsV (U n) 48 ++ nsL l
def memL (m : KMem) : List Bool := dealL m.d.author m.d.number m.d.acts ++ (bitsV (U (m.r.holds.length : Int)) 9 ++ (nsL m.r.holds ++ (bitsV (U m.r.at_) 9 ++ bitsV (U m.r.e) 16)))
def msL : List (Int × KMem) → List Bool
 | [] => []
 | p :: l => memL p.2 ++ msL l
def stBits (su : KAm) (last : Int) (ps : List (Int × KAm)) (hs : List (Int × KHo)) (ms : List (Int × KMem)) : List Bool :=
 amL su 63 ++ (bitsV (U last) 48 ++ (bitsV (U (ps.length : Int)) 9 ++ (psL ps ++ (bitsV (U (hs.length : Int)) 9 ++ (hsL hs ++ (bitsV (U (ms.length : Int)) 9 ++ msL ms))))))
/-- what is remembered, as a list -/
structure MsOf (X : KHs) (ms : List (Int × KMem)) : Prop where
 nd : (ms.map (·.1)).Nodup
 mem : ∀ a m, X.done a = some m ↔ (a, m) ∈ ms
/-- bytes that hold a state -/
def StB (X : KHs) (bs : Bs) : Prop := ∃ ps hs ms, X.s.ps.Perm ps ∧ X.s.hs.Perm hs ∧ MsOf X ms ∧ ∃ n, Wr bs n (stBits X.s.su X.s.last ps hs ms)
abbrev recD (d : KDeal) : Bs := dealB d.author d.number d.acts [] 0
noncomputable def replay (X : KHs) (ds : List KDeal) : KHs := ds.foldl (fun X d => carryX X d.author d.number d.acts) X
abbrev okD (ds : List KDeal) : Prop := ∀ d ∈ ds, dformed d.author d.number d.acts = true ∧ hb63 d.acts
/-- what a journal's image tells -/
structure Img (i : KI) (X : KHs) (X0 : KHs) (ds : List KDeal) : Prop where
 st : (i.state = [] ∧ X0 = freshX) ∨ (i.state ≠ [] ∧ StB X0 i.state)
 x0 : XOk X0
 recs : i.recs = ds.map recD
 ok : okD ds
 x : EqX X (replay X0 ds)
theorem replay_snoc (X : KHs) (ds : List KDeal) (d : KDeal) : replay X (ds ++ [d]) = carryX (replay X ds) d.author d.number d.acts := by unfold replay; rw [List.foldl_append]; rfl
theorem Img.ap {i : KI} {X X0 : KHs} {ds : List KDeal} (h : Img i X X0 ds) {au nu : Int} {al : List KAct} (hf : dformed au nu al = true) (hh : hb63 al) : Img (apI i (dealB au nu al [] 0)) (carryX X au nu al) X0 (ds ++ [⟨au, nu, al⟩]) :=
 ⟨h.st, h.x0, by show i.recs ++ _ = _; rw [h.recs, List.map_append]; rfl, fun d hd => by
  rcases List.mem_append.1 hd with hd | hd
  ·exact h.ok d hd
  ·rw [List.mem_singleton.1 hd]; exact ⟨hf, hh⟩, by rw [replay_snoc]; exact carryX_eq h.x _ _ _⟩
theorem Img.ck {i : KI} {X X0 : KHs} {ds : List KDeal} (h : Img i X X0 ds) (hx : XOk X) {bs : Bs} (hb : StB X bs) (h0 : bs ≠ []) : Img (ckI i bs) X X [] :=
 ⟨.inr ⟨h0, hb⟩, hx, rfl, fun d hd => (by cases hd), hx.refl⟩
/-- a store from which a house can be opened -/
structure SOk (X : KHs) (i : KI) (k : KS) (N W : Nat) (x : Bool) : Prop where
 inv : Inv k i N x
 ep : i.epoch * 218000 + i.size ≤ W
 img : ∃ X0 ds, Img i X X0 ds
 ok : XOk X
 last : X.s.last ≤ 16 * N
def shelfR (S : Nat) (X : KHs) (N W : Nat) (p : Int) : Res := fun h => ∃ i k, SOk X i k N W false ∧ k.power = p ∧ Sat [storeR S k] h
abbrev hCells (J mp mh mm : Nat) (s : KSt) (dn : Bool) : Array Value := #[.pointer (some ⟨J, 0, none⟩), .map (some mp), .map (some mh), Ix s.last, Ix s.su.a0, Ix s.su.a1, Ix s.su.a2, Ix s.su.a3, .map (some mm), .bool dn]
abbrev hL (H S J mp mh mm : Nat) (s : KSt) (ms : List (Int × KMh)) (zs : List (KMh × KMem)) (i : KI) (k : KS) (jd dn : Bool) : List Res := [pt H (.cells (hCells J mp mh mm s dn) 91), jourR J S i jd, storeR S k, mpR PuM mp s.ps, mpR HoM mh s.hs, mpR MeM mm ms, memR zs]
/-- what a header tells of its memory, without the slices -/
structure HdOf (z : KMh × KMem) : Prop where
 au : z.1.author = z.2.d.author
 nu : z.1.number = z.2.d.number
 n : z.1.n = z.2.d.acts.length
 dn : z.1.done = z.2.r.done
 at_ : z.1.at_ = z.2.r.at_
 e : z.1.e = z.2.r.e
 m : z.1.m = z.2.r.holds.length
/-- the map of what is remembered -/
structure MmOk (X : KHs) (ms : List (Int × KMh)) (zs : List (KMh × KMem)) : Prop where
 none_ : ∀ a, MeM.look ms a = none → X.done a = none
 some_ : ∀ a h, MeM.look ms a = some h → ∃ m, (h, m) ∈ zs ∧ X.done a = some m
 hdr : ∀ z ∈ zs, HdOf z
/-- what holds of a house that is up, after at most N things were written -/
structure HOk (X : KHs) (s : KSt) (ms : List (Int × KMh)) (zs : List (KMh × KMem)) (i : KI) (k : KS) (N W : Nat) : Prop where
 eq : EqS s X.s
 so : SOk X i k N W true
 mm : MmOk X ms zs
def houseR (H S : Nat) (X : KHs) (N W : Nat) (p : Int) : Res := fun h => ∃ J mp mh mm s ms zs i k, HOk X s ms zs i k N W ∧ k.power = p ∧ Sat (hL H S J mp mh mm s ms zs i k false false) h
theorem St.openHouse {β : Base} {H S N W : Nat} {p : Int} {X : KHs} {M : List Res} {w : World} (h : St β (houseR H S X N W p :: M) w) : ∃ J mp mh mm s ms zs i k, HOk X s ms zs i k N W ∧ k.power = p ∧ St β (hL H S J mp mh mm s ms zs i k false false ++ M) w := by
 obtain ⟨ho, ht, hp, a, hd, hs, hs', q, r, h1, h2, h3, ⟨J, mp, mh, mm, s, ms, zs, i, k, hk, hw, hx⟩, h5⟩ := h
 exact ⟨J, mp, mh, mm, s, ms, zs, i, k, hk, hw, St.unbun ⟨ho, ht, hp, a, hd, hs, hs', q, r, h1, h2, h3, hx, h5⟩⟩
theorem St.closeHouse {β : Base} {H S N W J mp mh mm : Nat} {X : KHs} {s : KSt} {ms : List (Int × KMh)} {zs : List (KMh × KMem)} {i : KI} {k : KS} {M : List Res} {w : World} (hk : HOk X s ms zs i k N W) {p : Int} (hp : k.power = p) (h : St β (hL H S J mp mh mm s ms zs i k false false ++ M) w) : St β (houseR H S X N W p :: M) w :=
 h.merge fun _ h => ⟨J, mp, mh, mm, s, ms, zs, i, k, hk, hp, h⟩
theorem St.openShelf {β : Base} {S N W : Nat} {p : Int} {X : KHs} {M : List Res} {w : World} (h : St β (shelfR S X N W p :: M) w) : ∃ i k, SOk X i k N W false ∧ k.power = p ∧ St β (storeR S k :: M) w := by
 obtain ⟨ho, ht, hp, a, hd, hs, hs', q, r, h1, h2, h3, ⟨i, k, hk, hw, hx⟩, h5⟩ := h
 exact ⟨i, k, hk, hw, St.unbun ⟨ho, ht, hp, a, hd, hs, hs', q, r, h1, h2, h3, hx, h5⟩⟩
theorem St.closeShelf {β : Base} {S N W : Nat} {X : KHs} {i : KI} {k : KS} {M : List Res} {w : World} (hk : SOk X i k N W false) {p : Int} (hp : k.power = p) (h : St β (storeR S k :: M) w) : St β (shelfR S X N W p :: M) w :=
 St.merge (L := [storeR S k]) h fun _ h => ⟨i, k, hk, hp, h⟩
section
variable {P : Program} {ro : Option Nat} {n : Nat} {ds : List Deferred} {β : Base} {Q : Exit → Act → World → Prop} {f : Fm} {L : List Res}
theorem c_openHouse {c : Code} {H S N W : Nat} {p : Int} {X : KHs} {M : List Res} (hL' : L = houseR H S X N W p :: M) (K : ∀ J mp mh mm s ms zs i k, HOk X s ms zs i k N W → k.power = p → RunC P ro n ds β c Q f (hL H S J mp mh mm s ms zs i k false false ++ M)) : RunC P ro n ds β c Q f L := fun a w ha hw => by
 subst hL'
 obtain ⟨J, mp, mh, mm, s, ms, zs, i, k, h1, h2, h⟩ := St.openHouse hw
 exact K J mp mh mm s ms zs i k h1 h2 a w ha h
end
theorem ap_neg1 {k : KS} {i : KI} {bs : Bs} (h : k.power = -1) : apOk k i bs := by unfold apOk wrOk Jn.pw; rw [h]; rfl
theorem apS_neg1 {k : KS} {i : KI} {bs : Bs} (h : k.power = -1) : (apS k i bs).power = -1 := by
 show pl k.power _ = -1
 unfold pl; rw [h]; rfl
theorem recD_len {au nu : Int} {al : List KAct} (hf : dformed au nu al = true) : (dealB au nu al [] 0).length ≤ 470 := by
 rw [dealB_len (n := 0) rfl]
 have := (dformed_iff.1 hf).2.2.1
 omega
theorem last_up {l : Int} {N : Nat} (h : l ≤ 16 * (N : Int)) : l ≤ 16 * ((N + 1 : Nat) : Int) := by push_cast; omega
/-- what Append of the journal asks for -/
theorem SOk.room {X : KHs} {i : KI} {k : KS} {N W : Nat} {x : Bool} (h : SOk X i k N W x) (hN : N ≤ 1000000) {bs : Bs} (hb : bs.length ≤ 470) (hr : i.size + 24 + bs.length ≤ 262144) :
  bs.length ≤ 65536 ∧ k.fits 524288 ∧ i.next ≤ 4611686018427387904 ∧ i.size ≤ 262144 ∧ i.recs.length ≤ 1048576 ∧ i.size + 24 + bs.length ≤ 262144 ∧ i.next ≠ 4611686018427387904 := by
 have h1 := h.inv.nN; have h2 := h.inv.sm; have h3 := h.inv.wf.next
 exact ⟨by omega, h.inv.fits hN, by omega, by omega, by omega, by omega, by omega⟩
theorem SOk.small {X : KHs} {i : KI} {k : KS} {N W : Nat} {x : Bool} (h : SOk X i k N W x) (hN : N ≤ 400) {bs : Bs} (hb : bs.length ≤ 470) : i.size + 24 + bs.length ≤ 262144 := by have := h.inv.sz; omega
theorem SOk.weak {X : KHs} {i : KI} {k : KS} {N W : Nat} {x : Bool} (h : SOk X i k N W x) : SOk X i k N W false := ⟨h.inv.any, h.ep, h.img, h.ok, h.last⟩
theorem SOk.mono {X : KHs} {i : KI} {k : KS} {N M W V : Nat} {x : Bool} (h : SOk X i k N W x) (hM : N ≤ M) (hV : W ≤ V) : SOk X i k M V x := ⟨h.inv.mono hM, Nat.le_trans h.ep hV, h.img, h.ok, by have := h.last; omega⟩
theorem ap_ep {i : KI} {W : Nat} {bs : Bs} (h : i.epoch * 218000 + i.size ≤ W) (hb : bs.length ≤ 470) : (apI i bs).epoch * 218000 + (apI i bs).size ≤ W + 494 := by
 have q : (apI i bs).size = i.size + (24 + bs.length) := congrArg (i.size + ·) (formB_length i.epoch i.next bs)
 have q2 : (apI i bs).epoch = i.epoch := rfl
 rw [q, q2]; omega
/-- a transaction is written -/
theorem SOk.ap {X : KHs} {i : KI} {k : KS} {N W : Nat} (h : SOk X i k N W true) (hN : N ≤ 1000000) {au nu : Int} {al : List KAct} (hf : dformed au nu al = true) (hh : hb63 al) (hr : i.size + 24 + (dealB au nu al [] 0).length ≤ 262144) (ha : apOk k i (dealB au nu al [] 0)) :
  SOk (carryX X au nu al) (apI i (dealB au nu al [] 0)) (apS k i (dealB au nu al [] 0)) (N + 1) (W + 494) true := by
 obtain ⟨X0, ds, hi⟩ := h.img
 obtain ⟨h1, h2, _⟩ := carryX_ok h.ok (nu := nu) hf hh
 have e1 := h.inv.ap_ok hN (recD_len hf) hr ha
 have e2 := ap_ep h.ep (recD_len hf)
 exact ⟨e1, e2, ⟨X0, _, hi.ap hf hh⟩, h1, by have := h.last; push_cast; omega⟩
theorem SOk.ap_no {X : KHs} {i : KI} {k : KS} {N W : Nat} (h : SOk X i k N W true) {bs : Bs} (hr : i.size + 24 + bs.length ≤ 262144) (hb : bs.length ≤ 65536) (ha : ¬ apOk k i bs) : SOk X i (apS k i bs) (N + 1) W false :=
 ⟨h.inv.ap_no hb hr ha, h.ep, h.img, h.ok, by have := h.last; push_cast; omega⟩
theorem ck_ep {i : KI} {bs : Bs} (hb : bs.length ≤ 43300) : (ckI i bs).epoch * 218000 + (ckI i bs).size ≤ (i.epoch + 1) * 218000 + 43324 := by
 have q : (ckI i bs).size = 24 + bs.length := rfl
 have q2 : (ckI i bs).epoch = i.epoch + 1 := rfl
 rw [q, q2]; omega
theorem ck_ep2 {e s W : Nat} (h : e * 218000 + s ≤ W) : (e + 1) * 218000 + 43324 ≤ W + 262144 := by
 rw [Nat.succ_mul]
 generalize e * 218000 = z at h ⊢
 omega
/-- a checkpoint is written -/
theorem SOk.ck {X : KHs} {i : KI} {k : KS} {N W : Nat} (h : SOk X i k N W true) (hN : N ≤ 1000000) (hW : W ≤ 54000000) {bs : Bs} (hb : bs.length ≤ 43300) (hs : StB X bs) (h0 : bs ≠ []) (hc : ckOk k (i.epoch + 1) i.next bs) :
  SOk X (ckI i bs) (ckS k (i.epoch + 1) i.next bs) (N + 1) ((i.epoch + 1) * 218000 + 43324) true := by
 obtain ⟨X0, ds, hi⟩ := h.img
 have he : i.epoch < 250 := by have := h.ep; omega
 have e1 := h.inv.ck_ok hN he hb hc
 exact ⟨e1, ck_ep hb, ⟨X, [], hi.ck h.ok hs h0⟩, h.ok, last_up h.last⟩
theorem SOk.ck_no {X : KHs} {i : KI} {k : KS} {N W : Nat} (h : SOk X i k N W true) (hN : N ≤ 1000000) (hW : W ≤ 54000000) {bs : Bs} (hb : bs.length ≤ 43300) (hs : StB X bs) (h0 : bs ≠ []) (hc : ¬ ckOk k (i.epoch + 1) i.next bs) :
  ∃ j, SOk X j (ckS k (i.epoch + 1) i.next bs) (N + 1) (W + 262144) false := by
 obtain ⟨X0, ds, hi⟩ := h.img
 have he : i.epoch < 250 := by have := h.ep; omega
 have hl : X.s.last ≤ 16 * ((N + 1 : Nat) : Int) := by have := h.last; push_cast; omega
 rcases h.inv.ck_no hN he hb hc with hv | hv
 ·exact ⟨i, hv, Nat.le_trans h.ep (by omega), ⟨X0, ds, hi⟩, h.ok, hl⟩
 ·exact ⟨ckI i bs, hv, Nat.le_trans (ck_ep hb) (ck_ep2 h.ep), ⟨X, [], hi.ck h.ok hs h0⟩, h.ok, hl⟩
/-- a memory is added -/
theorem MmOk.add {X : KHs} {ms : List (Int × KMh)} {zs : List (KMh × KMem)} (h : MmOk X ms zs) {au nu : Int} {al : List KAct} {hd : KMh} (hh : HdOf (hd, ⟨⟨au, nu, al⟩, (carryF X.s al).2⟩)) :
  MmOk (carryX X au nu al) (MeM.put ms au hd) (zs ++ [(hd, ⟨⟨au, nu, al⟩, (carryF X.s al).2⟩)]) where
 none_ := fun a ha => by
  show (if a = au then (some ⟨⟨au, nu, al⟩, (carryF X.s al).2⟩ : Option KMem) else X.done a) = none
  by_cases e : a = au
  ·subst e; rw [put_same] at ha; cases ha
  ·rw [put_ne e] at ha
   rw [if_neg e]
   exact h.none_ a ha
 some_ := fun a g ha => by
  show ∃ m, _ ∧ (if a = au then (some ⟨⟨au, nu, al⟩, (carryF X.s al).2⟩ : Option KMem) else X.done a) = some m
  by_cases e : a = au
  ·subst e
   rw [put_same] at ha
   injection ha with ha; subst ha
   exact ⟨_, List.mem_append_right _ (List.mem_singleton.2 rfl), if_pos rfl⟩
  ·rw [put_ne e] at ha
   obtain ⟨m, h1, h2⟩ := h.some_ a g ha
   exact ⟨m, List.mem_append_left _ h1, by rw [if_neg e]; exact h2⟩
 hdr := fun z hz => by
  rcases List.mem_append.1 hz with hz | hz
  ·exact h.hdr z hz
  ·rw [List.mem_singleton.1 hz]; exact hh
theorem MmOk.found {X : KHs} {ms : List (Int × KMh)} {zs : List (KMh × KMem)} (h : MmOk X ms zs) {au : Int} {m : KMem} (hm : X.done au = some m) : ∃ hd, MeM.look ms au = some hd ∧ (hd, m) ∈ zs ∧ HdOf (hd, m) := by
 cases e : MeM.look ms au with
 | none => rw [h.none_ au e] at hm; cases hm
 | some hd =>
  obtain ⟨m', h1, h2⟩ := h.some_ au hd e
  rw [hm] at h2; injection h2 with h2; subst h2
  exact ⟨hd, rfl, h1, h.hdr _ h1⟩
end Go.Td

namespace Go.Td
open Go Go.Sl Go.Proofs Go.Jn
/-- a header that was found, or the header of nothing -/
structure LkOk (X : KHs) (ms : List (Int × KMh)) (zs : List (KMh × KMem)) (au : Int) (hd : KMh) (mal : List KAct) (mhl : List Int) : Prop where
 yes : (MeM.look ms au).isSome = true → ∃ m, X.done au = some m ∧ (hd, m) ∈ zs ∧ HdOf (hd, m) ∧ m.d.acts = mal ∧ m.r.holds = mhl
 no : (MeM.look ms au).isSome = false → X.done au = none ∧ hd = zeroM ∧ mal = [] ∧ mhl = []
theorem MmOk.lk {X : KHs} {ms : List (Int × KMh)} {zs : List (KMh × KMem)} (h : MmOk X ms zs) (au : Int) : ∃ hd mal mhl, (MeM.look ms au).getD zeroM = hd ∧ LkOk X ms zs au hd mal mhl ∧ hd.n = mal.length ∧ hd.m = mhl.length := by
 cases e : MeM.look ms au with
 | none => exact ⟨zeroM, [], [], rfl, ⟨fun q => (by rw [e] at q; cases q), fun _ => ⟨h.none_ au e, rfl, rfl, rfl⟩⟩, rfl, rfl⟩
 | some hd =>
  obtain ⟨m, h1, h2⟩ := h.some_ au hd e
  have hh := h.hdr _ h1
  exact ⟨hd, m.d.acts, m.r.holds, rfl, ⟨fun _ => ⟨m, h2, h1, hh, rfl, rfl⟩, fun q => (by rw [e] at q; cases q)⟩, hh.n, hh.m⟩
section
variable {β : Base} {L : List Res} {X : KHs} {ms : List (Int × KMh)} {zs : List (KMh × KMem)} {au : Int} {hd : KMh} {mal : List KAct} {mhl : List Int}
theorem sl_none {α : Type} (R : Rp α) (h : PHeap) : Sl R h (.slice none 0 0) [] := ⟨none, 0, rfl, Nat.le_refl _, by decide, fun j x hx => by simp at hx⟩
theorem k_lkA (i : Nat) (hi : L[i]? = some (memR zs)) (h : LkOk X ms zs au hd mal mhl) : Knows β L (fun q => Sl ActF.R q (.slice hd.p hd.n hd.c) mal) := by
 cases e : (MeM.look ms au).isSome with
 | true => obtain ⟨m, _, h1, _, rfl, _⟩ := h.yes e; exact k_memA i hi h1
 | false => obtain ⟨_, rfl, rfl, _⟩ := h.no e; exact fun w _ hw => sl_none _ _
theorem k_lkH (i : Nat) (hi : L[i]? = some (memR zs)) (h : LkOk X ms zs au hd mal mhl) : Knows β L (fun q => Sl IntF.R q (.slice hd.q hd.m hd.k) mhl) := by
 cases e : (MeM.look ms au).isSome with
 | true => obtain ⟨m, _, h1, _, _, rfl⟩ := h.yes e; exact k_memH i hi h1
 | false => obtain ⟨_, rfl, _, rfl⟩ := h.no e; exact fun w _ hw => sl_none _ _
variable (h : LkOk X ms zs au hd mal mhl) {nu : Int} {al : List KAct}
include h
theorem LkOk.few (hX : XOk X) : mhl.length ≤ 1048576 := by
 cases e : (MeM.look ms au).isSome with
 | true => obtain ⟨m, h1, _, _, _, rfl⟩ := h.yes e; have := (hX.m _ _ h1).r.hn; omega
 | false => obtain ⟨_, _, _, rfl⟩ := h.no e; decide
theorem do_badF (hf : dformed au nu al = false) : doF X au nu al = (X, zeroRes, 2) := by have _ := h; exact if_pos hf
theorem do_sameF (hf : dformed au nu al = true) (h1 : (((MeM.look ms au).isSome && decide (hd.number = nu)) && decide (mal = al)) = true) : doF X au nu al = (X, ⟨hd.done, hd.at_, hd.e, mhl⟩, 0) := by
 simp only [Bool.and_eq_true, decide_eq_true_eq] at h1
 obtain ⟨m, h2, _, h4, h5, h6⟩ := h.yes h1.1.1
 have e1 : m.d.number = nu := h4.nu.symm.trans h1.1.2
 have e2 : m.r = ⟨hd.done, hd.at_, hd.e, mhl⟩ := by
  have a := h4.dn; have b := h4.at_; have c := h4.e
  cases hr : m.r
  rw [hr] at a b c h6
  simp only at a b c h6
  rw [a, b, c, ← h6]
 unfold doF
 rw [if_neg (by rw [hf]; decide), h2]
 show (if m.d.number = nu then (if m.d.acts = al then (X, m.r, (0 : Int)) else _) else _) = _
 rw [if_pos e1, if_pos (h5.trans h1.2), e2]
theorem do_otherF (hf : dformed au nu al = true) (h1 : ¬ (((MeM.look ms au).isSome && decide (hd.number = nu)) && decide (mal = al)) = true) (h2 : ((MeM.look ms au).isSome && decide (hd.number = nu)) = true) : doF X au nu al = (X, zeroRes, 331) := by
 rw [h2] at h1
 simp only [Bool.and_eq_true, decide_eq_true_eq, true_and] at h1 h2
 obtain ⟨m, h3, _, h4, h5, h6⟩ := h.yes h2.1
 unfold doF
 rw [if_neg (by rw [hf]; decide), h3]
 show (if m.d.number = nu then (if m.d.acts = al then _ else (X, zeroRes, (331 : Int))) else _) = _
 rw [if_pos (h4.nu.symm.trans h2.2), if_neg (by rw [h5]; exact h1)]
theorem do_oldF (hf : dformed au nu al = true) (h1 : ¬ ((MeM.look ms au).isSome && decide (hd.number = nu)) = true) (h2 : ((MeM.look ms au).isSome && decide (nu < hd.number)) = true) : doF X au nu al = (X, zeroRes, 332) := by
 simp only [Bool.and_eq_true, decide_eq_true_eq] at h1 h2
 obtain ⟨m, h3, _, h4, h5, h6⟩ := h.yes h2.1
 have e : hd.number = m.d.number := h4.nu
 unfold doF
 rw [if_neg (by rw [hf]; decide), h3]
 show (if m.d.number = nu then _ else if nu < m.d.number then (X, zeroRes, (332 : Int)) else _) = _
 rw [if_neg (by intro q; exact h1 ⟨h2.1, e.trans q⟩), if_pos (by rw [← e]; exact h2.2)]
theorem do_newF (hf : dformed au nu al = true) (h1 : ¬ ((MeM.look ms au).isSome && decide (hd.number = nu)) = true) (h2 : ¬ ((MeM.look ms au).isSome && decide (nu < hd.number)) = true) : doF X au nu al = (carryX X au nu al, (carryF X.s al).2, 0) := by
 unfold doF
 rw [if_neg (by rw [hf]; decide)]
 cases e : (MeM.look ms au).isSome with
 | true =>
  rw [e] at h1 h2
  simp only [Bool.true_and, decide_eq_true_eq] at h1 h2
  obtain ⟨m, h3, _, h4, h5, h6⟩ := h.yes e
  have e : hd.number = m.d.number := h4.nu
  rw [h3]
  show (if m.d.number = nu then _ else if nu < m.d.number then _ else _) = _
  rw [if_neg (by rw [← e]; exact h1), if_neg (by rw [← e]; exact h2)]
  rfl
 | false => rw [(h.no e).1]; rfl
end
theorem HOk.mono {X : KHs} {s : KSt} {ms : List (Int × KMh)} {zs : List (KMh × KMem)} {i : KI} {k : KS} {N M W V : Nat} (h : HOk X s ms zs i k N W) (hM : N ≤ M) (hV : W ≤ V) : HOk X s ms zs i k M V := ⟨h.eq, h.so.mono hM hV, h.mm⟩
theorem HOk.goodS {X : KHs} {s : KSt} {ms : List (Int × KMh)} {zs : List (KMh × KMem)} {i : KI} {k : KS} {N W : Nat} (h : HOk X s ms zs i k N W) (hN : N ≤ 1000000) : GoodS s 1152921504606846976 := by
 have h1 := h.eq.l; have h2 := h.so.last
 exact (h.eq.good2 h.so.ok.g).good (by omega) (by decide)
/-- a transaction is carried out -/
theorem HOk.ap {X : KHs} {s z : KSt} {ro : KRes} {ms : List (Int × KMh)} {zs : List (KMh × KMem)} {i j : KI} {k q : KS} {N W M V : Nat} (h : HOk X s ms zs i k N W) {au nu : Int} {al : List KAct} (hc : carryF s al = (z, ro)) (hs : SOk (carryX X au nu al) j q M V true) {hd : KMh} (hh : HdOf (hd, ⟨⟨au, nu, al⟩, ro⟩)) :
  HOk (carryX X au nu al) z (MeM.put ms au hd) (zs ++ [(hd, ⟨⟨au, nu, al⟩, ro⟩)]) j q M V ∧ (carryF X.s al).2 = ro := by
 obtain ⟨h1, h2⟩ := carry_eq h.eq al
 rw [hc] at h1 h2
 refine ⟨⟨h1, hs, ?_⟩, h2.symm⟩
 have h2 : ro = (carryF X.s al).2 := h2
 subst h2
 exact h.mm.add hh
end Go.Td

namespace Go.Sl
theorem bx_shr (x : UInt8) (s : Nat) (hs : s < 8) : ((x.toNat : Int)).fdiv (2 ^ (min ((s : Int)).toNat IntKind.u8.bits)) = ((x >>> UInt8.ofNat s).toNat : Int) := by
 have e : (UInt8.ofNat s).toNat % 8 = s := by simp; omega
 have hm : min ((s : Int)).toNat IntKind.u8.bits = s := by simp [IntKind.bits]; omega
 rw [hm, UInt8.toNat_shiftRight, e, Nat.shiftRight_eq_div_pow, Int.fdiv_eq_ediv_of_nonneg _ (by exact_mod_cast Nat.zero_le _)]
 push_cast; rfl
theorem bx_and (x y : UInt8) : IntKind.u8.wrap ((BitVec.ofInt IntKind.u8.bits (x.toNat : Int) &&& BitVec.ofInt IntKind.u8.bits (y.toNat : Int)).toNat : Int) = ((x &&& y).toNat : Int) := by
 rw [bx_bv, bx_bv, u8w]
 have h := (x &&& y).toNat_lt
 show (((x &&& y).toNat : Nat) : Int) % 256 = _
 omega
end Go.Sl
namespace Go.Td
open Go Go.Sl Go.Proofs Go.Jn
theorem rd_step {xs : List UInt8} {n j : Nat} {x : UInt8} (h : xs[(n + j) / 8]? = some x) : (rdU xs n j <<< (1 : UInt64)) ||| (x >>> UInt8.ofNat (7 - (n + j) % 8) &&& (1 : UInt8)).toUInt64 = rdU xs n (j + 1) := by
 show _ = (rdU xs n j <<< (1 : UInt64)) ||| bit64 xs (n + j)
 unfold bit64
 rw [List.getD_eq_getElem?_getD, h]; rfl
/-- a number that fits -/
structure Fits (v : Int) (k : Nat) : Prop where
 f : k = 64 ∨ (0 ≤ v ∧ v < 2 ^ k ∧ k < 64)
 w : 0 ≤ v ∧ v ≤ 9223372036854775807
theorem Fits.k64 {v : Int} {k : Nat} (h : Fits v k) : k ≤ 64 := by rcases h.f with h | h <;> omega
theorem fits_of {v : Int} {k : Nat} (hk : k < 64) (h0 : 0 ≤ v) (h : v < 2 ^ k) : Fits v k := by
 refine ⟨.inr ⟨h0, h, hk⟩, ?_⟩
 have : (2 : Int) ^ k ≤ 2 ^ 63 := by exact_mod_cast Nat.pow_le_pow_right (by decide) (by omega : k ≤ 63)
 omega
theorem i64_U {v : Int} (h : 0 ≤ v ∧ v ≤ 9223372036854775807) : IntKind.i64.wrap ((U v).toNat : Int) = v := by
 have hu : ((U v).toNat : Int) = v := by
  unfold U
  rw [UInt64.toNat_ofNat_of_lt' (by show (v % 18446744073709551616).toNat < 2 ^ 64; omega)]
  omega
 rw [hu]
 exact i64w (by omega)
/-! what is to be read, ahead of r -/
def amK (a : KAm) (k : Nat) (r : List Bool) : List Bool := bitsV (U a.a0) k ++ (bitsV (U a.a1) k ++ (bitsV (U a.a2) k ++ (bitsV (U a.a3) k ++ r)))
def actK (x : KAct) (r : List Bool) : List Bool := bitsV (U ((x.kind.toNat : Nat) : Int)) 3 ++ (bitsV (U x.owner) 17 ++ (bitsV (U x.other) 17 ++ (bitsV (U x.hold) 64 ++ amK x.a 31 r)))
def actsK : List KAct → List Bool → List Bool
 | [], r => r
 | x :: l, r => actK x (actsK l r)
def dealK (au nu : Int) (al : List KAct) (r : List Bool) : List Bool := bitsV (U au) 7 ++ (bitsV (U nu) 41 ++ (bitsV (U ((al.length : Nat) : Int)) 9 ++ actsK al r))
def psK : List (Int × KAm) → List Bool → List Bool
 | [], r => r
 | p :: l, r => bitsV (U p.1) 17 ++ amK p.2 31 (psK l r)
def hsK : List (Int × KHo) → List Bool → List Bool
 | [], r => r
 | p :: l, r => bitsV (U p.1) 48 ++ (bitsV (U p.2.owner) 17 ++ amK p.2.a 31 (hsK l r))
def nsK : List Int → List Bool → List Bool
 | [], r => r
 | n :: l, r => bitsV (U n) 48 ++ nsK l r
def memK (m : KMem) (r : List Bool) : List Bool := dealK m.d.author m.d.number m.d.acts (bitsV (U ((m.r.holds.length : Nat) : Int)) 9 ++ nsK m.r.holds (bitsV (U m.r.at_) 9 ++ (bitsV (U m.r.e) 16 ++ r)))
def msK : List (Int × KMem) → List Bool → List Bool
 | [], r => r
 | p :: l, r => memK p.2 (msK l r)
def stK (su : KAm) (last : Int) (ps : List (Int × KAm)) (hs : List (Int × KHo)) (ms : List (Int × KMem)) : List Bool :=
 amK su 63 (bitsV (U last) 48 ++ (bitsV (U ((ps.length : Nat) : Int)) 9 ++ psK ps (bitsV (U ((hs.length : Nat) : Int)) 9 ++ hsK hs (bitsV (U ((ms.length : Nat) : Int)) 9 ++ msK ms []))))
theorem amK_eq (a : KAm) (k : Nat) (r : List Bool) : amL a k ++ r = amK a k r := by simp [amL, amK]
theorem actK_eq (x : KAct) (r : List Bool) : actL x ++ r = actK x r := by simp [actL, actK, ← amK_eq]
theorem actsK_eq : ∀ (l : List KAct) (r : List Bool), actsL l ++ r = actsK l r
 | [], r => rfl
 | x :: l, r => by show actL x ++ actsL l ++ r = actK x (actsK l r); rw [List.append_assoc, actsK_eq l r, actK_eq]
theorem dealK_eq (au nu : Int) (al : List KAct) (r : List Bool) : dealL au nu al ++ r = dealK au nu al r := by simp [dealL, dealK, ← actsK_eq]
theorem psK_eq : ∀ (l : List (Int × KAm)) (r : List Bool), psL l ++ r = psK l r
 | [], r => rfl
 | p :: l, r => by show (bitsV (U p.1) 17 ++ (amL p.2 31 ++ psL l)) ++ r = bitsV (U p.1) 17 ++ amK p.2 31 (psK l r); rw [← psK_eq l r, ← amK_eq]; simp
theorem hsK_eq : ∀ (l : List (Int × KHo)) (r : List Bool), hsL l ++ r = hsK l r
 | [], r => rfl
 | p :: l, r => by show (bitsV (U p.1) 48 ++ (bitsV (U p.2.owner) 17 ++ (amL p.2.a 31 ++ hsL l))) ++ r = bitsV (U p.1) 48 ++ (bitsV (U p.2.owner) 17 ++ amK p.2.a 31 (hsK l r)); rw [← hsK_eq l r, ← amK_eq]; simp
theorem nsK_eq : ∀ (l : List Int) (r : List Bool), nsL l ++ r = nsK l r
 | [], r => rfl
 | n :: l, r => by show (bitsV (U n) 48 ++ nsL l) ++ r = bitsV (U n) 48 ++ nsK l r; rw [← nsK_eq l r, List.append_assoc]
theorem memK_eq (m : KMem) (r : List Bool) : memL m ++ r = memK m r := by
 unfold memL memK
 rw [← dealK_eq, ← nsK_eq]; simp
theorem msK_eq : ∀ (l : List (Int × KMem)) (r : List Bool), msL l ++ r = msK l r
 | [], r => rfl
 | p :: l, r => by show (memL p.2 ++ msL l) ++ r = memK p.2 (msK l r); rw [← msK_eq l r, ← memK_eq, List.append_assoc]
theorem stK_eq (su : KAm) (last : Int) (ps : List (Int × KAm)) (hs : List (Int × KHo)) (ms : List (Int × KMem)) : stBits su last ps hs ms = stK su last ps hs ms := by
 unfold stBits stK
 rw [← msK_eq, ← hsK_eq, ← psK_eq, ← amK_eq, List.append_nil]
theorem psK_next {l : List (Int × KAm)} {k : Nat} {p : Int × KAm} {r : List Bool} (h : l[k]? = some p) : psK (l.drop k) r = bitsV (U p.1) 17 ++ amK p.2 31 (psK (l.drop (k + 1)) r) := by
 obtain ⟨hk, rfl⟩ := List.getElem?_eq_some_iff.1 h; rw [List.drop_eq_getElem_cons hk]; rfl
theorem hsK_next {l : List (Int × KHo)} {k : Nat} {p : Int × KHo} {r : List Bool} (h : l[k]? = some p) : hsK (l.drop k) r = bitsV (U p.1) 48 ++ (bitsV (U p.2.owner) 17 ++ amK p.2.a 31 (hsK (l.drop (k + 1)) r)) := by
 obtain ⟨hk, rfl⟩ := List.getElem?_eq_some_iff.1 h; rw [List.drop_eq_getElem_cons hk]; rfl
theorem nsK_next {l : List Int} {k : Nat} {n : Int} {r : List Bool} (h : l[k]? = some n) : nsK (l.drop k) r = bitsV (U n) 48 ++ nsK (l.drop (k + 1)) r := by
 obtain ⟨hk, rfl⟩ := List.getElem?_eq_some_iff.1 h; rw [List.drop_eq_getElem_cons hk]; rfl
theorem msK_next {l : List (Int × KMem)} {k : Nat} {p : Int × KMem} {r : List Bool} (h : l[k]? = some p) : msK (l.drop k) r = memK p.2 (msK (l.drop (k + 1)) r) := by
 obtain ⟨hk, rfl⟩ := List.getElem?_eq_some_iff.1 h; rw [List.drop_eq_getElem_cons hk]; rfl
theorem actsK_next {l : List KAct} {k : Nat} {x : KAct} {r : List Bool} (h : l[k]? = some x) : actsK (l.drop k) r = bitsV (U ((x.kind.toNat : Nat) : Int)) 3 ++ (bitsV (U x.owner) 17 ++ (bitsV (U x.other) 17 ++ (bitsV (U x.hold) 64 ++ amK x.a 31 (actsK (l.drop (k + 1)) r)))) := by
 obtain ⟨hk, rfl⟩ := List.getElem?_eq_some_iff.1 h; rw [List.drop_eq_getElem_cons hk]; rfl
abbrev rdL (rb : Nat) (p : Option Addr) (c : Nat) (xs : List UInt8) (n : Nat) : List Res := [pt rb (.cells #[.bool true, .slice p xs.length c, Nx n, Ix 0] 198), rowF BytF 5 p c xs]
/-- a reader that has these bits left -/
def rdrR (rb : Nat) (l : List Bool) : Res := fun h => ∃ p c xs n, Rd xs n l ∧ xs.length ≤ 65536 ∧ Sat (rdL rb p c xs n) h
theorem St.openRd {β : Base} {rb : Nat} {l : List Bool} {M : List Res} {w : World} (h : St β (rdrR rb l :: M) w) : ∃ p c xs n, Rd xs n l ∧ xs.length ≤ 65536 ∧ St β (rdL rb p c xs n ++ M) w := by
 obtain ⟨ho, ht, hp, a, hd, hs, hs', q, r, h1, h2, h3, ⟨p, c, xs, n, hk, hl, hx⟩, h5⟩ := h
 exact ⟨p, c, xs, n, hk, hl, St.unbun ⟨ho, ht, hp, a, hd, hs, hs', q, r, h1, h2, h3, hx, h5⟩⟩
theorem St.closeRd {β : Base} {rb : Nat} {p : Option Addr} {c : Nat} {xs : List UInt8} {n : Nat} {l : List Bool} {M : List Res} {w : World} (hr : Rd xs n l) (hl : xs.length ≤ 65536) (h : St β (rdL rb p c xs n ++ M) w) : St β (rdrR rb l :: M) w :=
 h.merge fun _ h => ⟨p, c, xs, n, hr, hl, h⟩
theorem rowB_eq (p : Option Addr) (c : Nat) (xs : List UInt8) : row (.slice p xs.length c) 5 1 xs.length (BX xs) = rowF BytF 5 p c xs := by
 have : BX xs = xs.flatMap BytF.enc := by
  induction xs with
  | nil => rfl
  | cons x xs ih => show Bx x :: BX xs = Bx x :: _; rw [ih]; rfl
 rw [this]
end Go.Td

namespace Go.Td
open Go Go.Sl Go.Proofs Go.Jn
theorem sortI_same {l m : List Int} (h : l.Perm m) : sortI l = sortI m := sortI_eq (h.trans (sortI_perm m).symm) (sortI_sorted m)
noncomputable def ownersX (X : KHs) : List Int := sortI (X.s.ps.map (·.1))
noncomputable def holdsX (X : KHs) : List KHo := (sortI (X.s.hs.map (·.1))).map (hoA X.s.hs)
def lastX (X : KHs) (au : Int) : Int × KRes × Bool := match X.done au with | none => (0, zeroRes, false) | some m => (m.d.number, m.r, true)
/-- what holds of what a house shows -/
structure VOk (X : KHs) (s : KSt) (ms : List (Int × KMh)) (zs : List (KMh × KMem)) : Prop where
 eq : EqS s X.s
 mm : MmOk X ms zs
 ok : XOk X
theorem HOk.v {X : KHs} {s : KSt} {ms : List (Int × KMh)} {zs : List (KMh × KMem)} {i : KI} {k : KS} {N W : Nat} (h : HOk X s ms zs i k N W) : VOk X s ms zs := ⟨h.eq, h.mm, h.so.ok⟩
section
variable {X : KHs} {s : KSt} {ms : List (Int × KMh)} {zs : List (KMh × KMem)} (h : VOk X s ms zs)
include h
theorem VOk.purse (n : Int) : puA s.ps n = puA X.s.ps n := puA_perm h.eq.p h.eq.np n
theorem VOk.supply : s.su = X.s.su := h.eq.u
theorem VOk.owners : sortI (s.ps.map (·.1)) = ownersX X := sortI_same (h.eq.p.map _)
theorem VOk.holds : (sortI (s.hs.map (·.1))).map (hoA s.hs) = holdsX X := by
 unfold holdsX
 rw [sortI_same (h.eq.h.map _)]
 exact List.map_congr_left fun n _ => hoA_perm h.eq.h h.eq.nh n
theorem VOk.pfew : (s.ps.map (·.1)).length ≤ 256 := by rw [List.length_map, h.eq.p.length_eq]; exact h.ok.g.p.pn
theorem VOk.hfew : (s.hs.map (·.1)).length ≤ 128 := by rw [List.length_map, h.eq.h.length_eq]; exact h.ok.g.h.hn
end
/-- a house but for its journal and its store -/
abbrev vL (H J mp mh mm : Nat) (s : KSt) (ms : List (Int × KMh)) (zs : List (KMh × KMem)) (dn : Bool) : List Res := [pt H (.cells (hCells J mp mh mm s dn) 91), mpR PuM mp s.ps, mpR HoM mh s.hs, mpR MeM mm ms, memR zs]
def viewR (H J : Nat) (X : KHs) (dn : Bool) : Res := fun h => ∃ mp mh mm s ms zs, VOk X s ms zs ∧ Sat (vL H J mp mh mm s ms zs dn) h
theorem St.openView {β : Base} {H J : Nat} {X : KHs} {dn : Bool} {M : List Res} {w : World} (h : St β (viewR H J X dn :: M) w) : ∃ mp mh mm s ms zs, VOk X s ms zs ∧ St β (vL H J mp mh mm s ms zs dn ++ M) w := by
 obtain ⟨ho, ht, hp, a, hd, hs, hs', q, r, h1, h2, h3, ⟨mp, mh, mm, s, ms, zs, hk, hx⟩, h5⟩ := h
 exact ⟨mp, mh, mm, s, ms, zs, hk, St.unbun ⟨ho, ht, hp, a, hd, hs, hs', q, r, h1, h2, h3, hx, h5⟩⟩
theorem St.closeView {β : Base} {H J mp mh mm : Nat} {X : KHs} {s : KSt} {ms : List (Int × KMh)} {zs : List (KMh × KMem)} {dn : Bool} {M : List Res} {w : World} (hk : VOk X s ms zs) (h : St β (vL H J mp mh mm s ms zs dn ++ M) w) : St β (viewR H J X dn :: M) w :=
 h.merge fun _ h => ⟨mp, mh, mm, s, ms, zs, hk, h⟩
theorem St.splitHouse {β : Base} {H S N W : Nat} {p : Int} {X : KHs} {M : List Res} {w : World} (h : St β (houseR H S X N W p :: M) w) : ∃ J i k, SOk X i k N W true ∧ k.power = p ∧ St β (viewR H J X false :: jourR J S i false :: storeR S k :: M) w := by
 obtain ⟨J, mp, mh, mm, s, ms, zs, i, k, h1, h2, h3⟩ := St.openHouse h
 exact ⟨J, i, k, h1.so, h2, St.closeView (mp := mp) (mh := mh) (mm := mm) (M := jourR J S i false :: storeR S k :: M) h1.v (h3.perm (List.Perm.append_right M (perm_ix (L' := vL H J mp mh mm s ms zs false ++ [jourR J S i false, storeR S k]) [0, 3, 4, 5, 6, 1, 2] 7 rfl (by kernel_rfl) (by kernel_rfl))))⟩
theorem St.joinHouse {β : Base} {H S J N W : Nat} {p : Int} {X : KHs} {i : KI} {k : KS} {M : List Res} {w : World} (hs : SOk X i k N W true) (hp : k.power = p) (h : St β (viewR H J X false :: jourR J S i false :: storeR S k :: M) w) : St β (houseR H S X N W p :: M) w := by
 obtain ⟨mp, mh, mm, s, ms, zs, h1, h2⟩ := St.openView h
 exact St.closeHouse (J := J) (mp := mp) (mh := mh) (mm := mm) (M := M) (i := i) (k := k) ⟨h1.eq, hs, h1.mm⟩ hp (h2.perm (List.Perm.append_right M (perm_ix (L := vL H J mp mh mm s ms zs false ++ [jourR J S i false, storeR S k]) (L' := hL H S J mp mh mm s ms zs i k false false) [0, 5, 6, 1, 2, 3, 4] 7 rfl (by kernel_rfl) (by kernel_rfl))))
section
variable {P : Program} {ro : Option Nat} {n : Nat} {ds : List Deferred} {β : Base} {Q : Exit → Act → World → Prop} {f : Fm} {L : List Res}
end
/-- what only reads a house can read it without its journal -/
theorem hou_calls {P : Program} {fn : Nat} {args : Array Value} {β : Base} {H S N W : Nat} {p : Int} {X : KHs} {w : World} {Φ : Ending → List Res → Prop} (hw : St β [houseR H S X N W p] w)
  (hv : ∀ β w J, St β [viewR H J X false] w → Calls P fn args w fun r w' => ∃ L, Φ r L ∧ St β (L ++ [viewR H J X false]) w') : Calls P fn args w fun r w' => ∃ L, Φ r L ∧ St β (L ++ [houseR H S X N W p]) w' := by
 obtain ⟨J, i, k, h1, h2, h3⟩ := St.splitHouse hw
 obtain ⟨β1, sb, kn, hw1, back⟩ := St.frame (L := [viewR H J X false]) (M := [jourR J S i false, storeR S k]) h3
 refine (hv β1 w J hw1).mono ?_
 rintro r w' ⟨L, hΦ, hw'⟩
 refine ⟨L, hΦ, ?_⟩
 have h4 := back _ _ hw'
 have h5 : St β (viewR H J X false :: jourR J S i false :: storeR S k :: L) w' := h4.perm (by
  rw [List.append_assoc]
  exact List.perm_append_comm)
 exact (St.joinHouse h1 h2 h5).perm (List.perm_append_comm (l₁ := [houseR H S X N W p]) (l₂ := L))
theorem LkOk.last {X : KHs} {ms : List (Int × KMh)} {zs : List (KMh × KMem)} {au : Int} {hd : KMh} {mal : List KAct} {mhl : List Int} (h : LkOk X ms zs au hd mal mhl) : lastX X au = (hd.number, ⟨hd.done, hd.at_, hd.e, mhl⟩, (MeM.look ms au).isSome) := by
 unfold lastX
 cases e : (MeM.look ms au).isSome with
 | true =>
  obtain ⟨m, h2, _, h4, h5, h6⟩ := h.yes e
  rw [h2]
  show (m.d.number, m.r, true) = _
  have a := h4.dn; have b := h4.at_; have c := h4.e
  have d : hd.number = m.d.number := h4.nu
  cases hr : m.r
  rw [hr] at a b c h6
  simp only at a b c h6
  rw [a, b, c, d, ← h6]
 | false =>
  obtain ⟨h1, rfl, _, rfl⟩ := h.no e
  rw [h1]; rfl
end Go.Td

namespace Go.Td
open Go Go.Sl Go.Proofs Go.Jn
section
variable {P : Program} {ro : Option Nat} {n : Nat} {ds : List Deferred} {β : Base} {Q : Exit → Act → World → Prop} {f : Fm}
theorem f_merge {e : Exit} {L M : List Res} {r : Res} (hr : ∀ a, Sat L a → r a) (k : Fin n ds β Q e f (r :: M)) : Fin n ds β Q e f (L ++ M) := fun a w ha hw => k a w ha (St.merge hw hr)
theorem c_merge {c : Code} {L M : List Res} {r : Res} (hr : ∀ a, Sat L a → r a) (k : RunC P ro n ds β c Q f (r :: M)) : RunC P ro n ds β c Q f (L ++ M) := fun a w ha hw => k a w ha (St.merge hw hr)
end
theorem tk_next {α : Type} {l : List α} {k : Nat} {x : α} (h : l[k]? = some x) : l.take k ++ [x] = l.take (k + 1) := (take_succ h).symm
section
variable {P : Program} {ν : Type} {K : MapK P Int ν}
theorem put_take {ks : List (Int × ν)} (hn : (ks.map (·.1)).Nodup) {k : Nat} {p : Int × ν} {v : ν} (h : ks[k]? = some p) (hv : v = p.2) : K.put (ks.take k) p.1 v = ks.take (k + 1) := by
 subst hv
 have hnone : K.look (ks.take k) p.1 = none := by
  rw [look_none]
  intro hm
  have h1 : (ks.take k ++ [p]).map (·.1) = (ks.map (·.1)).take (k + 1) := by rw [tk_next h, List.map_take]
  have h2 : ((ks.take k ++ [p]).map (·.1)).Nodup := by rw [h1]; exact hn.sublist (List.take_sublist _ _)
  rw [List.map_append, List.nodup_append] at h2
  exact h2.2.2 _ hm _ (by simp) rfl
 rw [put_new hnone, ← tk_next h]
end
theorem nodup_few : ∀ (n : Nat) (l : List Int), l.Nodup → (∀ x ∈ l, 1 ≤ x ∧ x ≤ (n : Int)) → l.length ≤ n
 | 0, l, _, h => by
  cases l with
  | nil => exact Nat.le_refl _
  | cons x l => have := h x (by simp); omega
 | n + 1, l, hd, h => by
  by_cases hm : ((n + 1 : Nat) : Int) ∈ l
  ·have hp := List.perm_cons_erase hm
   have hd2 := hp.nodup_iff.1 hd
   rw [List.nodup_cons] at hd2
   have := nodup_few n (l.erase ((n + 1 : Nat) : Int)) hd2.2 fun x hx => by
    have h1 := h x (List.mem_of_mem_erase hx)
    have h2 : x ≠ ((n + 1 : Nat) : Int) := fun e => hd2.1 (e ▸ hx)
    omega
   rw [hp.length_eq, List.length_cons]; omega
  ·have := nodup_few n l hd fun x hx => by
    have h1 := h x hx
    have h2 : x ≠ ((n + 1 : Nat) : Int) := fun e => hm (e ▸ hx)
    omega
   omega
/-! what fits -/
theorem win_fits {a : KAm} (h : a.within = true) : Fits a.a0 31 ∧ Fits a.a1 31 ∧ Fits a.a2 31 ∧ Fits a.a3 31 := by
 have := win_iff.1 h
 exact ⟨fits_of (by decide) (by omega) (by omega), fits_of (by decide) (by omega) (by omega), fits_of (by decide) (by omega) (by omega), fits_of (by decide) (by omega) (by omega)⟩
theorem own_iff {n : Int} : ownB n = true ↔ 1 ≤ n ∧ n ≤ 65536 := by unfold ownB; simp
structure ActFit (x : KAct) : Prop where
 k : Fits ((x.kind.toNat : Nat) : Int) 3
 o : Fits x.owner 17
 p : Fits x.other 17
 h : Fits x.hold 64
 a : Fits x.a.a0 31 ∧ Fits x.a.a1 31 ∧ Fits x.a.a2 31 ∧ Fits x.a.a3 31
theorem formed_hold {x : KAct} (h : x.formed = true) : 0 ≤ x.hold := by
 unfold KAct.formed at h
 split at h
 ·simp only [Bool.and_eq_true, decide_eq_true_eq] at h; omega
 ·split at h
  ·simp only [Bool.and_eq_true, decide_eq_true_eq] at h; omega
  ·split at h
   ·simp only [Bool.and_eq_true, decide_eq_true_eq] at h; omega
   ·split at h
    ·simp only [Bool.and_eq_true, decide_eq_true_eq] at h; omega
    ·cases h
theorem formed_fit {x : KAct} (h : x.formed = true) (hh : x.hold ≤ 9223372036854775807) : ActFit x := by
 obtain ⟨h1, h2, h3, _⟩ := formed_fits h
 have h4 := formed_hold h
 have f : ∀ {v : Int} {k : Nat}, k < 64 → (k = 64 ∨ (0 ≤ v ∧ v < 2 ^ k ∧ k < 64)) → Fits v k := fun hk h => by
  rcases h with h | h
  ·omega
  ·exact fits_of h.2.2 h.1 h.2.1
 exact ⟨f (by decide) h1, f (by decide) h2, f (by decide) h3, ⟨.inl rfl, h4, hh⟩, win_fits (formed_within h)⟩
structure DealFit (au nu : Int) (al : List KAct) : Prop where
 a : Fits au 7
 n : Fits nu 41
 l : Fits ((al.length : Nat) : Int) 9
 x : ∀ x ∈ al, ActFit x
 few : al.length ≤ 16
theorem deal_fit {au nu : Int} {al : List KAct} (hf : dformed au nu al = true) (hh : hb63 al) : DealFit au nu al := by
 obtain ⟨h1, h2, h3, h4⟩ := dformed_iff.1 hf
 exact ⟨fits_of (by decide) (by omega) (by omega), fits_of (by decide) (by omega) (by omega), fits_of (by decide) (by omega) (by omega), fun x hx => formed_fit (h4 x hx) (hh x hx), h3.2⟩
/-! lists of headers and memories -/
def hdl (L : List (KMh × KMem)) : List (Int × KMh) := L.map fun z => (z.2.d.author, z.1)
def mml (L : List (KMh × KMem)) : List (Int × KMem) := L.map fun z => (z.2.d.author, z.2)
theorem hdl_keys (L : List (KMh × KMem)) : (hdl L).map (·.1) = (mml L).map (·.1) := by simp [hdl, mml]
theorem hdl_snoc {L : List (KMh × KMem)} {z : KMh × KMem} (h : ¬ z.2.d.author ∈ (mml L).map (·.1)) : MeM.put (hdl L) z.2.d.author z.1 = hdl (L ++ [z]) := by
 rw [put_new (look_none.2 (by rw [hdl_keys]; exact h))]
 unfold hdl; rw [List.map_append]; rfl
theorem mml_snoc (L : List (KMh × KMem)) (z : KMh × KMem) : mml (L ++ [z]) = mml L ++ [(z.2.d.author, z.2)] := by unfold mml; rw [List.map_append]; rfl
theorem mm_of {X : KHs} {ms : List (Int × KMem)} {L : List (KMh × KMem)} (h : MsOf X ms) (he : mml L = ms) (hh : ∀ z ∈ L, HdOf z) : MmOk X (hdl L) L where
 none_ := fun a ha => by
  cases e : X.done a with
  | none => rfl
  | some m =>
   exfalso
   have := (h.mem a m).1 e
   rw [look_none, hdl_keys, he] at ha
   exact ha (List.mem_map.2 ⟨_, this, rfl⟩)
 some_ := fun a hd ha => by
  have hm := look_mem ha
  unfold hdl at hm
  obtain ⟨z, hz, e⟩ := List.mem_map.1 hm
  injection e with e1 e2
  subst e2
  refine ⟨z.2, hz, (h.mem a z.2).2 ?_⟩
  rw [← he]
  exact List.mem_map.2 ⟨z, hz, by rw [e1]⟩
 hdr := hh
/-- what fits of a state -/
structure StFit (X : KHs) (ps : List (Int × KAm)) (hs : List (Int × KHo)) (ms : List (Int × KMem)) : Prop where
 su : Fits X.s.su.a0 63 ∧ Fits X.s.su.a1 63 ∧ Fits X.s.su.a2 63 ∧ Fits X.s.su.a3 63
 la : Fits X.s.last 48
 pl : Fits ((ps.length : Nat) : Int) 9
 pp : ∀ p ∈ ps, Fits p.1 17 ∧ Fits p.2.a0 31 ∧ Fits p.2.a1 31 ∧ Fits p.2.a2 31 ∧ Fits p.2.a3 31
 pd : (ps.map (·.1)).Nodup
 pn : ps.length ≤ 256
 hl : Fits ((hs.length : Nat) : Int) 9
 hh : ∀ p ∈ hs, Fits p.1 48 ∧ Fits p.2.owner 17 ∧ (Fits p.2.a.a0 31 ∧ Fits p.2.a.a1 31 ∧ Fits p.2.a.a2 31 ∧ Fits p.2.a.a3 31) ∧ p.2.number = p.1
 hd : (hs.map (·.1)).Nodup
 hn : hs.length ≤ 128
 ml : Fits ((ms.length : Nat) : Int) 9
 mn : ms.length ≤ 64
 mm : ∀ p ∈ ms, MemOk p.1 p.2 X.s.last
 md : (ms.map (·.1)).Nodup
theorem st_fit {X : KHs} {ps : List (Int × KAm)} {hs : List (Int × KHo)} {ms : List (Int × KMem)} (hx : XOk X) (hl : X.s.last ≤ 16000000) (hp : X.s.ps.Perm ps) (hh : X.s.hs.Perm hs) (hm : MsOf X ms) : StFit X ps hs ms := by
 have hg := hx.g
 have hsu := hg.sup
 have pn : ps.length ≤ 256 := by rw [← hp.length_eq]; exact hg.p.pn
 have hn : hs.length ≤ 128 := by rw [← hh.length_eq]; exact hg.h.hn
 have hmm : ∀ p ∈ ms, MemOk p.1 p.2 X.s.last := fun p hp => hx.m _ _ ((hm.mem p.1 p.2).2 hp)
 have mn : ms.length ≤ 64 := by
  have := nodup_few 64 (ms.map (·.1)) hm.nd fun a ha => by
   obtain ⟨p, hp, rfl⟩ := List.mem_map.1 ha
   exact (dformed_iff.1 (hmm p hp).fm).1
  rwa [List.length_map] at this
 have l0 := hg.l0
 refine ⟨⟨fits_of (by decide) (by omega) (by omega), fits_of (by decide) (by omega) (by omega), fits_of (by decide) (by omega) (by omega), fits_of (by decide) (by omega) (by omega)⟩, fits_of (by decide) (by omega) (by omega), fits_of (by decide) (by omega) (by omega), fun p h => ?_, perm_nodup hp hg.p.np, pn, fits_of (by decide) (by omega) (by omega), fun p h => ?_, perm_nodup hh hg.h.nh, hn, fits_of (by decide) (by omega) (by omega), mn, hmm, hm.nd⟩
 ·obtain ⟨h1, h2, _⟩ := hg.p.pk p (hp.mem_iff.2 h)
  have := own_iff.1 h1
  exact ⟨fits_of (by decide) (by omega) (by omega), win_fits h2⟩
 ·obtain ⟨h0, h1, h2, h3, h4⟩ := hg.h.hk p (hh.mem_iff.2 h)
  have := own_iff.1 h3
  exact ⟨fits_of (by decide) (by omega) (by omega), fits_of (by decide) (by omega) (by omega), win_fits h4, h0⟩
structure MemFit (m : KMem) : Prop where
 d : DealFit m.d.author m.d.number m.d.acts
 l : Fits ((m.r.holds.length : Nat) : Int) 9
 h : ∀ n ∈ m.r.holds, Fits n 48
 at_ : Fits m.r.at_ 9
 e : Fits m.r.e 16
 fm : dformed m.d.author m.d.number m.d.acts = true
 dn : m.r.done = decide (m.r.e = 0)
 few : m.r.holds.length ≤ 16
theorem mem_fit {a : Int} {m : KMem} {last : Int} (h : MemOk a m last) (hl : last ≤ 16000000) : MemFit m := by
 have hf : dformed m.d.author m.d.number m.d.acts = true := by rw [h.au]; exact h.fm
 have h1 := h.r.hn; have h2 := h.r.at0; have h3 := h.r.e
 exact ⟨deal_fit hf h.hb, fits_of (by decide) (by omega) (by omega), fun n hn => by have := h.r.hk n hn; exact fits_of (by decide) (by omega) (by omega), fits_of (by decide) (by omega) (by omega), fits_of (by decide) (by omega) (by omega), hf, h.r.dn, h1⟩
/-! replays -/
theorem replay_take {X : KHs} {ds : List KDeal} {k : Nat} {d : KDeal} (h : ds[k]? = some d) : replay X (ds.take (k + 1)) = carryX (replay X (ds.take k)) d.author d.number d.acts := by rw [← tk_next h, replay_snoc]
theorem replay_ok {X : KHs} (h : XOk X) : ∀ {ds : List KDeal}, okD ds → XOk (replay X ds) ∧ X.s.last ≤ (replay X ds).s.last
 | [], _ => ⟨h, Int.le_refl _⟩
 | d :: ds, hd => by
  obtain ⟨h1, _, h3, _⟩ := carryX_ok h (hd d (by simp)).1 (hd d (by simp)).2
  obtain ⟨g1, g2⟩ := replay_ok h1 (ds := ds) fun e he => hd e (by simp [he])
  exact ⟨g1, Int.le_trans h3 g2⟩
theorem replay_mono {X : KHs} (h : XOk X) {ds : List KDeal} (hd : okD ds) (k : Nat) : (replay X (ds.take k)).s.last ≤ (replay X ds).s.last := by
 have h1 := replay_ok h (ds := ds.take k) fun e he => hd e (List.mem_of_mem_take he)
 have h2 := replay_ok h1.1 (ds := ds.drop k) fun e he => hd e (List.mem_of_mem_drop he)
 have : replay (replay X (ds.take k)) (ds.drop k) = replay X ds := by
  unfold replay; rw [← List.foldl_append, List.take_append_drop]
 rw [this] at h2
 exact h2.2
/-- a transaction is read and carried out -/
theorem carry_mm {X : KHs} {s : KSt} {ms : List (Int × KMh)} {zs : List (KMh × KMem)} (he : EqS s X.s) (hm : MmOk X ms zs) (au nu : Int) (al : List KAct) {hd : KMh} (hh : HdOf (hd, ⟨⟨au, nu, al⟩, (carryF s al).2⟩)) :
  EqS (carryF s al).1 (carryX X au nu al).s ∧ MmOk (carryX X au nu al) (MeM.put ms au hd) (zs ++ [(hd, ⟨⟨au, nu, al⟩, (carryF s al).2⟩)]) := by
 obtain ⟨h1, h2⟩ := carry_eq he al
 refine ⟨h1, ?_⟩
 rw [h2] at hh ⊢
 exact hm.add hh
end Go.Td

namespace Go.Td
open Go Go.Sl Go.Proofs Go.Jn
theorem new_key {α : Type} {ks : List (Int × α)} (hn : (ks.map (·.1)).Nodup) {k : Nat} {p : Int × α} (h : ks[k]? = some p) : ¬ p.1 ∈ (ks.take k).map (·.1) := by
 intro hm
 have h1 : (ks.take k ++ [p]).map (·.1) = (ks.map (·.1)).take (k + 1) := by rw [tk_next h, List.map_take]
 have h2 : ((ks.take k ++ [p]).map (·.1)).Nodup := by rw [h1]; exact hn.sublist (List.take_sublist _ _)
 rw [List.map_append, List.nodup_append] at h2
 exact h2.2.2 _ hm _ (by simp) rfl
theorem ho_num {x : Int × KHo} (h : x.2.number = x.1) : (⟨x.1, x.2.owner, x.2.a⟩ : KHo) = x.2 := by rw [← h]
theorem mem_eta {m : KMem} {hl : List Int} (hd : m.r.done = decide (m.r.e = 0)) (hh : hl = m.r.holds) : (⟨⟨m.d.author, m.d.number, m.d.acts⟩, ⟨decide (m.r.e = (0 : Int)), m.r.at_, m.r.e, hl⟩⟩ : KMem) = m := by
 subst hh; rw [← hd]
theorem mml_next {ms : List (Int × KMem)} {k : Nat} {x : Int × KMem} {L : List (KMh × KMem)} {H : KMh} {last : Int} (hx : ms[k]? = some x) (h : mml L = ms.take k) (hm : MemOk x.1 x.2 last) : mml (L ++ [(H, x.2)]) = ms.take (k + 1) := by
 rw [mml_snoc, h, ← tk_next hx]
 show ms.take k ++ [(x.2.d.author, x.2)] = _
 rw [hm.au]
theorem hdl_next {ms : List (Int × KMem)} {k : Nat} {x : Int × KMem} {L : List (KMh × KMem)} {H : KMh} {last : Int} (hd : (ms.map (·.1)).Nodup) (hx : ms[k]? = some x) (h : mml L = ms.take k) (hm : MemOk x.1 x.2 last) : MeM.put (hdl L) x.2.d.author H = hdl (L ++ [(H, x.2)]) := by
 have := hdl_snoc (L := L) (z := (H, x.2)) (by show ¬ x.2.d.author ∈ _; rw [h, hm.au]; exact new_key hd hx)
 exact this
theorem hd_all {L : List (KMh × KMem)} {z : KMh × KMem} (h : ∀ z ∈ L, HdOf z) (hz : HdOf z) : ∀ y ∈ L ++ [z], HdOf y := fun y hy => by
 rcases List.mem_append.1 hy with hy | hy
 ·exact h y hy
 ·rw [List.mem_singleton.1 hy]; exact hz
end Go.Td

namespace Go.Td
open Go Go.Sl Go.Proofs Go.Jn
def freshS : KSt := ⟨[], [], 0, zeroA⟩
theorem fresh_mm : MmOk freshX [] [] := ⟨fun _ _ => rfl, fun a h q => (by simp [MapK.look] at q), fun z hz => by cases hz⟩
theorem fresh_eq : EqS freshS freshX.s := freshX_ok.g.refl
theorem recs_at {recs : List Bs} {ds : List KDeal} (h : recs = ds.map recD) {k : Nat} {x : Bs} (hx : recs[k]? = some x) : ∃ d, ds[k]? = some d ∧ x = recD d := by
 rw [h, List.getElem?_map] at hx
 cases e : ds[k]? with
 | none => rw [e] at hx; cases hx
 | some d => rw [e] at hx; injection hx with hx; exact ⟨d, rfl, hx.symm⟩
theorem rec_wr (d : KDeal) : Wr (recD d) (0 + (57 + 225 * d.acts.length)) (dealK d.author d.number d.acts []) := by
 have := dealB_wr (au := d.author) (nu := d.number) (al := d.acts) wr_nil
 rwa [List.nil_append, ← List.append_nil (dealL _ _ _), dealK_eq] at this
theorem rec_len {d : KDeal} (h : dformed d.author d.number d.acts = true) : (recD d).length ≤ 65536 := Nat.le_trans (recD_len h) (by decide)
theorem MmOk.eqX {X Y : KHs} {ms : List (Int × KMh)} {zs : List (KMh × KMem)} (h : MmOk Y ms zs) (e : X.done = Y.done) : MmOk X ms zs := ⟨fun a ha => by rw [e]; exact h.none_ a ha, fun a g ha => by rw [e]; exact h.some_ a g ha, h.hdr⟩
/-- what holds of a state on the way -/
structure RsOk (X0 : KHs) (ds : List KDeal) (k : Nat) (s : KSt) (ms : List (Int × KMh)) (zs : List (KMh × KMem)) : Prop where
 e : EqS s (replay X0 (ds.take k)).s
 m : MmOk (replay X0 (ds.take k)) ms zs
theorem RsOk.zero {X0 : KHs} {ds : List KDeal} {s : KSt} {ms : List (Int × KMh)} {zs : List (KMh × KMem)} (h : EqS s X0.s) (g : MmOk X0 ms zs) : RsOk X0 ds 0 s ms zs := ⟨h, g⟩
theorem RsOk.good {X0 : KHs} {ds : List KDeal} {k : Nat} {s : KSt} {ms : List (Int × KMh)} {zs : List (KMh × KMem)} (h : RsOk X0 ds k s ms zs) (hx : XOk X0) (hd : okD ds) (hl : (replay X0 ds).s.last ≤ 16000000) : GoodS s 1152921504606846976 := by
 have h1 := replay_ok hx (ds := ds.take k) fun e he => hd e (List.mem_of_mem_take he)
 have h2 := replay_mono hx hd k
 have h3 := h.e.l
 exact (h.e.good2 h1.1.g).good (by omega) (by decide)
theorem RsOk.next {X0 : KHs} {ds : List KDeal} {k : Nat} {s : KSt} {ms : List (Int × KMh)} {zs : List (KMh × KMem)} (h : RsOk X0 ds k s ms zs) {d : KDeal} (hd : ds[k]? = some d) {H : KMh} (hh : HdOf (H, ⟨⟨d.author, d.number, d.acts⟩, (carryF s d.acts).2⟩)) :
  RsOk X0 ds (k + 1) (carryF s d.acts).1 (MeM.put ms d.author H) (zs ++ [(H, ⟨⟨d.author, d.number, d.acts⟩, (carryF s d.acts).2⟩)]) := by
 obtain ⟨h1, h2⟩ := carry_mm h.e h.m d.author d.number d.acts hh
 exact ⟨by rw [replay_take hd]; exact h1, by rw [replay_take hd]; exact h2⟩
theorem RsOk.all {X0 X : KHs} {ds : List KDeal} {k : Nat} {s : KSt} {ms : List (Int × KMh)} {zs : List (KMh × KMem)} (h : RsOk X0 ds k s ms zs) (hk : ds.length ≤ k) (hx : EqX X (replay X0 ds)) : EqS s X.s ∧ MmOk X ms zs := by
 obtain ⟨h1, h2⟩ := h
 rw [List.take_of_length_le hk] at h1 h2
 exact ⟨h1.trans hx.s.symm, h2.eqX hx.d⟩
end Go.Td

namespace Go.Td
open Go Go.Sl Go.Proofs Go.Jn
theorem cut_neg1 {k : KS} {e n : Nat} (h : k.power = -1) : (cutS k e n).power = -1 := by
 show cutP _ k.power _ = -1
 unfold cutP spendP
 rw [h]; split <;> rfl
theorem SOk.cut {X : KHs} {i : KI} {k : KS} {N W : Nat} {x : Bool} (h : SOk X i k N W x) (hp : k.power = -1) : SOk X i (cutS k i.epoch i.size) N W true := ⟨h.inv.cut (by rw [hp]; decide), h.ep, h.img, h.ok, h.last⟩
theorem SOk.pow {X : KHs} {i : KI} {k : KS} {N W : Nat} {x : Bool} (h : SOk X i k N W x) {p : Int} (h1 : -1 ≤ p) (h2 : p ≤ 1000) : SOk X i { k with power := p } N W x := ⟨h.inv.pow h1 h2, h.ep, h.img, h.ok, h.last⟩
theorem SOk.lasts {X X0 : KHs} {i : KI} {k : KS} {N W : Nat} {x : Bool} (h : SOk X i k N W x) (hN : N ≤ 1000000) {ds : List KDeal} (hi : Img i X X0 ds) : X0.s.last ≤ 16000000 ∧ (replay X0 ds).s.last ≤ 16000000 := by
 have h1 := h.last
 have h2 := hi.x.s.l
 have h3 := (replay_ok hi.x0 hi.ok).2
 constructor <;> omega
/-- a new store -/
theorem sok_fresh {p : Int} (h : -1 ≤ p ∧ p ≤ 1000) : SOk freshX ⟨0, 0, [], [], 0⟩ ⟨[], [], [], p⟩ 0 0 false :=
 ⟨(inv_empty h).any, by decide, ⟨freshX, [], .inl ⟨rfl, rfl⟩, freshX_ok, rfl, fun d hd => (by cases hd), freshX_ok.refl⟩, freshX_ok, by decide⟩
section
variable {P : Program} {ro : Option Nat} {n : Nat} {ds : List Deferred} {β : Base} {Q : Exit → Act → World → Prop} {f : Fm} {L : List Res}
theorem c_openShelf {c : Code} {S N W : Nat} {p : Int} {X : KHs} {M : List Res} (hL : L = shelfR S X N W p :: M) (K : ∀ i k, SOk X i k N W false → k.power = p → RunC P ro n ds β c Q f (storeR S k :: M)) : RunC P ro n ds β c Q f L := fun a w ha hw => by
 subst hL
 obtain ⟨i, k, h1, h2, h⟩ := St.openShelf hw
 exact K i k h1 h2 a w ha h
theorem c_closeShelf {c : Code} {S N W : Nat} {p : Int} {X : KHs} {i : KI} {k : KS} {M : List Res} (hL : L = storeR S k :: M) (h1 : SOk X i k N W false) (h2 : k.power = p) (K : RunC P ro n ds β c Q f (shelfR S X N W p :: M)) : RunC P ro n ds β c Q f L := fun a w ha hw => by
 subst hL
 exact K a w ha (St.closeShelf h1 h2 hw)
end
end Go.Td

namespace Go.Td
open Go Go.Sl Go.Proofs Go.Jn
theorem doF_new {X : KHs} {au nu : Int} {al : List KAct} (hf : dformed au nu al = true) (hn : ∀ m, X.done au = some m → m.d.number < nu) : doF X au nu al = (carryX X au nu al, (carryF X.s al).2, 0) := by
 unfold doF
 rw [if_neg (by rw [hf]; decide)]
 cases e : X.done au with
 | none => rfl
 | some m =>
  have := hn m e
  show (if m.d.number = nu then _ else if nu < m.d.number then _ else _) = _
  rw [if_neg (by omega), if_neg (by omega)]; rfl
theorem doF_again {X : KHs} {au nu : Int} {al : List KAct} {r : KRes} (hf : dformed au nu al = true) (hd : X.done au = some ⟨⟨au, nu, al⟩, r⟩) : doF X au nu al = (X, r, 0) := by
 unfold doF
 rw [if_neg (by rw [hf]; decide), hd]
 show (if nu = nu then (if al = al then (X, r, (0 : Int)) else _) else _) = _
 rw [if_pos rfl, if_pos rfl]
theorem doF_other {X : KHs} {au nu : Int} {al bl : List KAct} {r : KRes} (hf : dformed au nu al = true) (hd : X.done au = some ⟨⟨au, nu, bl⟩, r⟩) (hne : bl ≠ al) : doF X au nu al = (X, zeroRes, 331) := by
 unfold doF
 rw [if_neg (by rw [hf]; decide), hd]
 show (if nu = nu then (if bl = al then _ else (X, zeroRes, (331 : Int))) else _) = _
 rw [if_pos rfl, if_neg hne]
theorem doF_late {X : KHs} {au nu : Int} {al : List KAct} {m : KMem} (hf : dformed au nu al = true) (hd : X.done au = some m) (hlt : nu < m.d.number) : doF X au nu al = (X, zeroRes, 332) := by
 unfold doF
 rw [if_neg (by rw [hf]; decide), hd]
 show (if m.d.number = nu then _ else if nu < m.d.number then (X, zeroRes, (332 : Int)) else _) = _
 rw [if_neg (by omega), if_pos hlt]
theorem carryX_done (X : KHs) (au nu : Int) (al : List KAct) : (carryX X au nu al).done au = some ⟨⟨au, nu, al⟩, (carryF X.s al).2⟩ := if_pos rfl
theorem carryX_ne (X : KHs) {au a : Int} (nu : Int) (al : List KAct) (h : a ≠ au) : (carryX X au nu al).done a = X.done a := if_neg h
def awM : List KAct := [⟨1, 1, 0, 0, ⟨100, 0, 0, 0⟩⟩]
def awB : List KAct := [⟨3, 1, 2, 0, ⟨30, 0, 0, 0⟩⟩, ⟨4, 1, 0, 0, ⟨50, 0, 0, 0⟩⟩]
def awP : List KAct := [⟨6, 0, 2, 1, zeroA⟩, ⟨3, 1, 2, 0, ⟨100, 0, 0, 0⟩⟩]
def awF : List KAct := [⟨5, 0, 0, 1, zeroA⟩]
noncomputable def aX1 : KHs := carryX freshX 1 1 awM
noncomputable def aX2 : KHs := carryX aX1 5 1 awB
noncomputable def aX3 : KHs := carryX aX2 5 2 awP
noncomputable def aX4 : KHs := carryX aX3 5 3 awF
theorem aw_r1 : (carryF freshX.s awM).2 = ⟨true, 0, 0, []⟩ := by kernel_rfl
theorem aw_r2 : (carryF aX1.s awB).2 = ⟨true, 0, 0, [1]⟩ := by kernel_rfl
theorem aw_r3 : (carryF aX2.s awP).2 = ⟨false, 1, 330, []⟩ := by kernel_rfl
theorem aw_r4 : (carryF aX3.s awF).2 = ⟨true, 0, 0, []⟩ := by kernel_rfl
theorem aw_d1 : doF freshX 1 1 awM = (aX1, ⟨true, 0, 0, []⟩, 0) := by rw [← aw_r1]; exact doF_new (by decide) (fun m h => by cases h)
theorem aw_n2 : aX1.done 5 = none := by rw [aX1, carryX_ne _ _ _ (by decide)]; rfl
theorem aw_d2 : doF aX1 5 1 awB = (aX2, ⟨true, 0, 0, [1]⟩, 0) := by rw [← aw_r2]; exact doF_new (by decide) (fun m h => by rw [aw_n2] at h; cases h)
theorem aw_m2 : aX2.done 5 = some ⟨⟨5, 1, awB⟩, ⟨true, 0, 0, [1]⟩⟩ := by rw [← aw_r2]; exact carryX_done _ _ _ _
theorem aw_d3 : doF aX2 5 1 awB = (aX2, ⟨true, 0, 0, [1]⟩, 0) := doF_again (by decide) aw_m2
theorem aw_d4 : doF aX2 5 2 awP = (aX3, ⟨false, 1, 330, []⟩, 0) := by rw [← aw_r3]; exact doF_new (by decide) (fun m h => by rw [aw_m2] at h; injection h with h; subst h; decide)
theorem aw_m3 : aX3.done 5 = some ⟨⟨5, 2, awP⟩, ⟨false, 1, 330, []⟩⟩ := by rw [← aw_r3]; exact carryX_done _ _ _ _
theorem aw_d5 : doF aX3 5 1 awB = (aX3, zeroRes, 332) := doF_late (by decide) aw_m3 (by decide)
theorem aw_d6 : doF aX3 5 2 awB = (aX3, zeroRes, 331) := doF_other (by decide) aw_m3 (by decide)
theorem aw_d7 : doF aX3 5 3 awF = (aX4, ⟨true, 0, 0, []⟩, 0) := by rw [← aw_r4]; exact doF_new (by decide) (fun m h => by rw [aw_m3] at h; injection h with h; subst h; decide)
theorem aw_p1 : puA aX1.s.ps 1 = ⟨100, 0, 0, 0⟩ := by kernel_rfl
theorem aw_s1 : aX1.s.su = ⟨100, 0, 0, 0⟩ := by kernel_rfl
theorem aw_p2 : puA aX2.s.ps 1 = ⟨20, 0, 0, 0⟩ := by kernel_rfl
theorem aw_q2 : puA aX2.s.ps 2 = ⟨30, 0, 0, 0⟩ := by kernel_rfl
theorem aw_p4 : puA aX4.s.ps 1 = ⟨70, 0, 0, 0⟩ := by kernel_rfl
theorem sortI_nil : sortI [] = [] := sortI_eq (.refl _) List.Pairwise.nil
theorem sortI_one1 (a : Int) : sortI [a] = [a] := sortI_eq (.refl _) (List.pairwise_singleton _ _)
theorem aw_h2 : holdsX aX2 = [⟨1, 1, ⟨50, 0, 0, 0⟩⟩] := by
 have h : aX2.s.hs = [(1, ⟨1, 1, ⟨50, 0, 0, 0⟩⟩)] := by kernel_rfl
 unfold holdsX
 rw [h]
 show (sortI [1]).map _ = _
 rw [sortI_one1]; rfl
theorem aw_h3 : holdsX aX3 = [⟨1, 1, ⟨50, 0, 0, 0⟩⟩] := by
 have h : aX3.s.hs = [(1, ⟨1, 1, ⟨50, 0, 0, 0⟩⟩)] := by kernel_rfl
 unfold holdsX
 rw [h]
 show (sortI [1]).map _ = _
 rw [sortI_one1]; rfl
theorem aw_h4 : holdsX aX4 = [] := by
 have h : aX4.s.hs = [] := by kernel_rfl
 unfold holdsX
 rw [h]
 show (sortI []).map _ = _
 rw [sortI_nil]; rfl
end Go.Td

namespace Go.Td
open Go Go.Sl Go.Proofs Go.Jn
abbrev i64R (n : Int) : Prop := -9223372036854775808 ≤ n ∧ n ≤ 9223372036854775807
/-- the numbers of an act are numbers of the machine -/
structure ActI (x : KAct) : Prop where
 o : i64R x.owner
 p : i64R x.other
 h : i64R x.hold
 a0 : i64R x.a.a0
 a1 : i64R x.a.a1
 a2 : i64R x.a.a2
 a3 : i64R x.a.a3
structure TOp where
 kind : UInt8
 author : Int
 number : Int
 acts : List KAct
/-- the numbers of a step are numbers of the machine -/
structure OpI (o : TOp) : Prop where
 a : i64R o.author
 n : i64R o.number
 x : ∀ x ∈ o.acts, ActI x
def TOpR : Rp TOp := ⟨4, fun h cs o => OpI o ∧ ∃ v, cs = [Bx o.kind, Ix o.author, Ix o.number, v] ∧ Sl ActF.R h v o.acts, fun _ _ _ ⟨_, _, e, _⟩ => by rw [e]; rfl, fun _ _ h h' hs ⟨q, v, e, hv⟩ => ⟨q, v, e, Sl.mono _ v _ h h' hs hv⟩⟩
def pickN (x n : Int) : Int := if n < 1 then 0 else if Int.tmod x n < 0 then Int.tmod x n + n else Int.tmod x n
theorem pickN_bd (x : Int) {n : Int} (hn : 1 ≤ n) : 0 ≤ pickN x n ∧ pickN x n < n := by
 have h1 : Int.tmod x n < n := Int.tmod_lt_of_pos x (by omega)
 have h2 : -n < Int.tmod x n := by
  rcases Int.le_total 0 x with h | h
  ·have := Int.tmod_nonneg n h; omega
  ·have h3 : Int.tmod (-x) n < n := Int.tmod_lt_of_pos _ (by omega)
   rw [Int.neg_tmod] at h3
   omega
 unfold pickN
 rw [if_neg (by omega)]
 split <;> omega
def fitK (x : KAct) : UInt8 := 1 + x.kind % 7
def fitW (x : KAct) : Int := 1 + pickN x.owner 5
def fitM (x : KAct) : KAm := ⟨pickN x.a.a0 1001, pickN x.a.a1 1001, pickN x.a.a2 1001, pickN x.a.a3 1001⟩
def fitA (x : KAct) : KAct :=
 if ((fitK x).toNat : Int) = ((5 : UInt8).toNat : Int) then ⟨fitK x, 0, 0, 1 + pickN x.hold 12, zeroA⟩
 else if ((fitK x).toNat : Int) = ((6 : UInt8).toNat : Int) then ⟨fitK x, 0, 1 + pickN x.other 5, 1 + pickN x.hold 12, zeroA⟩
 else if ((fitK x).toNat : Int) = ((3 : UInt8).toNat : Int) then ⟨fitK x, fitW x, 1 + Int.tmod (fitW x + pickN x.other 4) 5, 0, fitM x⟩
 else ⟨fitK x, fitW x, 0, 0, fitM x⟩
def fitL (o : TOp) : List KAct := if (o.acts.take 8).map fitA = [] then [⟨1, 1, 0, 0, ⟨7, 0, 0, 0⟩⟩] else (o.acts.take 8).map fitA
def fitAu (o : TOp) : Int := 1 + pickN o.author 4
theorem fitK_nat (x : KAct) : (fitK x).toNat = 1 + x.kind.toNat % 7 := by
 unfold fitK
 rw [UInt8.toNat_add, UInt8.toNat_mod]
 show (1 + x.kind.toNat % 7) % 2 ^ 8 = _
 omega
theorem fitA_formed (x : KAct) : (fitA x).formed = true ∧ (fitA x).hold ≤ 9223372036854775807 := by
 have hk := fitK_nat x
 have h1 := pickN_bd x.owner (n := 5) (by decide)
 have h2 := pickN_bd x.other (n := 5) (by decide)
 have h3 := pickN_bd x.other (n := 4) (by decide)
 have h4 := pickN_bd x.hold (n := 12) (by decide)
 have g0 := pickN_bd x.a.a0 (n := 1001) (by decide)
 have g1 := pickN_bd x.a.a1 (n := 1001) (by decide)
 have g2 := pickN_bd x.a.a2 (n := 1001) (by decide)
 have g3 := pickN_bd x.a.a3 (n := 1001) (by decide)
 have hm : (fitM x).within = true := win_iff.2 (by unfold fitM; simp only []; omega)
 have ho : ownB (fitW x) = true := own_iff.2 (by unfold fitW; omega)
 have e5 : ((5 : UInt8).toNat : Int) = 5 := rfl
 have e6 : ((6 : UInt8).toNat : Int) = 6 := rfl
 have e3 : ((3 : UInt8).toNat : Int) = 3 := rfl
 unfold fitA
 rw [e5, e6, e3]
 split
 ·rename_i hc
  refine ⟨?_, by show 1 + _ ≤ _; omega⟩
  unfold KAct.formed KAct.plain
  simp only [hc]
  simp; omega
 ·split
  ·rename_i hc
   refine ⟨?_, by show 1 + _ ≤ _; omega⟩
   have hp : ownB (1 + pickN x.other 5) = true := own_iff.2 (by omega)
   unfold KAct.formed KAct.plain
   simp only [hc]
   simp [hp]; omega
  ·split
   ·rename_i hc
    refine ⟨?_, by show (0 : Int) ≤ _; decide⟩
    have ht : 0 ≤ Int.tmod (fitW x + pickN x.other 4) 5 ∧ Int.tmod (fitW x + pickN x.other 4) 5 < 5 := by
     have q : 0 ≤ fitW x + pickN x.other 4 := by unfold fitW; omega
     rw [Int.tmod_eq_emod_of_nonneg q]
     omega
    have hp : ownB (1 + Int.tmod (fitW x + pickN x.other 4) 5) = true := own_iff.2 (by omega)
    have hne : ¬ fitW x = 1 + Int.tmod (fitW x + pickN x.other 4) 5 := by
     have q : 0 ≤ fitW x + pickN x.other 4 := by unfold fitW; omega
     rw [Int.tmod_eq_emod_of_nonneg q]
     unfold fitW
     omega
    unfold KAct.formed KAct.plain
    simp only [hc]
    simp [hp, ho, hm, hne]
   ·rename_i n5 n6 n3
    refine ⟨?_, by show (0 : Int) ≤ _; decide⟩
    have : ((fitK x).toNat : Int) = 1 ∨ ((fitK x).toNat : Int) = 2 ∨ ((fitK x).toNat : Int) = 4 ∨ ((fitK x).toNat : Int) = 7 := by omega
    unfold KAct.formed KAct.plain
    rcases this with hc | hc | hc | hc <;> (simp only [hc]; simp [ho, hm])
theorem fitL_len (o : TOp) : 1 ≤ (fitL o).length ∧ (fitL o).length ≤ 8 := by
 unfold fitL
 split
 ·exact ⟨Nat.le_refl _, by simp⟩
 ·rename_i h
  refine ⟨?_, by simp; omega⟩
  cases e : (o.acts.take 8).map fitA with
  | nil => exact absurd e h
  | cons x l => simp
theorem fitL_all (o : TOp) : ∀ x ∈ fitL o, x.formed = true ∧ x.hold ≤ 9223372036854775807 := by
 intro x hx
 unfold fitL at hx
 split at hx
 ·rw [List.mem_singleton.1 hx]; exact ⟨by decide, by decide⟩
 ·obtain ⟨y, _, rfl⟩ := List.mem_map.1 hx
  exact fitA_formed y
theorem fitAu_bd (o : TOp) : 1 ≤ fitAu o ∧ fitAu o ≤ 4 := by
 have := pickN_bd o.author (n := 4) (by decide)
 unfold fitAu; omega
theorem fit_formed (o : TOp) {n : Int} (h1 : 1 ≤ n) (h2 : n ≤ 1099511627776) : dformed (fitAu o) n (fitL o) = true := by
 have ha := fitAu_bd o; have hl := fitL_len o
 exact dformed_iff.2 ⟨by omega, ⟨h1, h2⟩, by omega, fun x hx => (fitL_all o x hx).1⟩
theorem fit_hb (o : TOp) : hb63 (fitL o) := fun x hx => (fitL_all o x hx).2
end Go.Td
namespace Go.Sl
theorem bx_add (x y : UInt8) : IntKind.u8.wrap ((x.toNat : Int) + (y.toNat : Int)) = ((x + y).toNat : Int) := by
 rw [u8w, UInt8.toNat_add]; omega
theorem bx_rem (x : UInt8) (k : UInt8) : ((x.toNat : Int)).tmod (k.toNat : Int) = ((x % k).toNat : Int) := by
 rw [nat_tmod, UInt8.toNat_mod]
end Go.Sl
namespace Go.Td
theorem take_min {α : Type} {xs : List α} {n : Nat} : xs.take (min xs.length n) = xs.take n := by
 rcases Nat.le_total xs.length n with h | h
 ·rw [Nat.min_eq_left h, List.take_length, List.take_of_length_le h]
 ·rw [Nat.min_eq_right h]
theorem tmod_bd (x : Int) {n : Int} (hn : 0 < n) : -n < Int.tmod x n ∧ Int.tmod x n < n := by
 refine ⟨?_, Int.tmod_lt_of_pos x hn⟩
 rcases Int.le_total 0 x with h | h
 ·have := Int.tmod_nonneg n h; omega
 ·have h3 : Int.tmod (-x) n < n := Int.tmod_lt_of_pos _ hn
  rw [Int.neg_tmod] at h3
  omega
end Go.Td

namespace Go.Td
open Go Go.Sl Go.Proofs Go.Jn
theorem houseR_le {H S N W M V : Nat} {X : KHs} {p : Int} (hN : N ≤ M) (hW : W ≤ V) (a : PHeap) (h : houseR H S X N W p a) : houseR H S X M V p a := by
 obtain ⟨J, mp, mh, mm, s, ms, zs, i, k, h1, h2, h3⟩ := h
 exact ⟨J, mp, mh, mm, s, ms, zs, i, k, h1.mono hN hW, h2, h3⟩
theorem shelfR_le {S N W M V : Nat} {X : KHs} {p : Int} (hN : N ≤ M) (hW : W ≤ V) (a : PHeap) (h : shelfR S X N W p a) : shelfR S X M V p a := by
 obtain ⟨i, k, h1, h2, h3⟩ := h
 exact ⟨i, k, h1.mono hN hW, h2, h3⟩
section
variable {P : Program} {ro : Option Nat} {n : Nat} {ds : List Deferred} {β : Base} {Q : Exit → Act → World → Prop} {f : Fm} {L : List Res}
end
/-- all numbers are below the next one -/
def NumOk (X : KHs) (n : Int) : Prop := ∀ a m, X.done a = some m → 1 ≤ m.d.number ∧ m.d.number < n
theorem NumOk.fresh (n : Int) : NumOk freshX n := fun a m h => by cases h
theorem NumOk.next {X : KHs} {n n' : Int} (h : NumOk X n) (h1 : 1 ≤ n) (h2 : n < n') (au : Int) (al : List KAct) : NumOk (carryX X au n al) n' := fun a m hm => by
 by_cases e : a = au
 ·subst e
  rw [carryX_done] at hm
  injection hm with hm; subst hm
  exact ⟨h1, h2⟩
 ·rw [carryX_ne _ _ _ e] at hm
  have := h a m hm
  omega
/-- what a round of TradeNumbers knows -/
structure RndOk (X X1 : KHs) (au nu : Int) (al : List KAct) (R : KRes) : Prop where
 d1 : doF X au nu al = (X1, R, 0)
 m1 : X1.done au = some ⟨⟨au, nu, al⟩, R⟩
 d2 : doF X1 au nu al = (X1, R, 0)
 la : lastX X1 au = (nu, R, true)
end Go.Td

namespace Go.Td
open Go Go.Sl Go.Proofs Go.Jn
def houseE (H S : Nat) (X : KHs) (N : Nat) (p : Int) (e z : Nat) : Res := fun h => ∃ J mp mh mm s ms zs i k, HOk X s ms zs i k N (e * 218000 + z) ∧ k.power = p ∧ i.epoch = e ∧ i.size = z ∧ Sat (hL H S J mp mh mm s ms zs i k false false) h
theorem St.openE {β : Base} {H S N e z : Nat} {p : Int} {X : KHs} {M : List Res} {w : World} (h : St β (houseE H S X N p e z :: M) w) : ∃ J mp mh mm s ms zs i k, HOk X s ms zs i k N (e * 218000 + z) ∧ k.power = p ∧ i.epoch = e ∧ i.size = z ∧ St β (hL H S J mp mh mm s ms zs i k false false ++ M) w := by
 obtain ⟨ho, ht, hp, a, hd, hs, hs', q, r, h1, h2, h3, ⟨J, mp, mh, mm, s, ms, zs, i, k, hk, hw, h4, h5, hx⟩, h6⟩ := h
 exact ⟨J, mp, mh, mm, s, ms, zs, i, k, hk, hw, h4, h5, St.unbun ⟨ho, ht, hp, a, hd, hs, hs', q, r, h1, h2, h3, hx, h6⟩⟩
theorem St.closeE {β : Base} {H S N J mp mh mm : Nat} {X : KHs} {s : KSt} {ms : List (Int × KMh)} {zs : List (KMh × KMem)} {i : KI} {k : KS} {M : List Res} {w : World} (hk : HOk X s ms zs i k N (i.epoch * 218000 + i.size)) {p : Int} (hp : k.power = p) (h : St β (hL H S J mp mh mm s ms zs i k false false ++ M) w) : St β (houseE H S X N p i.epoch i.size :: M) w :=
 h.merge fun _ h => ⟨J, mp, mh, mm, s, ms, zs, i, k, hk, hp, rfl, rfl, h⟩
/-- what is known of a house, with its own potential -/
theorem SOk.self {X : KHs} {i : KI} {k : KS} {N W : Nat} {x : Bool} (h : SOk X i k N W x) : SOk X i k N (i.epoch * 218000 + i.size) x := ⟨h.inv, Nat.le_refl _, h.img, h.ok, h.last⟩
theorem HOk.self {X : KHs} {s : KSt} {ms : List (Int × KMh)} {zs : List (KMh × KMem)} {i : KI} {k : KS} {N W : Nat} (h : HOk X s ms zs i k N W) : HOk X s ms zs i k N (i.epoch * 218000 + i.size) := ⟨h.eq, h.so.self, h.mm⟩
theorem St.toE {β : Base} {H S N W : Nat} {p : Int} {X : KHs} {M : List Res} {w : World} (h : St β (houseR H S X N W p :: M) w) : ∃ e z, e * 218000 + z ≤ W ∧ St β (houseE H S X N p e z :: M) w := by
 obtain ⟨J, mp, mh, mm, s, ms, zs, i, k, h1, h2, h3⟩ := St.openHouse h
 exact ⟨i.epoch, i.size, h1.so.ep, St.closeE h1.self h2 h3⟩
theorem St.ofE {β : Base} {H S N e z W : Nat} {p : Int} {X : KHs} {M : List Res} {w : World} (hW : e * 218000 + z ≤ W) (h : St β (houseE H S X N p e z :: M) w) : St β (houseR H S X N W p :: M) w := by
 obtain ⟨J, mp, mh, mm, s, ms, zs, i, k, h1, h2, _, _, h3⟩ := St.openE h
 exact St.closeHouse (h1.mono (Nat.le_refl _) hW) h2 h3
/-- the same, and there is room as long as few things were written -/
theorem St.toE2 {β : Base} {H S N W : Nat} {p : Int} {X : KHs} {M : List Res} {w : World} (h : St β (houseR H S X N W p :: M) w) : ∃ e z, e * 218000 + z ≤ W ∧ (N ≤ 400 → z + 494 ≤ 262144) ∧ St β (houseE H S X N p e z :: M) w := by
 obtain ⟨J, mp, mh, mm, s, ms, zs, i, k, h1, h2, h3⟩ := St.openHouse h
 exact ⟨i.epoch, i.size, h1.so.ep, fun hN => by have := h1.so.small hN (bs := List.replicate 470 0) (Nat.le_of_eq List.length_replicate); rw [List.length_replicate] at this; omega, St.closeE h1.self h2 h3⟩
section
variable {P : Program} {ro : Option Nat} {n : Nat} {ds : List Deferred} {β : Base} {Q : Exit → Act → World → Prop} {f : Fm} {L : List Res}
end
theorem ck_neg1 {k : KS} {e n : Nat} {bs : Bs} (h : k.power = -1) : ckOk k e n bs ∧ (ckS k e n bs).power = -1 := by
 have h1 : ckOk1 k e := .inr (by rw [h]; decide)
 have p1 : (ck1 k e).power = -1 := by
  show cutP _ k.power _ = -1
  unfold cutP spendP; rw [h]; split <;> rfl
 have h2 : ckOk2 k e n bs := by unfold ckOk2 wrOk Jn.pw; rw [p1]; rfl
 have p2 : (ck2 k e n bs).power = -1 := by show pl (ck1 k e).power _ = -1; unfold pl; rw [p1]; rfl
 have p3 : (ck3 k e n bs).power = -1 := by unfold ck3; simp only; split <;> exact p2
 have h3 : ckOk3 k e n bs := by unfold ckOk3 wrOk Jn.pw; rw [p3]; rfl
 refine ⟨⟨h1, h2, h3⟩, ?_⟩
 unfold ckS
 rw [if_pos h1, if_pos h2]
 show pl (ck3 k e n bs).power _ = -1
 unfold pl; rw [p3]; rfl
theorem ckI_size {i : KI} {bs : Bs} (h : bs.length ≤ 43300) : (ckI i bs).size ≤ 43324 := by show 24 + bs.length ≤ _; omega
/-- a checkpoint is written -/
theorem HOk.ck {X : KHs} {s : KSt} {ms : List (Int × KMh)} {zs : List (KMh × KMem)} {i : KI} {k : KS} {N W : Nat} (h : HOk X s ms zs i k N W) (hN : N ≤ 1000000) (hW : W ≤ 54000000) {bs : Bs} (hb : bs.length ≤ 43300) (hs : StB X bs) (h0 : bs ≠ []) (hc : ckOk k (i.epoch + 1) i.next bs) :
  HOk X s ms zs (ckI i bs) (ckS k (i.epoch + 1) i.next bs) (N + 1) ((ckI i bs).epoch * 218000 + (ckI i bs).size) := ⟨h.eq, (h.so.ck hN hW hb hs h0 hc).self, h.mm⟩
theorem SOk.epoch {X : KHs} {i : KI} {k : KS} {N W : Nat} {x : Bool} (h : SOk X i k N W x) (hW : W ≤ 54000000) : i.epoch < 4611686018427387903 := by
 have := h.ep
 have h2 : i.epoch * 218000 ≤ 54000000 := Nat.le_trans (Nat.le_add_right _ _) (Nat.le_trans this hW)
 have h3 : i.epoch * 1 ≤ i.epoch * 218000 := Nat.mul_le_mul_left _ (by decide)
 rw [Nat.mul_one] at h3
 exact Nat.lt_of_le_of_lt (Nat.le_trans h3 h2) (by decide)
theorem SOk.fit {X : KHs} {i : KI} {k : KS} {N W : Nat} {x : Bool} (h : SOk X i k N W x) (hN : N ≤ 1000000) : k.fits 524288 := h.inv.fits hN
theorem SOk.last16 {X : KHs} {i : KI} {k : KS} {N W : Nat} {x : Bool} (h : SOk X i k N W x) (hN : N ≤ 1000000) : X.s.last ≤ 16000000 := by have := h.last; omega
end Go.Td
namespace Go.Td
open Go Go.Sl Go.Proofs Go.Jn
/-! bytes that hold given bits: there are some, and no others -/
def packB : List Bool → List UInt8 → Nat → List UInt8
 | [], xs, _ => xs
 | b :: l, xs, n => packB l (pushW xs n (bitB (if b then 1 else 0) 0 n)) (n + 1)
theorem pack_wr : ∀ (l : List Bool) {xs : List UInt8} {n : Nat} {m : List Bool}, Wr xs n m → Wr (packB l xs n) (n + l.length) (m ++ l)
 | [], _, _, _, h => by rw [List.append_nil]; exact h
 | b :: l, xs, n, m, h => by
  have h1 := push_wr (v := if b then 1 else 0) (j := 0) h (by decide)
  have e : (if b then (1 : UInt64) else 0).toNat.testBit 0 = b := by cases b <;> rfl
  rw [e] at h1
  have := pack_wr l h1
  rw [List.length_cons, show n + (l.length + 1) = n + 1 + l.length by omega, show m ++ b :: l = m ++ [b] ++ l by simp]
  exact this
theorem wr_unique {xs ys : List UInt8} {n : Nat} {l : List Bool} (h : Wr xs n l) (g : Wr ys n l) : xs = ys := by
 have hl : xs.length = ys.length := h.len.trans g.len.symm
 refine List.ext_getElem hl fun k h1 h2 => UInt8.toNat_inj.1 (Nat.eq_of_testBit_eq fun i => ?_)
 by_cases hi : i < 8
 ·have e := (h.bit (8 * k + (7 - i))).trans (g.bit (8 * k + (7 - i))).symm
  unfold bitAt at e
  rw [show (8 * k + (7 - i)) / 8 = k by omega, show 7 - (8 * k + (7 - i)) % 8 = i by omega, List.getD_eq_getElem?_getD, List.getD_eq_getElem?_getD, List.getElem?_eq_getElem h1, List.getElem?_eq_getElem h2] at e
  exact e
 ·have z : ∀ x : UInt8, x.toNat.testBit i = false := fun x => Nat.testBit_lt_two_pow (Nat.lt_of_lt_of_le x.toNat_lt (Nat.pow_le_pow_right (by decide) (by omega)))
  rw [z, z]
end Go.Td
namespace Go.Td
open Go Go.Sl Go.Proofs Go.Jn
section
variable {P : Program} {ro : Option Nat} {n : Nat} {ds : List Deferred} {β : Base} {Q : Exit → Act → World → Prop} {f : Fm} {L : List Res}
theorem c_closeHouse {c : Code} {H S N W J mp mh mm : Nat} {X : KHs} {s : KSt} {ms : List (Int × KMh)} {zs : List (KMh × KMem)} {i : KI} {k : KS} {M : List Res} (hL' : L = hL H S J mp mh mm s ms zs i k false false ++ M) (hk : HOk X s ms zs i k N W) {p : Int} (hp : k.power = p) (K : RunC P ro n ds β c Q f (houseR H S X N W p :: M)) : RunC P ro n ds β c Q f L := fun a w ha hw => by
 subst hL'
 exact K a w ha (St.closeHouse hk hp hw)
end
end Go.Td
