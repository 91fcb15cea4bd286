/-
 Steps of a script, and the transactions that are made of them. Own work; plain Lean.
-/
import Derived.Test.YtjejfkajcbdgjaaGreatTdOp
namespace Go.Td
open Go Go.Sl Go.Proofs Go.Jn
abbrev i64R (n : Int) : Prop := -9223372036854775808 ≤ n ∧ n ≤ 9223372036854775807
/-- the numbers of an act are numbers of the machine -/
structure ActI (x : KAct) : Prop where
 o : i64R x.owner
 p : i64R x.other
 h : i64R x.hold
 a0 : i64R x.a.a0
 a1 : i64R x.a.a1
 a2 : i64R x.a.a2
 a3 : i64R x.a.a3
structure TOp where
 kind : UInt8
 author : Int
 number : Int
 acts : List KAct
/-- the numbers of a step are numbers of the machine -/
structure OpI (o : TOp) : Prop where
 a : i64R o.author
 n : i64R o.number
 x : ∀ x ∈ o.acts, ActI x
def TOpR : Rp TOp := ⟨4, fun h cs o => OpI o ∧ ∃ v, cs = [Bx o.kind, Ix o.author, Ix o.number, v] ∧ Sl ActF.R h v o.acts, fun _ _ _ ⟨_, _, e, _⟩ => by rw [e]; rfl, fun _ _ h h' hs ⟨q, v, e, hv⟩ => ⟨q, v, e, Sl.mono _ v _ h h' hs hv⟩⟩
def pickN (x n : Int) : Int := if n < 1 then 0 else if Int.tmod x n < 0 then Int.tmod x n + n else Int.tmod x n
theorem pickN_bd (x : Int) {n : Int} (hn : 1 ≤ n) : 0 ≤ pickN x n ∧ pickN x n < n := by
 have h1 : Int.tmod x n < n := Int.tmod_lt_of_pos x (by omega)
 have h2 : -n < Int.tmod x n := by
  rcases Int.le_total 0 x with h | h
  ·have := Int.tmod_nonneg n h; omega
  ·have h3 : Int.tmod (-x) n < n := Int.tmod_lt_of_pos _ (by omega)
   rw [Int.neg_tmod] at h3
   omega
 unfold pickN
 rw [if_neg (by omega)]
 split <;> omega
def fitK (x : KAct) : UInt8 := 1 + x.kind % 7
def fitW (x : KAct) : Int := 1 + pickN x.owner 5
def fitM (x : KAct) : KAm := ⟨pickN x.a.a0 1001, pickN x.a.a1 1001, pickN x.a.a2 1001, pickN x.a.a3 1001⟩
def fitA (x : KAct) : KAct :=
 if ((fitK x).toNat : Int) = ((5 : UInt8).toNat : Int) then ⟨fitK x, 0, 0, 1 + pickN x.hold 12, zeroA⟩
 else if ((fitK x).toNat : Int) = ((6 : UInt8).toNat : Int) then ⟨fitK x, 0, 1 + pickN x.other 5, 1 + pickN x.hold 12, zeroA⟩
 else if ((fitK x).toNat : Int) = ((3 : UInt8).toNat : Int) then ⟨fitK x, fitW x, 1 + Int.tmod (fitW x + pickN x.other 4) 5, 0, fitM x⟩
 else ⟨fitK x, fitW x, 0, 0, fitM x⟩
def fitL (o : TOp) : List KAct := if (o.acts.take 8).map fitA = [] then [⟨1, 1, 0, 0, ⟨7, 0, 0, 0⟩⟩] else (o.acts.take 8).map fitA
def fitAu (o : TOp) : Int := 1 + pickN o.author 4
theorem fitK_nat (x : KAct) : (fitK x).toNat = 1 + x.kind.toNat % 7 := by
 unfold fitK
 rw [UInt8.toNat_add, UInt8.toNat_mod]
 show (1 + x.kind.toNat % 7) % 2 ^ 8 = _
 omega
theorem fitA_formed (x : KAct) : (fitA x).formed = true ∧ (fitA x).hold ≤ 9223372036854775807 := by
 have hk := fitK_nat x
 have h1 := pickN_bd x.owner (n := 5) (by decide)
 have h2 := pickN_bd x.other (n := 5) (by decide)
 have h3 := pickN_bd x.other (n := 4) (by decide)
 have h4 := pickN_bd x.hold (n := 12) (by decide)
 have g0 := pickN_bd x.a.a0 (n := 1001) (by decide)
 have g1 := pickN_bd x.a.a1 (n := 1001) (by decide)
 have g2 := pickN_bd x.a.a2 (n := 1001) (by decide)
 have g3 := pickN_bd x.a.a3 (n := 1001) (by decide)
 have hm : (fitM x).within = true := win_iff.2 (by unfold fitM; simp only []; omega)
 have ho : ownB (fitW x) = true := own_iff.2 (by unfold fitW; omega)
 have e5 : ((5 : UInt8).toNat : Int) = 5 := rfl
 have e6 : ((6 : UInt8).toNat : Int) = 6 := rfl
 have e3 : ((3 : UInt8).toNat : Int) = 3 := rfl
 unfold fitA
 rw [e5, e6, e3]
 split
 ·rename_i hc
  refine ⟨?_, by show 1 + _ ≤ _; omega⟩
  unfold KAct.formed KAct.plain
  simp only [hc]
  simp; omega
 ·split
  ·rename_i hc
   refine ⟨?_, by show 1 + _ ≤ _; omega⟩
   have hp : ownB (1 + pickN x.other 5) = true := own_iff.2 (by omega)
   unfold KAct.formed KAct.plain
   simp only [hc]
   simp [hp]; omega
  ·split
   ·rename_i hc
    refine ⟨?_, by show (0 : Int) ≤ _; decide⟩
    have ht : 0 ≤ Int.tmod (fitW x + pickN x.other 4) 5 ∧ Int.tmod (fitW x + pickN x.other 4) 5 < 5 := by
     have q : 0 ≤ fitW x + pickN x.other 4 := by unfold fitW; omega
     rw [Int.tmod_eq_emod_of_nonneg q]
     omega
    have hp : ownB (1 + Int.tmod (fitW x + pickN x.other 4) 5) = true := own_iff.2 (by omega)
    have hne : ¬ fitW x = 1 + Int.tmod (fitW x + pickN x.other 4) 5 := by
     have q : 0 ≤ fitW x + pickN x.other 4 := by unfold fitW; omega
     rw [Int.tmod_eq_emod_of_nonneg q]
     unfold fitW
     omega
    unfold KAct.formed KAct.plain
    simp only [hc]
    simp [hp, ho, hm, hne]
   ·rename_i n5 n6 n3
    refine ⟨?_, by show (0 : Int) ≤ _; decide⟩
    have : ((fitK x).toNat : Int) = 1 ∨ ((fitK x).toNat : Int) = 2 ∨ ((fitK x).toNat : Int) = 4 ∨ ((fitK x).toNat : Int) = 7 := by omega
    unfold KAct.formed KAct.plain
    rcases this with hc | hc | hc | hc <;> (simp only [hc]; simp [ho, hm])
theorem fitL_len (o : TOp) : 1 ≤ (fitL o).length ∧ (fitL o).length ≤ 8 := by
 unfold fitL
 split
 ·exact ⟨Nat.le_refl _, by simp⟩
 ·rename_i h
  refine ⟨?_, by simp; omega⟩
  cases e : (o.acts.take 8).map fitA with
  | nil => exact absurd e h
  | cons x l => simp
theorem fitL_all (o : TOp) : ∀ x ∈ fitL o, x.formed = true ∧ x.hold ≤ 9223372036854775807 := by
 intro x hx
 unfold fitL at hx
 split at hx
 ·rw [List.mem_singleton.1 hx]; exact ⟨by decide, by decide⟩
 ·obtain ⟨y, _, rfl⟩ := List.mem_map.1 hx
  exact fitA_formed y
theorem fitAu_bd (o : TOp) : 1 ≤ fitAu o ∧ fitAu o ≤ 4 := by
 have := pickN_bd o.author (n := 4) (by decide)
 unfold fitAu; omega
theorem fit_formed (o : TOp) {n : Int} (h1 : 1 ≤ n) (h2 : n ≤ 1099511627776) : dformed (fitAu o) n (fitL o) = true := by
 have ha := fitAu_bd o; have hl := fitL_len o
 exact dformed_iff.2 ⟨by omega, ⟨h1, h2⟩, by omega, fun x hx => (fitL_all o x hx).1⟩
theorem fit_hb (o : TOp) : hb63 (fitL o) := fun x hx => (fitL_all o x hx).2
end Go.Td
namespace Go.Sl
theorem bx_add (x y : UInt8) : IntKind.u8.wrap ((x.toNat : Int) + (y.toNat : Int)) = ((x + y).toNat : Int) := by
 rw [u8w, UInt8.toNat_add]; omega
theorem bx_rem (x : UInt8) (k : UInt8) : ((x.toNat : Int)).tmod (k.toNat : Int) = ((x % k).toNat : Int) := by
 rw [nat_tmod, UInt8.toNat_mod]
end Go.Sl
namespace Go.Td
theorem take_min {α : Type} {xs : List α} {n : Nat} : xs.take (min xs.length n) = xs.take n := by
 rcases Nat.le_total xs.length n with h | h
 ·rw [Nat.min_eq_left h, List.take_length, List.take_of_length_le h]
 ·rw [Nat.min_eq_right h]
theorem tmod_bd (x : Int) {n : Int} (hn : 0 < n) : -n < Int.tmod x n ∧ Int.tmod x n < n := by
 refine ⟨?_, Int.tmod_lt_of_pos x hn⟩
 rcases Int.le_total 0 x with h | h
 ·have := Int.tmod_nonneg n h; omega
 ·have h3 : Int.tmod (-x) n < n := Int.tmod_lt_of_pos _ hn
  rw [Int.neg_tmod] at h3
  omega
end Go.Td
