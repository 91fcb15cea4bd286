/-
 What the journal computes, in plain Lean. Own work.
-/
import Derived.Test.YtjejfkajcbdgjaaGreatSlFlat
namespace Go.Jn
open Go.Sl

def mixU (z : UInt64) : UInt64 :=
 let z := (z ^^^ z >>> 30) * 0xbf58476d1ce4e5b9
 let z := (z ^^^ z >>> 27) * 0x94d049bb133111eb
 z ^^^ z >>> 31
def chainU (d w : UInt64) : UInt64 := mixU (d * 0x9e3779b97f4a7c15 + w + 1)
def tickU (t : Int) : UInt64 := chainU 0 (U t)
def seqF (h : UInt64) (xs : List UInt64) : UInt64 := xs.foldl (fun h w => h * 0x9e3779b97f4a7c15 + w + 1) h
def seqU (xs : List UInt64) : UInt64 := mixU (seqF 0 xs)
theorem seqF_snoc (h : UInt64) (xs : List UInt64) (x : UInt64) : seqF h (xs ++ [x]) = seqF h xs * 0x9e3779b97f4a7c15 + x + 1 := by simp [seqF]
def wordsB (s : ByteArray) : List UInt64 := s.data.toList.map UInt8.toUInt64
def nameU (bs : Bs) : UInt64 := seqU (wordsB (str bs))

/-- a number of some bytes, the highest first -/
def wordF (h : UInt64) (bs : Bs) : UInt64 := bs.foldl (fun n x => (n <<< 8) ||| x.toUInt64) h
def wordU (bs : Bs) : UInt64 := wordF 0 bs
theorem wordF_snoc (h : UInt64) (bs : Bs) (x : UInt8) : wordF h (bs ++ [x]) = (wordF h bs <<< 8) ||| x.toUInt64 := by simp [wordF]
/-- k bytes of a number, the highest first -/
def be : Nat → UInt64 → Bs
 | 0, _ => []
 | k + 1, n => (n >>> UInt64.ofNat (8 * k)).toUInt8 :: be k n
theorem be_length : ∀ (k : Nat) (n : UInt64), (be k n).length = k
 | 0, _ => rfl
 | k + 1, n => by simp [be, be_length k n]

def chkU (e n : Int) (bs : Bs) : UInt64 := chainU (chainU (nameU bs) (U n)) (U e)
def formB (e n : Int) (bs : Bs) : Bs := be 4 (U (bs.length : Int)) ++ be 4 (~~~(U (bs.length : Int))) ++ be 8 (U n) ++ bs ++ be 8 (chkU e n bs)
theorem formB_length (e n : Int) (bs : Bs) : (formB e n bs).length = 24 + bs.length := by simp [formB, be_length]; omega

/-- what 'record' makes of bytes -/
def rsz (xs : Bs) : UInt64 := wordU (xs.take 4)
def rin (xs : Bs) : UInt64 := wordU ((xs.take 8).drop 4)
def rno (xs : Bs) : UInt64 := wordU ((xs.take 16).drop 8)
def rbad (xs : Bs) : Prop := ((xs.length : Nat) : Int) < (24 : Int) ∨ (((rsz xs ^^^ rin xs).toNat : Int) ≠ (4294967295 : Int)) ∨ (65536 : Int) < ((rsz xs).toNat : Int) ∨ ((xs.length : Nat) : Int) - (24 : Int) < (((rsz xs).toNat : Nat) : Int) ∨ (4611686018427387904 : Int) < ((rno xs).toNat : Int)
instance (xs : Bs) : Decidable (rbad xs) := by unfold rbad; infer_instance
def rpl (xs : Bs) : Bs := (xs.take (16 + (rsz xs).toNat)).drop 16
def rsum (xs : Bs) : UInt64 := wordU ((xs.take (24 + (rsz xs).toNat)).drop (16 + (rsz xs).toNat))
def recN (xs : Bs) : Nat := if rbad xs then 0 else (rno xs).toNat
def recP (xs : Bs) : Bs := if rbad xs then [] else rpl xs
def recB (e : Int) (xs : Bs) : Bool := if rbad xs then false else decide (rsum xs = chkU e ((rno xs).toNat : Int) (rpl xs))
def recA (a : Option Addr) (c : Nat) (xs : Bs) : Option Addr := if rbad xs then none else adv a c 16 1
def recC (c : Nat) (xs : Bs) : Nat := if rbad xs then 0 else c - 16
theorem recP_len {e : Int} {xs : Bs} (h : recB e xs = true) : 24 + (recP xs).length ≤ xs.length := by
 unfold recB recP at *
 by_cases hb : rbad xs
 ·rw [if_pos hb] at h; cases h
 ·rw [if_neg hb]
  unfold rbad at hb
  simp only [not_or, Int.not_lt] at hb
  simp [rpl]; omega
theorem recP_small {xs : Bs} : (recP xs).length ≤ 65536 := by
 unfold recP
 by_cases hb : rbad xs
 ·rw [if_pos hb]; simp
 ·rw [if_neg hb]
  unfold rbad at hb
  simp only [not_or, Int.not_lt] at hb
  simp [rpl]; omega
theorem recN_small {xs : Bs} : recN xs ≤ 4611686018427387904 := by
 unfold recN
 by_cases hb : rbad xs
 ·rw [if_pos hb]; omega
 ·rw [if_neg hb]
  unfold rbad at hb
  simp only [not_or, Int.not_lt] at hb
  omega
theorem rec_elems {h : PHeap} {a : Option Addr} {c : Nat} {xs : Bs} (hc : xs.length ≤ c) (he : Elems U8R h a xs) : Elems U8R h (recA a c xs) (recP xs) := by
 unfold recA recP
 by_cases hb : rbad xs
 ·rw [if_pos hb, if_pos hb]; intro j x hx; simp at hx
 ·rw [if_neg hb, if_neg hb]
  have hb' := hb
  unfold rbad at hb'
  simp only [not_or, Int.not_lt] at hb'
  exact Elems.drop 16 (by simp; omega) (Elems.take _ he)
theorem rec_cap {c : Nat} {xs : Bs} (hc : xs.length ≤ c) : (recP xs).length ≤ recC c xs := by
 unfold recP recC
 by_cases hb : rbad xs
 ·rw [if_pos hb, if_pos hb]; simp
 ·rw [if_neg hb, if_neg hb]
  unfold rbad at hb
  simp only [not_or, Int.not_lt] at hb
  simp [rpl]; omega
theorem rec_sl {h : PHeap} {a : Option Addr} {c : Nat} {xs : Bs} (hc : xs.length ≤ c) (hm : c ≤ 9223372036854775807) (he : Elems U8R h a xs) : Sl U8R h (.slice (recA a c xs) (recP xs).length (recC c xs)) (recP xs) :=
 ⟨_, _, rfl, rec_cap hc, by unfold recC; split <;> omega, rec_elems hc he⟩

/-- the records from the beginning of bytes on, the first being number n -/
def parse (e : Int) : Nat → Nat → Bs → List Bs
 | 0, _, _ => []
 | f + 1, n, xs => if recB e xs = true ∧ recN xs = n ∧ n ≠ 4611686018427387904 then recP xs :: parse e f (n + 1) (xs.drop (24 + (recP xs).length)) else []

structure KS where
 head : Bs
 a : Bs
 b : Bs
 power : Int
 deriving DecidableEq
structure KI where
 epoch : Nat
 next : Nat
 state : Bs
 recs : List Bs
 size : Nat
 deriving DecidableEq
def KS.area (k : KS) (e : Nat) : Bs := if e % 2 = 0 then k.a else k.b
def KS.setArea (k : KS) (e : Nat) (xs : Bs) : KS := if e % 2 = 0 then { k with a := xs } else { k with b := xs }
def KS.okP (k : KS) : Prop := (k.head.length = 0 ∨ k.head.length = 32) ∧ k.a.length ≤ 262144 ∧ k.b.length ≤ 262144 ∧ -1 ≤ k.power
instance (k : KS) : Decidable k.okP := by unfold KS.okP; infer_instance

/-- one copy of the head -/
def epStep (best : UInt64) (k : Nat) (head : Bs) : UInt64 :=
 let n := wordU ((head.take (k * 16 + 8)).drop (k * 16))
 let s := wordU ((head.take (k * 16 + 16)).drop (k * 16 + 8))
 if best < n ∧ n < 4611686018427387904 ∧ n % 2 = U (((k * 16) / 16 : Nat) : Int) ∧ s = tickU (n.toNat : Int) then n else best
def epLoop (head : Bs) : Nat → UInt64
 | 0 => 0
 | k + 1 => epStep (epLoop head k) k head
theorem epLoop_lt (head : Bs) : ∀ j, (epLoop head j).toNat < 4611686018427387904
 | 0 => by show (0 : UInt64).toNat < _; decide
 | j + 1 => by
  unfold epLoop epStep
  simp only
  split
  ·rename_i h; exact h.2.1
  ·exact epLoop_lt head j
theorem ep_yes {xs : Bs} {j : Nat} (h1 : ((epLoop xs j).toNat : Int) < ((wordU ((xs.take (j * 16 + 8)).drop (j * 16))).toNat : Int)) (h2 : ((wordU ((xs.take (j * 16 + 8)).drop (j * 16))).toNat : Int) < (4611686018427387904 : Int))
  (h3 : ((wordU ((xs.take (j * 16 + 8)).drop (j * 16)) % (2 : UInt64)).toNat : Int) = ((U ((((j * 16) / 16 : Nat) : Int))).toNat : Int)) (h4 : ((wordU ((xs.take (j * 16 + 16)).drop (j * 16 + 8))).toNat : Int) = ((tickU (((wordU ((xs.take (j * 16 + 8)).drop (j * 16))).toNat : Nat) : Int)).toNat : Int)) :
  epLoop xs (j + 1) = wordU ((xs.take (j * 16 + 8)).drop (j * 16)) := by
 have c1 : epLoop xs j < wordU ((xs.take (j * 16 + 8)).drop (j * 16)) := UInt64.lt_iff_toNat_lt.2 (by omega)
 have c2 : wordU ((xs.take (j * 16 + 8)).drop (j * 16)) < 4611686018427387904 := UInt64.lt_iff_toNat_lt.2 (by
  have h3 : (4611686018427387904 : UInt64).toNat = 4611686018427387904 := rfl
  omega)
 have c3 := UInt64.toNat_inj.1 (Int.ofNat_inj.1 h3)
 have c4 := UInt64.toNat_inj.1 (Int.ofNat_inj.1 h4)
 show epStep _ _ _ = _
 unfold epStep
 exact if_pos ⟨c1, c2, c3, c4⟩
theorem ep_no0 {xs : Bs} {j : Nat} (h1 : ¬ ((epLoop xs j).toNat : Int) < ((wordU ((xs.take (j * 16 + 8)).drop (j * 16))).toNat : Int)) : epLoop xs (j + 1) = epLoop xs j := by
 rw [epLoop, epStep, if_neg]
 intro h; have := UInt64.lt_iff_toNat_lt.1 h.1; omega
theorem ep_no1 {xs : Bs} {j : Nat} (h2 : ¬ ((wordU ((xs.take (j * 16 + 8)).drop (j * 16))).toNat : Int) < (4611686018427387904 : Int)) : epLoop xs (j + 1) = epLoop xs j := by
 rw [epLoop, epStep, if_neg]
 intro h; have h1 := UInt64.lt_iff_toNat_lt.1 h.2.1
 have h3 : (4611686018427387904 : UInt64).toNat = 4611686018427387904 := rfl
 omega
theorem ep_no2 {xs : Bs} {j : Nat} (h3 : ¬ ((wordU ((xs.take (j * 16 + 8)).drop (j * 16)) % (2 : UInt64)).toNat : Int) = ((U ((((j * 16) / 16 : Nat) : Int))).toNat : Int)) : epLoop xs (j + 1) = epLoop xs j := by
 rw [epLoop, epStep, if_neg]
 intro h; exact h3 (by rw [h.2.2.1])
theorem ep_no3 {xs : Bs} {j : Nat} (h4 : ¬ ((wordU ((xs.take (j * 16 + 16)).drop (j * 16 + 8))).toNat : Int) = ((tickU (((wordU ((xs.take (j * 16 + 8)).drop (j * 16))).toNat : Nat) : Int)).toNat : Int)) : epLoop xs (j + 1) = epLoop xs j := by
 rw [epLoop, epStep, if_neg]
 intro h; exact h4 (by rw [h.2.2.2])
def epochF (head : Bs) : Nat := (epLoop head (head.length / 16)).toNat

def sizes : List Bs → Nat
 | [] => 0
 | r :: l => 24 + r.length + sizes l
def recsF (e : Nat) (n : Nat) (xs : Bs) : List Bs := parse (e : Int) (xs.length + 1) n xs
def readI (k : KS) : Option KI :=
 let e := epochF k.head
 let ar := k.area e
 if e = 0 then some ⟨0, recsF 0 0 ar |>.length, [], recsF 0 0 ar, sizes (recsF 0 0 ar)⟩
 else if recB e ar = true then
  let sz := 24 + (recP ar).length
  let rs := recsF e (recN ar) (ar.drop sz)
  some ⟨e, recN ar + rs.length, recP ar, rs, sz + sizes rs⟩
 else none

/-- writing: what a number of bytes makes of an area -/
def wr (xs : Bs) (at_ : Nat) : Bs → Bs
 | [] => xs
 | b :: bs => wr (if at_ < xs.length then xs.set at_ b else xs ++ [b]) (at_ + 1) bs
/-- how many of m bytes the power is enough for, and what is left of it -/
def pw (p : Int) (m : Nat) : Nat := if p < 0 then m else min p.toNat m
def pl (p : Int) (m : Nat) : Int := if p < 0 then p else p - (min p.toNat m : Nat)
end Go.Jn
