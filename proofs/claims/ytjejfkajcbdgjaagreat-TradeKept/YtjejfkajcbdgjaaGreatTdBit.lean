/-
 Bits of a writer, in plain terms. Own work; plain Lean.
-/
import Derived.Test.YtjejfkajcbdgjaaGreatSlNum
import Derived.Test.YtjejfkajcbdgjaaGreatSlA
namespace Go.Sl
theorem bx_shl (x : UInt8) (s : Nat) (hs : s < 8) : IntKind.u8.wrap ((x.toNat : Int) * 2 ^ (min ((s : Int)).toNat IntKind.u8.bits)) = ((x <<< UInt8.ofNat s).toNat : Int) := by
 have e : (UInt8.ofNat s).toNat % 8 = s := by simp; omega
 have hm : min ((s : Int)).toNat IntKind.u8.bits = s := by simp [IntKind.bits]; omega
 rw [hm, u8w, UInt8.toNat_shiftLeft, e, Nat.shiftLeft_eq]
 simp
theorem bx_bv (x : UInt8) : BitVec.ofInt IntKind.u8.bits (x.toNat : Int) = x.toBitVec := by
 show BitVec.ofInt 8 (x.toNat : Int) = x.toBitVec
 apply BitVec.eq_of_toNat_eq
 have h := x.toNat_lt
 simp only [BitVec.toNat_ofInt, UInt8.toNat_toBitVec]
 omega
theorem bx_or (x y : UInt8) : IntKind.u8.wrap ((BitVec.ofInt IntKind.u8.bits (x.toNat : Int) ||| BitVec.ofInt IntKind.u8.bits (y.toNat : Int)).toNat : Int) = ((x ||| y).toNat : Int) := by
 rw [bx_bv, bx_bv, u8w]
 have h := (x ||| y).toNat_lt
 show (((x ||| y).toNat : Nat) : Int) % 256 = _
 omega
end Go.Sl
namespace Go.Td
open Go.Sl
/-- bit j of a number, where bit n of the bytes lies -/
def bitB (v : UInt64) (j n : Nat) : UInt8 := ((v >>> UInt64.ofNat j) &&& (1 : UInt64)).toUInt8 <<< UInt8.ofNat (7 - n % 8)
def growW (xs : List UInt8) (n : Nat) : List UInt8 := if n % 8 = 0 then xs ++ [0] else xs
def pushW (xs : List UInt8) (n : Nat) (b : UInt8) : List UInt8 := (growW xs n).set (n / 8) (((growW xs n).getD (n / 8) 0) ||| b)
/-- j bits of a number, behind n bits -/
def putB (v : UInt64) : Nat → List UInt8 → Nat → List UInt8
 | 0, xs, _ => xs
 | j + 1, xs, n => putB v j (pushW xs n (bitB v j n)) (n + 1)
theorem put_step {v : UInt64} {k i n : Nat} {ys zs : List UInt8} {x : UInt8} (hi : i < k) (hg : growW ys (n + i) = zs) (hx : zs[(n + i) / 8]? = some x) :
  putB v (k - i) ys (n + i) = putB v (k - (i + 1)) (zs.set ((n + i) / 8) (x ||| (((v >>> UInt64.ofNat ((k - 1) - i)) &&& (1 : UInt64)).toUInt8 <<< UInt8.ofNat (7 - ((n + i) % 8))))) (n + (i + 1)) := by
 rw [show k - i = (k - (i + 1)) + 1 by omega, show (k - 1) - i = k - (i + 1) by omega]
 show putB v _ (pushW _ _ _) _ = _
 unfold pushW
 rw [hg, List.getD_eq_getElem?_getD, hx]
 rfl
theorem grow_yes {xs : List UInt8} {n : Nat} (h : n % 8 = 0) : growW xs n = xs ++ [0] := if_pos h
theorem grow_no {xs : List UInt8} {n : Nat} (h : ¬ n % 8 = 0) : growW xs n = xs := if_neg h
theorem push_len {xs : List UInt8} {n : Nat} {b : UInt8} (h : xs.length = (n + 7) / 8) : (pushW xs n b).length = (n + 1 + 7) / 8 := by
 unfold pushW growW
 split <;> simp <;> omega
theorem putB_len {v : UInt64} : ∀ {k : Nat} {xs : List UInt8} {n : Nat}, xs.length = (n + 7) / 8 → (putB v k xs n).length = (n + k + 7) / 8
 | 0, _, _, h => h
 | k + 1, xs, n, h => by
  have := putB_len (v := v) (k := k) (push_len (b := bitB v k n) h)
  rw [show n + (k + 1) = n + 1 + k by omega]
  exact this
theorem U_fits {v : Int} {k : Nat} (hv : k = 64 ∨ (0 ≤ v ∧ v < 2 ^ k ∧ k < 64)) : k = 64 ∨ (U v).toNat < 2 ^ k := by
 refine hv.imp id fun ⟨h0, h1, hk⟩ => ?_
 have hp : (2 : Int) ^ k ≤ 2 ^ 63 := by exact_mod_cast Nat.pow_le_pow_right (by decide) (by omega : k ≤ 63)
 unfold U
 have e : (v % 18446744073709551616).toNat = v.toNat := by
  rw [Int.emod_eq_of_lt h0 (by omega)]
 rw [e, UInt64.toNat_ofNat_of_lt' (by show v.toNat < 2 ^ 64; omega)]
 have : ((v.toNat : Nat) : Int) < ((2 ^ k : Nat) : Int) := by push_cast; omega
 exact_mod_cast this
/-- amounts of k bits each -/
def amB (a : KAm) (k : Nat) (xs : List UInt8) (n : Nat) : List UInt8 := putB (U a.a3) k (putB (U a.a2) k (putB (U a.a1) k (putB (U a.a0) k xs n) (n + k)) (n + k + k)) (n + k + k + k)
theorem amB_len {a : KAm} {k : Nat} {xs : List UInt8} {n : Nat} (h : xs.length = (n + 7) / 8) : (amB a k xs n).length = (n + k + k + k + k + 7) / 8 := putB_len (putB_len (putB_len (putB_len h)))
/-- an act -/
def actB (x : KAct) (xs : List UInt8) (n : Nat) : List UInt8 := amB x.a 31 (putB (U x.hold) 64 (putB (U x.other) 17 (putB (U x.owner) 17 (putB (U ((x.kind.toNat : Nat) : Int)) 3 xs n) (n + 3)) (n + 3 + 17)) (n + 3 + 17 + 17)) (n + 3 + 17 + 17 + 64)
theorem actB_len {x : KAct} {xs : List UInt8} {n : Nat} (h : xs.length = (n + 7) / 8) : (actB x xs n).length = (n + 225 + 7) / 8 := amB_len (putB_len (putB_len (putB_len (putB_len h))))
def actsB : List KAct → List UInt8 → Nat → List UInt8
 | [], xs, _ => xs
 | x :: l, xs, n => actsB l (actB x xs n) (n + 225)
/-- a transaction -/
def dealB (au nu : Int) (acts : List KAct) (xs : List UInt8) (n : Nat) : List UInt8 := actsB acts (putB (U (acts.length : Int)) 9 (putB (U nu) 41 (putB (U au) 7 xs n) (n + 7)) (n + 7 + 41)) (n + 7 + 41 + 9)
theorem actsB_len : ∀ {l : List KAct} {xs : List UInt8} {n : Nat}, xs.length = (n + 7) / 8 → (actsB l xs n).length = (n + 225 * l.length + 7) / 8
 | [], _, _, h => h
 | x :: l, xs, n, h => by
  have := actsB_len (l := l) (actB_len (x := x) h)
  rw [List.length_cons, show n + 225 * (l.length + 1) = n + 225 + 225 * l.length by omega]
  exact this
theorem dealB_len {au nu : Int} {l : List KAct} {xs : List UInt8} {n : Nat} (h : xs.length = (n + 7) / 8) : (dealB au nu l xs n).length = (n + 57 + 225 * l.length + 7) / 8 := actsB_len (putB_len (putB_len (putB_len h)))
theorem acts_next {l : List KAct} {k : Nat} {x : KAct} {ys : List UInt8} {m : Nat} (hx : l[k]? = some x) : actsB (l.drop k) ys m = actsB (l.drop (k + 1)) (actB x ys m) (m + 225) := by
 obtain ⟨hk, rfl⟩ := List.getElem?_eq_some_iff.1 hx
 rw [List.drop_eq_getElem_cons hk]; rfl
end Go.Td
