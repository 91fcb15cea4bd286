/-
 A reader of bits as one resource. Own work; plain Lean.
-/
import Derived.Test.YtjejfkajcbdgjaaGreatTdLk
import Derived.Test.YtjejfkajcbdgjaaGreatTd5
namespace Go.Sl
theorem bx_shr (x : UInt8) (s : Nat) (hs : s < 8) : ((x.toNat : Int)).fdiv (2 ^ (min ((s : Int)).toNat IntKind.u8.bits)) = ((x >>> UInt8.ofNat s).toNat : Int) := by
 have e : (UInt8.ofNat s).toNat % 8 = s := by simp; omega
 have hm : min ((s : Int)).toNat IntKind.u8.bits = s := by simp [IntKind.bits]; omega
 rw [hm, UInt8.toNat_shiftRight, e, Nat.shiftRight_eq_div_pow, Int.fdiv_eq_ediv_of_nonneg _ (by exact_mod_cast Nat.zero_le _)]
 push_cast; rfl
theorem bx_and (x y : UInt8) : IntKind.u8.wrap ((BitVec.ofInt IntKind.u8.bits (x.toNat : Int) &&& BitVec.ofInt IntKind.u8.bits (y.toNat : Int)).toNat : Int) = ((x &&& y).toNat : Int) := by
 rw [bx_bv, bx_bv, u8w]
 have h := (x &&& y).toNat_lt
 show (((x &&& y).toNat : Nat) : Int) % 256 = _
 omega
end Go.Sl
namespace Go.Td
open Go Go.Sl Go.Proofs Go.Jn
theorem rd_step {xs : List UInt8} {n j : Nat} {x : UInt8} (h : xs[(n + j) / 8]? = some x) : (rdU xs n j <<< (1 : UInt64)) ||| (x >>> UInt8.ofNat (7 - (n + j) % 8) &&& (1 : UInt8)).toUInt64 = rdU xs n (j + 1) := by
 show _ = (rdU xs n j <<< (1 : UInt64)) ||| bit64 xs (n + j)
 unfold bit64
 rw [List.getD_eq_getElem?_getD, h]; rfl
/-- a number that fits -/
structure Fits (v : Int) (k : Nat) : Prop where
 f : k = 64 ∨ (0 ≤ v ∧ v < 2 ^ k ∧ k < 64)
 w : 0 ≤ v ∧ v ≤ 9223372036854775807
theorem Fits.k64 {v : Int} {k : Nat} (h : Fits v k) : k ≤ 64 := by rcases h.f with h | h <;> omega
theorem fits_of {v : Int} {k : Nat} (hk : k < 64) (h0 : 0 ≤ v) (h : v < 2 ^ k) : Fits v k := by
 refine ⟨.inr ⟨h0, h, hk⟩, ?_⟩
 have : (2 : Int) ^ k ≤ 2 ^ 63 := by exact_mod_cast Nat.pow_le_pow_right (by decide) (by omega : k ≤ 63)
 omega
theorem i64_U {v : Int} (h : 0 ≤ v ∧ v ≤ 9223372036854775807) : IntKind.i64.wrap ((U v).toNat : Int) = v := by
 have hu : ((U v).toNat : Int) = v := by
  unfold U
  rw [UInt64.toNat_ofNat_of_lt' (by show (v % 18446744073709551616).toNat < 2 ^ 64; omega)]
  omega
 rw [hu]
 exact i64w (by omega)
/-! what is to be read, ahead of r -/
def amK (a : KAm) (k : Nat) (r : List Bool) : List Bool := bitsV (U a.a0) k ++ (bitsV (U a.a1) k ++ (bitsV (U a.a2) k ++ (bitsV (U a.a3) k ++ r)))
def actK (x : KAct) (r : List Bool) : List Bool := bitsV (U ((x.kind.toNat : Nat) : Int)) 3 ++ (bitsV (U x.owner) 17 ++ (bitsV (U x.other) 17 ++ (bitsV (U x.hold) 64 ++ amK x.a 31 r)))
def actsK : List KAct → List Bool → List Bool
 | [], r => r
 | x :: l, r => actK x (actsK l r)
def dealK (au nu : Int) (al : List KAct) (r : List Bool) : List Bool := bitsV (U au) 7 ++ (bitsV (U nu) 41 ++ (bitsV (U ((al.length : Nat) : Int)) 9 ++ actsK al r))
def psK : List (Int × KAm) → List Bool → List Bool
 | [], r => r
 | p :: l, r => bitsV (U p.1) 17 ++ amK p.2 31 (psK l r)
def hsK : List (Int × KHo) → List Bool → List Bool
 | [], r => r
 | p :: l, r => bitsV (U p.1) 48 ++ (bitsV (U p.2.owner) 17 ++ amK p.2.a 31 (hsK l r))
def nsK : List Int → List Bool → List Bool
 | [], r => r
 | n :: l, r => bitsV (U n) 48 ++ nsK l r
def memK (m : KMem) (r : List Bool) : List Bool := dealK m.d.author m.d.number m.d.acts (bitsV (U ((m.r.holds.length : Nat) : Int)) 9 ++ nsK m.r.holds (bitsV (U m.r.at_) 9 ++ (bitsV (U m.r.e) 16 ++ r)))
def msK : List (Int × KMem) → List Bool → List Bool
 | [], r => r
 | p :: l, r => memK p.2 (msK l r)
def stK (su : KAm) (last : Int) (ps : List (Int × KAm)) (hs : List (Int × KHo)) (ms : List (Int × KMem)) : List Bool :=
 amK su 63 (bitsV (U last) 48 ++ (bitsV (U ((ps.length : Nat) : Int)) 9 ++ psK ps (bitsV (U ((hs.length : Nat) : Int)) 9 ++ hsK hs (bitsV (U ((ms.length : Nat) : Int)) 9 ++ msK ms []))))
theorem amK_eq (a : KAm) (k : Nat) (r : List Bool) : amL a k ++ r = amK a k r := by simp [amL, amK]
theorem actK_eq (x : KAct) (r : List Bool) : actL x ++ r = actK x r := by simp [actL, actK, ← amK_eq]
theorem actsK_eq : ∀ (l : List KAct) (r : List Bool), actsL l ++ r = actsK l r
 | [], r => rfl
 | x :: l, r => by show actL x ++ actsL l ++ r = actK x (actsK l r); rw [List.append_assoc, actsK_eq l r, actK_eq]
theorem dealK_eq (au nu : Int) (al : List KAct) (r : List Bool) : dealL au nu al ++ r = dealK au nu al r := by simp [dealL, dealK, ← actsK_eq]
theorem psK_eq : ∀ (l : List (Int × KAm)) (r : List Bool), psL l ++ r = psK l r
 | [], r => rfl
 | p :: l, r => by show (bitsV (U p.1) 17 ++ (amL p.2 31 ++ psL l)) ++ r = bitsV (U p.1) 17 ++ amK p.2 31 (psK l r); rw [← psK_eq l r, ← amK_eq]; simp
theorem hsK_eq : ∀ (l : List (Int × KHo)) (r : List Bool), hsL l ++ r = hsK l r
 | [], r => rfl
 | p :: l, r => by show (bitsV (U p.1) 48 ++ (bitsV (U p.2.owner) 17 ++ (amL p.2.a 31 ++ hsL l))) ++ r = bitsV (U p.1) 48 ++ (bitsV (U p.2.owner) 17 ++ amK p.2.a 31 (hsK l r)); rw [← hsK_eq l r, ← amK_eq]; simp
theorem nsK_eq : ∀ (l : List Int) (r : List Bool), nsL l ++ r = nsK l r
 | [], r => rfl
 | n :: l, r => by show (bitsV (U n) 48 ++ nsL l) ++ r = bitsV (U n) 48 ++ nsK l r; rw [← nsK_eq l r, List.append_assoc]
theorem memK_eq (m : KMem) (r : List Bool) : memL m ++ r = memK m r := by
 unfold memL memK
 rw [← dealK_eq, ← nsK_eq]; simp
theorem msK_eq : ∀ (l : List (Int × KMem)) (r : List Bool), msL l ++ r = msK l r
 | [], r => rfl
 | p :: l, r => by show (memL p.2 ++ msL l) ++ r = memK p.2 (msK l r); rw [← msK_eq l r, ← memK_eq, List.append_assoc]
theorem stK_eq (su : KAm) (last : Int) (ps : List (Int × KAm)) (hs : List (Int × KHo)) (ms : List (Int × KMem)) : stBits su last ps hs ms = stK su last ps hs ms := by
 unfold stBits stK
 rw [← msK_eq, ← hsK_eq, ← psK_eq, ← amK_eq, List.append_nil]
theorem psK_next {l : List (Int × KAm)} {k : Nat} {p : Int × KAm} {r : List Bool} (h : l[k]? = some p) : psK (l.drop k) r = bitsV (U p.1) 17 ++ amK p.2 31 (psK (l.drop (k + 1)) r) := by
 obtain ⟨hk, rfl⟩ := List.getElem?_eq_some_iff.1 h; rw [List.drop_eq_getElem_cons hk]; rfl
theorem hsK_next {l : List (Int × KHo)} {k : Nat} {p : Int × KHo} {r : List Bool} (h : l[k]? = some p) : hsK (l.drop k) r = bitsV (U p.1) 48 ++ (bitsV (U p.2.owner) 17 ++ amK p.2.a 31 (hsK (l.drop (k + 1)) r)) := by
 obtain ⟨hk, rfl⟩ := List.getElem?_eq_some_iff.1 h; rw [List.drop_eq_getElem_cons hk]; rfl
theorem nsK_next {l : List Int} {k : Nat} {n : Int} {r : List Bool} (h : l[k]? = some n) : nsK (l.drop k) r = bitsV (U n) 48 ++ nsK (l.drop (k + 1)) r := by
 obtain ⟨hk, rfl⟩ := List.getElem?_eq_some_iff.1 h; rw [List.drop_eq_getElem_cons hk]; rfl
theorem msK_next {l : List (Int × KMem)} {k : Nat} {p : Int × KMem} {r : List Bool} (h : l[k]? = some p) : msK (l.drop k) r = memK p.2 (msK (l.drop (k + 1)) r) := by
 obtain ⟨hk, rfl⟩ := List.getElem?_eq_some_iff.1 h; rw [List.drop_eq_getElem_cons hk]; rfl
theorem actsK_next {l : List KAct} {k : Nat} {x : KAct} {r : List Bool} (h : l[k]? = some x) : actsK (l.drop k) r = bitsV (U ((x.kind.toNat : Nat) : Int)) 3 ++ (bitsV (U x.owner) 17 ++ (bitsV (U x.other) 17 ++ (bitsV (U x.hold) 64 ++ amK x.a 31 (actsK (l.drop (k + 1)) r)))) := by
 obtain ⟨hk, rfl⟩ := List.getElem?_eq_some_iff.1 h; rw [List.drop_eq_getElem_cons hk]; rfl
abbrev rdL (rb : Nat) (p : Option Addr) (c : Nat) (xs : List UInt8) (n : Nat) : List Res := [pt rb (.cells #[.bool true, .slice p xs.length c, Nx n, Ix 0] 198), rowF BytF 5 p c xs]
/-- a reader that has these bits left -/
def rdrR (rb : Nat) (l : List Bool) : Res := fun h => ∃ p c xs n, Rd xs n l ∧ xs.length ≤ 65536 ∧ Sat (rdL rb p c xs n) h
theorem St.openRd {β : Base} {rb : Nat} {l : List Bool} {M : List Res} {w : World} (h : St β (rdrR rb l :: M) w) : ∃ p c xs n, Rd xs n l ∧ xs.length ≤ 65536 ∧ St β (rdL rb p c xs n ++ M) w := by
 obtain ⟨ho, ht, hp, a, hd, hs, hs', q, r, h1, h2, h3, ⟨p, c, xs, n, hk, hl, hx⟩, h5⟩ := h
 exact ⟨p, c, xs, n, hk, hl, St.unbun ⟨ho, ht, hp, a, hd, hs, hs', q, r, h1, h2, h3, hx, h5⟩⟩
theorem St.closeRd {β : Base} {rb : Nat} {p : Option Addr} {c : Nat} {xs : List UInt8} {n : Nat} {l : List Bool} {M : List Res} {w : World} (hr : Rd xs n l) (hl : xs.length ≤ 65536) (h : St β (rdL rb p c xs n ++ M) w) : St β (rdrR rb l :: M) w :=
 h.merge fun _ h => ⟨p, c, xs, n, hr, hl, h⟩
theorem rowB_eq (p : Option Addr) (c : Nat) (xs : List UInt8) : row (.slice p xs.length c) 5 1 xs.length (BX xs) = rowF BytF 5 p c xs := by
 have : BX xs = xs.flatMap BytF.enc := by
  induction xs with
  | nil => rfl
  | cons x xs ih => show Bx x :: BX xs = Bx x :: _; rw [ih]; rfl
 rw [this]
end Go.Td
