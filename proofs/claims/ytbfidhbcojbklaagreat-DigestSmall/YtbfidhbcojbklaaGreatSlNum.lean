/-
  Numbers: how the model's wraps read at the sizes that the program uses. Own work; plain Lean.
-/
import Derived.Test.YtbfidhbcojbklaaGreatSlWalk
namespace Go.Sl

abbrev Ux (x : UInt64) : Value := .int .u64 (x.toNat : Int)
abbrev Bx (x : UInt8) : Value := .int .u8 (x.toNat : Int)
abbrev Ix (x : Int) : Value := .int .i64 x
abbrev Nx (n : Nat) : Value := .int .i64 (n : Int)

theorem i64w {z : Int} (h : -9223372036854775808 ≤ z ∧ z ≤ 9223372036854775807) : IntKind.i64.wrap z = z := by
  simp only [IntKind.wrap, IntKind.bits, IntKind.signed]
  simp
  omega
theorem i64n {z : Int} {m : Nat} (h : z = (m : Int)) (hm : m ≤ 9223372036854775807) : IntKind.i64.wrap z = (m : Int) := by
  rw [h]; exact i64w (by omega)

theorem u64w (z : Int) : IntKind.u64.wrap z = z % 18446744073709551616 := by simp [IntKind.wrap, IntKind.bits, IntKind.signed]
theorem u8w (z : Int) : IntKind.u8.wrap z = z % 256 := by simp [IntKind.wrap, IntKind.bits, IntKind.signed]

theorem ux_mul (x y : UInt64) : IntKind.u64.wrap ((x.toNat : Int) * (y.toNat : Int)) = ((x * y).toNat : Int) := by
  rw [u64w, UInt64.toNat_mul]; simp
theorem ux_add (x y : UInt64) : IntKind.u64.wrap ((x.toNat : Int) + (y.toNat : Int)) = ((x + y).toNat : Int) := by
  rw [u64w, UInt64.toNat_add]; simp
theorem ux_sub (x y : UInt64) : IntKind.u64.wrap ((x.toNat : Int) - (y.toNat : Int)) = ((x - y).toNat : Int) := by
  rw [u64w, UInt64.toNat_sub]
  have := y.toNat_lt
  omega
theorem ux_bv (x : UInt64) : BitVec.ofInt IntKind.u64.bits (x.toNat : Int) = x.toBitVec := by
  apply BitVec.eq_of_toNat_eq; simp [IntKind.bits]
theorem ux_xor (x y : UInt64) : IntKind.u64.wrap ((BitVec.ofInt IntKind.u64.bits (x.toNat : Int) ^^^ BitVec.ofInt IntKind.u64.bits (y.toNat : Int)).toNat : Int) = ((x ^^^ y).toNat : Int) := by
  rw [ux_bv, ux_bv, u64w]
  have h := (x ^^^ y).toNat_lt
  show (((x ^^^ y).toNat : Nat) : Int) % 18446744073709551616 = _
  omega
theorem ux_or (x y : UInt64) : IntKind.u64.wrap ((BitVec.ofInt IntKind.u64.bits (x.toNat : Int) ||| BitVec.ofInt IntKind.u64.bits (y.toNat : Int)).toNat : Int) = ((x ||| y).toNat : Int) := by
  rw [ux_bv, ux_bv, u64w]
  have h := (x ||| y).toNat_lt
  show (((x ||| y).toNat : Nat) : Int) % 18446744073709551616 = _
  omega
theorem ux_and (x y : UInt64) : IntKind.u64.wrap ((BitVec.ofInt IntKind.u64.bits (x.toNat : Int) &&& BitVec.ofInt IntKind.u64.bits (y.toNat : Int)).toNat : Int) = ((x &&& y).toNat : Int) := by
  rw [ux_bv, ux_bv, u64w]
  have h := (x &&& y).toNat_lt
  show (((x &&& y).toNat : Nat) : Int) % 18446744073709551616 = _
  omega
theorem ux_shr (x : UInt64) (k : Nat) (hk : k < 64) : (x.toNat : Int).fdiv (2 ^ (min ((k : Int)).toNat IntKind.u64.bits)) = ((x >>> UInt64.ofNat k).toNat : Int) := by
  have e : (UInt64.ofNat k).toNat % 64 = k := by simp; omega
  have hm : min ((k : Int)).toNat IntKind.u64.bits = k := by simp [IntKind.bits]; omega
  rw [hm, UInt64.toNat_shiftRight, e, Nat.shiftRight_eq_div_pow, Int.fdiv_eq_ediv_of_nonneg _ (Int.le_of_lt (Int.pow_pos (by decide)))]
  simp
theorem ux_shl (x : UInt64) (k : Nat) (hk : k < 64) : IntKind.u64.wrap ((x.toNat : Int) * 2 ^ (min ((k : Int)).toNat IntKind.u64.bits)) = ((x <<< UInt64.ofNat k).toNat : Int) := by
  have e : (UInt64.ofNat k).toNat % 64 = k := by simp; omega
  have hm : min ((k : Int)).toNat IntKind.u64.bits = k := by simp [IntKind.bits]; omega
  rw [hm, u64w, UInt64.toNat_shiftLeft, e, Nat.shiftLeft_eq]
  simp
/-- from int to uint64 -/
def U (n : Int) : UInt64 := UInt64.ofNat (n % 18446744073709551616).toNat
theorem ux_of (n : Int) : IntKind.u64.wrap n = ((U n).toNat : Int) := by
  rw [u64w, U]
  have h1 : 0 ≤ n % 18446744073709551616 := Int.emod_nonneg _ (by decide)
  have h2 : n % 18446744073709551616 < 18446744073709551616 := Int.emod_lt_of_pos _ (by decide)
  simp
  omega
theorem ux_of8 (x : UInt8) : IntKind.u64.wrap (x.toNat : Int) = (x.toUInt64.toNat : Int) := by
  rw [u64w]
  have := x.toNat_lt
  simp
  omega
theorem bx_of64 (x : UInt64) : IntKind.u8.wrap (x.toNat : Int) = (x.toUInt8.toNat : Int) := by
  rw [u8w]; simp
theorem ux_eq (x y : UInt64) : decide ((x.toNat : Int) = (y.toNat : Int)) = decide (x = y) := by
  rw [decide_eq_decide]
  constructor
  · intro h; exact UInt64.toNat_inj.1 (by omega)
  · rintro rfl; rfl
theorem ux_lit (c : Nat) (h : c < 18446744073709551616) : ((c : Nat) : Int) = ((UInt64.ofNat c).toNat : Int) := by
  simp; omega

/-! Frames of which some slots are known. -/
theorem upd_eq {f : Fm} {d : Nat} {v : Value} (h : f d = v) : upd f d v = f := by
  funext i
  unfold upd
  cases hb : Nat.beq i d with
  | false => rfl
  | true => have := Nat.eq_of_beq_eq_true hb; subst this; exact h.symm

section
variable {P : Program} {ro : Option Nat} {n : Nat} {ds : List Deferred} {β : Base} {Q : Exit → Act → World → Prop} {f : Fm} {L : List Res} {ops : Array Oper} {rest : List Oper} {c : Code}
theorem rebase {d : Nat} {v : Value} (h : f d = v) (k : RunC P ro n ds β c Q (upd f d v) L) : RunC P ro n ds β c Q f L := by rw [← upd_eq h]; exact k

/-- a Bool in a slot is decided -/
theorem l_split {s : Nat} {p : Prop} [Decidable p] (hs : f s = .bool (decide p)) (ht : p → RunL P ro n ds β ops Q rest (upd f s (.bool true)) L) (hf : ¬ p → RunL P ro n ds β ops Q rest (upd f s (.bool false)) L) : RunL P ro n ds β ops Q rest f L := by
  by_cases hp : p
  · have h := ht hp; rw [upd_eq (by rw [hs, decide_eq_true hp])] at h; exact h
  · have h := hf hp; rw [upd_eq (by rw [hs, decide_eq_false hp])] at h; exact h
theorem q_split {s : Nat} {p : Prop} [Decidable p] (hs : f s = .bool (decide p)) (ht : p → RunQ P n ds β ops Q rest (upd f s (.bool true)) L) (hf : ¬ p → RunQ P n ds β ops Q rest (upd f s (.bool false)) L) : RunQ P n ds β ops Q rest f L := by
  by_cases hp : p
  · have h := ht hp; rw [upd_eq (by rw [hs, decide_eq_true hp])] at h; exact h
  · have h := hf hp; rw [upd_eq (by rw [hs, decide_eq_false hp])] at h; exact h
theorem l_splitb {s : Nat} {b : Bool} (hs : f s = .bool b) (ht : b = true → RunL P ro n ds β ops Q rest (upd f s (.bool true)) L) (hf : b = false → RunL P ro n ds β ops Q rest (upd f s (.bool false)) L) : RunL P ro n ds β ops Q rest f L := by
  cases b
  · have h := hf rfl; rw [upd_eq hs] at h; exact h
  · have h := ht rfl; rw [upd_eq hs] at h; exact h

/-- what is not wanted any more is dropped -/
def mask {α : Type _} (l : List α) : List Bool → List α
  | [] => l
  | b :: m => match l with
    | [] => []
    | a :: l => if b then a :: mask l m else mask l m
    termination_by structural m => m
theorem mask_sub {α : Type _} : ∀ (m : List Bool) (l : List α), (mask l m).Sublist l
  | [], l => by unfold mask; exact List.Sublist.refl l
  | _ :: m, [] => by unfold mask; exact List.Sublist.slnil
  | true :: m, a :: l => by unfold mask; exact (mask_sub m l).cons_cons a
  | false :: m, a :: l => by unfold mask; exact (mask_sub m l).cons a
theorem c_mask (m : List Bool) {L' : List Res} (hm : mask L m = L') (k : RunC P ro n ds β c Q f L') : RunC P ro n ds β c Q f L := fun a w ha hw => k a w ha (by subst hm; exact hw.drop (mask_sub m L))
theorem f_mask {e : Exit} (m : List Bool) {L' : List Res} (hm : mask L m = L') (k : Fin n ds β Q e f L') : Fin n ds β Q e f L := fun a w ha hw => k a w ha (by subst hm; exact hw.drop (mask_sub m L))
theorem l_mask (m : List Bool) {L' : List Res} (hm : mask L m = L') (k : RunL P ro n ds β ops Q rest f L') : RunL P ro n ds β ops Q rest f L := fun a w ha hw => k a w ha (by subst hm; exact hw.drop (mask_sub m L))
theorem st_mask {w : World} (m : List Bool) {L' : List Res} (hm : mask L m = L') (hw : St β L w) : St β L' w := by subst hm; exact hw.drop (mask_sub m L)
theorem l_emp {r : Res} (hr : r fun _ => none) (k : RunL P ro n ds β ops Q rest f (r :: L)) : RunL P ro n ds β ops Q rest f L := fun a w ha hw => k a w ha (hw.emp hr)
theorem c_emp {r : Res} (hr : r fun _ => none) (k : RunC P ro n ds β c Q f (r :: L)) : RunC P ro n ds β c Q f L := fun a w ha hw => k a w ha (hw.emp hr)
theorem l_conseq {r r' : Res} (i : Nat) (hi : L[i]? = some r) (hr : ∀ a, r a → r' a) (k : RunL P ro n ds β ops Q rest f (L.set i r')) : RunL P ro n ds β ops Q rest f L := fun a w ha hw => k a w ha (hw.conseq_at i hi hr)
end
end Go.Sl
