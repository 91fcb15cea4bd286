/-
  Find's answer as one resource; for calls whose order is drawn. Own work; plain Lean.
-/
import Derived.Test.YthncdmfogeemcaaPt9
import Derived.Test.YthncdmfogeemcaaPtSim
namespace Go.Proofs
open Go Go.Sl Go.Brd Go.Pth
def findRes (l : List KA) (p q : KV) (c : Option Addr) (L d n : Nat) (e : Int) : Res := fun a => ∃ way : List KV, way.length = L ∧ FindR l p q way n e ∧ n ≤ 1099511627776 ∧ rowF VecF 28 c d way a
def fdC : Value → Option Addr | .tuple a => (match (show Option Value from a[0]?) with | some (Value.slice c _ _) => c | _ => none) | _ => none
def fdL : Value → Nat | .tuple a => (match (show Option Value from a[0]?) with | some (Value.slice _ n _) => n | _ => 0) | _ => 0
def fdD : Value → Nat | .tuple a => (match (show Option Value from a[0]?) with | some (Value.slice _ _ d) => d | _ => 0) | _ => 0
def fdN : Value → Nat | .tuple a => (match (show Option Value from a[1]?) with | some (Value.int _ z) => z.toNat | _ => 0) | _ => 0
def fdE : Value → Int | .tuple a => (match (show Option Value from a[2]?) with | some (Value.int _ z) => z | _ => 0) | _ => 0
theorem findG_ok (β : Base) (w : World) (hw : St β [] w) (v : Value) (l : List KA) (hs : Sl AreaF.R β.heap v l) (p q : KV) : Calls Try.prog 10 #[v, .agg #[Ix (p.x), Ix (p.y)], .agg #[Ix (q.x), Ix (q.y)]] w fun r w' => ∃ c L d n e, r = .returned (.tuple #[.slice c L d, Nx n, Ix e]) ∧ St β [findRes l p q c L d n e] w' := by
  refine (find_ok β w hw v l hs p q).mono ?_
  rintro r w' ⟨c, d, way, n, e, rfl, h1, h2, hw'⟩
  exact ⟨c, way.length, d, n, e, rfl, hw'.conseq_at 0 (r' := findRes l p q c way.length d n e) rfl fun a h => ⟨way, rfl, h1, h2, h⟩⟩
section
variable {P : Program} {ro : Option Nat} {n : Nat} {ds : List Deferred} {β : Base} {Q : Exit → Act → World → Prop} {f : Fm} {L : List Res}
theorem c_openF {code : Code} {l : List KA} {p q : KV} {c : Option Addr} {Ln d m : Nat} {e : Int} {M : List Res} (hL : L = findRes l p q c Ln d m e :: M) (k : ∀ way : List KV, way.length = Ln → FindR l p q way m e → m ≤ 1099511627776 → RunC P ro n ds β code Q f (rowF VecF 28 c d way :: M)) : RunC P ro n ds β code Q f L := fun a w ha hw => by
  subst hL
  obtain ⟨ho, ht, hq, b, hd, hs, hs', x, y, h1, h2, h3, ⟨way, g1, g2, g3, g4⟩, h5⟩ := hw
  exact k way g1 g2 g3 a w ha ⟨ho, ht, hq, b, hd, hs, hs', x, y, h1, h2, h3, g4, h5⟩
end
end Go.Proofs
