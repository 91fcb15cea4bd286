/-
  Short forms, continued: addresses, stores, what a region that draws its order must show. Own work; plain Lean.
-/
import Derived.Test.YtjejfkajcbdgjaaGreatSlA
import Derived.Test.YtjejfkajcbdgjaaGreatSlFlat
import Derived.Test.YtjejfkajcbdgjaaGreatSlTail
namespace Go.Sl
section
variable {P : Program} {β : Base} {f : Fm} {L : List Res} {d : Option Tmp} {ty : TypeId} {ps : String} {af : Array Edge} {g : Option (Nat × Bool)} {x y : Operand}
theorem oia {t e n k len cap : Nat} {a : Option Addr} (ht : slB P t e n = true) (ha : a = some (ba a)) (hx : ev f x = .slice a len cap := by first | rfl | assumption) (hy : ev f y = .int .i64 (k : Int) := by first | rfl | assumption) (hk : k < len := by omega) : EV P β L f ⟨d, .indexAddr t x y, ty, ps, af, g⟩ (.pointer (some ((ba a).add (k * n)))) := e_indexAddr hx hy ht hk ha
theorem mS {t T n b o : Nat} {ag : Bool} {cs : Array Value} (i : Nat) (cs' : Array Value) [h : TyC P t ag n] {v : Value} (hx : ev f x = .pointer (some ⟨b, o, none⟩) := by rfl) (hi : L[i]? = some (pt b (.cells cs T)) := by rfl)
    (hy : ev f y = v := by rfl) (hn : v.cells.size = n := by rfl) (hfit : Nat.ble (o + n) cs.size = true := by rfl) (h1 : v.cells.toList.all (·.oneCell') = true := by rfl) (hc : over cs o v.cells.toList = cs' := by rfl) :
    MU P β L f ⟨d, .store t x y, ty, ps, af, g⟩ (L.set i (pt b (.cells cs' T))) := m_store i h.ok hx hi hy hn hfit h1 hc
end
abbrev sv (d : Nat) (v : Value) (a n i : List Nat) : Sp := ⟨a, n, i, [d], fun f => f d = v⟩
abbrev tk (r : Res) (b : List Nat) : Tok := ⟨none, none, b, [], fun _ => r⟩
section
variable {P : Program} {ro : Option Nat} {n : Nat} {ds : List Deferred} {β : Base} {Q : Exit → Act → World → Prop}
end
theorem rbs {P : Program} {ro : Option Nat} {n : Nat} {ds : List Deferred} {β : Base} {Q : Exit → Act → World → Prop} {f : Fm} {L : List Res} {c : Code} (d : Nat) {v : Value} (h : f d = v) (k : RunC P ro n ds β c Q (upd f d v) L) : RunC P ro n ds β c Q f L := rebase h k
/-- a call that gives a value back and leaves the memory as it was -/
abbrev Ret (P : Program) (g : FuncId) (a : Array Value) (β : Base) (w : World) (x : Value) : Prop := Calls P g a w fun r w' => r = .returned x ∧ St β [] w'
end Go.Sl
