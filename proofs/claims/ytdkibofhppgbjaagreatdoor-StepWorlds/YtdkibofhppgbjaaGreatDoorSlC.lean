/-
  Short forms: the same rules with fewer words. Own work; plain Lean.
-/
import Derived.Test.YtdkibofhppgbjaaGreatDoorSlFlat
namespace Go.Sl
abbrev rB (p : Option Addr) (xs : Bs) (c : Nat) : Res := row (.slice p xs.length c) 5 1 xs.length (BX xs)
abbrev sB {α : Type} (p : Option Addr) (xs : List α) (c : Nat) : Value := .slice p xs.length c
abbrev pp (b o : Nat) : Value := .pointer (some ⟨b, o, none⟩)
theorem kB {β : Base} {L : List Res} {a : Addr} {cs : List Value} (h : Cs β.heap a cs) : Knows β L (fun h => Cs h a cs) := Knows.of_base (Cs.mono _ _) h
section
variable {P : Program} {ro : Option Nat} {n : Nat} {ds : List Deferred} {β : Base} {Q : Exit → Act → World → Prop} {f g : Fm} {L L' M : List Res} {ops : Array Oper} {rest : List Oper}
variable {d : Nat} {op : Op} {ty : TypeId} {ps : String} {af : Array Edge} {v : Value} {gd : Option (Nat × Bool)}
theorem lv (h : EV P β L f ⟨some d, op, ty, ps, af, none⟩ v) (k : RunL P ro n ds β ops Q rest (upd f d v) L) (hn : Nat.blt d n = true := by rfl) : RunL P ro n ds β ops Q (⟨some d, op, ty, ps, af, none⟩ :: rest) f L := l_val rfl rfl hn h k
theorem lu (h : MU P β L f ⟨none, op, ty, ps, af, none⟩ L') (k : RunL P ro n ds β ops Q rest f L') : RunL P ro n ds β ops Q (⟨none, op, ty, ps, af, none⟩ :: rest) f L := l_mu rfl rfl h k
theorem f_pi {e : Exit} (ix : List Nat) (m : Nat) (hm : L.length = m) (h : (List.range m).isPerm ix = true) (k : Fin n ds β Q e f (ix.filterMap (L[·]?))) : Fin n ds β Q e f L := f_perm (perm_ix ix m hm h rfl) k
theorem c_pi {c : Code} (ix : List Nat) (m : Nat) (hm : L.length = m) (h : (List.range m).isPerm ix = true) (k : RunC P ro n ds β c Q f (ix.filterMap (L[·]?))) : RunC P ro n ds β c Q f L := c_perm (perm_ix ix m hm h rfl) k
theorem lnf {y : Code} (h : RunC P ro n ds β y Q f L) : RunL P ro n ds β ops (Exit.then (y.wpIn (Fe ro) 3 P Q) Q) [] f L := l_nil (f_then h)
theorem csr {id : Nat} {l : List Oper} {y : Code} (h : RunL P ro n ds β l.toArray (Exit.then (y.wpIn (Fe ro) 3 P Q) Q) l f L) : RunC P ro n ds β (.seq (.region id l.toArray false) y) Q f L := c_seq (c_region h)
theorem lnc {id : Nat} {l : List Oper} {y : Code} (h : RunL P ro n ds β l.toArray (Exit.then (y.wpIn (Fe ro) 3 P Q) Q) l f L) : RunL P ro n ds β ops (Exit.then ((Code.seq (.region id l.toArray false) y).wpIn (Fe ro) 3 P Q) Q) [] f L := lnf (csr h)
theorem lnr {id : Nat} {l : List Oper} (h : RunL P ro n ds β l.toArray Q l f L) : RunL P ro n ds β ops (Exit.then ((Code.region id l.toArray false).wpIn (Fe ro) 3 P Q) Q) [] f L := lnf (c_region h)
theorem ftc {e : Exit → Act → World → Prop} {id : Nat} {l : List Oper} {y : Code} (h : RunL P ro n ds β l.toArray (Exit.then (y.wpIn (Fe ro) 3 P e) e) l f L) : Fin n ds β (Exit.then ((Code.seq (.region id l.toArray false) y).wpIn (Fe ro) 3 P e) e) .normal f L := f_then (csr h)
theorem fts {x y : Code} (h : RunC P ro n ds β x (Exit.then (y.wpIn (Fe ro) 3 P Q) Q) f L) : Fin n ds β (Exit.then ((Code.seq x y).wpIn (Fe ro) 3 P Q) Q) .normal f L := f_then (c_seq h)
theorem ftr (h : Fin n ds β Q .ret f L) : Fin n ds β (Exit.then (Code.ret.wpIn (Fe ro) 3 P Q) Q) .normal f L := f_then (c_ret h)
theorem csk {y : Code} (h : RunC P ro n ds β y Q f L) : RunC P ro n ds β .skip (Exit.then (y.wpIn (Fe ro) 3 P Q) Q) f L := c_skip (f_then h)
theorem cs2 {x y z : Code} (h : RunC P ro n ds β x (Exit.then (y.wpIn (Fe ro) 3 P (Exit.then (z.wpIn (Fe ro) 3 P Q) Q)) (Exit.then (z.wpIn (Fe ro) 3 P Q) Q)) f L) : RunC P ro n ds β (.seq (.seq x y) z) Q f L := c_seq (c_seq h)
theorem cl0 {d : Option Tmp} {c : Operand} {xs : List Operand} {ts : Array TypeId} {g : FuncId} {vs : List Value} (hg : cfB P g = true) (hx : ev f c = .func (.func g) #[] #[]) (ha : xs.map (ev f) = vs) : CL P f ⟨d, .call ⟨.value c, xs.toArray, ts⟩, ty, ps, af, gd⟩ g vs.toArray :=
  cl_value (fst := []) (cap := []) hg hx ha (by simp)
theorem lcf {g : FuncId} {args : Array Value} (he : CL P f ⟨some d, op, ty, ps, af, none⟩ g args) (hn : Nat.blt d n = true)
    (hc : ∀ w β1, Sub β.heap β1.heap → (∀ F, Knows β L F → F β1.heap) → St β1 [] w → (∀ L' w', St β1 L' w' → St β (L' ++ L) w') → Calls P g args w fun e w' => ∃ v, e = .returned v ∧ ∃ L', St β L' w' ∧ RunL P ro n ds β ops Q rest (upd f d v) L') :
    RunL P ro n ds β ops Q (⟨some d, op, ty, ps, af, none⟩ :: rest) f L := l_call rfl rfl hn he fun w hw => by
  obtain ⟨β1, sb, kn, hw1, back⟩ := St.frame_all hw
  exact hc w β1 sb kn hw1 back
theorem obv {k : Fm → Prop} {out : Fm → List Res} (e : g = f) (hk : k (upd f d v)) (h : EV P β L' g ⟨some d, op, ty, ps, af, none⟩ v) (hp : L'.Perm (out (upd f d v) ++ M)) (hL : L = L') (hn : Nat.blt d n = true := by rfl) :
    RunL P ro n ds β ops (Qn (Owes n ds β (some d) k f out M)) [⟨some d, op, ty, ps, af, none⟩] f L := ob_start hL e (l_val rfl rfl hn h (l_nil (f_owes_d e hk hp)))
theorem ob0 {k : Fm → Prop} {out : Fm → List Res} (e : g = f) (hk : k (upd f d v)) (h : EV P β M g ⟨some d, op, ty, ps, af, none⟩ v) (hp : M.Perm (out (upd f d v) ++ M)) (hL : L = M := by rfl) (hn : Nat.blt d n = true := by rfl) :
    RunL P ro n ds β ops (Qn (Owes n ds β (some d) k f out M)) [⟨some d, op, ty, ps, af, none⟩] f L := obv e hk h hp hL hn
theorem obg {j x : Nat} {b : Bool} {k : Fm → Prop} {out : Fm → List Res} (e : g = f) (h : EV P β L' g ⟨some d, op, ty, ps, af, some (j, b)⟩ v) (ho : (ops[j]?).bind (·.dst) = some x) (hf : g x = .bool b) (hn : Nat.blt d n = true) (hk : k (upd f d v)) (hp : L'.Perm (out (upd f d v) ++ M)) (hL : L = L') :
    RunL P ro n ds β ops (Qn (Owes n ds β (some d) k f out M)) [⟨some d, op, ty, ps, af, some (j, b)⟩] f L := ob_start hL e (g_val rfl ho hf rfl hn h (l_nil (f_owes_d e hk hp)))
end
end Go.Sl
