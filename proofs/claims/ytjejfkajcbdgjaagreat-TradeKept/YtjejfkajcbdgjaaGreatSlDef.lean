/-
  Deferred calls and recover, in the form of frames as functions. Own work; plain Lean.
-/
import Derived.Test.YtjejfkajcbdgjaaGreatSlJb
namespace Go.Sl
section
variable {P : Program} {n : Nat} {ds : List Deferred} {β : Base} {Q : Exit → Act → World → Prop} {f : Fm} {L : List Res} {ops : Array Oper} {rest : List Oper}
variable {d : Option Tmp} {ty : TypeId} {ps : String} {af : Array Edge} {g : Option (Nat × Bool)}

theorem enterD {g : FuncId} {fn : Func} {c : Code} {args : Array Value} {w : World} {R : Ending → World → Prop} (hf : P.funcs[g]? = some fn) (hb : fn.body = some c) (hn : fn.ntmps = n) (hs : Nat.ble args.size n = true)
    (h : RunC P none n [] β c (bodyPostD P fn R) (initF args) L) (hw : St β L w) : Calls P g args w R := by
  refine calls_of_wp_defers hf hb (wpIn_wide.1 (h _ w ⟨rfl, ?_, fun i => ?_⟩ hw))
  · rw [hn]
    have : args.size ≤ n := by simpa using hs
    simp; omega
  · simp only [initF, Array.getD_eq_getD_getElem?]
    by_cases hi : i < args.size
    · rw [Array.getElem?_append_left hi]
    · rw [Array.getElem?_append_right (by omega), Array.getElem?_eq_none (by omega : args.size ≤ i)]
      by_cases hj : i - args.size < fn.ntmps - args.size
      · simp [hj]
      · simp [hj]

theorem l_defer {o : Oper} {dd : Deferred} (hg : o.guard = none) (hd : o.dst = none) (he : ∀ w, (execOp (ev f) o).run P w = .ok (.defer dd) w) (k : RunL P none n (dd :: ds) β ops Q rest f L) : RunL P none n ds β ops Q (o :: rest) f L := by
  refine l_step hg fun a w ha hw => ⟨fun _ _ => trivial, ?_⟩
  rw [ha.eval, show (Fe none).round = none from rfl, Oper.semAt_none, he w, Oper.uponIn_defer, hd]
  exact k _ w ⟨by show dd :: a.defers = _; rw [ha.defers], ha.size, ha.get⟩ hw

/-- a region that recovers, and keeps what it recovered -/
theorem wpS_rec2 {id : Nat} {o0 o1 : Oper} {a : Act} {cs : List Frame} {w : World} {QS : Exit → Act → List Frame → World → Prop} {d0 d1 : Nat} {v : Value} {cs' : List Frame} (ha : At n ds f a) (h0 : o0.guard = none) (h1 : o1.guard = none)
    (r0 : (execOp (ev f) o0).run P w = .ok .recover w) (hd0 : o0.dst = some d0) (b0 : Nat.blt d0 n = true) (hv : (execOp (ev (upd f d0 v)) o1).run P w = .ok (.value v) w) (hd1 : o1.dst = some d1) (b1 : Nat.blt d1 n = true)
    (hrec : recoverD cs = some (v, cs') ∨ recoverD cs = none ∧ v = .nilIface ∧ cs' = cs) (k : ∀ a', At n ds (upd (upd f d0 v) d1 v) a' → QS .normal a' cs' w) : (Code.region id #[o0, o1] false).wpS P QS a cs w := by
  have ha1 := ha.put b0 v
  have step1 : ∀ cs, wpOpsS P #[o0, o1] QS [1] (a.put (some d0) v) cs w = QS .normal ((a.put (some d0) v).put (some d1) v) cs w := fun cs => by
    simp only [wpOpsS]
    have hw1 : Region.wanted o1 (yielded #[o0, o1] (a.put (some d0) v).tmps) = true := by simp [Region.wanted, h1]
    simp only [List.getElem?_toArray, List.getElem?_cons_succ, List.getElem?_cons_zero, hw1, if_true]
    rw [ha1.eval, hv]
    simp only [Oper.upon, hd1]
  refine wpS_region ?_
  show wpOpsS P #[o0, o1] QS [0, 1] a cs w
  rw [wpOpsS]
  have hw0 : Region.wanted o0 (yielded #[o0, o1] a.tmps) = true := by simp [Region.wanted, h0]
  simp only [List.getElem?_toArray, List.getElem?_cons_zero, hw0, if_true]
  rw [ha.eval, r0]
  rcases hrec with h | ⟨h, rfl, rfl⟩
  · simp only [h, hd0]
    rw [step1]
    exact k _ (ha1.put b1 v)
  · simp only [h, hd0]
    rw [step1]
    exact k _ (ha1.put b1 _)

theorem wpS_run {c : Code} {a : Act} {cs : List Frame} {w : World} {QS : Exit → Act → List Frame → World → Prop} (h : RunC P none n ds β c (fun e a w => QS e a cs w) f L) (ha : At n ds f a) (hw : St β L w) : c.wpS P QS a cs w := wpS_of_wp (wpIn_wide.1 (h a w ha hw))
theorem finS {fn : Func} {c₀ : Frame} {cs : List Frame} {R : Ending → FrameMode → World → Prop} {u' : FrameMode} (hr : fn.results = #[]) (h : ∀ w, St β L w → R (.returned (.tuple #[])) u' w) :
    Fin n [] β (fun e a w => bodyPostS P fn c₀ cs R e a ({ c₀ with mode := u' } :: cs) w) .normal f L := fun a w ha hw =>
  ⟨ha.defers, u', rfl, _, results_none hr _ _ _, h w hw⟩

theorem e_tassert {t u : TypeId} {x : Operand} {v : Value} (hx : ev f x = .iface u v) (hu : ifcB P u = true) : EV P β L f ⟨d, .typeAssert x t u true, ty, ps, af, g⟩ (.tuple #[v, .bool true]) := fun w _ => by
  unfold ifcB at hu
  cases hh : P.underlying u with
  | none => rw [hh] at hu; cases hu
  | some dd =>
    rw [hh] at hu
    cases dd <;> simp_all [execOp, Instr.typeAssert, run_underlying hh]
def ifB (P : Program) (t : TypeId) : Bool := match P.underlying t with | some (.interface _) => true | _ => false
theorem ifB_und {t : TypeId} (h : ifB P t = true) : ∃ ms, P.underlying t = some (.interface ms) := by
  unfold ifB at h
  cases hh : P.underlying t with
  | none => rw [hh] at h; cases h
  | some dd => rw [hh] at h; cases dd <;> simp_all
theorem e_neq_if {t t' : TypeId} {x : Operand} {u : TypeId} {v : Value} (ht : ifB P t = true) (hx : ev f x = .iface u v) : EV P β L f ⟨d, .binOp .neq t x (.const .nilIface) t', ty, ps, af, g⟩ (.bool true) := fun w _ => by
  obtain ⟨ms, hu⟩ := ifB_und ht
  have h1 : (binOp .neq t (.iface u v) .nilIface).run P w = .ok (.bool true) w := by
    have h2 : (Op.equal t (.iface u v) .nilIface).run P w = .ok false w := by
      have h3 : ∀ d, (Op.equalIn (d + 1) t (.iface u v) .nilIface).run P w = .ok false w := fun d => by simp [Op.equalIn, run_underlying hu]
      exact h3 9999
    simp only [binOp]
    simp [h2]
  have h0 : eqGuard .neq t x (.const .nilIface) (.iface u v) .nilIface = pure () := rfl
  have hy : ev f (.const .nilIface) = .nilIface := rfl
  simp only [execOp, hx, hy, h0]
  simp [h1]
theorem e_neq_if0 {t t' : TypeId} {x : Operand} (ht : ifB P t = true) (hx : ev f x = .nilIface) : EV P β L f ⟨d, .binOp .neq t x (.const .nilIface) t', ty, ps, af, g⟩ (.bool false) := fun w _ => by
  obtain ⟨ms, hu⟩ := ifB_und ht
  have h1 : (binOp .neq t .nilIface .nilIface).run P w = .ok (.bool false) w := by
    have h2 : (Op.equal t .nilIface .nilIface).run P w = .ok true w := by
      have h3 : ∀ d, (Op.equalIn (d + 1) t .nilIface .nilIface).run P w = .ok true w := fun d => by simp [Op.equalIn, run_underlying hu]
      exact h3 9999
    simp only [binOp]
    simp [h2]
  have h0 : eqGuard .neq t x (.const .nilIface) .nilIface .nilIface = pure () := eqGuard_nil_constR _ _ _ _
  have hy : ev f (.const .nilIface) = .nilIface := rfl
  simp only [execOp, hx, hy, h0]
  simp [h1]
end
end Go.Sl
