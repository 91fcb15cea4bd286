/-
  The walk's rules: operations in order, regions that draw, calls, entry and return. Own work; plain Lean.
-/
import Derived.Test.YtbfidhbcojbklaaGreatSlRow
import Derived.Deep.Quiet
namespace Go.Sl
open Go.RowKit

section
variable {P : Program} {ro : Option Nat} {n : Nat} {ds : List Deferred} {β : Base} {Q : Exit → Act → World → Prop} {f : Fm} {L : List Res} {ops : Array Oper} {rest : List Oper} {o : Oper}

theorem l_val {d : Nat} {v : Value} (hg : o.guard = none) (hd : o.dst = some d) (hn : Nat.blt d n = true) (h : EV P β L f o v) (k : RunL P ro n ds β ops Q rest (upd f d v) L) : RunL P ro n ds β ops Q (o :: rest) f L :=
  l_step hg (s_val hd hn h k)
theorem l_mv {d : Nat} {Post : Value → List Res → Prop} (hg : o.guard = none) (hd : o.dst = some d) (hn : Nat.blt d n = true) (h : MV P β L f o Post) (k : ∀ v L', Post v L' → RunL P ro n ds β ops Q rest (upd f d v) L') : RunL P ro n ds β ops Q (o :: rest) f L :=
  l_step hg (s_mem hd hn fun w hw => let ⟨v, w', L', hr, hw', hp⟩ := h w hw; ⟨v, w', L', hr, hw', k v L' hp⟩)
theorem l_mu {L' : List Res} (hg : o.guard = none) (hd : o.dst = none) (h : MU P β L f o L') (k : RunL P ro n ds β ops Q rest f L') : RunL P ro n ds β ops Q (o :: rest) f L :=
  l_step hg (s_unit hd fun w hw => let ⟨w', hr, hw'⟩ := h w hw; ⟨w', L', hr, hw', k⟩)
/-- a guarded operation that is carried out -/
theorem g_val {d j e : Nat} {b : Bool} {v : Value} (hg : o.guard = some (j, b)) (ho : (ops[j]?).bind (·.dst) = some e) (hf : f e = .bool b) (hd : o.dst = some d) (hn : Nat.blt d n = true) (h : EV P β L f o v) (k : RunL P ro n ds β ops Q rest (upd f d v) L) : RunL P ro n ds β ops Q (o :: rest) f L :=
  l_take hg ho hf (s_val hd hn h k)
theorem g_mv {d j e : Nat} {b : Bool} {Post : Value → List Res → Prop} (hg : o.guard = some (j, b)) (ho : (ops[j]?).bind (·.dst) = some e) (hf : f e = .bool b) (hd : o.dst = some d) (hn : Nat.blt d n = true) (h : MV P β L f o Post)
    (k : ∀ v L', Post v L' → RunL P ro n ds β ops Q rest (upd f d v) L') : RunL P ro n ds β ops Q (o :: rest) f L :=
  l_take hg ho hf (s_mem hd hn fun w hw => let ⟨v, w', L', hr, hw', hp⟩ := h w hw; ⟨v, w', L', hr, hw', k v L' hp⟩)

/-! Calls. -/
def cfB (P : Program) (g : FuncId) : Bool := match P.funcs[g]? with | some fn => !(fn.name == "runtime.NumGoroutine") && fn.body.isSome | none => false
theorem run_callF {g : FuncId} (h : cfB P g = true) (args : Array Value) (w : World) : (callFunc g args).run P w = .ok (.enter g args) w := by
  unfold cfB at h
  cases hf : P.funcs[g]? with
  | none => rw [hf] at h; cases h
  | some fn =>
    rw [hf] at h
    simp only [Bool.and_eq_true, Bool.not_eq_true'] at h
    cases hb : fn.body with
    | none => rw [hb] at h; simp at h
    | some c =>
      simp [callFunc, hf, hb]
      exact beq_eq_false_iff_ne.1 h.1

/-- What a call is: which function, with which arguments. -/
def CL (P : Program) (f : Fm) (o : Oper) (g : FuncId) (args : Array Value) : Prop := ∀ w, (execOp (ev f) o).run P w = .ok (.enter g args) w

theorem cl_value {d : Option Tmp} {ty : TypeId} {ps : String} {af : Array Edge} {gd : Option (Nat × Bool)} {c : Operand} {xs : List Operand} {ts : Array TypeId} {g : FuncId} {fst cap vs all : List Value}
    (hg : cfB P g = true) (hx : ev f c = .func (.func g) fst.toArray cap.toArray) (ha : xs.map (ev f) = vs) (hall : fst ++ vs ++ cap = all) : CL P f ⟨d, .call ⟨.value c, xs.toArray, ts⟩, ty, ps, af, gd⟩ g all.toArray := fun w => by
  simp [execOp, resolve, invoke, hx, Deferred.ofValue, ha, run_callF hg, ← hall]

theorem l_call {d : Nat} {g : FuncId} {args : Array Value} (hgd : o.guard = none) (hd : o.dst = some d) (hn : Nat.blt d n = true) (he : CL P f o g args)
    (hc : ∀ w, St β L w → Calls P g args w fun e w' => ∃ v, e = .returned v ∧ ∃ L', St β L' w' ∧ RunL P ro n ds β ops Q rest (upd f d v) L') : RunL P ro n ds β ops Q (o :: rest) f L :=
  l_step hgd (s_call hd hn he hc)
theorem g_call {d j e : Nat} {b : Bool} {g : FuncId} {args : Array Value} (hgd : o.guard = some (j, b)) (ho : (ops[j]?).bind (·.dst) = some e) (hf : f e = .bool b) (hd : o.dst = some d) (hn : Nat.blt d n = true) (he : CL P f o g args)
    (hc : ∀ w, St β L w → Calls P g args w fun e w' => ∃ v, e = .returned v ∧ ∃ L', St β L' w' ∧ RunL P ro n ds β ops Q rest (upd f d v) L') : RunL P ro n ds β ops Q (o :: rest) f L :=
  l_take hgd ho hf (s_call hd hn he hc)
theorem l_call0 {g : FuncId} {args : Array Value} (hgd : o.guard = none) (hd : o.dst = none) (he : CL P f o g args)
    (hc : ∀ w, St β L w → Calls P g args w fun e w' => ∃ v, e = .returned v ∧ ∃ L', St β L' w' ∧ RunL P ro n ds β ops Q rest f L') : RunL P ro n ds β ops Q (o :: rest) f L :=
  l_step hgd (s_call0 hd he hc)

theorem St.frame_all {w : World} (h : St β L w) : ∃ β₁ : Base, Sub β.heap β₁.heap ∧ (∀ F, Knows β L F → F β₁.heap) ∧ St β₁ [] w ∧ ∀ L' w', St β₁ L' w' → St β (L' ++ L) w' := St.frame (L := []) h

/-! Regions that draw their order and turn nothing. -/
def RunQ (P : Program) (n : Nat) (ds : List Deferred) (β : Base) (ops : Array Oper) (Q : Exit → Act → World → Prop) (rest : List Oper) (f : Fm) (L : List Res) : Prop :=
  ∀ a, At n ds f a → wpQuiet P ops (fun w => St β L w) (fun a' => ∀ w', St β L w' → Q .normal a' w') rest a

theorem c_quiet {id : Nat} {l : List Oper} (hm : P.follows .mixedOrders = true) (hB : Region.lexB .any l.toArray = true) (h : RunQ P n ds β l.toArray Q l f L) : RunC P none n ds β (.region id l.toArray true) Q f L :=
  fun a _ ha hw => wpIn_wide.2 <| wp_region_quiet (C := fun w => St β L w) hm hB hw.drew (by simpa using h a ha)

theorem q_nil (h : Fin n ds β Q .normal f L) : RunQ P n ds β ops Q [] f L := fun a ha => wpQuiet_nil fun w hw => h a w ha hw

theorem q_step {d : Nat} {v : Value} (hw : ∀ a, At n ds f a → Region.wanted o (Go.yielded ops a.tmps) = true) (hd : o.dst = some d) (hn : Nat.blt d n = true)
    (h : ∀ a, At n ds f a → ∀ w, St β L w → o.quietAt P a (fun w => St β L w) w v) (k : RunQ P n ds β ops Q rest (upd f d v) L) : RunQ P n ds β ops Q (o :: rest) f L := by
  intro a ha
  unfold wpQuiet
  rw [if_pos (hw a ha)]
  refine ⟨v, h a ha, ?_⟩
  rw [hd]
  exact k _ (ha.put hn v)

theorem wanted_none (hg : o.guard = none) (a : Act) (_ : At n ds f a) : Region.wanted o (Go.yielded ops a.tmps) = true := by simp [Region.wanted, hg]
theorem wanted_take {j e : Nat} {b : Bool} (hg : o.guard = some (j, b)) (ho : (ops[j]?).bind (·.dst) = some e) (hf : f e = .bool b) (a : Act) (ha : At n ds f a) : Region.wanted o (Go.yielded ops a.tmps) = true := by
  simp [Region.wanted, hg, ha.yielded ops j b e ho hf]

theorem quiet_ev {v : Value} (h : EV P β L f o v) (a : Act) (ha : At n ds f a) (w : World) (hw : St β L w) : o.quietAt P a (fun w => St β L w) w v := by
  unfold Oper.quietAt
  rw [ha.eval, h w hw]
  exact ⟨rfl, rfl⟩
theorem quiet_call {v : Value} {g : FuncId} {args : Array Value} (he : CL P f o g args) (hc : ∀ w, St β L w → Calls P g args w fun e w' => e = .returned v ∧ St β L w') (a : Act) (ha : At n ds f a) (w : World) (hw : St β L w) :
    o.quietAt P a (fun w => St β L w) w v := by
  unfold Oper.quietAt
  rw [ha.eval, he w]
  exact ⟨rfl, hc w hw⟩

theorem q_val {d : Nat} {v : Value} (hg : o.guard = none) (hd : o.dst = some d) (hn : Nat.blt d n = true) (h : EV P β L f o v) (k : RunQ P n ds β ops Q rest (upd f d v) L) : RunQ P n ds β ops Q (o :: rest) f L :=
  q_step (wanted_none hg) hd hn (quiet_ev h) k
theorem qg_val {d j e : Nat} {b : Bool} {v : Value} (hg : o.guard = some (j, b)) (ho : (ops[j]?).bind (·.dst) = some e) (hf : f e = .bool b) (hd : o.dst = some d) (hn : Nat.blt d n = true) (h : EV P β L f o v) (k : RunQ P n ds β ops Q rest (upd f d v) L) : RunQ P n ds β ops Q (o :: rest) f L :=
  q_step (wanted_take hg ho hf) hd hn (quiet_ev h) k
theorem q_call {d : Nat} {v : Value} {g : FuncId} {args : Array Value} (hg : o.guard = none) (hd : o.dst = some d) (hn : Nat.blt d n = true) (he : CL P f o g args) (hc : ∀ w, St β L w → Calls P g args w fun e w' => e = .returned v ∧ St β L w')
    (k : RunQ P n ds β ops Q rest (upd f d v) L) : RunQ P n ds β ops Q (o :: rest) f L :=
  q_step (wanted_none hg) hd hn (quiet_call he hc) k
theorem qg_call {d j e : Nat} {b : Bool} {v : Value} {g : FuncId} {args : Array Value} (hg : o.guard = some (j, b)) (ho : (ops[j]?).bind (·.dst) = some e) (hf : f e = .bool b) (hd : o.dst = some d) (hn : Nat.blt d n = true) (he : CL P f o g args)
    (hc : ∀ w, St β L w → Calls P g args w fun e w' => e = .returned v ∧ St β L w') (k : RunQ P n ds β ops Q rest (upd f d v) L) : RunQ P n ds β ops Q (o :: rest) f L :=
  q_step (wanted_take hg ho hf) hd hn (quiet_call he hc) k
theorem q_skip {j d e : Nat} {b b' : Bool} (hg : o.guard = some (j, b')) (ho : (ops[j]?).bind (·.dst) = some d) (hf : f d = .bool b) (hb : (b == b') = false)
    (hd : o.dst = some e) (he : Nat.blt e n = true) (h : RunQ P n ds β ops Q rest (upd f e undef) L) : RunQ P n ds β ops Q (o :: rest) f L := by
  intro a ha
  have hy := ha.yielded ops j b d ho hf
  unfold wpQuiet
  rw [if_neg (by simp [Region.wanted, hg, hy]; simpa using hb), hd]
  exact h _ (ha.put he undef)
theorem q_skip_u {j d e : Nat} {b' : Bool} (hg : o.guard = some (j, b')) (ho : (ops[j]?).bind (·.dst) = some d) (hf : f d = undef)
    (hd : o.dst = some e) (he : Nat.blt e n = true) (h : RunQ P n ds β ops Q rest (upd f e undef) L) : RunQ P n ds β ops Q (o :: rest) f L := by
  intro a ha
  have hy : Go.yielded ops a.tmps j = none := by
    have hg := ha.get d
    rw [hf] at hg
    unfold Go.yielded
    rw [Array.getD_eq_getD_getElem?] at hg
    cases hx : a.tmps[d]? with
    | none => simp [ho, hx]
    | some x => rw [hx] at hg; simp at hg; subst hg; simp [ho, hx, undef]
  unfold wpQuiet
  rw [if_neg (by simp [Region.wanted, hg, hy]), hd]
  exact h _ (ha.put he undef)

/-! Entry and return. -/
theorem enter {g : FuncId} {fn : Func} {c : Code} {args : Array Value} {w : World} {R : Ending → World → Prop} (hf : P.funcs[g]? = some fn) (hb : fn.body = some c) (hn : fn.ntmps = n) (hs : Nat.ble args.size n = true)
    (h : RunC P none n [] β c (bodyPost P fn R) (initF args) L) (hw : St β L w) : Calls P g args w R := by
  refine calls_of_wp hf hb (wpIn_wide.1 (h _ w ⟨rfl, ?_, fun i => ?_⟩ hw))
  · rw [hn]
    have : args.size ≤ n := by simpa using hs
    simp; omega
  · simp only [initF, Array.getD_eq_getD_getElem?]
    by_cases hi : i < args.size
    · rw [Array.getElem?_append_left hi]
    · rw [Array.getElem?_append_right (by omega), Array.getElem?_eq_none (by omega : args.size ≤ i)]
      by_cases hj : i - args.size < fn.ntmps - args.size
      · simp [hj]
      · simp [hj]

theorem At.result {a : Act} (h : At n ds f a) (t : Nat) : a.tmps.getD t undef = f t := h.get t

theorem ret0 {fn : Func} {R : Ending → World → Prop} (hr : fn.results = #[]) (h : ∀ w, St β L w → R (.returned (.tuple #[])) w) : Fin n [] β (bodyPost P fn R) .ret f L :=
  fun _ w ha hw => bodyPost_ret (results_none hr _ _ _) ha.defers (h w hw)
theorem end0 {fn : Func} {R : Ending → World → Prop} (hr : fn.results = #[]) (h : ∀ w, St β L w → R (.returned (.tuple #[])) w) : Fin n [] β (bodyPost P fn R) .normal f L :=
  fun _ w ha hw => bodyPost_end (results_none hr _ _ _) ha.defers (h w hw)
theorem ret1 {fn : Func} {R : Ending → World → Prop} {t : Nat} {v : Value} (hr : fn.results = #[.tmp t]) (hv : f t = v) (h : ∀ w, St β L w → R (.returned v) w) : Fin n [] β (bodyPost P fn R) .ret f L :=
  fun _ w ha hw => bodyPost_ret (v := v) (by rw [results_tmp hr, ha.result, hv]) ha.defers (h w hw)
theorem ret2 {fn : Func} {R : Ending → World → Prop} {t u : Nat} {v v' : Value} (hr : fn.results = #[.tmp t, .tmp u]) (hv : f t = v) (hv' : f u = v') (h : ∀ w, St β L w → R (.returned (.tuple #[v, v'])) w) : Fin n [] β (bodyPost P fn R) .ret f L :=
  fun _ w ha hw => bodyPost_ret (v := .tuple #[v, v']) (by rw [results_tmp2 hr, ha.result, ha.result, hv, hv']) ha.defers (h w hw)
theorem results_tmp3 {fn : Func} {t u s : Tmp} (h : fn.results = #[.tmp t, .tmp u, .tmp s]) (tmps : Array Value) (w : World) :
    (results fn tmps).run P w = .ok (.tuple #[tmps.getD t undef, tmps.getD u undef, tmps.getD s undef]) w := by
  simp [results, h]
theorem ret3 {fn : Func} {R : Ending → World → Prop} {t u s : Nat} {v v' v'' : Value} (hr : fn.results = #[.tmp t, .tmp u, .tmp s]) (hv : f t = v) (hv' : f u = v') (hv'' : f s = v'') (h : ∀ w, St β L w → R (.returned (.tuple #[v, v', v''])) w) :
    Fin n [] β (bodyPost P fn R) .ret f L :=
  fun _ w ha hw => bodyPost_ret (v := .tuple #[v, v', v'']) (by rw [results_tmp3 hr, ha.result, ha.result, ha.result, hv, hv', hv'']) ha.defers (h w hw)
end
end Go.Sl
