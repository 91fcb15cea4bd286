/-
  Frames as functions, worlds by their resources: the walk's rules in that form. Own work; plain Lean.
-/
import Derived.Test.YtbfidhbcojbklaaGreatSlCore
import Derived.TacticsInMore
import Derived.OwnWalkIn
import Derived.LoopIn
namespace Go.Sl
open Go.RowKit

abbrev Fm := Nat → Value
def upd (f : Fm) (d : Nat) (v : Value) : Fm := fun i => match Nat.beq i d with | true => v | false => f i

def ev (f : Fm) : Operand → Value
  | .tmp t => f t
  | .const v => v
  | .global g => .pointer (some ⟨g, 0, none⟩)
  | .func f => .func (.func f) #[] #[]

structure At (n : Nat) (ds : List Deferred) (f : Fm) (a : Act) : Prop where
  defers : a.defers = ds
  size : a.tmps.size = n
  get : ∀ i, a.tmps.getD i undef = f i

theorem At.eval {n : Nat} {ds : List Deferred} {f : Fm} {a : Act} (h : At n ds f a) : a.eval = ev f := by
  funext x
  cases x with
  | tmp t => exact h.get t
  | const v => rfl
  | global g => rfl
  | func g => rfl

theorem At.put {n : Nat} {ds : List Deferred} {f : Fm} {a : Act} (h : At n ds f a) {d : Nat} (hd : Nat.blt d n = true) (v : Value) : At n ds (upd f d v) (a.put (some d) v) := by
  have hd' : d < n := by simpa [Nat.blt_eq] using hd
  refine ⟨h.defers, by simp [Act.put, h.size], fun i => ?_⟩
  have hg := h.get i
  have hs := h.size
  simp only [Act.put, upd]
  by_cases e : i = d
  · subst e
    simp [Array.getD_eq_getD_getElem?, hs, hd', Nat.beq_refl]
  · have e' : Nat.beq i d = false := by
      cases hb : Nat.beq i d with
      | false => rfl
      | true => exact absurd (Nat.eq_of_beq_eq_true hb) e
    rw [e']
    rw [← hg]
    simp only [Array.getD_eq_getD_getElem?, Array.getElem?_setIfInBounds]
    rw [if_neg (by omega)]

def initF (args : Array Value) : Fm := fun i => args.getD i undef

/-- No fence; in the round of a range over a function, or in none. -/
def Fe (r : Option Nat) : Fence := { fn := fun _ => True, depth := none, alive := false, round := r }
theorem fe_none : Fe none = Fence.wide := rfl

section
variable (P : Program) (ro : Option Nat) (n : Nat) (ds : List Deferred) (β : Base)

def RunL (ops : Array Oper) (Q : Exit → Act → World → Prop) (rest : List Oper) (f : Fm) (L : List Res) : Prop :=
  ∀ a w, At n ds f a → St β L w → wpListIn (Fe ro) 3 P ops Q rest a w
def RunC (c : Code) (Q : Exit → Act → World → Prop) (f : Fm) (L : List Res) : Prop :=
  ∀ a w, At n ds f a → St β L w → c.wpIn (Fe ro) 3 P Q a w
def Fin (Q : Exit → Act → World → Prop) (e : Exit) (f : Fm) (L : List Res) : Prop :=
  ∀ a w, At n ds f a → St β L w → Q e a w
/-- One operation, at a frame and a world. -/
def Step1 (o : Oper) (Q : Exit → Act → World → Prop) (K : Act → World → Prop) (f : Fm) (L : List Res) : Prop :=
  ∀ a w, At n ds f a → St β L w → o.wpIn (Fe ro) 3 P a w K Q
end

section rules
variable {P : Program} {ro : Option Nat} {n : Nat} {ds : List Deferred} {β : Base} {Q : Exit → Act → World → Prop} {f : Fm} {L : List Res} {ops : Array Oper} {rest : List Oper}

theorem l_nil (h : Fin n ds β Q .normal f L) : RunL P ro n ds β ops Q [] f L := fun a w ha hw => wpListIn_nil (h a w ha hw)

theorem l_step {o : Oper} (hg : o.guard = none) (h : Step1 P ro n ds β o Q (wpListIn (Fe ro) 3 P ops Q rest) f L) : RunL P ro n ds β ops Q (o :: rest) f L := by
  intro a w ha hw
  unfold wpListIn
  rw [if_pos (by simp [Region.wanted, hg])]
  exact h a w ha hw

theorem callsIn_fe {ro : Option Nat} {m : Nat} {g : FuncId} {args : Array Value} {w : World} {R : Ending → World → Prop} : CallsIn (Fe ro) m P g args w R ↔ Calls P g args w R := callsIn_wide (n := m)

theorem semAt_of {ρ : Operand → Value} {o : Oper} {w w' : World} {x : Next} (h : (execOp ρ o).run P w = .ok x w') (hx : ∀ d, x ≠ .defer d) : o.semAt ro ρ = execOp ρ o := by
  refine Oper.semAt_eq ro ρ o fun c hc => ?_
  simp only [execOp, hc, Sem.run_bind] at h
  cases hr : (resolve ρ c o.type).run P w with
  | ok d w1 => rw [hr] at h; simp at h; exact hx d h.1.symm
  | halt x w1 => rw [hr] at h; simp at h

/-- What a guard asks of the frame. -/
def gd (ops : Array Oper) (f : Fm) (j : Nat) : Option Bool :=
  match (ops[j]?).bind (·.dst) with
  | none => none
  | some d => match f d with | .bool b => some b | _ => none

theorem At.yielded {a : Act} (h : At n ds f a) (ops : Array Oper) (j : Nat) (b : Bool) (d : Nat) (ho : (ops[j]?).bind (·.dst) = some d) (hf : f d = .bool b) : Go.yielded ops a.tmps j = some b := by
  have hg := h.get d
  rw [hf] at hg
  unfold Go.yielded
  have ht : a.tmps[d]? = some (.bool b) := by
    rw [Array.getD_eq_getD_getElem?] at hg
    cases hx : a.tmps[d]? with
    | none => rw [hx] at hg; simp [undef] at hg
    | some x => rw [hx] at hg; simp at hg; rw [hg]
  simp [ho, ht]

theorem l_take {o : Oper} {j d : Nat} {b : Bool} (hg : o.guard = some (j, b)) (ho : (ops[j]?).bind (·.dst) = some d) (hf : f d = .bool b)
    (h : Step1 P ro n ds β o Q (wpListIn (Fe ro) 3 P ops Q rest) f L) : RunL P ro n ds β ops Q (o :: rest) f L := by
  intro a w ha hw
  have hy := ha.yielded ops j b d ho hf
  unfold wpListIn
  rw [if_pos (by simp [Region.wanted, hg, hy])]
  exact h a w ha hw

theorem l_skip {o : Oper} {j d e : Nat} {b b' : Bool} (hg : o.guard = some (j, b')) (ho : (ops[j]?).bind (·.dst) = some d) (hf : f d = .bool b) (hb : (b == b') = false)
    (hd : o.dst = some e) (he : Nat.blt e n = true) (h : RunL P ro n ds β ops Q rest (upd f e undef) L) : RunL P ro n ds β ops Q (o :: rest) f L := by
  intro a w ha hw
  have hy := ha.yielded ops j b d ho hf
  unfold wpListIn
  rw [if_neg (by simp [Region.wanted, hg, hy]; simpa using hb), hd]
  exact ⟨fun _ _ => trivial, h _ w (ha.put he undef) hw⟩

theorem l_skip_u {o : Oper} {j d e : Nat} {b' : Bool} (hg : o.guard = some (j, b')) (ho : (ops[j]?).bind (·.dst) = some d) (hf : f d = undef)
    (hd : o.dst = some e) (he : Nat.blt e n = true) (h : RunL P ro n ds β ops Q rest (upd f e undef) L) : RunL P ro n ds β ops Q (o :: rest) f L := by
  intro a w ha hw
  have hy : Go.yielded ops a.tmps j = none := by
    have hg := ha.get d
    rw [hf] at hg
    unfold Go.yielded
    rw [Array.getD_eq_getD_getElem?] at hg
    cases hx : a.tmps[d]? with
    | none => simp [ho, hx]
    | some x => rw [hx] at hg; simp at hg; subst hg; simp [ho, hx, undef]
  unfold wpListIn
  rw [if_neg (by simp [Region.wanted, hg, hy]), hd]
  exact ⟨fun _ _ => trivial, h _ w (ha.put he undef) hw⟩

/-- an operation that gives a value and turns no memory -/
theorem s_val {o : Oper} {d : Nat} {v : Value} (hd : o.dst = some d) (hn : Nat.blt d n = true) (hv : ∀ w, St β L w → (execOp (ev f) o).run P w = .ok (.value v) w)
    (k : RunL P ro n ds β ops Q rest (upd f d v) L) : Step1 P ro n ds β o Q (wpListIn (Fe ro) 3 P ops Q rest) f L := by
  intro a w ha hw
  refine ⟨fun _ _ => trivial, ?_⟩
  have h := hv w hw
  rw [ha.eval, semAt_of h (by simp), h, Oper.uponIn_value, hd]
  exact k _ w (ha.put hn v) hw

/-- an operation that gives a value and turns memory -/
theorem s_mem {o : Oper} {d : Nat} (hd : o.dst = some d) (hn : Nat.blt d n = true)
    (hv : ∀ w, St β L w → ∃ v w' L', (execOp (ev f) o).run P w = .ok (.value v) w' ∧ St β L' w' ∧ RunL P ro n ds β ops Q rest (upd f d v) L') : Step1 P ro n ds β o Q (wpListIn (Fe ro) 3 P ops Q rest) f L := by
  intro a w ha hw
  obtain ⟨v, w', L', hr, hw', k⟩ := hv w hw
  refine ⟨fun _ _ => trivial, ?_⟩
  rw [ha.eval, semAt_of hr (by simp), hr, Oper.uponIn_value, hd]
  exact k _ w' (ha.put hn v) hw'

/-- an operation that gives no value -/
theorem s_unit {o : Oper} (hd : o.dst = none)
    (hv : ∀ w, St β L w → ∃ w' L', (execOp (ev f) o).run P w = .ok .skip w' ∧ St β L' w' ∧ RunL P ro n ds β ops Q rest f L') : Step1 P ro n ds β o Q (wpListIn (Fe ro) 3 P ops Q rest) f L := by
  intro a w ha hw
  obtain ⟨w', L', hr, hw', k⟩ := hv w hw
  refine ⟨fun _ _ => trivial, ?_⟩
  rw [ha.eval, semAt_of hr (by simp), hr, Oper.uponIn_skip, hd]
  exact k _ w' ha hw'

/-- a call of a function -/
theorem s_call {o : Oper} {d : Nat} {g : FuncId} {args : Array Value} (hd : o.dst = some d) (hn : Nat.blt d n = true)
    (he : ∀ w, (execOp (ev f) o).run P w = .ok (.enter g args) w)
    (hc : ∀ w, St β L w → Calls P g args w fun e w' => ∃ v, e = .returned v ∧ ∃ L', St β L' w' ∧ RunL P ro n ds β ops Q rest (upd f d v) L') : Step1 P ro n ds β o Q (wpListIn (Fe ro) 3 P ops Q rest) f L := by
  intro a w ha hw
  refine ⟨fun _ _ => trivial, ?_⟩
  rw [ha.eval, semAt_of (he w) (by simp), he w, Oper.uponIn_enter, hd]
  refine ⟨fun h => by simp [Fe] at h, CallsIn.mono (callsIn_fe.2 (hc w hw)) ?_⟩
  rintro e w' ⟨v, rfl, L', hw', k⟩
  exact k _ w' (ha.put hn v) hw'

/-- a call whose results nobody takes -/
theorem s_call0 {o : Oper} {g : FuncId} {args : Array Value} (hd : o.dst = none)
    (he : ∀ w, (execOp (ev f) o).run P w = .ok (.enter g args) w)
    (hc : ∀ w, St β L w → Calls P g args w fun e w' => ∃ v, e = .returned v ∧ ∃ L', St β L' w' ∧ RunL P ro n ds β ops Q rest f L') : Step1 P ro n ds β o Q (wpListIn (Fe ro) 3 P ops Q rest) f L := by
  intro a w ha hw
  refine ⟨fun _ _ => trivial, ?_⟩
  rw [ha.eval, semAt_of (he w) (by simp), he w, Oper.uponIn_enter, hd]
  refine ⟨fun h => by simp [Fe] at h, CallsIn.mono (callsIn_fe.2 (hc w hw)) ?_⟩
  rintro e w' ⟨v, rfl, L', hw', k⟩
  exact k _ w' ha hw'

/-! The code's own rules. -/

theorem c_region {id : Nat} {l : List Oper} (h : RunL P ro n ds β l.toArray Q l f L) : RunC P ro n ds β (.region id l.toArray false) Q f L :=
  fun a w ha hw => wpIn_region_lit (h a w ha hw)
theorem c_seq {x y : Code} (h : RunC P ro n ds β x (Exit.then (y.wpIn (Fe ro) 3 P Q) Q) f L) : RunC P ro n ds β (.seq x y) Q f L := fun a w ha hw => wpIn_seq (h a w ha hw)
theorem c_skip (h : Fin n ds β Q .normal f L) : RunC P ro n ds β .skip Q f L := fun a w ha hw => wpIn_skip (h a w ha hw)
theorem c_ret (h : Fin n ds β Q .ret f L) : RunC P ro n ds β .ret Q f L := fun a w ha hw => wpIn_ret (h a w ha hw)
theorem c_exit {id : Nat} (h : Fin n ds β Q (.exit id) f L) : RunC P ro n ds β (.exit id) Q f L := fun a w ha hw => wpIn_exit (h a w ha hw)
theorem c_block {id : Nat} {c : Code} (h : RunC P ro n ds β c (Exit.inBlock id Q) f L) : RunC P ro n ds β (.block id c) Q f L := fun a w ha hw => wpIn_block (h a w ha hw)
theorem c_if {c : Operand} {x y : Code} (p : Prop) [Decidable p] (hc : ev f c = .bool (decide p)) (ht : p → RunC P ro n ds β x Q f L) (hf : ¬ p → RunC P ro n ds β y Q f L) :
    RunC P ro n ds β (.cond c x y) Q f L := fun a w ha hw => by
  have e : a.eval c = .bool (decide p) := by rw [ha.eval]; exact hc
  by_cases hp : p
  · exact wpIn_cond_true (by rw [e, decide_eq_true hp]) (ht hp a w ha hw)
  · exact wpIn_cond_false (by rw [e, decide_eq_false hp]) (hf hp a w ha hw)
theorem c_ifb {c : Operand} {x y : Code} (b : Bool) (hc : ev f c = .bool b) (ht : b = true → RunC P ro n ds β x Q f L) (hf : b = false → RunC P ro n ds β y Q f L) :
    RunC P ro n ds β (.cond c x y) Q f L := fun a w ha hw => by
  have e : a.eval c = .bool b := by rw [ha.eval]; exact hc
  cases b
  · exact wpIn_cond_false e (hf rfl a w ha hw)
  · exact wpIn_cond_true e (ht rfl a w ha hw)
theorem c_yes {c : Operand} {x y : Code} (hc : ev f c = .bool true) (ht : RunC P ro n ds β x Q f L) : RunC P ro n ds β (.cond c x y) Q f L := fun a w ha hw =>
  wpIn_cond_true (by rw [ha.eval]; exact hc) (ht a w ha hw)
theorem c_no {c : Operand} {x y : Code} (hc : ev f c = .bool false) (hf : RunC P ro n ds β y Q f L) : RunC P ro n ds β (.cond c x y) Q f L := fun a w ha hw =>
  wpIn_cond_false (by rw [ha.eval]; exact hc) (hf a w ha hw)

theorem f_then {y : Code} (h : RunC P ro n ds β y Q f L) : Fin n ds β (Exit.then (y.wpIn (Fe ro) 3 P Q) Q) .normal f L := h
theorem f_block {id : Nat} (h : Fin n ds β Q .normal f L) : Fin n ds β (Exit.inBlock id Q) .normal f L := h
theorem f_exit {id : Nat} (h : Fin n ds β Q .normal f L) : Fin n ds β (Exit.inBlock id Q) (.exit id) f L := fun a w ha hw => by
  simp only [Exit.inBlock, if_true]; exact h a w ha hw
theorem f_exit_other {id id' : Nat} (hne : Nat.beq id id' = false) (h : Fin n ds β Q (.exit id) f L) : Fin n ds β (Exit.inBlock id' Q) (.exit id) f L := fun a w ha hw => by
  have : id ≠ id' := by rintro rfl; simp at hne
  simp only [Exit.inBlock, if_neg this]; exact h a w ha hw
theorem f_then_exit {K : Act → World → Prop} {id : Nat} (h : Fin n ds β Q (.exit id) f L) : Fin n ds β (Exit.then K Q) (.exit id) f L := h
theorem f_then_ret {K : Act → World → Prop} (h : Fin n ds β Q .ret f L) : Fin n ds β (Exit.then K Q) .ret f L := h
theorem f_block_ret {id : Nat} (h : Fin n ds β Q .ret f L) : Fin n ds β (Exit.inBlock id Q) .ret f L := h

/-- What is behind a cut: all frames and resources that it admits. -/
def Cut (n : Nat) (ds : List Deferred) (β : Base) (J : Fm → List Res → Prop) (a : Act) (w : World) : Prop := ∃ f L, J f L ∧ At n ds f a ∧ St β L w

theorem f_cut {J : Fm → List Res → Prop} (h : J f L) : Fin n ds β (Exit.then (Cut n ds β J) Q) .normal f L := fun _ _ ha hw => ⟨f, L, h, ha, hw⟩

/-- Two parts of a sequence, with a cut between. -/
theorem c_seq_cut {x y : Code} (J : Fm → List Res → Prop) (hx : RunC P ro n ds β x (Exit.then (Cut n ds β J) Q) f L) (hy : ∀ f' L', J f' L' → RunC P ro n ds β y Q f' L') :
    RunC P ro n ds β (.seq x y) Q f L := fun a w ha hw =>
  wpIn_seq (wpIn_mono (hx a w ha hw) fun e a' w' hq => by
    cases e with
    | normal => obtain ⟨f', L', hJ, ha', hw'⟩ := hq; exact hy f' L' hJ a' w' ha' hw'
    | _ => exact hq)

/-- A loop: what holds at each round's head, for some ghost; a measure of the ghost goes down. -/
theorem c_loop {c : Code} {α : Type} (I : α → Fm → List Res → Prop) (μ : α → Nat) (x₀ : α) (h₀ : I x₀ f L)
    (round : ∀ x f' L', I x f' L' → RunC P ro n ds β c (Exit.then (Cut n ds β fun f'' L'' => ∃ y, I y f'' L'' ∧ μ y < μ x) Q) f' L') : RunC P ro n ds β (.loop c) Q f L := by
  have key : ∀ m x f' L' a w, μ x = m → I x f' L' → At n ds f' a → St β L' w →
      ∀ (b : Frame) (k : List Item) (cs : List Frame), b.roundOf = (Fe ro).round → (Fe ro).fn b.fn → (Fe ro).room (cs.length + 1 + 3) →
      ∃ e a' w', Q e a' w' ∧ ArrivesIn (Machine.fenced P (Fe ro)) P (lone (b.atR a (.code c :: .inLoop c :: k)) cs w) b k cs e a' w' := by
    intro m
    induction m using Nat.strongRecOn with
    | _ m ih =>
      intro x f' L' a w hm hI ha hw b k cs hro hb hr
      obtain ⟨e, a₁, w₁, hq, harr⟩ := round x f' L' hI a w ha hw b (.inLoop c :: k) cs hro hb hr
      cases e with
      | normal =>
        obtain ⟨f'', L'', ⟨y, hy, hlt⟩, ha', hw'⟩ := hq
        obtain ⟨e₂, a₂, w₂, hq₂, harr₂⟩ := ih (μ y) (hm ▸ hlt) y f'' L'' a₁ w₁ rfl hy ha' hw' b k cs hro hb hr
        exact ⟨e₂, a₂, w₂, hq₂, .of_steps (StepsIn.trans harr (.one (fenced_calm (fr := b.atR a₁ (.inLoop c :: k)) hb hr rfl) stepR_inLoop)) harr₂⟩
      | exit id => exact ⟨_, a₁, w₁, hq, .pass (x := .inLoop c) rfl (fun _ _ => .inl (by simp)) harr⟩
      | goto l => exact ⟨_, a₁, w₁, hq, .pass (x := .inLoop c) rfl (fun _ _ => .inl (by simp)) harr⟩
      | ret => exact ⟨_, a₁, w₁, hq, .pass (x := .inLoop c) rfl (fun _ _ => .inl (by simp)) harr⟩
      | panic ch => exact ⟨_, a₁, w₁, hq, .pass (x := .inLoop c) rfl (fun _ _ => .inl (by simp)) harr⟩
      | outgrown => exact ⟨_, a₁, w₁, hq, .pass (x := .inLoop c) rfl (fun _ _ => .inl (by simp)) harr⟩
  intro a w ha hw b k cs hro hb hr
  obtain ⟨e, a', w', hq, harr⟩ := key _ x₀ f L a w rfl h₀ ha hw b k cs hro hb hr
  exact ⟨e, a', w', hq, .of_steps (.one (fenced_calm (fr := b.atR a (.code (.loop c) :: k)) hb hr rfl) stepR_loop) harr⟩

end rules
end Go.Sl
