/-
  Panics that pass through; regions that draw their order but for a last operation, which may do anything; pure facts and bundles as resources. Own work; plain Lean.
-/
import Derived.Test.YtkpdcajddpiknaaSlFam
import Derived.Recover
import Derived.Laws.Pointers
import Derived.Laws.Cover3
namespace Go.Sl

section
variable {P : Program} {ro : Option Nat} {n : Nat} {ds : List Deferred} {β : Base} {Q : Exit → Act → World → Prop} {f : Fm} {L : List Res} {ops : Array Oper} {rest : List Oper}
variable {d : Option Tmp} {ty : TypeId} {ps : String} {af : Array Edge} {g : Option (Nat × Bool)}

/-! Panics. -/
theorem s_callP {o : Oper} {d : Nat} {g : FuncId} {args : Array Value} (hd : o.dst = some d) (hn : Nat.blt d n = true)
    (he : ∀ w, (execOp (ev f) o).run P w = .ok (.enter g args) w)
    (hc : ∀ w, St β L w → Calls P g args w fun e w' => (∃ ch, e = .panicked ch ∧ ∃ L', St β L' w' ∧ Fin n ds β Q (.panic ch) f L') ∨ (∃ v, e = .returned v ∧ ∃ L', St β L' w' ∧ RunL P ro n ds β ops Q rest (upd f d v) L')) :
    Step1 P ro n ds β o Q (wpListIn (Fe ro) 3 P ops Q rest) f L := by
  intro a w ha hw
  refine ⟨fun _ _ => trivial, ?_⟩
  rw [ha.eval, semAt_of (he w) (by simp), he w, Oper.uponIn_enter, hd]
  refine ⟨fun h => by simp [Fe] at h, CallsIn.mono (callsIn_fe.2 (hc w hw)) ?_⟩
  rintro e w' (⟨ch, rfl, L', hw', k⟩ | ⟨v, rfl, L', hw', k⟩)
  · exact k _ w' ha hw'
  · exact k _ w' (ha.put hn v) hw'
theorem l_callP {o : Oper} {d : Nat} {g : FuncId} {args : Array Value} (hgd : o.guard = none) (hd : o.dst = some d) (hn : Nat.blt d n = true) (he : CL P f o g args)
    (hc : ∀ w, St β L w → Calls P g args w fun e w' => (∃ ch, e = .panicked ch ∧ ∃ L', St β L' w' ∧ Fin n ds β Q (.panic ch) f L') ∨ (∃ v, e = .returned v ∧ ∃ L', St β L' w' ∧ RunL P ro n ds β ops Q rest (upd f d v) L')) : RunL P ro n ds β ops Q (o :: rest) f L :=
  l_step hgd (s_callP hd hn he hc)
theorem l_panic {x : Operand} {t : TypeId} {v : Value} (hx : ev f x = .iface t v) (k : Fin n ds β Q (.panic [{ v := .iface t v, recovered := false }]) f L) : RunL P ro n ds β ops Q (⟨d, .panic x, ty, ps, af, none⟩ :: rest) f L := by
  refine l_step rfl fun a w ha hw => ⟨fun _ _ => trivial, ?_⟩
  have hr : (execOp (ev f) ⟨d, .panic x, ty, ps, af, none⟩).run P w = .halt (.panic (.iface t v)) w := by simp [execOp, hx, Instr.panic]
  have hs : (Oper.semAt ro (ev f) ⟨d, .panic x, ty, ps, af, none⟩) = execOp (ev f) ⟨d, .panic x, ty, ps, af, none⟩ := Oper.semAt_eq ro _ _ fun c hc => by cases hc
  rw [ha.eval, show (Fe ro).round = ro from rfl, hs, hr, Oper.uponIn_panic]
  exact k a w ha hw
theorem f_then_panic {K : Act → World → Prop} {ch : List PanicEntry} (h : Fin n ds β Q (.panic ch) f L) : Fin n ds β (Exit.then K Q) (.panic ch) f L := h
theorem f_block_panic {id : Nat} {ch : List PanicEntry} (h : Fin n ds β Q (.panic ch) f L) : Fin n ds β (Exit.inBlock id Q) (.panic ch) f L := h
theorem panR {fn : Func} {R : Ending → World → Prop} {ch : List PanicEntry} (h : ∀ w, St β L w → R (.panicked ch) w) : Fin n [] β (bodyPost P fn R) (.panic ch) f L :=
  fun _ w ha hw => ⟨ha.defers, h w hw⟩

/-! Facts that need no memory. -/
def Pr (φ : Prop) : Res := fun _ => φ
theorem St.pr {φ : Prop} {w : World} (hφ : φ) (h : St β L w) : St β (Pr φ :: L) w := h.emp hφ
theorem c_fact {c : Code} {φ : Prop} (hk : Knows β L fun _ => φ) (k : φ → RunC P ro n ds β c Q f L) : RunC P ro n ds β c Q f L := fun a w ha hw => k (hw.knows hk) a w ha hw

/-! Bundles. -/
theorem St.unbun {M : List Res} {w : World} (h : St β (Sat L :: M) w) : St β (L ++ M) w := by
  obtain ⟨ho, ht, hp, a, hd, hs, hs', hL⟩ := h
  exact ⟨ho, ht, hp, a, hd, hs, hs', Sat.append.2 hL⟩
/-- a resource that is some other one, for some x -/
theorem St.ex {α : Type} {r : α → Res} {M : List Res} {w : World} (h : St β ((fun a => ∃ x, r x a) :: M) w) : ∃ x, St β (r x :: M) w := by
  obtain ⟨ho, ht, hp, a, hd, hs, hs', p, q, h1, h2, h3, ⟨x, hx⟩, h5⟩ := h
  exact ⟨x, ho, ht, hp, a, hd, hs, hs', p, q, h1, h2, h3, hx, h5⟩
theorem c_ex {c : Code} {α : Type} {r : α → Res} {M : List Res} (hL : L = (fun a => ∃ x, r x a) :: M) (k : ∀ x, RunC P ro n ds β c Q f (r x :: M)) : RunC P ro n ds β c Q f L := fun a w ha hw => by
  subst hL
  obtain ⟨x, hx⟩ := hw.ex
  exact k x a w ha hx
theorem c_unbun {c : Code} {K M : List Res} (hL : L = Sat K :: M) (k : RunC P ro n ds β c Q f (K ++ M)) : RunC P ro n ds β c Q f L := fun a w ha hw => by
  subst hL; exact k a w ha hw.unbun
theorem c_conseq {c : Code} {r r' : Res} (i : Nat) (hi : L[i]? = some r) (hr : ∀ a, r a → r' a) (k : RunC P ro n ds β c Q f (L.set i r')) : RunC P ro n ds β c Q f L := fun a w ha hw => k a w ha (hw.conseq_at i hi hr)
/-! Pointers and slices against nil. -/
theorem e_eql_pnil {t t' : TypeId} {x y : Operand} {p : Option Addr} (hx : ev f x = .pointer p) (hy : ev f y = .pointer none) (h : P.underlying t = some (.pointer (P.pointee t))) : EV P β L f ⟨d, .binOp .eql t x y t', ty, ps, af, g⟩ (.bool p.isNone) := fun w _ => by
  simp [execOp, hx, hy, eqGuard, run_eql_pointer_nil w t p h]
theorem e_neq_pnil {t t' : TypeId} {x y : Operand} {p : Option Addr} (hx : ev f x = .pointer p) (hy : ev f y = .pointer none) (h : P.underlying t = some (.pointer (P.pointee t))) : EV P β L f ⟨d, .binOp .neq t x y t', ty, ps, af, g⟩ (.bool (!p.isNone)) := fun w _ => by
  simp [execOp, hx, hy, eqGuard, run_neq_pointer_nil w t p h]
theorem e_eql_snil {t t' e : TypeId} {x y : Operand} {a : Option Addr} {l c : Nat} (hx : ev f x = .slice a l c) (hy : ev f y = .slice none 0 0) (h : P.underlying t = some (.slice e)) : EV P β L f ⟨d, .binOp .eql t x y t', ty, ps, af, g⟩ (.bool a.isNone) := fun w _ => by
  have hb : (binOp .eql t (.slice a l c) (.slice none 0 0)).run P w = .ok (.bool a.isNone) w := by
    simp only [binOp]
    simp [run_equal_slice_nil w t e a l c h]
  simp [execOp, hx, hy, eqGuard, hb]
theorem str_dec (a b : ByteArray) : (a.toList == b.toList) = decide (a = b) := by
  rw [ByteArray.toList_eq, ByteArray.toList_eq]
  by_cases h : a = b
  · subst h; simp
  · have hne : a.data.toList ≠ b.data.toList := fun e => h (ByteArray.ext (Array.toList_inj.1 e))
    rw [decide_eq_false h]
    simpa using hne
theorem e_eql_s {t t' : TypeId} {x y : Operand} {a b : ByteArray} (hx : ev f x = .string a) (hy : ev f y = .string b) : EV P β L f ⟨d, .binOp .eql t x y t', ty, ps, af, g⟩ (.bool (decide (a = b))) := fun w _ => by
  simp [execOp, hx, hy, eqGuard, binOp, Op.stringOp, str_dec]
theorem e_neq_s {t t' : TypeId} {x y : Operand} {a b : ByteArray} (hx : ev f x = .string a) (hy : ev f y = .string b) : EV P β L f ⟨d, .binOp .neq t x y t', ty, ps, af, g⟩ (.bool (decide (a ≠ b))) := fun w _ => by
  have e : (!decide (a = b)) = decide (a ≠ b) := by by_cases h : a = b <;> simp [h]
  simp [execOp, hx, hy, eqGuard, binOp, Op.stringOp, str_dec]
theorem e_not64 {t : TypeId} {x : Operand} {a : UInt64} (hx : ev f x = Ux a) : EV P β L f ⟨d, .unOp .xor t x, ty, ps, af, g⟩ (Ux (~~~a)) := fun w _ => by
  have h1 : (Op.intBits BinOp.xor IntKind.u64 (if IntKind.u64.signed = true then -1 else IntKind.u64.max) (a.toNat : Int)).run P w = .ok (Ux (~~~a)) w := by
    have e : (IntKind.u64.max : Int) = ((18446744073709551615 : UInt64).toNat : Int) := by decide
    have e2 : (18446744073709551615 : UInt64) ^^^ a = ~~~a := by
      apply UInt64.toBitVec_inj.1
      simp
      exact BitVec.allOnes_xor
    have h := ux_xor 18446744073709551615 a
    rw [e2] at h
    rw [if_neg (by decide), e]
    simp only [Op.intBits]
    exact congrArg (fun z => Result.ok (Value.int IntKind.u64 z) w) h
  simp [execOp, hx, Op.unary, h1]

def lastAnc (sps : List Sp) (N : Nat) : Bool := (List.range N).all fun j => mem j (ancOf sps N)
theorem lastAnc_mem {sps : List Sp} {N j : Nat} (h : lastAnc sps N = true) (hj : j < N) : j ∈ ancOf sps N := mem_iff.1 (List.all_eq_true.1 h j (List.mem_range.2 hj))
def tokLt (t : Tok) (N : Nat) : Bool := oall t.prod (Nat.blt · N) && oall t.cons (Nat.blt · N)
end

section
variable {P : Program} {ro : Option Nat} {n : Nat} {ds : List Deferred} {β : Base} {Q : Exit → Act → World → Prop}
theorem inv_last {opsA : List Oper} {oN : Oper} {ops : List Oper} {sps : List Sp} {toks : List Tok} {ini : List (Nat × Value)} {fin : List Nat} {M : List Res}
    (hA : ops = opsA ++ [oN]) (hal : lastAnc sps opsA.length = true) (hno : toks.all (fun t => tokLt t opsA.length) = true) (h1 : chkOps ops sps ini = true) (h2 : toks.all (chkTok ops sps) = true) (ho : Obs P ro n ds β ops sps toks ini opsA 0) (hf : fin.all (finOk ops ini) = true)
    (hQ : ∀ f', KEv sps f' (sps.take opsA.length) → IAll ini fin f' → RunL P ro n ds β ops.toArray Q [oN] f' (rs (lastT toks) f' ++ M)) :
    ∀ (fuel : Nat) (listed : Array Bool) (f : Fm) (a : Act) (w : World), listed.size = ops.length → ((List.range ops.length).filter (fun j => !listed.getD j false)).length ≤ fuel →
      Inv ops sps toks ini n ds β M (fun j => listed.getD j false) f a w → listed.getD opsA.length false = false → wpAnyIn (Fe ro) 3 P .any ops.toArray Q fuel listed a w := by
  have hc := h1
  simp only [chkOps, Bool.and_eq_true] at hc
  obtain ⟨⟨hlen, hops⟩, hsps⟩ := hc
  have hlen := Nat.eq_of_beq_eq_true hlen
  have hop : ∀ {i : Nat} {o : Oper}, ops[i]? = some o → (∀ e ∈ o.after, Region.binds .any e = true → e.on < i) ∧ ∀ j ∈ ancOf sps i, behind sps o j = true := by
    intro i o hi
    have := allI_get hops hi
    simp only [Nat.zero_add, Bool.and_eq_true, List.all_eq_true] at this
    exact ⟨fun e he hb => by have := this.1 e (by simpa using he); rw [hb] at this; simpa using this, this.2⟩
  have hsp : ∀ {i : Nat} {s : Sp}, sps[i]? = some s → (∀ j ∈ s.need, j ∈ s.anc) ∧ (∀ x ∈ s.ini, ∀ p, ini[x]? = some p → iniOk ops sps i p.1 = true) ∧ (∀ t ∈ s.sl, ∀ (j : Nat) o, ops[j]? = some o → o.dst = some t → j = i ∨ j ∈ s.anc) := by
    intro i s hi
    have := allI_get hsps hi
    simp only [Nat.zero_add, Bool.and_eq_true, List.all_eq_true] at this
    refine ⟨fun j hj => mem_iff.1 (this.1.1 j hj), fun x hx p hp => ?_, fun t hts j o hj hd => ?_⟩
    · have := this.1.2 x hx; rw [hp] at this; exact this
    · have := allI_get (this.2 t hts) hj
      simp only [Nat.zero_add, isD_iff.2 hd, Bool.not_true, Bool.false_or, Bool.or_eq_true] at this
      rcases this with h | h
      · exact .inl (Nat.eq_of_beq_eq_true h)
      · exact .inr (mem_iff.1 h)
  have hN : ops.length = opsA.length + 1 := by rw [hA]; simp
  have hoN : ops[opsA.length]? = some oN := by rw [hA]; simp
  have done : ∀ (listed : Array Bool) (f : Fm) (a : Act) (w : World), (∀ j, j < opsA.length → listed.getD j false = true) → listed.getD opsA.length false = false → Inv ops sps toks ini n ds β M (fun j => listed.getD j false) f a w →
      wpListIn (Fe ro) 3 P ops.toArray Q [oN] a w := by
    intro listed f a w hall hlN I
    have hK : KEv sps f (sps.take opsA.length) := KEv.of fun s hs => by
      obtain ⟨j, hj⟩ := List.getElem?_of_mem hs
      have hjl : j < opsA.length := by
        have := (List.getElem?_eq_some_iff.1 hj).1
        simp at this; omega
      rw [List.getElem?_take_of_lt hjl] at hj
      exact I.k j s hj (hall j hjl)
    have hI : IAll ini fin f := IAll.of fun x hx p hp => by
      refine I.ini p (List.mem_of_getElem? hp) fun j o hj _ hd => ?_
      have := List.all_eq_true.1 hf x hx
      unfold finOk at this; rw [hp] at this
      have := List.all_eq_true.1 this o (List.mem_of_getElem? hj)
      rw [isD_iff.2 hd] at this; cases this
    have hT : toks.filter (actT fun j => listed.getD j false) = lastT toks := by
      refine List.filter_congr fun t hm => ?_
      have hlt := List.all_eq_true.1 hno t hm
      simp only [tokLt, Bool.and_eq_true] at hlt
      have hP : oall t.prod (fun j => listed.getD j false) = true := by
        cases hp : t.prod with
        | none => rfl
        | some p => have := hlt.1; rw [hp] at this; exact hall p (by simpa [oall] using this)
      unfold actT
      rw [hP]
      cases hcn : t.cons with
      | none => rfl
      | some c => have := hlt.2; rw [hcn] at this; simp [oany, hall c (by simpa [oall] using this)]
    have hst := I.st
    rw [hT] at hst
    exact hQ f hK hI a w I.hat hst
  have allSet : ∀ (fuel : Nat) (listed : Array Bool) (a : Act) (w : World), listed.size = ops.length → (∀ j, j < ops.length → listed.getD j false = true) → Q .normal a w → wpAnyIn (Fe ro) 3 P .any ops.toArray Q fuel listed a w := by
    intro fuel listed a w hsz hall hq
    have hr : Region.ready .any ops.toArray listed = [] := by
      refine List.eq_nil_iff_forall_not_mem.2 fun j hj => ?_
      obtain ⟨hl, o, ho', _⟩ := mem_ready.1 hj
      have hj' : j < ops.length := by
        have := (Array.getElem?_eq_some_iff.1 ho').1
        simpa using this
      have := hall j hj'
      simp only [Array.getD_eq_getD_getElem?, Array.getElem?_eq_getElem (by omega : j < listed.size), Option.getD_some] at hl this
      rw [hl] at this; cases this
    cases fuel with
    | zero => exact ⟨hr, hq⟩
    | succ k => exact ⟨fun _ => hq, fun i hi => by rw [hr] at hi; cases hi⟩
  intro fuel
  induction fuel with
  | zero =>
    intro listed f a w hsz hle I hlN
    have : opsA.length ∈ (List.range ops.length).filter (fun j => !listed.getD j false) := List.mem_filter.2 ⟨List.mem_range.2 (by omega), by rw [hlN]; rfl⟩
    have := List.length_pos_of_mem this
    omega
  | succ fuel ih =>
    intro listed f a w hsz hle I hlN
    refine ⟨fun hr => ?_, fun i hi => ?_⟩
    · exfalso
      have least : ∀ j, j < ops.length → listed.getD j false = true := by
        intro j
        induction j using Nat.strongRecOn with
        | _ j ihj =>
          intro hj
          cases hl : listed.getD j false with
          | true => rfl
          | false =>
            have hl' : listed.getD j true = false := by
              simp only [Array.getD_eq_getD_getElem?, Array.getElem?_eq_getElem (by omega : j < listed.size), Option.getD_some] at hl ⊢
              exact hl
            have ho := List.getElem?_eq_getElem hj
            have : j ∈ Region.ready .any ops.toArray listed := mem_ready.2 ⟨hl', _, (List.getElem?_toArray ..).trans ho, fun e he hb => ihj e.on ((hop ho).1 e he hb) (by have := (hop ho).1 e he hb; omega)⟩
            rw [hr] at this; simp at this
      have := least opsA.length (by omega)
      rw [hlN] at this; cases this
    obtain ⟨hl, o, ho', hdep⟩ := mem_ready.1 hi
    have ho'' : ops[i]? = some o := by simpa using ho'
    have hi' : i < ops.length := (List.getElem?_eq_some_iff.1 ho'').1
    have hDi : listed.getD i false = false := by
      simp only [Array.getD_eq_getD_getElem?, Array.getElem?_eq_getElem (by omega : i < listed.size), Option.getD_some] at hl ⊢
      exact hl
    have hanc : ∀ m ∈ ancOf sps i, listed.getD m false = true := by
      intro m hm
      have hb := (hop ho'').2 m hm
      unfold behind at hb
      obtain ⟨e, he, hb⟩ := List.any_eq_true.1 hb
      simp only [Bool.and_eq_true, Bool.or_eq_true] at hb
      have hd := hdep e (by simpa using he) hb.1
      rcases hb.2 with h | h
      · have := Nat.eq_of_beq_eq_true h; subst this; exact hd
      · exact I.closed e.on hd m (mem_iff.1 h)
    by_cases hiN : i = opsA.length
    · subst hiN
      rw [hoN] at ho''
      injection ho'' with ho''
      subst ho''
      have hall : ∀ j, j < opsA.length → listed.getD j false = true := fun j hj => hanc j (lastAnc_mem hal hj)
      have hob := done listed f a w hall hlN I
      have stepN : ∀ a' w', wpListIn (Fe ro) 3 P ops.toArray Q [] a' w' → wpAnyIn (Fe ro) 3 P .any ops.toArray Q fuel (listed.setIfInBounds opsA.length true) a' w' := by
        intro a' w' hq
        refine allSet fuel _ a' w' (by simp [hsz]) (fun j hj => ?_) (by simpa only [wpListIn] using hq)
        by_cases e : j = opsA.length
        · subst e; simp [Array.getD_eq_getD_getElem?, hsz, hi']
        · rw [getD_set_ne _ (Ne.symm e)]; exact hall j (by omega)
      unfold wpOpIn
      rw [ho']
      simp only
      unfold wpListIn at hob
      split at hob
      · rename_i hwn
        rw [if_pos hwn]
        exact Oper.wpIn_mono stepN hob
      · rename_i hwn
        rw [if_neg hwn]
        exact ⟨hob.1, stepN _ _ hob.2⟩
    have hiA : i < opsA.length := by omega
    have hoA : opsA[i]? = some o := by rw [hA, List.getElem?_append_left hiA] at ho''; exact ho''
    obtain ⟨s, hs⟩ : ∃ s, sps[i]? = some s := ⟨_, List.getElem?_eq_getElem (by omega)⟩
    have hsa : ancOf sps i = s.anc := by unfold ancOf; rw [hs]
    have hob := ho.get hoA
    rw [Nat.zero_add] at hob
    unfold Ob at hob
    rw [hs] at hob
    have hob := hob f (rs (toks.filter (fun t => actT (fun j => listed.getD j false) t && !mem i t.by_)) f ++ M)
      (KAll.of fun j hj s' hs' => I.k j s' hs' (hanc j (by rw [hsa]; exact (hsp hs).1 j hj)))
      (IAll.of fun x hx p hp => I.ini p (List.mem_of_getElem? hp) fun j oj hj hD hd => by
        have := allI_get ((hsp hs).2.1 x hx p hp) hj
        simp only [Nat.zero_add, isD_iff.2 hd, Bool.not_true, Bool.false_or, Bool.or_eq_true] at this
        rcases this with h | h
        · have := Nat.eq_of_beq_eq_true h; subst this; rw [hDi] at hD; cases hD
        · have := I.closed j hD i (mem_iff.1 h); exact absurd (hDi.symm.trans this) (by simp))
    have hsplit := act_split (ops := ops) (D := fun j => listed.getD j false) I.closed hDi hanc h2
    have hst : St β (rs (usesT toks i) f ++ (rs (toks.filter (fun t => actT (fun j => listed.getD j false) t && !mem i t.by_)) f ++ M)) w := by
      have := I.st.perm (List.Perm.append_right M (List.Perm.map (fun t : Tok => t.r (cut t.sl f)) hsplit.1))
      simpa [rs, List.append_assoc] using this
    have hD' : (fun j => (listed.setIfInBounds i true).getD j false) = setD (fun j => listed.getD j false) i := by
      funext j
      unfold setD
      by_cases e : j = i
      · subst e
        simp [Array.getD_eq_getD_getElem?, hsz, hi']
      · have : Nat.beq j i = false := by
          cases h : Nat.beq j i with
          | false => rfl
          | true => exact absurd (Nat.eq_of_beq_eq_true h) e
        rw [this, getD_set_ne _ (Ne.symm e)]; rfl
    have step : ∀ a' w', Owes n ds β o.dst (fun f => s.k (cut s.sl f)) f (rs (outsT toks i)) (rs (toks.filter (fun t => actT (fun j => listed.getD j false) t && !mem i t.by_)) f ++ M) a' w' →
        wpAnyIn (Fe ro) 3 P .any ops.toArray Q fuel (listed.setIfInBounds i true) a' w' := by
      rintro a' w' ⟨f', hff, hat', hk', hst'⟩
      refine ih _ f' a' w' (by simp [hsz]) ?_ ?_ (by rw [getD_set_ne _ (by omega)]; exact hlN)
      · have := filter_lt (p := fun j => !listed.getD j false) (q := fun j => !(listed.setIfInBounds i true).getD j false) (i := i) (l := List.range ops.length) ?_ (by simp only [hDi]; rfl) ?_ (List.mem_range.2 hi')
        · omega
        · intro x hx
          by_cases e : x = i
          · subst e; rw [hDi]; rfl
          · rw [getD_set_ne _ (Ne.symm e)] at hx; exact hx
        · have := congrFun hD' i
          simp only [setD, Nat.beq_refl, Bool.true_or] at this
          simp only [this]; rfl
      · rw [hD']
        refine ⟨?_, ?_, ?_, hat', ?_⟩
        · intro j hj m hm
          simp only [setD, Bool.or_eq_true] at hj ⊢
          rcases hj with hj | hj
          · have := Nat.eq_of_beq_eq_true hj; subst this; exact .inr (hanc m hm)
          · exact .inr (I.closed j hj m hm)
        · intro j s' hs' hj
          simp only [setD, Bool.or_eq_true] at hj
          by_cases e : j = i
          · subst e; rw [hs] at hs'; injection hs' with hs'; subst hs'; exact hk'
          · have hj : listed.getD j false = true := by
              rcases hj with hj | hj
              · exact absurd (Nat.eq_of_beq_eq_true hj) e
              · exact hj
            rw [cut_eq (f := f') (g := f) (fun x hx => hff x fun hd => ?_)]; exact I.k j s' hs' hj
            rcases (hsp hs').2.2 x hx i o ho'' hd with h | h
            · exact e h.symm
            · have := I.closed j hj i (by unfold ancOf; rw [hs']; exact h); exact absurd (hDi.symm.trans this) (by simp)
        · intro p hp hno
          rw [hff p.1 fun hd => hno i o ho'' (by simp [setD]) hd]
          exact I.ini p hp fun j oj hj hD => hno j oj hj (by simp only [setD, hD, Bool.or_true])
        · have h3 : rs (toks.filter (fun t => actT (fun j => listed.getD j false) t && !mem i t.by_)) f' = rs (toks.filter (fun t => actT (fun j => listed.getD j false) t && !mem i t.by_)) f := by
            unfold rs
            refine List.map_congr_left fun t ht' => ?_
            obtain ⟨hm, hact⟩ := List.mem_filter.1 ht'
            rw [cut_eq (f := f') (g := f) fun x hx => hff x fun hd => ?_]
            have hc := List.all_eq_true.1 h2 t hm
            simp only [chkTok, Bool.and_eq_true, List.all_eq_true] at hc
            have := allI_get (hc.2 x hx) ho''
            simp only [Nat.zero_add, isD_iff.2 hd, Bool.not_true, Bool.false_or] at this
            simp only [Bool.and_eq_true, actT] at hact
            cases hp : t.prod with
            | none => rw [hp] at this; cases this
            | some q =>
              rw [hp] at this hact
              simp only [oany, Bool.or_eq_true] at this
              have hq : listed.getD q false = true := hact.1.1
              rcases this with h | h
              · have := Nat.eq_of_beq_eq_true h; subst this; rw [hDi] at hq; cases hq
              · have := I.closed q hq i (mem_iff.1 h); exact absurd (hDi.symm.trans this) (by simp)
          have := hst'.perm (L' := rs (toks.filter (actT (setD (fun j => listed.getD j false) i))) f' ++ M) ?_
          · exact this
          · have hp := List.Perm.append_right M (List.Perm.map (fun t : Tok => t.r (cut t.sl f')) hsplit.2)
            refine List.Perm.trans ?_ hp.symm
            rw [← h3]
            simp [rs, List.append_assoc]
    have hob := hob a w I.hat hst
    unfold wpOpIn
    rw [ho']
    unfold wpListIn at hob
    simp only
    split at hob
    · rename_i hwn
      rw [if_pos hwn]
      exact Oper.wpIn_mono step (wpIn_qn (K := Owes n ds β o.dst (fun f => s.k (cut s.sl f)) f (rs (outsT toks i)) (rs (toks.filter (fun t => actT (fun j => listed.getD j false) t && !mem i t.by_)) f ++ M)) (by
        have hfun : (wpListIn (Fe ro) 3 P ops.toArray (Qn (Owes n ds β o.dst (fun f => s.k (cut s.sl f)) f (rs (outsT toks i)) (rs (toks.filter (fun t => actT (fun j => listed.getD j false) t && !mem i t.by_)) f ++ M))) []) = Owes n ds β o.dst (fun f => s.k (cut s.sl f)) f (rs (outsT toks i)) (rs (toks.filter (fun t => actT (fun j => listed.getD j false) t && !mem i t.by_)) f ++ M) := by
          funext a w; simp only [wpListIn, Qn]
        rw [hfun] at hob
        exact hob))
    · rename_i hwn
      rw [if_neg hwn]
      refine ⟨hob.1, step _ _ ?_⟩
      have := hob.2
      simp only [wpListIn, Qn] at this
      exact this

theorem c_any_last {id : Nat} {opsA : List Oper} {oN : Oper} {f : Fm} {L : List Res} (sps : List Sp) (toks : List Tok) (ini : List (Nat × Value)) (fin : List Nat) (M : List Res) (hm : P.follows .mixedOrders = true)
    (hal : lastAnc sps opsA.length = true) (hno : toks.all (fun t => tokLt t opsA.length) = true)
    (h1 : chkOps (opsA ++ [oN]) sps ini = true) (h2 : toks.all (chkTok (opsA ++ [oN]) sps) = true) (hf : fin.all (finOk (opsA ++ [oN]) ini) = true) (hL : L = rs (firstT toks) f ++ M) (hi : IniAt f ini)
    (ho : Obs P ro n ds β (opsA ++ [oN]) sps toks ini opsA 0)
    (hQ : ∀ f', KEv sps f' (sps.take opsA.length) → IAll ini fin f' → RunL P ro n ds β (opsA ++ [oN]).toArray Q [oN] f' (rs (lastT toks) f' ++ M)) : RunC P ro n ds β (.region id (opsA ++ [oN]).toArray true) Q f L := by
  intro a w ha hw
  have hD0 : ∀ j, (Array.replicate (opsA ++ [oN]).length false).getD j false = false := by
    intro j
    by_cases hj : j < (opsA ++ [oN]).length
    · rw [Array.getD_eq_getD_getElem?, Array.getElem?_eq_getElem (by simpa using hj)]; simp
    · rw [Array.getD_eq_getD_getElem?, Array.getElem?_eq_none (by simpa using hj)]; rfl
  refine wpIn_region_any hm (inv_last rfl hal hno h1 h2 ho hf hQ _ _ f a _ (by simp) ?_ ?_ (hD0 _))
  · have := List.length_filter_le (fun j => !(Array.replicate (opsA ++ [oN]).toArray.size false).getD j false) (List.range (opsA ++ [oN]).length)
    simpa using this
  · refine ⟨fun j hj => ?_, fun j s _ hj => ?_, fun p hp _ => hi.get p hp, ha, ?_⟩
    · have := hD0 j; exact absurd (hj.symm.trans this) (by simp)
    · have := hD0 j; exact absurd (hj.symm.trans this) (by simp)
    · have hT : toks.filter (actT fun j => (Array.replicate (opsA ++ [oN]).toArray.size false).getD j false) = firstT toks := by
        refine List.filter_congr fun t _ => ?_
        unfold actT
        have hD1 : ∀ j, (Array.replicate (opsA ++ [oN]).toArray.size false).getD j false = false := hD0
        cases t.prod <;> cases t.cons <;> simp only [oall, oany, hD1] <;> rfl
      rw [hT, ← hL]
      exact hw.drew
/-- the same, the operations being written as one list -/
theorem c_any_end {id : Nat} {ops : List Oper} {oN : Oper} {f : Fm} {L : List Res} (N : Nat) (hl : ops.length = N + 1) (hoN : ops[N]? = some oN) (sps : List Sp) (toks : List Tok) (ini : List (Nat × Value)) (fin : List Nat) (M : List Res) (hm : P.follows .mixedOrders = true)
    (hal : lastAnc sps N = true) (hno : toks.all (fun t => tokLt t N) = true)
    (h1 : chkOps ops sps ini = true) (h2 : toks.all (chkTok ops sps) = true) (hf : fin.all (finOk ops ini) = true) (hL : L = rs (firstT toks) f ++ M) (hi : IniAt f ini)
    (ho : Obs P ro n ds β ops sps toks ini (ops.take N) 0)
    (hQ : ∀ f', KEv sps f' (sps.take N) → IAll ini fin f' → RunL P ro n ds β ops.toArray Q [oN] f' (rs (lastT toks) f' ++ M)) : RunC P ro n ds β (.region id ops.toArray true) Q f L := by
  have he : ops = ops.take N ++ [oN] := by
    have h := List.take_add_one (l := ops) (i := N)
    rw [hoN, ← hl, List.take_length] at h
    simpa using h
  have hlen : (ops.take N).length = N := by simp; omega
  generalize ops.take N = opsA at *
  subst he
  subst hlen
  exact c_any_last sps toks ini fin M hm hal hno h1 h2 hf hL hi ho hQ
theorem l_rebase {d : Nat} {v : Value} {f : Fm} {L : List Res} {ops : Array Oper} {rest : List Oper} (h : f d = v) (k : RunL P ro n ds β ops Q rest (upd f d v) L) : RunL P ro n ds β ops Q rest f L := by rw [← upd_eq h]; exact k
end
end Go.Sl
