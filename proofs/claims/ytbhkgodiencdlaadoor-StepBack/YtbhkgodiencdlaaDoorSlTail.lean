/-
  Regions that draw their order, whose last operations stand in one line. Own work; plain Lean.
-/
import Derived.Test.YtbhkgodiencdlaaDoorSlJn
namespace Go.Sl
def chainB (ops : List Oper) (N : Nat) : Bool := (List.range ops.length).all fun j => Nat.ble j N || (match ops[j]? with | some o => o.after.toList.any (fun e => Region.binds .any e && Nat.beq e.on (j - 1)) | none => true)
section
variable {P : Program} {ro : Option Nat} {n : Nat} {ds : List Deferred} {β : Base} {Q : Exit → Act → World → Prop}
theorem inv_tail {opsA B : List Oper} {oN : Oper} {ops : List Oper} {sps : List Sp} {toks : List Tok} {ini : List (Nat × Value)} {fin : List Nat} {M : List Res}
    (hA : ops = opsA ++ oN :: B) (hch : chainB ops opsA.length = true) (hal : lastAnc sps opsA.length = true) (hno : toks.all (fun t => tokLt t opsA.length) = true) (h1 : chkOps ops sps ini = true) (h2 : toks.all (chkTok ops sps) = true) (ho : Obs P ro n ds β ops sps toks ini opsA 0) (hf : fin.all (finOk ops ini) = true)
    (hQ : ∀ f', KEv sps f' (sps.take opsA.length) → IAll ini fin f' → RunL P ro n ds β ops.toArray Q (oN :: B) f' (rs (lastT toks) f' ++ M)) :
    ∀ (fuel : Nat) (listed : Array Bool) (f : Fm) (a : Act) (w : World), listed.size = ops.length → ((List.range ops.length).filter (fun j => !listed.getD j false)).length ≤ fuel →
      Inv ops sps toks ini n ds β M (fun j => listed.getD j false) f a w → (∀ j, opsA.length ≤ j → listed.getD j false = false) → wpAnyIn (Fe ro) 3 P .any ops.toArray Q fuel listed a w := by
  have hc := h1
  simp only [chkOps, Bool.and_eq_true] at hc
  obtain ⟨⟨hlen, hops⟩, hsps⟩ := hc
  have hlen := Nat.eq_of_beq_eq_true hlen
  have hop : ∀ {i : Nat} {o : Oper}, ops[i]? = some o → (∀ e ∈ o.after, Region.binds .any e = true → e.on < i) ∧ ∀ j ∈ ancOf sps i, behind sps o j = true := by
    intro i o hi
    have := allI_get hops hi
    simp only [Nat.zero_add, Bool.and_eq_true, List.all_eq_true] at this
    exact ⟨fun e he hb => by have := this.1 e (by simpa using he); rw [hb] at this; simpa using this, this.2⟩
  have hsp : ∀ {i : Nat} {s : Sp}, sps[i]? = some s → (∀ j ∈ s.need, j ∈ s.anc) ∧ (∀ x ∈ s.ini, ∀ p, ini[x]? = some p → iniOk ops sps i p.1 = true) ∧ (∀ t ∈ s.sl, ∀ (j : Nat) o, ops[j]? = some o → o.dst = some t → j = i ∨ j ∈ s.anc) := by
    intro i s hi
    have := allI_get hsps hi
    simp only [Nat.zero_add, Bool.and_eq_true, List.all_eq_true] at this
    refine ⟨fun j hj => mem_iff.1 (this.1.1 j hj), fun x hx p hp => ?_, fun t hts j o hj hd => ?_⟩
    · have := this.1.2 x hx; rw [hp] at this; exact this
    · have := allI_get (this.2 t hts) hj
      simp only [Nat.zero_add, isD_iff.2 hd, Bool.not_true, Bool.false_or, Bool.or_eq_true] at this
      rcases this with h | h
      · exact .inl (Nat.eq_of_beq_eq_true h)
      · exact .inr (mem_iff.1 h)
  have hN : ops.length = opsA.length + 1 + B.length := by rw [hA]; simp; omega
  have hoN : ops[opsA.length]? = some oN := by rw [hA]; simp
  have done : ∀ (listed : Array Bool) (f : Fm) (a : Act) (w : World), (∀ j, j < opsA.length → listed.getD j false = true) → listed.getD opsA.length false = false → Inv ops sps toks ini n ds β M (fun j => listed.getD j false) f a w →
      wpListIn (Fe ro) 3 P ops.toArray Q (oN :: B) a w := by
    intro listed f a w hall hlN I
    have hK : KEv sps f (sps.take opsA.length) := KEv.of fun s hs => by
      obtain ⟨j, hj⟩ := List.getElem?_of_mem hs
      have hjl : j < opsA.length := by
        have := (List.getElem?_eq_some_iff.1 hj).1
        simp at this; omega
      rw [List.getElem?_take_of_lt hjl] at hj
      exact I.k j s hj (hall j hjl)
    have hI : IAll ini fin f := IAll.of fun x hx p hp => by
      refine I.ini p (List.mem_of_getElem? hp) fun j o hj _ hd => ?_
      have := List.all_eq_true.1 hf x hx
      unfold finOk at this; rw [hp] at this
      have := List.all_eq_true.1 this o (List.mem_of_getElem? hj)
      rw [isD_iff.2 hd] at this; cases this
    have hT : toks.filter (actT fun j => listed.getD j false) = lastT toks := by
      refine List.filter_congr fun t hm => ?_
      have hlt := List.all_eq_true.1 hno t hm
      simp only [tokLt, Bool.and_eq_true] at hlt
      have hP : oall t.prod (fun j => listed.getD j false) = true := by
        cases hp : t.prod with
        | none => rfl
        | some p => have := hlt.1; rw [hp] at this; exact hall p (by simpa [oall] using this)
      unfold actT
      rw [hP]
      cases hcn : t.cons with
      | none => rfl
      | some c => have := hlt.2; rw [hcn] at this; simp [oany, hall c (by simpa [oall] using this)]
    have hst := I.st
    rw [hT] at hst
    exact hQ f hK hI a w I.hat hst
  have allSet : ∀ (fuel : Nat) (listed : Array Bool) (a : Act) (w : World), listed.size = ops.length → (∀ j, j < ops.length → listed.getD j false = true) → Q .normal a w → wpAnyIn (Fe ro) 3 P .any ops.toArray Q fuel listed a w := by
    intro fuel listed a w hsz hall hq
    have hr : Region.ready .any ops.toArray listed = [] := by
      refine List.eq_nil_iff_forall_not_mem.2 fun j hj => ?_
      obtain ⟨hl, o, ho', _⟩ := mem_ready.1 hj
      have hj' : j < ops.length := by
        have := (Array.getElem?_eq_some_iff.1 ho').1
        simpa using this
      have := hall j hj'
      simp only [Array.getD_eq_getD_getElem?, Array.getElem?_eq_getElem (by omega : j < listed.size), Option.getD_some] at hl this
      rw [hl] at this; cases this
    cases fuel with
    | zero => exact ⟨hr, hq⟩
    | succ k => exact ⟨fun _ => hq, fun i hi => by rw [hr] at hi; cases hi⟩
  have hchain : ∀ {j : Nat} {o : Oper}, opsA.length < j → ops[j]? = some o → ∃ e ∈ o.after, Region.binds .any e = true ∧ e.on = j - 1 := by
    intro j o hj ho
    have := List.all_eq_true.1 hch j (List.mem_range.2 (List.getElem?_eq_some_iff.1 ho).1)
    rw [ho] at this
    simp only [Bool.or_eq_true, List.any_eq_true, Bool.and_eq_true] at this
    rcases this with h | ⟨e, he, hb, hon⟩
    · have := Nat.le_of_ble_eq_true h; omega
    · exact ⟨e, by simpa using he, hb, Nat.eq_of_beq_eq_true hon⟩
  have chain : ∀ (B : List Oper) (k fuel : Nat) (listed : Array Bool) (a : Act) (w : World), opsA.length < k → ops.drop k = B → listed.size = ops.length → (∀ j, j < k → listed.getD j false = true) → (∀ j, k ≤ j → listed.getD j false = false) → B.length ≤ fuel →
      wpListIn (Fe ro) 3 P ops.toArray Q B a w → wpAnyIn (Fe ro) 3 P .any ops.toArray Q fuel listed a w := by
    intro B
    induction B with
    | nil =>
      intro k fuel listed a w _ hd hsz hall _ _ hq
      have : ops.length ≤ k := List.drop_eq_nil_iff.1 hd
      exact allSet fuel listed a w hsz (fun j hj => hall j (by omega)) (by simpa only [wpListIn] using hq)
    | cons o B ihB =>
      intro k fuel listed a w hk hd hsz hall hno hfu hob
      have hko : ops[k]? = some o := by
        have := congrArg (·[0]?) hd
        simpa using this
      have hkl : k < ops.length := (List.getElem?_eq_some_iff.1 hko).1
      have hl0 := hno k (Nat.le_refl _)
      have hl' : listed.getD k true = false := by
        simp only [Array.getD_eq_getD_getElem?, Array.getElem?_eq_getElem (by omega : k < listed.size), Option.getD_some] at hl0 ⊢
        exact hl0
      cases fuel with
      | zero => simp at hfu
      | succ fuel =>
        refine ⟨fun hr => ?_, fun i hi => ?_⟩
        · exfalso
          have : k ∈ Region.ready .any ops.toArray listed := mem_ready.2 ⟨hl', _, by simpa using hko, fun e he hb => hall e.on ((hop hko).1 e he hb)⟩
          rw [hr] at this; simp at this
        · obtain ⟨hl, o', ho', hdep⟩ := mem_ready.1 hi
          have ho'' : ops[i]? = some o' := by simpa using ho'
          have hi' : i < ops.length := (List.getElem?_eq_some_iff.1 ho'').1
          have hDi : listed.getD i false = false := by
            simp only [Array.getD_eq_getD_getElem?, Array.getElem?_eq_getElem (by omega : i < listed.size), Option.getD_some] at hl ⊢
            exact hl
          have hik : i = k := by
            by_cases h1 : i < k
            · rw [hall i h1] at hDi; cases hDi
            · by_cases h2 : i = k
              · exact h2
              · obtain ⟨e, he, hb, hon⟩ := hchain (by omega) ho''
                have := hdep e he hb
                rw [hno e.on (by omega)] at this; cases this
          subst hik
          rw [hko] at ho''
          injection ho'' with ho''
          subst ho''
          have stepK : ∀ a' w', wpListIn (Fe ro) 3 P ops.toArray Q B a' w' → wpAnyIn (Fe ro) 3 P .any ops.toArray Q fuel (listed.setIfInBounds i true) a' w' := by
            intro a' w' hq
            refine ihB (i + 1) fuel _ a' w' (by omega) ?_ (by simp [hsz]) (fun j hj => ?_) (fun j hj => ?_) (by simp at hfu; omega) hq
            · have := congrArg List.tail hd
              simpa using this
            · by_cases e : j = i
              · subst e; simp [Array.getD_eq_getD_getElem?, hsz, hi']
              · rw [getD_set_ne _ (Ne.symm e)]; exact hall j (by omega)
            · rw [getD_set_ne _ (by omega)]; exact hno j (by omega)
          unfold wpOpIn
          rw [ho']
          simp only
          unfold wpListIn at hob
          split at hob
          · rename_i hwn
            rw [if_pos hwn]
            exact Oper.wpIn_mono stepK hob
          · rename_i hwn
            rw [if_neg hwn]
            exact ⟨hob.1, stepK _ _ hob.2⟩
  intro fuel
  induction fuel with
  | zero =>
    intro listed f a w hsz hle I hlB
    have hlN := hlB opsA.length (Nat.le_refl _)
    have : opsA.length ∈ (List.range ops.length).filter (fun j => !listed.getD j false) := List.mem_filter.2 ⟨List.mem_range.2 (by omega), by rw [hlN]; rfl⟩
    have := List.length_pos_of_mem this
    omega
  | succ fuel ih =>
    intro listed f a w hsz hle I hlB
    have hlN := hlB opsA.length (Nat.le_refl _)
    refine ⟨fun hr => ?_, fun i hi => ?_⟩
    · exfalso
      have least : ∀ j, j < ops.length → listed.getD j false = true := by
        intro j
        induction j using Nat.strongRecOn with
        | _ j ihj =>
          intro hj
          cases hl : listed.getD j false with
          | true => rfl
          | false =>
            have hl' : listed.getD j true = false := by
              simp only [Array.getD_eq_getD_getElem?, Array.getElem?_eq_getElem (by omega : j < listed.size), Option.getD_some] at hl ⊢
              exact hl
            have ho := List.getElem?_eq_getElem hj
            have : j ∈ Region.ready .any ops.toArray listed := mem_ready.2 ⟨hl', _, (List.getElem?_toArray ..).trans ho, fun e he hb => ihj e.on ((hop ho).1 e he hb) (by have := (hop ho).1 e he hb; omega)⟩
            rw [hr] at this; simp at this
      have := least opsA.length (by omega)
      rw [hlN] at this; cases this
    obtain ⟨hl, o, ho', hdep⟩ := mem_ready.1 hi
    have ho'' : ops[i]? = some o := by simpa using ho'
    have hi' : i < ops.length := (List.getElem?_eq_some_iff.1 ho'').1
    have hDi : listed.getD i false = false := by
      simp only [Array.getD_eq_getD_getElem?, Array.getElem?_eq_getElem (by omega : i < listed.size), Option.getD_some] at hl ⊢
      exact hl
    have hanc : ∀ m ∈ ancOf sps i, listed.getD m false = true := by
      intro m hm
      have hb := (hop ho'').2 m hm
      unfold behind at hb
      obtain ⟨e, he, hb⟩ := List.any_eq_true.1 hb
      simp only [Bool.and_eq_true, Bool.or_eq_true] at hb
      have hd := hdep e (by simpa using he) hb.1
      rcases hb.2 with h | h
      · have := Nat.eq_of_beq_eq_true h; subst this; exact hd
      · exact I.closed e.on hd m (mem_iff.1 h)
    by_cases hiN : i = opsA.length
    · subst hiN
      rw [hoN] at ho''
      injection ho'' with ho''
      subst ho''
      have hall : ∀ j, j < opsA.length → listed.getD j false = true := fun j hj => hanc j (lastAnc_mem hal hj)
      have hob := done listed f a w hall hlN I
      have hle2 : B.length ≤ fuel := by
        have hsub : B.length ≤ ((List.range ops.length).filter (fun j => !(listed.setIfInBounds opsA.length true).getD j false)).length := by
          rw [hN, List.range_add, List.filter_append, List.length_append]
          have : ((List.range B.length).map (opsA.length + 1 + ·)).filter (fun j => !(listed.setIfInBounds opsA.length true).getD j false) = (List.range B.length).map (opsA.length + 1 + ·) := by
            refine List.filter_eq_self.2 fun j hj => ?_
            obtain ⟨q, hq, rfl⟩ := List.mem_map.1 hj
            rw [getD_set_ne _ (by omega), hlB _ (by omega)]; rfl
          rw [this]; simp
        have := filter_lt (p := fun j => !listed.getD j false) (q := fun j => !(listed.setIfInBounds opsA.length true).getD j false) (i := opsA.length) (l := List.range ops.length) ?_ (by simp only [hDi]; rfl) ?_ (List.mem_range.2 hi')
        · omega
        · intro x hx
          by_cases e : x = opsA.length
          · subst e; rw [hDi]; rfl
          · rw [getD_set_ne _ (Ne.symm e)] at hx; exact hx
        · simp [Array.getD_eq_getD_getElem?, hsz, hi']
      have stepN : ∀ a' w', wpListIn (Fe ro) 3 P ops.toArray Q B a' w' → wpAnyIn (Fe ro) 3 P .any ops.toArray Q fuel (listed.setIfInBounds opsA.length true) a' w' := by
        intro a' w' hq
        refine chain B (opsA.length + 1) fuel _ a' w' (by omega) (by rw [hA]; simp) (by simp [hsz]) (fun j hj => ?_) (fun j hj => ?_) hle2 hq
        · by_cases e : j = opsA.length
          · subst e; simp [Array.getD_eq_getD_getElem?, hsz, hi']
          · rw [getD_set_ne _ (Ne.symm e)]; exact hall j (by omega)
        · rw [getD_set_ne _ (by omega)]; exact hlB j (by omega)
      unfold wpOpIn
      rw [ho']
      simp only
      unfold wpListIn at hob
      split at hob
      · rename_i hwn
        rw [if_pos hwn]
        exact Oper.wpIn_mono stepN hob
      · rename_i hwn
        rw [if_neg hwn]
        exact ⟨hob.1, stepN _ _ hob.2⟩
    have hiA : i < opsA.length := by
      by_cases h1 : i < opsA.length
      · exact h1
      · obtain ⟨e, he, hb, hon⟩ := hchain (by omega) ho''
        have := hdep e he hb
        rw [hlB e.on (by omega)] at this; cases this
    have hoA : opsA[i]? = some o := by rw [hA, List.getElem?_append_left hiA] at ho''; exact ho''
    obtain ⟨s, hs⟩ : ∃ s, sps[i]? = some s := ⟨_, List.getElem?_eq_getElem (by omega)⟩
    have hsa : ancOf sps i = s.anc := by unfold ancOf; rw [hs]
    have hob := ho.get hoA
    rw [Nat.zero_add] at hob
    unfold Ob at hob
    rw [hs] at hob
    have hob := hob f (rs (toks.filter (fun t => actT (fun j => listed.getD j false) t && !mem i t.by_)) f ++ M)
      (KAll.of fun j hj s' hs' => I.k j s' hs' (hanc j (by rw [hsa]; exact (hsp hs).1 j hj)))
      (IAll.of fun x hx p hp => I.ini p (List.mem_of_getElem? hp) fun j oj hj hD hd => by
        have := allI_get ((hsp hs).2.1 x hx p hp) hj
        simp only [Nat.zero_add, isD_iff.2 hd, Bool.not_true, Bool.false_or, Bool.or_eq_true] at this
        rcases this with h | h
        · have := Nat.eq_of_beq_eq_true h; subst this; rw [hDi] at hD; cases hD
        · have := I.closed j hD i (mem_iff.1 h); exact absurd (hDi.symm.trans this) (by simp))
    have hsplit := act_split (ops := ops) (D := fun j => listed.getD j false) I.closed hDi hanc h2
    have hst : St β (rs (usesT toks i) f ++ (rs (toks.filter (fun t => actT (fun j => listed.getD j false) t && !mem i t.by_)) f ++ M)) w := by
      have := I.st.perm (List.Perm.append_right M (List.Perm.map (fun t : Tok => t.r (cut t.sl f)) hsplit.1))
      simpa [rs, List.append_assoc] using this
    have hD' : (fun j => (listed.setIfInBounds i true).getD j false) = setD (fun j => listed.getD j false) i := by
      funext j
      unfold setD
      by_cases e : j = i
      · subst e
        simp [Array.getD_eq_getD_getElem?, hsz, hi']
      · have : Nat.beq j i = false := by
          cases h : Nat.beq j i with
          | false => rfl
          | true => exact absurd (Nat.eq_of_beq_eq_true h) e
        rw [this, getD_set_ne _ (Ne.symm e)]; rfl
    have step : ∀ a' w', Owes n ds β o.dst (fun f => s.k (cut s.sl f)) f (rs (outsT toks i)) (rs (toks.filter (fun t => actT (fun j => listed.getD j false) t && !mem i t.by_)) f ++ M) a' w' →
        wpAnyIn (Fe ro) 3 P .any ops.toArray Q fuel (listed.setIfInBounds i true) a' w' := by
      rintro a' w' ⟨f', hff, hat', hk', hst'⟩
      refine ih _ f' a' w' (by simp [hsz]) ?_ ?_ (fun j hj => by rw [getD_set_ne _ (by omega)]; exact hlB j hj)
      · have := filter_lt (p := fun j => !listed.getD j false) (q := fun j => !(listed.setIfInBounds i true).getD j false) (i := i) (l := List.range ops.length) ?_ (by simp only [hDi]; rfl) ?_ (List.mem_range.2 hi')
        · omega
        · intro x hx
          by_cases e : x = i
          · subst e; rw [hDi]; rfl
          · rw [getD_set_ne _ (Ne.symm e)] at hx; exact hx
        · have := congrFun hD' i
          simp only [setD, Nat.beq_refl, Bool.true_or] at this
          simp only [this]; rfl
      · rw [hD']
        refine ⟨?_, ?_, ?_, hat', ?_⟩
        · intro j hj m hm
          simp only [setD, Bool.or_eq_true] at hj ⊢
          rcases hj with hj | hj
          · have := Nat.eq_of_beq_eq_true hj; subst this; exact .inr (hanc m hm)
          · exact .inr (I.closed j hj m hm)
        · intro j s' hs' hj
          simp only [setD, Bool.or_eq_true] at hj
          by_cases e : j = i
          · subst e; rw [hs] at hs'; injection hs' with hs'; subst hs'; exact hk'
          · have hj : listed.getD j false = true := by
              rcases hj with hj | hj
              · exact absurd (Nat.eq_of_beq_eq_true hj) e
              · exact hj
            rw [cut_eq (f := f') (g := f) (fun x hx => hff x fun hd => ?_)]; exact I.k j s' hs' hj
            rcases (hsp hs').2.2 x hx i o ho'' hd with h | h
            · exact e h.symm
            · have := I.closed j hj i (by unfold ancOf; rw [hs']; exact h); exact absurd (hDi.symm.trans this) (by simp)
        · intro p hp hno
          rw [hff p.1 fun hd => hno i o ho'' (by simp [setD]) hd]
          exact I.ini p hp fun j oj hj hD => hno j oj hj (by simp only [setD, hD, Bool.or_true])
        · have h3 : rs (toks.filter (fun t => actT (fun j => listed.getD j false) t && !mem i t.by_)) f' = rs (toks.filter (fun t => actT (fun j => listed.getD j false) t && !mem i t.by_)) f := by
            unfold rs
            refine List.map_congr_left fun t ht' => ?_
            obtain ⟨hm, hact⟩ := List.mem_filter.1 ht'
            rw [cut_eq (f := f') (g := f) fun x hx => hff x fun hd => ?_]
            have hc := List.all_eq_true.1 h2 t hm
            simp only [chkTok, Bool.and_eq_true, List.all_eq_true] at hc
            have := allI_get (hc.2 x hx) ho''
            simp only [Nat.zero_add, isD_iff.2 hd, Bool.not_true, Bool.false_or] at this
            simp only [Bool.and_eq_true, actT] at hact
            cases hp : t.prod with
            | none => rw [hp] at this; cases this
            | some q =>
              rw [hp] at this hact
              simp only [oany, Bool.or_eq_true] at this
              have hq : listed.getD q false = true := hact.1.1
              rcases this with h | h
              · have := Nat.eq_of_beq_eq_true h; subst this; rw [hDi] at hq; cases hq
              · have := I.closed q hq i (mem_iff.1 h); exact absurd (hDi.symm.trans this) (by simp)
          have := hst'.perm (L' := rs (toks.filter (actT (setD (fun j => listed.getD j false) i))) f' ++ M) ?_
          · exact this
          · have hp := List.Perm.append_right M (List.Perm.map (fun t : Tok => t.r (cut t.sl f')) hsplit.2)
            refine List.Perm.trans ?_ hp.symm
            rw [← h3]
            simp [rs, List.append_assoc]
    have hob := hob a w I.hat hst
    unfold wpOpIn
    rw [ho']
    unfold wpListIn at hob
    simp only
    split at hob
    · rename_i hwn
      rw [if_pos hwn]
      exact Oper.wpIn_mono step (wpIn_qn (K := Owes n ds β o.dst (fun f => s.k (cut s.sl f)) f (rs (outsT toks i)) (rs (toks.filter (fun t => actT (fun j => listed.getD j false) t && !mem i t.by_)) f ++ M)) (by
        have hfun : (wpListIn (Fe ro) 3 P ops.toArray (Qn (Owes n ds β o.dst (fun f => s.k (cut s.sl f)) f (rs (outsT toks i)) (rs (toks.filter (fun t => actT (fun j => listed.getD j false) t && !mem i t.by_)) f ++ M))) []) = Owes n ds β o.dst (fun f => s.k (cut s.sl f)) f (rs (outsT toks i)) (rs (toks.filter (fun t => actT (fun j => listed.getD j false) t && !mem i t.by_)) f ++ M) := by
          funext a w; simp only [wpListIn, Qn]
        rw [hfun] at hob
        exact hob))
    · rename_i hwn
      rw [if_neg hwn]
      refine ⟨hob.1, step _ _ ?_⟩
      have := hob.2
      simp only [wpListIn, Qn] at this
      exact this

theorem c_any_tail' {id : Nat} {opsA B : List Oper} {oN : Oper} {f : Fm} {L : List Res} (sps : List Sp) (toks : List Tok) (ini : List (Nat × Value)) (fin : List Nat) (M : List Res) (hm : P.follows .mixedOrders = true)
    (hch : chainB (opsA ++ oN :: B) opsA.length = true) (hal : lastAnc sps opsA.length = true) (hno : toks.all (fun t => tokLt t opsA.length) = true)
    (h1 : chkOps (opsA ++ oN :: B) sps ini = true) (h2 : toks.all (chkTok (opsA ++ oN :: B) sps) = true) (hf : fin.all (finOk (opsA ++ oN :: B) ini) = true) (hL : L = rs (firstT toks) f ++ M) (hi : IniAt f ini)
    (ho : Obs P ro n ds β (opsA ++ oN :: B) sps toks ini opsA 0)
    (hQ : ∀ f', KEv sps f' (sps.take opsA.length) → IAll ini fin f' → RunL P ro n ds β (opsA ++ oN :: B).toArray Q (oN :: B) f' (rs (lastT toks) f' ++ M)) : RunC P ro n ds β (.region id (opsA ++ oN :: B).toArray true) Q f L := by
  intro a w ha hw
  have hD0 : ∀ j, (Array.replicate (opsA ++ oN :: B).length false).getD j false = false := by
    intro j
    by_cases hj : j < (opsA ++ oN :: B).length
    · rw [Array.getD_eq_getD_getElem?, Array.getElem?_eq_getElem (by simpa using hj)]; simp
    · rw [Array.getD_eq_getD_getElem?, Array.getElem?_eq_none (by simpa using hj)]; rfl
  refine wpIn_region_any hm (inv_tail rfl hch hal hno h1 h2 ho hf hQ _ _ f a _ (by simp) ?_ ?_ (fun j _ => hD0 j))
  · have := List.length_filter_le (fun j => !(Array.replicate (opsA ++ oN :: B).toArray.size false).getD j false) (List.range (opsA ++ oN :: B).length)
    simpa using this
  · refine ⟨fun j hj => ?_, fun j s _ hj => ?_, fun p hp _ => hi.get p hp, ha, ?_⟩
    · have := hD0 j; exact absurd (hj.symm.trans this) (by simp)
    · have := hD0 j; exact absurd (hj.symm.trans this) (by simp)
    · have hT : toks.filter (actT fun j => (Array.replicate (opsA ++ oN :: B).toArray.size false).getD j false) = firstT toks := by
        refine List.filter_congr fun t _ => ?_
        unfold actT
        have hD1 : ∀ j, (Array.replicate (opsA ++ oN :: B).toArray.size false).getD j false = false := hD0
        cases t.prod <;> cases t.cons <;> simp only [oall, oany, hD1] <;> rfl
      rw [hT, ← hL]
      exact hw.drew
/-- the same, the operations being written as one list -/
theorem c_any_tail {id : Nat} {ops : List Oper} {oN : Oper} {f : Fm} {L : List Res} {B : List Oper} (N : Nat) (hB : ops.drop N = oN :: B) (hch : chainB ops N = true) (sps : List Sp) (toks : List Tok) (ini : List (Nat × Value)) (fin : List Nat) (M : List Res) (hm : P.follows .mixedOrders = true)
    (hal : lastAnc sps N = true) (hno : toks.all (fun t => tokLt t N) = true)
    (h1 : chkOps ops sps ini = true) (h2 : toks.all (chkTok ops sps) = true) (hf : fin.all (finOk ops ini) = true) (hL : L = rs (firstT toks) f ++ M) (hi : IniAt f ini)
    (ho : Obs P ro n ds β ops sps toks ini (ops.take N) 0)
    (hQ : ∀ f', KEv sps f' (sps.take N) → IAll ini fin f' → RunL P ro n ds β ops.toArray Q (oN :: B) f' (rs (lastT toks) f' ++ M)) : RunC P ro n ds β (.region id ops.toArray true) Q f L := by
  have he : ops = ops.take N ++ oN :: B := by rw [← hB, List.take_append_drop]
  have hlen : (ops.take N).length = N := by
    have : N < ops.length := by
      by_cases h : N < ops.length
      · exact h
      · rw [List.drop_eq_nil_of_le (by omega)] at hB; cases hB
    simp; omega
  generalize ops.take N = opsA at *
  clear hB
  subst he
  subst hlen
  exact c_any_tail' sps toks ini fin M hm hch hal hno h1 h2 hf hL hi ho hQ
end
end Go.Sl
