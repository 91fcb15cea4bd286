/-
  Struct and array literals; results that lie in cells; parts of slices. Own work; plain Lean.
-/
import Derived.Test.YtbfidhbcojbklaaGreatSlAny
namespace Go.Sl
section
variable {P : Program} {ro : Option Nat} {n : Nat} {ds : List Deferred} {β : Base} {Q : Exit → Act → World → Prop} {f : Fm} {L : List Res} {ops : Array Oper} {rest : List Oper}
variable {d : Option Tmp} {ty : TypeId} {ps : String} {af : Array Edge} {g : Option (Nat × Bool)}

/-- the places of a struct's fields -/
def placesB (P : Program) : List Field → List (Nat × Nat) → Bool
  | [], [] => true
  | x :: l, (o, s) :: m => Nat.beq x.offset o && (match P.info? x.type with | some i => Nat.beq i.size s | none => false) && placesB P l m
  | _, _ => false
def stB (P : Program) (t : Nat) (pl : List (Nat × Nat)) : Bool :=
  match P.underlying t with
  | some (.struct fs) => placesB P fs.toList pl
  | _ => false

theorem run_places {w : World} : ∀ (l : List Field) (m : List (Nat × Nat)), placesB P l m = true → (l.mapM fun x => do pure (x.offset, ← sizeOf x.type) : Sem (List (Nat × Nat))).run P w = .ok m w
  | [], [], _ => by simp
  | [], _ :: _, h => by simp [placesB] at h
  | _ :: _, [], h => by simp [placesB] at h
  | x :: l, (o, s) :: m, h => by
    simp only [placesB, Bool.and_eq_true] at h
    obtain ⟨⟨h1, h2⟩, h3⟩ := h
    cases hi : P.info? x.type with
    | none => rw [hi] at h2; cases h2
    | some i =>
      rw [hi] at h2
      have e1 := Nat.eq_of_beq_eq_true h1
      have e2 := Nat.eq_of_beq_eq_true h2
      have ih := run_places (w := w) l m h3
      have hs : (sizeOf x.type).run P w = .ok s w := by simp [sizeOf, typeInfo, hi, e2]
      rw [List.mapM_cons, Sem.run_bind, Sem.run_bind, hs]
      simp only [Result.andThen_ok, Sem.run_pure]
      rw [Sem.run_bind, ih]
      simp [e1]

theorem e_build {t : Nat} {parts : List (Nat × Operand)} {z : Value} {pl : List (Nat × Nat)} {vs : List (Nat × Value)} {cells : Array Value} (hz : (P.info? t).bind (·.zero) = some z) (ht : stB P t pl = true)
    (hp : (parts.map fun (i, x) => (i, ev f x)) = vs) (hf : Instr.fill (pl[·]?) z.cells vs = some cells) : EV P β L f ⟨d, .build t parts.toArray, ty, ps, af, g⟩ (.agg cells) := fun w _ => by
  unfold stB at ht
  cases hu : P.underlying t with
  | none => rw [hu] at ht; cases ht
  | some dd =>
    rw [hu] at ht
    cases dd <;> simp only [] at ht <;> try (cases ht)
    rename_i fs
    cases hi : P.info? t with
    | none => rw [hi] at hz; cases hz
    | some i =>
      rw [hi] at hz
      have hz' : i.zero = some z := by simpa using hz
      have hzv : (zeroValue t).run P w = .ok z w := by simp [zeroValue, typeInfo, hi, hz']
      have hpl := run_places (w := w) _ _ ht
      have hm : (fs.mapM fun x => do pure (x.offset, ← sizeOf x.type) : Sem (Array (Nat × Nat))).run P w = .ok pl.toArray w := by
        rw [Array.mapM_eq_mapM_toList, map_eq_pure_bind, Sem.run_bind, hpl]
        simp
      simp only [execOp, Instr.build, Sem.run_bind, hzv, Result.andThen_ok, run_underlying hu, hm]
      simp [hp, hf]

theorem e_build_a {t len e k : Nat} {parts : List (Nat × Operand)} {z : Value} {vs : List (Nat × Value)} {cells : Array Value} (hz : (P.info? t).bind (·.zero) = some z) (ht : arB P t len e k = true)
    (hp : (parts.map fun (i, x) => (i, ev f x)) = vs) (hf : Instr.fill (fun i => some (i * k, k)) z.cells vs = some cells) : EV P β L f ⟨d, .build t parts.toArray, ty, ps, af, g⟩ (.agg cells) := fun w _ => by
  unfold arB at ht
  simp only [Bool.and_eq_true] at ht
  obtain ⟨h1, h2⟩ := ht
  cases hu : P.underlying t with
  | none => rw [hu] at h1; cases h1
  | some dd =>
    rw [hu] at h1
    cases dd <;> simp only [] at h1 <;> try (cases h1)
    rename_i l' e'
    simp only [Bool.and_eq_true, beq_iff_eq] at h1
    obtain ⟨rfl, rfl⟩ := h1
    cases hi : P.info? t with
    | none => rw [hi] at hz; cases hz
    | some i =>
      rw [hi] at hz
      have hz' : i.zero = some z := by simpa using hz
      have hzv : (zeroValue t).run P w = .ok z w := by simp [zeroValue, typeInfo, hi, hz']
      cases he : P.info? e' with
      | none => rw [he] at h2; cases h2
      | some j =>
        rw [he] at h2
        have h2' : j.size = k := by simpa using h2
        simp only [execOp, Instr.build, Sem.run_bind, hzv, Result.andThen_ok, run_underlying hu, sizeOf, typeInfo, run_program, he, Sem.run_pure, h2']
        simp [hp, hf]

/-! Results, in slots or in cells. -/
def rsv : List Value → Value
  | [v] => v
  | vs => .tuple vs.toArray
def rdSem (tmps : Array Value) : ResultVar → Sem Value
  | .tmp t => pure (tmps.getD t undef)
  | .cell a t => do loadVar t (← asAddr (tmps.getD a undef))
def Rd (P : Program) (β : Base) (L : List Res) (f : Fm) (r : ResultVar) (v : Value) : Prop :=
  ∀ (a : Act) w, (∀ i, a.tmps.getD i undef = f i) → St β L w → (rdSem a.tmps r).run P w = .ok v w
def Rds (P : Program) (β : Base) (L : List Res) (f : Fm) : List ResultVar → List Value → Prop
  | [], [] => True
  | r :: l, v :: m => Rd P β L f r v ∧ Rds P β L f l m
  | _, _ => False
theorem rd_tmp {t : Nat} {v : Value} (h : f t = v) : Rd P β L f (.tmp t) v := fun a w ha _ => by simp [rdSem, ha, h]
theorem rd_cell {x t n : Nat} {a : Addr} {cs : List Value} (ht : tyB P t true n = true) (hx : f x = .pointer (some a)) (hk : Knows β L (fun h => Cs h a cs)) (hl : cs.length = n) : Rd P β L f (.cell x t) (.agg cs.toArray) := fun b w ha hw => by
  have h := (run_loadVar_cs (tyF ht) (hw.knows hk) hl).1 rfl
  simp [rdSem, ha, hx, asAddr, h]
theorem rd_cell1 {x t : Nat} {a : Addr} {v : Value} (ht : tyB P t false 1 = true) (hx : f x = .pointer (some a)) (hk : Knows β L (fun h => Cs h a [v])) : Rd P β L f (.cell x t) v := fun b w ha hw => by
  have h := (run_loadVar_cs (tyF ht) (hw.knows hk) rfl).2 rfl v rfl
  simp [rdSem, ha, hx, asAddr, h]
theorem run_rds {a : Act} {w : World} (ha : ∀ i, a.tmps.getD i undef = f i) (hw : St β L w) : ∀ (l : List ResultVar) (m : List Value), Rds P β L f l m → (l.mapM (rdSem a.tmps)).run P w = .ok m w
  | [], [], _ => by simp
  | [], _ :: _, h => h.elim
  | _ :: _, [], h => h.elim
  | r :: l, v :: m, h => by
    rw [List.mapM_cons, Sem.run_bind, h.1 a w ha hw]
    simp only [Result.andThen_ok]
    rw [Sem.run_bind, run_rds ha hw l m h.2]
    simp
theorem run_results {fn : Func} {a : Act} {w : World} {l : List ResultVar} {m : List Value} (hr : fn.results = l.toArray) (ha : ∀ i, a.tmps.getD i undef = f i) (hw : St β L w) (h : Rds P β L f l m) : (results fn a.tmps).run P w = .ok (rsv m) w := by
  have hm : (fn.results.mapM (rdSem a.tmps)).run P w = .ok m.toArray w := by
    rw [hr, Array.mapM_eq_mapM_toList, map_eq_pure_bind, Sem.run_bind, run_rds ha hw l m h]
    simp
  have he : results fn a.tmps = (do
      let vs ← fn.results.mapM (rdSem a.tmps)
      pure (if h : vs.size = 1 then vs[0] else .tuple vs)) := rfl
  rw [he, Sem.run_bind, hm]
  simp only [Result.andThen_ok, Sem.run_pure]
  match m with
  | [] => simp [rsv]
  | [v] => simp [rsv]
  | v :: v' :: m => simp [rsv]
theorem retG {fn : Func} {R : Ending → World → Prop} {l : List ResultVar} {m : List Value} {v : Value} (hr : fn.results = l.toArray) (h : Rds P β L f l m) (hv : rsv m = v) (hR : ∀ w, St β L w → R (.returned v) w) : Fin n [] β (bodyPost P fn R) .ret f L :=
  fun a w ha hw => bodyPost_ret (v := v) (by rw [run_results hr ha.get hw h, hv]) ha.defers (hR w hw)
theorem endG {fn : Func} {R : Ending → World → Prop} {l : List ResultVar} {m : List Value} {v : Value} (hr : fn.results = l.toArray) (h : Rds P β L f l m) (hv : rsv m = v) (hR : ∀ w, St β L w → R (.returned v) w) : Fin n [] β (bodyPost P fn R) .normal f L :=
  fun a w ha hw => bodyPost_end (v := v) (by rw [run_results hr ha.get hw h, hv]) ha.defers (hR w hw)

theorem ev_eq {o : Oper} {v v' : Value} (h : v = v') (e : EV P β L f o v) : EV P β L f o v' := by subst h; exact e

/-! What is built and will not be changed any more is laid to the base. -/
theorem l_freeze {M K : List Res} (hL : L = M ++ K) (k : ∀ β', Ext β β' → (∀ F, Knows β K F → F β'.heap) → RunL P ro n ds β' ops Q rest f M) : RunL P ro n ds β ops Q rest f L := fun a w ha hw => by
  subst hL
  obtain ⟨β₁, ext, kn, hw1, _⟩ := hw.frameX
  exact k β₁ ext kn a w ha hw1
theorem c_freeze {c : Code} {M K : List Res} (hL : L = M ++ K) (k : ∀ β', Ext β β' → (∀ F, Knows β K F → F β'.heap) → RunC P ro n ds β' c Q f M) : RunC P ro n ds β c Q f L := fun a w ha hw => by
  subst hL
  obtain ⟨β₁, ext, kn, hw1, _⟩ := hw.frameX
  exact k β₁ ext kn a w ha hw1
theorem c_perm {c : Code} {L' : List Res} (hp : L.Perm L') (k : RunC P ro n ds β c Q f L') : RunC P ro n ds β c Q f L := fun a w ha hw => k a w ha (hw.perm hp)

theorem St.weaken {β' : Base} {w : World} (e : Ext β β') (h : St β' L w) : St β L w := by
  obtain ⟨ho, ht, hp, a, hd, hs, hs', hL⟩ := h
  exact ⟨ho.trans e.os, ht.trans e.tape, hp.trans e.output, a, hd.mono e.sub (Sub.refl _), e.sub.trans hs, hs', hL⟩

/-! Slice literals of several cells an element. -/
def repL (l : List Value) : Nat → List Value
  | 0 => []
  | k + 1 => l ++ repL l k
theorem repL_length (l : List Value) : ∀ k, (repL l k).length = k * l.length
  | 0 => by simp [repL]
  | k + 1 => by simp [repL, repL_length l k, Nat.add_mul, Nat.add_comm]
theorem repL_get (l : List Value) : ∀ (k i : Nat), i < k * l.length → (repL l k)[i]? = l[i % l.length]?
  | 0, i, h => by simp at h
  | k + 1, i, h => by
    unfold repL
    by_cases hi : i < l.length
    · rw [List.getElem?_append_left hi, Nat.mod_eq_of_lt hi]
    · have hl : l.length ≤ i := by omega
      rw [List.getElem?_append_right hl, repL_get l k (i - l.length) (by rw [Nat.add_mul] at h; omega), Nat.mod_eq_sub_mod hl]
theorem rep_eq (cs : Array Value) (k : Nat) : (Array.range (k * cs.size)).map (cs[· % cs.size]!) = (repL cs.toList k).toArray := by
  apply Array.ext
  · simp [repL_length]
  · intro i h1 h2
    have hi : i < k * cs.size := by simpa using h1
    have hs : 0 < cs.size := by
      rcases Nat.eq_zero_or_pos cs.size with h | h
      · rw [h] at hi; simp at hi
      · exact h
    have hg := repL_get cs.toList k i (by simpa using hi)
    have hm : i % cs.size < cs.size := Nat.mod_lt _ hs
    simp only [Array.length_toList, Array.getElem?_toList] at hg
    rw [Array.getElem?_eq_getElem hm] at hg
    have h2' : i < (repL cs.toList k).length := by simpa using h2
    rw [List.getElem?_eq_getElem h2'] at hg
    simp only [Array.getElem_map, Array.getElem_range, List.getElem_toArray]
    rw [getElem!_pos cs _ hm]
    exact (Option.some.inj hg).symm
theorem m_slices {t e n len : Nat} {parts : List (Nat × Operand)} {z : Value} {vs : List (Nat × Value)} {cells : Array Value} (hsl : slB P t e n = true) (hz : (P.info? e).bind (·.zero) = some z) (hn : z.cells.size = n)
    (hp : (parts.map fun (i, x) => (i, ev f x)) = vs) (hs : (Nat.ble 1 (len * n) && Nat.ble (len * n) 16777216) = true)
    (hf : Instr.fill (fun i => some (i * n, n)) (repL z.cells.toList len).toArray vs = some cells) :
    MV P β L f ⟨d, .buildSlice t len parts.toArray, ty, ps, af, g⟩ (fun u L' => ∃ b, u = .slice (some ⟨b, 0, none⟩) len len ∧ L' = pt b (.cells cells e) :: L) := by
  subst hn
  exact m_slice hsl hz hp hs (by rw [rep_eq]; exact hf)

theorem f_perm {e : Exit} {L' : List Res} (hp : L.Perm L') (k : Fin n ds β Q e f L') : Fin n ds β Q e f L := fun a w ha hw => k a w ha (hw.perm hp)
theorem St.merge {M : List Res} {w : World} {r : Res} (h : St β (L ++ M) w) (hr : ∀ a, Sat L a → r a) : St β (r :: M) w := by
  obtain ⟨ho, ht, hp, a, hd, hs, hs', hL⟩ := h
  obtain ⟨x, y, hab, ha, hb, hLa, hMb⟩ := Sat.append.1 hL
  exact ⟨ho, ht, hp, a, hd, hs, hs', x, y, hab, ha, hb, hr x hLa, hMb⟩

theorem e_not_p {x : Operand} {t : Nat} {p : Prop} [Decidable p] (hx : ev f x = .bool (decide p)) : EV P β L f ⟨d, .unOp .not t x, ty, ps, af, g⟩ (.bool (decide ¬ p)) :=
  ev_eq (by rw [decide_not]) (e_not (a := decide p) hx)
theorem e_indexPt {x y : Operand} {t e n : Nat} {k len cap b o : Nat} (hx : ev f x = .slice (some ⟨b, o, none⟩) len cap) (hy : ev f y = .int .i64 (k : Int)) (ht : slB P t e n = true) (hk : k < len) :
    EV P β L f ⟨d, .indexAddr t x y, ty, ps, af, g⟩ (.pointer (some ⟨b, o + k * n, none⟩)) := by
  have h := e_indexAddr (P := P) (β := β) (L := L) (d := d) (ty := ty) (ps := ps) (af := af) (g := g) hx hy ht hk rfl
  have e : (ba (some (⟨b, o, none⟩ : Addr))).add (k * n) = ⟨b, o + k * n, none⟩ := by unfold ba Addr.add; split <;> simp_all
  rwa [e] at h
theorem f_emp {e : Exit} {r : Res} (hr : r fun _ => none) (k : Fin n ds β Q e f (r :: L)) : Fin n ds β Q e f L := fun a w ha hw => k a w ha (hw.emp hr)

theorem row_form {v : Value} {T k m : Nat} {vs : List Value} {a : PHeap} (h : row v T k m vs a) : ∃ p c, v = .slice p m c := by
  obtain ⟨_, ⟨rfl, rfl⟩ | ⟨g, cap, cur, rfl, _⟩⟩ := h
  · exact ⟨_, _, rfl⟩
  · exact ⟨_, _, rfl⟩
theorem e_len_row {x : Operand} {t e T k m : Nat} {v : Value} {vs : List Value} (i : Nat) (hx : ev f x = v) (hi : L[i]? = some (row v T k m vs)) (ht : P.underlying t = some (.slice e)) :
    EV P β L f ⟨d, .call ⟨.builtin .len, #[x], #[t]⟩, ty, ps, af, g⟩ (.int .i64 ((m : Nat) : Int)) := fun w hw => by
  obtain ⟨p, c, rfl⟩ : ∃ p c, v = .slice p m c := hw.knows (F := fun _ => ∃ p c, v = .slice p m c) (Knows.of_res i hi (fun _ _ _ h => h) fun _ h => row_form h)
  exact e_len hx ht w hw
theorem Sl.nil {α : Type} (R : Rp α) (h : PHeap) : Sl R h (.slice none 0 0) [] := ⟨none, 0, rfl, Nat.le_refl _, by omega, fun j x hj => by simp at hj⟩
end
end Go.Sl
