/-
  Ranges over functions within loops: any number of marks among the deferred calls. Own work; plain Lean.
-/
import Derived.Test.YthncdmfogeemcaaGreatSlRange
import Derived.Test.YthncdmfogeemcaaGreatSlFlat
import Derived.Test.YthncdmfogeemcaaGreatPtRows
namespace Go.Sl
open Go
/-- the block of a loop that is over -/
abbrev mkR (D : Nat) : Res := pt D (.deferred (some []))
abbrev dnR (D : Nat) : Res := pt D (.deferred none)
section
variable {P : Program} {ro : Option Nat} {n : Nat} {ds : List Deferred} {β : Base} {Q : Exit → Act → World → Prop} {f : Fm} {L : List Res} {ops : Array Oper} {rest : List Oper}
def CutM (n : Nat) (β : Base) (J : List Nat → Fm → List Res → Prop) (a : Act) (w : World) : Prop := ∃ Ds f L, J Ds f L ∧ At n (Ds.map mark) f a ∧ St β L w
theorem f_cutM {J : List Nat → Fm → List Res → Prop} (Ds : List Nat) (h : J Ds f L) : Fin n (Ds.map mark) β (Exit.then (CutM n β J) Q) .normal f L := fun _ _ ha hw => ⟨Ds, f, L, h, ha, hw⟩
/-- a loop whose rounds may leave marks -/
theorem c_loopM {c : Code} {α : Type} (Ds₀ : List Nat) (I : α → List Nat → Fm → List Res → Prop) (μ : α → Nat) (x₀ : α) (h₀ : I x₀ Ds₀ f L)
    (round : ∀ x Ds f' L', I x Ds f' L' → RunC P ro n (Ds.map mark) β c (Exit.then (CutM n β fun Ds' f'' L'' => ∃ y, I y Ds' f'' L'' ∧ μ y < μ x) Q) f' L') : RunC P ro n (Ds₀.map mark) β (.loop c) Q f L := by
  have key : ∀ m x Ds f' L' a w, μ x = m → I x Ds f' L' → At n (Ds.map mark) f' a → St β L' w →
      ∀ (b : Frame) (k : List Item) (cs : List Frame), b.roundOf = (Fe ro).round → (Fe ro).fn b.fn → (Fe ro).room (cs.length + 1 + 3) →
      ∃ e a' w', Q e a' w' ∧ ArrivesIn (Machine.fenced P (Fe ro)) P (lone (b.atR a (.code c :: .inLoop c :: k)) cs w) b k cs e a' w' := by
    intro m
    induction m using Nat.strongRecOn with
    | _ m ih =>
      intro x Ds f' L' a w hm hI ha hw b k cs hro hb hr
      obtain ⟨e, a₁, w₁, hq, harr⟩ := round x Ds f' L' hI a w ha hw b (.inLoop c :: k) cs hro hb hr
      cases e with
      | normal =>
        obtain ⟨Ds', f'', L'', ⟨y, hy, hlt⟩, ha', hw'⟩ := hq
        obtain ⟨e₂, a₂, w₂, hq₂, harr₂⟩ := ih (μ y) (hm ▸ hlt) y Ds' f'' L'' a₁ w₁ rfl hy ha' hw' b k cs hro hb hr
        exact ⟨e₂, a₂, w₂, hq₂, .of_steps (StepsIn.trans harr (.one (fenced_calm (fr := b.atR a₁ (.inLoop c :: k)) hb hr rfl) stepR_inLoop)) harr₂⟩
      | exit id => exact ⟨_, a₁, w₁, hq, .pass (x := .inLoop c) rfl (fun _ _ => .inl (by simp)) harr⟩
      | goto l => exact ⟨_, a₁, w₁, hq, .pass (x := .inLoop c) rfl (fun _ _ => .inl (by simp)) harr⟩
      | ret => exact ⟨_, a₁, w₁, hq, .pass (x := .inLoop c) rfl (fun _ _ => .inl (by simp)) harr⟩
      | panic ch => exact ⟨_, a₁, w₁, hq, .pass (x := .inLoop c) rfl (fun _ _ => .inl (by simp)) harr⟩
      | outgrown => exact ⟨_, a₁, w₁, hq, .pass (x := .inLoop c) rfl (fun _ _ => .inl (by simp)) harr⟩
  intro a w ha hw b k cs hro hb hr
  obtain ⟨e, a', w', hq, harr⟩ := key _ x₀ Ds₀ f L a w rfl h₀ ha hw b k cs hro hb hr
  exact ⟨e, a', w', hq, .of_steps (.one (fenced_calm (fr := b.atR a (.code (.loop c) :: k)) hb hr rfl) stepR_loop) harr⟩
theorem f_consG {e : Exit} {γ : Type} {own : γ → Res} {hs : List γ} {x : γ} {M : List Res} (hL : L = own x :: Sat (hs.map own) :: M) (k : Fin n ds β Q e f (Sat ((x :: hs).map own) :: M)) : Fin n ds β Q e f L := fun a w ha hw => by
  subst hL
  refine k a w ha ?_
  have h1 : St β (Sat (hs.map own) :: own x :: M) w := hw.perm (List.Perm.swap _ _ _)
  exact St.merge (L := (x :: hs).map own) (by
    have h2 := h1.unbun
    exact h2.perm (List.perm_middle (a := own x) (l₁ := hs.map own) (l₂ := M))) fun _ q => q
theorem leavesM {fn : Func} {R : Ending → World → Prop} {tmps : Array Value} {v : Value} (hres : ∀ w, (results fn tmps).run P w = .ok v w) : ∀ (Ds : List Nat) (M : List Res) (w : World), St β (Sat (Ds.map mkR) :: M) w → (∀ w', St β (Sat (Ds.map dnR) :: M) w' → R (.returned v) w') →
    LeavesInM (Fe none) 3 P fn tmps R (Ds.map mark) .returning w := by
  intro Ds
  induction Ds with
  | nil => intro M w hw h; exact ⟨v, hres w, h w hw⟩
  | cons D Ds ih =>
    intro M w hw h
    have h1 : St β (pt D (.deferred (some [])) :: Sat (Ds.map mkR) :: M) w := by
      have q := hw.unbun
      exact (St.merge (L := Ds.map mkR) (M := pt D (.deferred (some [])) :: M) (q.perm (by simpa using (List.perm_middle (a := mkR D) (l₁ := Ds.map mkR) (l₂ := M)).symm)) fun _ q => q).perm (List.Perm.swap _ _ _)
    have hb := h1.pt 0 rfl
    refine ⟨by simp, .inl ⟨D, _, rfl, run_takeDeferred hb, ?_⟩⟩
    have h2 : St β (pt D (.deferred none) :: Sat (Ds.map mkR) :: M) (w.putObj D (.deferred none)) := h1.putObj
    refine ih (pt D (.deferred none) :: M) _ (h2.perm (List.Perm.swap _ _ _)) fun w' hw' => h w' ?_
    have h3 := hw'.unbun
    exact St.merge (L := (D :: Ds).map dnR) (h3.perm (List.perm_middle (a := dnR D) (l₁ := Ds.map dnR) (l₂ := M))) fun _ q => q
theorem retMs {fn : Func} {R : Ending → World → Prop} {Ds : List Nat} {M : List Res} {v : Value} (hL : L = Sat (Ds.map mkR) :: M) (hres : ∀ a, At n (Ds.map mark) f a → ∀ w, (results fn a.tmps).run P w = .ok v w) (h : ∀ w, St β M w → R (.returned v) w) :
    Fin n (Ds.map mark) β (bodyPostM (Fe none) 3 P fn R) .ret f L := fun a w ha hw => by
  subst hL
  show LeavesInM _ _ _ _ _ _ a.defers _ _
  rw [ha.defers]
  exact leavesM (hres a ha) Ds M w hw fun w' hw' => h w' (hw'.drop (List.sublist_cons_self _ _))
theorem res1M {fn : Func} {ds : List Deferred} {t : Nat} {v : Value} (hr : fn.results = #[.tmp t]) (hv : f t = v) : ∀ a, At n ds f a → ∀ w, (results fn a.tmps).run P w = .ok v w := fun a ha w => by
  rw [results_tmp hr, ha.result, hv]
theorem res3M {fn : Func} {ds : List Deferred} {t u s : Nat} {v v' v'' : Value} (hr : fn.results = #[.tmp t, .tmp u, .tmp s]) (hv : f t = v) (hv' : f u = v') (hv'' : f s = v'') : ∀ a, At n ds f a → ∀ w, (results fn a.tmps).run P w = .ok (.tuple #[v, v', v'']) w := fun a ha w => by
  rw [results_tmp3 hr, ha.result, ha.result, ha.result, hv, hv', hv'']
end
end Go.Sl
