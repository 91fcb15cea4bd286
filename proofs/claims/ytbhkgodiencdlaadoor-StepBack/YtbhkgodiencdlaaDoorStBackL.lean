/-
  A world made of a scene's bodies, and what a step makes of it. Own work; plain Lean.
-/
import Derived.Test.YtbhkgodiencdlaaDoorStBack
import Derived.Test.YtbhkgodiencdlaaDoorStApart
namespace Go.Stp
open Go.Sl
def numB (b : Bool) : Int := if b then 1 else 0
def lifeC : KComp := ⟨8, 7, 0, 0, 0⟩
def entB (b : KB) : KEnt := ⟨b.id, [⟨1, b.x, b.y, 0, 0⟩, ⟨2, b.vx, b.vy, 0, 0⟩, ⟨3, b.w, b.h, numB b.round, numB b.fixed⟩, lifeC]⟩
def ghostE (x y vx vy : Int) : KEnt := ⟨100, [⟨1, x, y, 0, 0⟩, ⟨2, vx, vy, 0, 0⟩, lifeC]⟩
def restE (x y : Int) : KEnt := ⟨101, [⟨1, x, y, 0, 0⟩, lifeC]⟩
def worldE (bs : List KB) (x y vx vy : Int) : List KEnt := bs.map entB ++ [ghostE x y vx vy, restE x y]
theorem bodyOf_ent {b : KB} (h : okB b) : bodyOf b.id (entB b).comps = some b := by
  have hv := h.2.2.2.2.2.2.2.2
  cases b with | mk id x y vx vy w hh round fixed =>
  cases fixed with
  | false =>
    rw [body_mov (p := ⟨1, x, y, 0, 0⟩) (x := ⟨3, w, hh, numB round, numB false⟩) (v := ⟨2, vx, vy, 0, 0⟩) rfl rfl (by show (0 : Int) ≠ 1; decide) rfl]
    cases round <;> rfl
  | true =>
    obtain ⟨h1, h2⟩ := hv rfl
    simp only at h1 h2
    subst h1; subst h2
    rw [body_fix (p := ⟨1, x, y, 0, 0⟩) (x := ⟨3, w, hh, numB round, numB true⟩) rfl rfl (.inl rfl)]
    cases round <;> rfl
theorem bodies_map {bs : List KB} (h : ∀ b ∈ bs, okB b) (es : List KEnt) (he : ∀ e ∈ es, bodyOf e.id e.comps = none) : bodiesOf (bs.map entB ++ es) = bs := by
  unfold bodiesOf
  rw [List.filterMap_append]
  have h2 : es.filterMap (fun e => bodyOf e.id e.comps) = [] := List.filterMap_eq_nil_iff.2 he
  rw [h2, List.append_nil]
  clear h2 he
  induction bs with
  | nil => rfl
  | cons b bs ih =>
    have h1 : bodyOf (entB b).id (entB b).comps = some b := bodyOf_ent (h b List.mem_cons_self)
    rw [List.map_cons, List.filterMap_cons, h1]
    simp only
    rw [ih fun b hb => h b (List.mem_cons_of_mem _ hb)]
theorem ghost_no (x y vx vy : Int) : bodyOf 100 (ghostE x y vx vy).comps = none := body_no3 rfl
theorem rest_no (x y : Int) : bodyOf 101 (restE x y).comps = none := body_no3 rfl
theorem bodies_world {bs : List KB} (h : ∀ b ∈ bs, okB b) (x y vx vy : Int) : bodiesOf (worldE bs x y vx vy) = bs :=
  bodies_map h _ fun e he => by
    simp only [List.mem_cons, List.not_mem_nil, or_false] at he
    rcases he with rfl | rfl
    · exact ghost_no x y vx vy
    · exact rest_no x y
theorem ropes_world {bs : List KB} {rs : List KR} {gx gy : Int} (h : okS bs rs gx gy) : ropesOf bs rs = rs := by
  unfold ropesOf
  rw [List.filter_eq_self]
  intro r hr
  have hk := h.2.2.2.2.2 r hr
  have key : ∀ i, (findB bs i).isSome = true → hasB bs i = true := fun i hi => by
    rw [findB_iff] at hi
    obtain ⟨b, hb, e⟩ := hi
    unfold hasB
    exact List.any_eq_true.2 ⟨b, hb, by simpa using e⟩
  rw [key _ hk.1, key _ hk.2.1]; rfl
/-- the entity of a body behind a step -/
theorem back_ent {T : List KB} {a b : KB} {gx gy : Int} (ho : ordB T) {k : Nat} (hb : T[k]? = some b) (ha : okB a) (hn : near gx gy a b) : backE T (entB a) = entB b := by
  obtain ⟨⟨e1, e2, e3, e4, e5⟩, e6, _, _⟩ := hn
  have hf : findB T a.id = some b := by rw [← e1]; exact findB_at ho hb
  have hs : bodyOf a.id (entB a).comps = some a := bodyOf_ent ha
  have hD : bodyD a.id (entB a).comps = a := by unfold bodyD; rw [hs]; rfl
  have hsome : (bodyOf a.id (entB a).comps).isSome = true := by rw [hs]; rfl
  show (⟨a.id, backC T a.id (entB a).comps⟩ : KEnt) = _
  cases hfx : a.fixed with
  | true =>
    have e := e6 hfx
    rw [← back_fix (i := 0) (c := ⟨1, a.x, a.y, 0, 0⟩) hsome hf (by rw [hD]; exact hfx) rfl rfl, e]
    rfl
  | false =>
    rw [← back_mov (i := 0) (j := 1) (c := ⟨1, a.x, a.y, 0, 0⟩) (d := ⟨2, a.vx, a.vy, 0, 0⟩) hsome hf (by rw [hD]; exact hfx) rfl rfl rfl rfl]
    show (⟨a.id, [⟨1, b.x, b.y, 0, 0⟩, ⟨2, b.vx, b.vy, 0, 0⟩, ⟨3, a.w, a.h, numB a.round, numB a.fixed⟩, lifeC]⟩ : KEnt) = _
    rw [← e1, ← e2, ← e3, ← e4, ← e5]; rfl
theorem back_ghost (T : List KB) {x y vx vy : Int} (h1 : -32768 ≤ x ∧ x ≤ 32767) (h2 : -32768 ≤ y ∧ y ≤ 32767) (h3 : -32768 ≤ vx ∧ vx ≤ 32767) (h4 : -32768 ≤ vy ∧ vy ≤ 32767) : backE T (ghostE x y vx vy) = ⟨100, [⟨1, x + vx, y + vy, 0, 0⟩, ⟨2, vx, vy, 0, 0⟩, lifeC]⟩ := by
  show (⟨100, backC T 100 (ghostE x y vx vy).comps⟩ : KEnt) = _
  rw [← back_fly (i := 0) (j := 1) (p := ⟨1, x, y, 0, 0⟩) (v := ⟨2, vx, vy, 0, 0⟩) (by rw [ghost_no]; rfl) rfl rfl rfl rfl rfl]
  have hok : flyOk ⟨1, x, y, 0, 0⟩ ⟨2, vx, vy, 0, 0⟩ := ⟨⟨by show _ ≤ min x vx; omega, by show max x vx ≤ _; omega⟩, by show _ ≤ min y vy; omega, by show max y vy ≤ _; omega⟩
  have c1 : clampC (x + vx) = x + vx := by unfold clampC; omega
  have c2 : clampC (y + vy) = y + vy := by unfold clampC; omega
  rw [fly_yes hok]
  simp only [c1, c2, if_true]
  rfl
theorem back_rest (T : List KB) (x y : Int) : backE T (restE x y) = restE x y := by
  show (⟨101, backC T 101 (restE x y).comps⟩ : KEnt) = _
  rw [← back_no (by rw [rest_no]; rfl) (.inr (.inl rfl))]; rfl
structure BackP (bs T : List KB) (us : List KEnt) (ws : List KEnt) (x y vx vy : Int) : Prop where
  len : us.length = ws.length
  wlen : ws.length = bs.length + 2
  bodies : bodiesOf us = T
  wbodies : bodiesOf ws = bs
  each : ∀ (i : Nat) (e d : KEnt), us[i]? = some e → ws[i]? = some d → e.id = d.id ∧ e.comps.length = d.comps.length ∧ 1 ≤ e.comps.length ∧ (e.comps.drop (e.comps.length - 1))[0]? = some lifeC
  ghost : us[bs.length]? = some ⟨100, [⟨1, x + vx, y + vy, 0, 0⟩, ⟨2, vx, vy, 0, 0⟩, lifeC]⟩
  rest : us[bs.length + 1]? = some (restE x y) ∧ ws[bs.length + 1]? = some (restE x y)
  small : ∀ e ∈ ws, e.comps.length ≤ 65536
theorem back_law {bs T : List KB} {rs : List KR} {gx gy : Int} {S : List KS} (hok : okS bs rs gx gy) (hTS : stepsTo rs gx gy bs bs.length = (T, S)) {ws : List KEnt} {x y vx vy : Int} (hw : ws = worldE bs x y vx vy) (h1 : -32768 ≤ x ∧ x ≤ 32767) (h2 : -32768 ≤ y ∧ y ≤ 32767) (h3 : -32768 ≤ vx ∧ vx ≤ 32767) (h4 : -32768 ≤ vy ∧ vy ≤ 32767) :
    BackP bs T (ws.map (backE T)) ws x y vx vy := by
  have hT1 : (stepsTo rs gx gy bs bs.length).1 = T := by rw [hTS]
  have hokT : okS T rs gx gy := by rw [← hT1]; exact okS_step hok _
  have hTl : T.length = bs.length := by rw [← hT1]; exact (step_keeps hok.2.2.2.1 _).1.len
  have hus : ws.map (backE T) = T.map entB ++ [⟨100, [⟨1, x + vx, y + vy, 0, 0⟩, ⟨2, vx, vy, 0, 0⟩, lifeC]⟩, restE x y] := by
    rw [hw]
    unfold worldE
    rw [List.map_append, List.map_cons, List.map_cons, List.map_nil, back_ghost T h1 h2 h3 h4, back_rest, List.map_map]
    congr 1
    refine List.ext_getElem? fun k => ?_
    rw [List.getElem?_map, List.getElem?_map]
    cases hk : bs[k]? with
    | none =>
      have := List.getElem?_eq_none_iff.1 hk
      rw [List.getElem?_eq_none (by omega)]; rfl
    | some a =>
      have hl := (List.getElem?_eq_some_iff.1 hk).1
      have hb : T[k]? = some (T[k]'(by omega)) := List.getElem?_eq_getElem _
      generalize T[k]'(by omega) = b at hb
      rw [hb]
      simp only [Option.map_some, Function.comp]
      rw [back_ent hokT.2.2.2.2.1 hb (hok.2.2.2.1 a (List.mem_of_getElem? hk)) (near_step (rs := rs) (m := bs.length) hk (by rw [hT1]; exact hb))]
  have hwl : ws.length = bs.length + 2 := by rw [hw]; unfold worldE; simp
  refine ⟨by simp, hwl, ?_, by rw [hw]; exact bodies_world hok.2.2.2.1 x y vx vy, ?_, ?_, ⟨?_, ?_⟩, ?_⟩
  · rw [hus]
    refine bodies_map hokT.2.2.2.1 _ fun e he => ?_
    simp only [List.mem_cons, List.not_mem_nil, or_false] at he
    rcases he with rfl | rfl
    · exact body_no3 rfl
    · exact rest_no x y
  · intro i e d he hd
    rw [List.getElem?_map, hd] at he
    injection he with he
    subst he
    have hc : (backE T d).id = d.id ∧ (backE T d).comps.length = d.comps.length := ⟨rfl, back_len T d.id d.comps⟩
    have hl : ∀ (e : KEnt), e ∈ T.map entB ++ [⟨100, [⟨1, x + vx, y + vy, 0, 0⟩, ⟨2, vx, vy, 0, 0⟩, lifeC]⟩, restE x y] → 1 ≤ e.comps.length ∧ (e.comps.drop (e.comps.length - 1))[0]? = some lifeC := fun e he => by
      rcases List.mem_append.1 he with he | he
      · obtain ⟨b, _, rfl⟩ := List.mem_map.1 he
        exact ⟨by show 1 ≤ 4; omega, rfl⟩
      · simp only [List.mem_cons, List.not_mem_nil, or_false] at he
        rcases he with rfl | rfl
        · exact ⟨by show 1 ≤ 3; omega, rfl⟩
        · exact ⟨by show 1 ≤ 2; omega, rfl⟩
    have hm : backE T d ∈ ws.map (backE T) := List.mem_map_of_mem (List.mem_of_getElem? hd)
    rw [hus] at hm
    exact ⟨hc.1, hc.2, hl _ hm⟩
  · rw [hus, List.getElem?_append_right (by simp [hTl])]; simp [hTl]
  · rw [hus, List.getElem?_append_right (by simp [hTl])]; simp [hTl]
  · rw [hw]; unfold worldE; rw [List.getElem?_append_right (by simp)]; simp
  · intro e he
    rw [hw] at he
    rcases List.mem_append.1 (show e ∈ bs.map entB ++ _ from he) with he | he
    · obtain ⟨b, _, rfl⟩ := List.mem_map.1 he; show 4 ≤ 65536; omega
    · simp only [List.mem_cons, List.not_mem_nil, or_false] at he
      rcases he with rfl | rfl
      · show 3 ≤ 65536; omega
      · show 2 ≤ 65536; omega
theorem ent_next {bs : List KB} {k : Nat} {b : KB} (h : bs[k]? = some b) : (bs.take (k + 1)).map entB = (bs.take k).map entB ++ [entB b] := by
  rw [List.take_add_one, h, List.map_append]; rfl
theorem at_eq {α : Type} {l m : List α} {k : Nat} {a b : α} (h : l = m) (ha : l[k]? = some a) (hb : m[k]? = some b) : a = b := by
  rw [h, hb] at ha; injection ha with ha; exact ha.symm
theorem some_eq {α : Type} {l : List α} {k : Nat} {a b : α} (ha : l[k]? = some a) (hb : l[k]? = some b) : a = b := at_eq rfl ha hb
theorem comp_eq {x y : KComp} : [Bx x.kind, Ix x.v0, Ix x.v1, Ix x.v2, Ix x.v3] = [Bx y.kind, Ix y.v0, Ix y.v1, Ix y.v2, Ix y.v3] ↔ x = y := by
  constructor
  · intro h
    cases x; cases y
    injection h with h1 h2
    have := bx_inj h1
    simp at h2 this
    simp [h2, this]
  · rintro rfl; rfl
theorem arr4_eq {a b c d e f g h : Int} : [Ix a, Ix b, Ix c, Ix d] = [Ix e, Ix f, Ix g, Ix h] ↔ a = e ∧ b = f ∧ c = g ∧ d = h := by simp
end Go.Stp
