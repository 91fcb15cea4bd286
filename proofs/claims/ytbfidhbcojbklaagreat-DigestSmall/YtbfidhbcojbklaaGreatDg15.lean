/-
  Own work; plain Lean (Dg15).
-/
import Derived.Test.YtbfidhbcojbklaaGreatDg14
import Derived.Test.YtbfidhbcojbklaaGreatSlCells
namespace Go.Proofs
open Go Go.Sl
def fewE (es : List KEnt) : List KEnt := (es.take 40).map fun e => ⟨e.id, e.comps.take 20⟩
def cutV : Value → Value
  | .slice a n c => .slice a (min n 20) c
  | v => v
def cutAt (k : Nat) (vs : List Value) : List Value := (vs.take k).map cutV ++ vs.drop k
theorem cut_at {vs : List Value} {k : Nat} {v : Value} (h : vs[k]? = some v) : (cutAt k vs)[k]? = some v := by
  have hlt := (List.getElem?_eq_some_iff.1 h).1
  unfold cutAt
  rw [List.getElem?_append_right (by simp; omega)]
  simp [Nat.min_eq_left (by omega : k ≤ vs.length), h]
theorem ent_at {us : List Value} {es : List KEnt} {k : Nat} {v : Value} {e : KEnt} (h : us[k]? = some v) (he : es[k]? = some e) : ((entCells us es).drop (k * 2 + 1)).take 1 = [v] := by
  induction k generalizing us es with
  | zero =>
    cases us with
    | nil => cases h
    | cons u us => cases es with
      | nil => cases he
      | cons f es => injection h with h; subst h; rfl
  | succ k ih =>
    cases us with
    | nil => cases h
    | cons u us => cases es with
      | nil => cases he
      | cons f es =>
        rw [show (k + 1) * 2 + 1 = (k * 2 + 1) + 2 by omega]
        exact ih (us := us) (es := es) (by simpa using h) (by simpa using he)
theorem few_step {vs : List Value} {es : List KEnt} {k n z c : Nat} {a : Option Addr} {e : KEnt} (h : vs[k]? = some (.slice a n c)) (he : es[k]? = some e) (hz : z = min n 20) :
    overL (entCells (cutAt k vs) es) (k * 2 + 1) [.slice a z c] = entCells (cutAt (k + 1) vs) es := by
  have hset : cutAt (k + 1) vs = (cutAt k vs).set k (.slice a z c) := by
    apply List.ext_getElem?
    intro j
    have hlt := (List.getElem?_eq_some_iff.1 h).1
    unfold cutAt
    rw [List.getElem?_set]
    by_cases hj : k = j
    · subst hj
      rw [if_pos rfl, List.getElem?_append_left (by simp; omega)]
      subst hz
      simp [h, cutV]
      omega
    · rw [if_neg hj]
      by_cases hj2 : j < k
      · rw [List.getElem?_append_left (by simp; omega), List.getElem?_append_left (by simp; omega)]
        simp [hj2, List.getElem?_take_of_lt (by omega : j < k + 1)]
      · rw [List.getElem?_append_right (by simp; omega), List.getElem?_append_right (by simp; omega)]
        simp only [List.length_map, List.length_take, List.getElem?_drop]
        congr 1; omega
  rw [hset]
  have key : ∀ (us : List Value) (es : List KEnt) (k : Nat) (v : Value) (e : KEnt) (u : Value), us[k]? = some u → es[k]? = some e → overL (entCells us es) (k * 2 + 1) [v] = entCells (us.set k v) es := by
    intro us
    induction us with
    | nil => intro es k v e u hu; cases hu
    | cons u0 us ih =>
      intro es k v e u hu he
      cases es with
      | nil => cases he
      | cons f es =>
        cases k with
        | zero => rfl
        | succ k =>
          have := ih es k v e u (by simpa using hu) (by simpa using he)
          rw [show (k + 1) * 2 + 1 = (k * 2 + 1) + 2 by omega]
          show overL (Ix f.id :: u0 :: entCells us es) (k * 2 + 1 + 2) [v] = Ix f.id :: u0 :: entCells (us.set k v) es
          rw [← this]
          simp [overL]
  exact key _ es k _ e _ (cut_at h) he
theorem flat_at {xs : List KComp} {j : Nat} {x : KComp} (h : xs[j]? = some x) : ((xs.flatMap compE).drop (j * 5)).take 5 = compE x := by
  induction xs generalizing j with
  | nil => cases h
  | cons y xs ih =>
    cases j with
    | zero => injection h with h; subst h; rfl
    | succ j =>
      rw [List.flatMap_cons, show (j + 1) * 5 = j * 5 + 5 by omega, show j * 5 + 5 = (compE y).length + j * 5 by simp [compE]; omega, List.drop_append]
      have h1 : (compE y).drop ((compE y).length + j * 5) = [] := List.drop_eq_nil_of_le (by omega)
      rw [h1, List.nil_append, show (compE y).length + j * 5 - (compE y).length = j * 5 by omega]
      exact ih (by simpa using h)
theorem comp_row_sl {v : Value} {e : KEnt} {a : PHeap} (h : compRow v e a) : Sl CompR a v e.comps := by
  obtain ⟨hl, ⟨rfl, h0⟩ | ⟨g, cap, cur, rfl, hg, h1, h2, h3, h4⟩⟩ := h
  · have : e.comps = [] := List.eq_nil_of_length_eq_zero h0
    rw [this]; exact Sl.nil _ _
  · refine ⟨some ⟨g, 0, none⟩, cap, rfl, h1, by unfold maxLen at h2; omega, fun j x hj => ⟨rfl, compE x, ?_, rfl⟩⟩
    have hc : Cs a ⟨g, 0, none⟩ (e.comps.flatMap compE) := Cs.of_pt (o := 0) hg (by simp only [List.drop_zero]; rw [← h4]; simp)
    exact Cs.sub (j * 5) hc (flat_at hj)
theorem ent_at2 {us : List Value} {es : List KEnt} {k : Nat} {v : Value} {e : KEnt} (h : us[k]? = some v) (he : es[k]? = some e) : ((entCells us es).drop (k * 2)).take 2 = [Ix e.id, v] := by
  induction k generalizing us es with
  | zero =>
    cases us with
    | nil => cases h
    | cons u us => cases es with
      | nil => cases he
      | cons f es => injection h with h; injection he with he; subst h; subst he; rfl
  | succ k ih =>
    cases us with
    | nil => cases h
    | cons u us => cases es with
      | nil => cases he
      | cons f es =>
        rw [show (k + 1) * 2 = (k * 2) + 2 by omega]
        exact ih (us := us) (es := es) (by simpa using h) (by simpa using he)
theorem row_mem {vs : List Value} {es : List KEnt} {j : Nat} {v : Value} {e : KEnt} (hv : vs[j]? = some v) (he : es[j]? = some e) : compRow v e ∈ compRows vs es := by
  induction vs generalizing es j with
  | nil => cases hv
  | cons u vs ih =>
    cases es with
    | nil => cases he
    | cons f es =>
      cases j with
      | zero => injection hv with hv; injection he with he; subst hv; subst he; exact List.mem_cons_self
      | succ j => exact List.mem_cons_of_mem _ (ih (es := es) (by simpa using hv) (by simpa using he))
theorem cut_before {vs : List Value} {k j : Nat} {v : Value} (h : vs[j]? = some v) (hj : j < k) : (cutAt k vs)[j]? = some (cutV v) := by
  have hlt := (List.getElem?_eq_some_iff.1 h).1
  unfold cutAt
  rw [List.getElem?_append_left (by simp; omega)]
  simp [List.getElem?_take_of_lt hj, h]
theorem cut_sl {v : Value} {xs : List KComp} {a : PHeap} (h : Sl CompR a v xs) : Sl CompR a (cutV v) (xs.take 20) := by
  obtain ⟨p, c, rfl, hl, hm, he⟩ := h
  refine ⟨p, c, ?_, by simp; omega, hm, he.take 20⟩
  show Value.slice p (min xs.length 20) c = _
  rw [List.length_take, Nat.min_comm]
theorem comp_facts {β β' : Base} {vs : List Value} {es : List KEnt} (hl : vs.length = es.length) (kn : ∀ F, Knows β (compRows vs es) F → F β'.heap) : ∀ (j : Nat) v e, vs[j]? = some v → es[j]? = some e → Sl CompR β'.heap v e.comps := by
  intro j v e hv he
  have hmem : compRow v e ∈ compRows vs es := by
    clear kn
    induction vs generalizing es j with
    | nil => cases hv
    | cons u vs ih =>
      cases es with
      | nil => cases he
      | cons f es =>
        cases j with
        | zero => injection hv with hv; injection he with he; subst hv; subst he; exact List.mem_cons_self
        | succ j => exact List.mem_cons_of_mem _ (ih (es := es) (by simpa using hl) j (by simpa using hv) (by simpa using he))
  obtain ⟨i, hi⟩ := List.getElem?_of_mem hmem
  exact kn _ (Knows.of_res i hi (fun _ _ hs h => Sl.mono CompR _ _ _ _ hs h) fun a h => comp_row_sl h)
theorem few_end {β : Base} {w : World} {x : KWorld} {vs : List Value} {p : Option Addr} {c m k : Nat} (hl : vs.length = x.ents.length) (hm : m = min x.ents.length 40 ∧ k = m) (h : St β ([row (.slice p x.ents.length c) 35 2 x.ents.length (entCells (cutAt k vs) x.ents)] ++ compRows vs x.ents) w) :
    St β [fun h => Sl EntR h (.slice p m c) (fewE x.ents)] w := by
  obtain ⟨hm1, rfl⟩ := hm
  refine St.merge (L := [row (.slice p x.ents.length c) 35 2 x.ents.length (entCells (cutAt k vs) x.ents)] ++ compRows vs x.ents) (M := []) (by simpa using h) fun a ha => ?_
  obtain ⟨a1, hs1, h1⟩ := ha.each _ (List.mem_append_left _ List.mem_cons_self)
  have hcap : x.ents.length ≤ c ∧ c ≤ maxLen := by
    obtain ⟨_, ⟨e, h0⟩ | ⟨b, cap, cur, e, hb, g1, g2, _⟩⟩ := h1
    · injection e with _ _ e3
      subst e3; rw [h0]; unfold maxLen; omega
    · injection e with _ _ e3
      subst e3; exact ⟨g1, g2⟩
  have hlen : (fewE x.ents).length = k := by simp [fewE]; omega
  refine ⟨p, c, by rw [hlen], by omega, by have := hcap.2; unfold maxLen at this; omega, fun j y hj => ?_⟩
  have hjl := (List.getElem?_eq_some_iff.1 hj).1
  rw [hlen] at hjl
  obtain ⟨e, he⟩ : ∃ e, x.ents[j]? = some e := ⟨_, List.getElem?_eq_getElem (by omega)⟩
  obtain ⟨v, hv⟩ : ∃ v, vs[j]? = some v := ⟨_, List.getElem?_eq_getElem (by omega)⟩
  have hy : y = ⟨e.id, e.comps.take 20⟩ := by
    simp only [fewE, List.getElem?_map] at hj
    rw [List.getElem?_take_of_lt (by omega), he] at hj
    injection hj with hj; exact hj.symm
  subst hy
  obtain ⟨b, cur, hp, _⟩ := row_open h1 (by omega)
  obtain ⟨a2, hs2, h2⟩ := ha.each (compRow v e) (List.mem_append_right _ (row_mem hv he))
  refine ⟨by rw [hp]; rfl, [Ix e.id, cutV v], ?_, cutV v, rfl, Sl.mono CompR _ _ _ _ hs2 (cut_sl (comp_row_sl h2))⟩
  exact Cs.mono _ _ _ _ hs1 (row_cs (o := j * 2) h1 (ent_at2 (cut_before hv hjl) he) (Nat.succ_pos _))
theorem tf74 : cfB Tryz.prog 14 = true := by kernel_rfl
theorem few_ok (β : Base) (w : World) (hw : St β [] w) (x : KWorld) (v : Value) (hs : Sl EntR β.heap v x.ents) (hn : x.ents.length * 32 ≤ 140737488355328) (hbig : ∀ (i : Nat) e, x.ents[i]? = some e → e.comps.length * 40 ≤ 140737488355328) : Calls Tryz.prog 5 #[.agg #[Ix x.tick, v]] w fun r w' => ∃ v', r = .returned (.agg #[Ix x.tick, v']) ∧ St β [fun h => Sl EntR h v' (fewE x.ents)] w' := by
  obtain ⟨va, vc, rfl, vl, vm, ve⟩ := hs.get
  refine enter (n := 42) Tryz.func5 rfl Tryz.ntmps5 rfl ?_ hw
  refine c_seq ?_
  refine c_region ?_
  refine l_mv rfl rfl rfl (m_box (v := .agg #[Ix (x.tick), .slice va (x.ents.length) (vc)]) rfl) ?_
  rintro _ _ ⟨b1, rfl, rfl⟩
  refine l_mv rfl rfl rfl (m_alloc tf49) ?_
  rintro _ _ ⟨b2, rfl, rfl⟩
  refine l_nil ?_
  refine f_then ?_
  refine c_seq ?_
  refine c_region ?_
  refine l_val (v := .agg #[Ix (x.tick), .slice va (x.ents.length) (vc)]) rfl rfl rfl (e_load tf46 (cs := [Ix (x.tick), .slice va (x.ents.length) (vc)]) rfl (k_pt 1 (cs := #[Ix (x.tick), .slice va (x.ents.length) (vc)]) (vs := [Ix (x.tick), .slice va (x.ents.length) (vc)]) rfl rfl) rfl) ?_
  refine l_call rfl rfl rfl (cl_value (fst := []) (cap := []) (vs := [.agg #[Ix (x.tick), .slice va (x.ents.length) (vc)]]) (all := [.agg #[Ix (x.tick), .slice va (x.ents.length) (vc)]]) tf74 rfl rfl rfl) ?_
  intro w hw
  obtain ⟨β1, sb, kn, hw1, back⟩ := St.frame_all hw
  refine (copyWorld_ok β1 w hw1 x _ (Sl.mono _ _ _ _ _ sb (⟨⟨_, _, rfl, vl, vm, ve⟩⟩ : Sl EntR _ _ x.ents)) (by assumption) (by assumption)).mono ?_
  rintro e w' ⟨p3, c4, vs5, rfl, hvs, hw'⟩
  refine ⟨_, rfl, _, St.perm (L' := row (.slice p3 (x.ents.length) c4) 35 2 (x.ents.length) ((entCells vs5 x.ents)) :: pt b2 (.cells #[.int .i64 (0), .slice none 0 0] 24) :: pt b1 (.cells #[Ix (x.tick), .slice va (x.ents.length) (vc)] 24) :: (compRows vs5 x.ents)) (back _ _ hw') (List.Perm.cons _ List.perm_append_comm), ?_⟩
  clear hw hw1 hw' back kn sb
  refine l_mu rfl rfl (m_store 2 tf46 (b := b1) (o := 0) (T := 24) (cs := #[Ix (x.tick), .slice va (x.ents.length) (vc)]) (cs' := #[Ix (x.tick), .slice p3 (x.ents.length) c4]) (v := .agg #[Ix (x.tick), .slice p3 (x.ents.length) c4]) rfl rfl rfl rfl rfl rfl rfl) ?_
  refine l_nil ?_
  refine f_then ?_
  refine c_seq ?_
  refine c_rowcap 0 rfl (fun hcap hcm => ?_)
  refine c_freeze2 (M := [row (.slice p3 (x.ents.length) c4) 35 2 (x.ents.length) ((entCells vs5 x.ents)), pt b2 (.cells #[.int .i64 (0), .slice none 0 0] 24), pt b1 (.cells #[Ix (x.tick), .slice p3 (x.ents.length) c4] 24)]) (K := (compRows vs5 x.ents)) rfl (fun β' ext kn back => ?_)
  have hC := comp_facts hvs kn
  refine c_region ?_
  refine l_val (v := .pointer (some ⟨b1, 1, none⟩)) rfl rfl rfl (e_fieldPt (b := b1) (o := 0) rfl tf29) ?_
  refine l_val (v := .slice p3 (x.ents.length) c4) rfl rfl rfl (e_load1 tf30 (v := .slice p3 (x.ents.length) c4) rfl (k_pt 2 (cs := #[Ix (x.tick), .slice p3 (x.ents.length) c4]) (vs := [.slice p3 (x.ents.length) c4]) rfl rfl)) ?_
  refine l_val (v := .pointer (some ⟨b1, 1, none⟩)) rfl rfl rfl (e_fieldPt (b := b1) (o := 0) rfl tf29) ?_
  refine l_val (v := .slice p3 (x.ents.length) c4) rfl rfl rfl (e_load1 tf30 (v := .slice p3 (x.ents.length) c4) rfl (k_pt 2 (cs := #[Ix (x.tick), .slice p3 (x.ents.length) c4]) (vs := [.slice p3 (x.ents.length) c4]) rfl rfl)) ?_
  refine l_val (v := Nx (x.ents.length)) rfl rfl rfl (e_len (a := p3) (n := x.ents.length) (c := c4) rfl tf31) ?_
  refine l_val (v := Nx (min x.ents.length 40)) rfl rfl rfl (ev_eq (congrArg (Value.int .i64) (by omega)) (e_min (a := ((x.ents.length : Nat) : Int)) (b := (40 : Int)) rfl rfl)) ?_
  refine l_val (v := .slice p3 (min x.ents.length 40) c4) rfl rfl rfl (e_slice_hi (a := p3) (len := x.ents.length) (cap := c4) (h := min x.ents.length 40) tf32 rfl rfl (by omega)) ?_
  refine l_val (v := .pointer (some ⟨b1, 1, none⟩)) rfl rfl rfl (e_fieldPt (b := b1) (o := 0) rfl tf29) ?_
  refine l_mu rfl rfl (m_store 2 tf30 (b := b1) (o := 1) (T := 24) (cs := #[Ix (x.tick), .slice p3 (x.ents.length) c4]) (cs' := #[Ix (x.tick), .slice p3 (min x.ents.length 40) c4]) (v := .slice p3 (min x.ents.length 40) c4) rfl rfl rfl rfl rfl rfl rfl) ?_
  refine l_nil ?_
  refine f_then ?_
  refine c_seq ?_
  refine c_seq ?_
  refine c_region ?_
  refine l_val (v := .pointer (some ⟨b1, 1, none⟩)) rfl rfl rfl (e_fieldPt (b := b1) (o := 0) rfl tf29) ?_
  refine l_val (v := .slice p3 (min x.ents.length 40) c4) rfl rfl rfl (e_load1 tf30 (v := .slice p3 (min x.ents.length 40) c4) rfl (k_pt 2 (cs := #[Ix (x.tick), .slice p3 (min x.ents.length 40) c4]) (vs := [.slice p3 (min x.ents.length 40) c4]) rfl rfl)) ?_
  refine l_val (v := Nx (min x.ents.length 40)) rfl rfl rfl (e_len (a := p3) (n := min x.ents.length 40) (c := c4) rfl tf31) ?_
  refine l_val (v := .int .i64 (0)) rfl rfl rfl (e_move) ?_
  refine l_nil ?_
  refine f_then ?_
  refine c_block ?_
  refine c_loop (fun (k : Nat) (f : Fm) (L : List Res) => (f 1 = .pointer (some ⟨b1, 0, none⟩) ∧ f 2 = .pointer (some ⟨b2, 0, none⟩) ∧ f 16 = Nx (min x.ents.length 40) ∧ f 17 = Nx (k)) ∧ L = [row (.slice p3 (x.ents.length) c4) 35 2 (x.ents.length) ((entCells (cutAt k vs5) x.ents)), pt b2 (.cells #[.int .i64 (0), .slice none 0 0] 24), pt b1 (.cells #[Ix (x.tick), .slice p3 (min x.ents.length 40) c4] 24)] ∧ (k ≤ min x.ents.length 40)) (fun (k : Nat) => min x.ents.length 40 - k) 0 ?_ ?_
  · exact ⟨⟨rfl, rfl, rfl, rfl⟩, rfl, (by omega)⟩
  rintro k f0 L0 ⟨⟨hs1, hs2, hs16, hs17⟩, hL, hp1⟩
  subst L0
  refine rebase (d := 1) hs1 ?_
  refine rebase (d := 2) hs2 ?_
  refine rebase (d := 16) hs16 ?_
  refine rebase (d := 17) hs17 ?_
  clear hs1 hs2 hs16 hs17
  refine c_seq ?_
  refine c_region ?_
  refine l_val (v := .bool (decide (((k : Nat) : Int) < ((min x.ents.length 40 : Nat) : Int)))) rfl rfl rfl (e_lss (a := ((k : Nat) : Int)) (b := ((min x.ents.length 40 : Nat) : Int)) rfl rfl) ?_
  refine l_nil ?_
  refine f_then ?_
  refine c_seq ?_
  refine c_if (((k : Nat) : Int) < ((min x.ents.length 40 : Nat) : Int)) rfl (fun hc6 => ?_) (fun hc6 => ?_)
  ·
    refine c_skip ?_
    refine f_then ?_
    refine c_seq ?_
    refine c_block ?_
    refine c_seq ?_
    refine c_region ?_
    refine l_val (v := Nx (k)) rfl rfl rfl (e_move) ?_
    refine l_val (v := Nx (k)) rfl rfl rfl (e_assign) ?_
    refine l_nil ?_
    refine f_then ?_
    obtain ⟨e7, he8⟩ : ∃ e_, x.ents[k]? = some e_ := ⟨_, List.getElem?_eq_getElem (by omega)⟩
    obtain ⟨v9, hv10⟩ : ∃ v_, vs5[k]? = some v_ := ⟨_, List.getElem?_eq_getElem (by omega)⟩
    have hs11 := hC k _ _ hv10 he8
    obtain ⟨v9a, v9c, rfl, v9l, v9m, v9e⟩ := hs11.get
    obtain ⟨zs12, hz13⟩ : ∃ zs, zs = (e7.comps.take (min e7.comps.length 20)) := ⟨_, rfl⟩
    have zl14 : zs12.length = min (min e7.comps.length 20) (e7.comps).length - 0 := by rw [hz13]; simp; try omega
    have ze15 := (Elems.take (min e7.comps.length 20) v9e)
    rw [← hz13] at ze15
    refine c_any [⟨[], [], [0], [20], fun f => f 20 = .pointer (some ⟨b1, 1, none⟩)⟩, ⟨[0], [0], [], [21], fun f => f 21 = .slice p3 (min x.ents.length 40) c4⟩, ⟨[], [], [1], [22], fun f => f 22 = Nx (k)⟩, ⟨[], [], [0], [23], fun f => f 23 = .pointer (some ⟨b1, 1, none⟩)⟩, ⟨[3], [3], [], [24], fun f => f 24 = .slice p3 (min x.ents.length 40) c4⟩, ⟨[], [], [1], [25], fun f => f 25 = Nx (k)⟩, ⟨[3, 4, 5], [4, 5], [], [26], fun f => f 26 = .pointer (some ((ba p3).add (k * 2)))⟩, ⟨[3, 4, 5, 6], [6], [], [27], fun f => f 27 = .pointer (some ((ba p3).add (k * 2 + 1)))⟩, ⟨[3, 4, 5, 6, 7], [7], [], [28], fun f => f 28 = .slice v9a (e7.comps.length) (v9c)⟩, ⟨[], [], [0], [29], fun f => f 29 = .pointer (some ⟨b1, 1, none⟩)⟩, ⟨[9], [9], [], [30], fun f => f 30 = .slice p3 (min x.ents.length 40) c4⟩, ⟨[], [], [1], [31], fun f => f 31 = Nx (k)⟩, ⟨[9, 10, 11], [10, 11], [], [32], fun f => f 32 = .pointer (some ((ba p3).add (k * 2)))⟩, ⟨[9, 10, 11, 12], [12], [], [33], fun f => f 33 = .pointer (some ((ba p3).add (k * 2 + 1)))⟩, ⟨[9, 10, 11, 12, 13], [13], [], [34], fun f => f 34 = .slice v9a (e7.comps.length) (v9c)⟩, ⟨[9, 10, 11, 12, 13, 14], [14], [], [35], fun f => f 35 = Nx (e7.comps.length)⟩, ⟨[9, 10, 11, 12, 13, 14, 15], [15], [], [36], fun f => f 36 = Nx (min e7.comps.length 20)⟩, ⟨[3, 4, 5, 6, 7, 8, 9, 10, 11, 12, 13, 14, 15, 16], [8, 16], [], [37], fun f => f 37 = .slice v9a (zs12.length) (v9c)⟩, ⟨[0, 1, 2, 3, 4, 5, 6, 7, 8, 9, 10, 11, 12, 13, 14, 15, 16, 17], [1, 2], [], [38], fun f => f 38 = .pointer (some ((ba p3).add (k * 2)))⟩, ⟨[0, 1, 2, 3, 4, 5, 6, 7, 8, 9, 10, 11, 12, 13, 14, 15, 16, 17, 18], [18], [], [39], fun f => f 39 = .pointer (some ((ba p3).add (k * 2 + 1)))⟩, ⟨[0, 1, 2, 3, 4, 5, 6, 7, 8, 9, 10, 11, 12, 13, 14, 15, 16, 17, 18, 19], [19, 17], [], [], fun _ => True⟩] [⟨none, (some 20), [6, 8, 12, 14, 18, 20], [], fun _ => row (.slice p3 (x.ents.length) c4) 35 2 (x.ents.length) ((entCells (cutAt k vs5) x.ents))⟩, ⟨none, none, [], [], fun _ => pt b2 (.cells #[.int .i64 (0), .slice none 0 0] 24)⟩, ⟨none, none, [1, 4, 10], [], fun _ => pt b1 (.cells #[Ix (x.tick), .slice p3 (min x.ents.length 40) c4] 24)⟩, ⟨(some 20), none, [], [], fun _ => row (.slice p3 (x.ents.length) c4) 35 2 (x.ents.length) ((overL (entCells (cutAt k vs5) x.ents) (k * 2 + 1) [.slice v9a (zs12.length) (v9c)]))⟩] [(1, .pointer (some ⟨b1, 0, none⟩)), (3, Nx (k)), (2, .pointer (some ⟨b2, 0, none⟩)), (16, Nx (min x.ents.length 40)), (17, Nx (k))] [0, 2, 3, 4] [] (by kernel_rfl) (by kernel_rfl) (by kernel_rfl) (by kernel_rfl) rfl ⟨rfl, rfl, rfl, rfl, rfl, trivial⟩ ⟨?_, ?_, ?_, ?_, ?_, ?_, ?_, ?_, ?_, ?_, ?_, ?_, ?_, ?_, ?_, ?_, ?_, ?_, ?_, ?_, ?_, trivial⟩ ?_
    · rintro f M - ⟨i0, -⟩
      have hs1 : f 1 = .pointer (some ⟨b1, 0, none⟩) := i0
      refine ob_start (L' := M) (by rfl) (up_cons rfl hs1) ?_
      refine l_val (v := .pointer (some ⟨b1, 1, none⟩)) rfl rfl rfl (e_fieldPt (b := b1) (o := 0) rfl tf29) ?_
      refine l_nil ?_
      exact f_owes_d (up_cons rfl hs1) rfl (List.Perm.refl _)
    · rintro f M ⟨k0, -⟩ -
      have hs20 : f 20 = .pointer (some ⟨b1, 1, none⟩) := k0
      refine ob_start (L' := pt b1 (.cells #[Ix (x.tick), .slice p3 (min x.ents.length 40) c4] 24) :: M) (by rfl) (up_cons rfl hs20) ?_
      refine l_val (v := .slice p3 (min x.ents.length 40) c4) rfl rfl rfl (e_load1 tf30 (v := .slice p3 (min x.ents.length 40) c4) rfl (k_pt 0 (cs := #[Ix (x.tick), .slice p3 (min x.ents.length 40) c4]) (vs := [.slice p3 (min x.ents.length 40) c4]) rfl rfl)) ?_
      refine l_nil ?_
      exact f_owes_d (up_cons rfl hs20) rfl (perm_front 0 rfl)
    · rintro f M - ⟨i0, -⟩
      have hs3 : f 3 = Nx (k) := i0
      refine ob_start (L' := M) (by rfl) (up_cons rfl hs3) ?_
      refine l_val (v := Nx (k)) rfl rfl rfl (e_move) ?_
      refine l_nil ?_
      exact f_owes_d (up_cons rfl hs3) rfl (List.Perm.refl _)
    · rintro f M - ⟨i0, -⟩
      have hs1 : f 1 = .pointer (some ⟨b1, 0, none⟩) := i0
      refine ob_start (L' := M) (by rfl) (up_cons rfl hs1) ?_
      refine l_val (v := .pointer (some ⟨b1, 1, none⟩)) rfl rfl rfl (e_fieldPt (b := b1) (o := 0) rfl tf29) ?_
      refine l_nil ?_
      exact f_owes_d (up_cons rfl hs1) rfl (List.Perm.refl _)
    · rintro f M ⟨k0, -⟩ -
      have hs23 : f 23 = .pointer (some ⟨b1, 1, none⟩) := k0
      refine ob_start (L' := pt b1 (.cells #[Ix (x.tick), .slice p3 (min x.ents.length 40) c4] 24) :: M) (by rfl) (up_cons rfl hs23) ?_
      refine l_val (v := .slice p3 (min x.ents.length 40) c4) rfl rfl rfl (e_load1 tf30 (v := .slice p3 (min x.ents.length 40) c4) rfl (k_pt 0 (cs := #[Ix (x.tick), .slice p3 (min x.ents.length 40) c4]) (vs := [.slice p3 (min x.ents.length 40) c4]) rfl rfl)) ?_
      refine l_nil ?_
      exact f_owes_d (up_cons rfl hs23) rfl (perm_front 0 rfl)
    · rintro f M - ⟨i0, -⟩
      have hs3 : f 3 = Nx (k) := i0
      refine ob_start (L' := M) (by rfl) (up_cons rfl hs3) ?_
      refine l_val (v := Nx (k)) rfl rfl rfl (e_move) ?_
      refine l_nil ?_
      exact f_owes_d (up_cons rfl hs3) rfl (List.Perm.refl _)
    · rintro f M ⟨k0, k1, -⟩ -
      have hs24 : f 24 = .slice p3 (min x.ents.length 40) c4 := k0
      have hs25 : f 25 = Nx (k) := k1
      refine ob_start (L' := row (.slice p3 (x.ents.length) c4) 35 2 (x.ents.length) ((entCells (cutAt k vs5) x.ents)) :: M) (by rfl) (up_cons (up_cons rfl hs24) hs25) ?_
      refine l_val (v := .pointer (some ((ba p3).add (k * 2)))) rfl rfl rfl (e_indexRow 0 (j := k) (len := min x.ents.length 40) (cap := c4) (p := p3) rfl rfl tf32 (by omega) (by omega) rfl) ?_
      refine l_nil ?_
      exact f_owes_d (up_cons (up_cons rfl hs24) hs25) rfl (perm_front 0 rfl)
    · rintro f M ⟨k0, -⟩ -
      have hs26 : f 26 = .pointer (some ((ba p3).add (k * 2))) := k0
      refine ob_start (L' := M) (by rfl) (up_cons rfl hs26) ?_
      refine l_val (v := .pointer (some ((ba p3).add (k * 2 + 1)))) rfl rfl rfl (ev_eq (by rw [Addr.add_add']) (e_fieldAddr (a := (ba p3).add (k * 2)) rfl tf11)) ?_
      refine l_nil ?_
      exact f_owes_d (up_cons rfl hs26) rfl (List.Perm.refl _)
    · rintro f M ⟨k0, -⟩ -
      have hs27 : f 27 = .pointer (some ((ba p3).add (k * 2 + 1))) := k0
      refine ob_start (L' := row (.slice p3 (x.ents.length) c4) 35 2 (x.ents.length) ((entCells (cutAt k vs5) x.ents)) :: M) (by rfl) (up_cons rfl hs27) ?_
      refine l_val (v := .slice v9a (e7.comps.length) (v9c)) rfl rfl rfl (e_load1 tf12 (v := .slice v9a (e7.comps.length) (v9c)) rfl (k_row 0 (o := k * 2 + 1) (us := [.slice v9a (e7.comps.length) (v9c)]) rfl (ent_at (cut_at hv10) he8) (Nat.succ_pos _))) ?_
      refine l_nil ?_
      exact f_owes_d (up_cons rfl hs27) rfl (perm_front 0 rfl)
    · rintro f M - ⟨i0, -⟩
      have hs1 : f 1 = .pointer (some ⟨b1, 0, none⟩) := i0
      refine ob_start (L' := M) (by rfl) (up_cons rfl hs1) ?_
      refine l_val (v := .pointer (some ⟨b1, 1, none⟩)) rfl rfl rfl (e_fieldPt (b := b1) (o := 0) rfl tf29) ?_
      refine l_nil ?_
      exact f_owes_d (up_cons rfl hs1) rfl (List.Perm.refl _)
    · rintro f M ⟨k0, -⟩ -
      have hs29 : f 29 = .pointer (some ⟨b1, 1, none⟩) := k0
      refine ob_start (L' := pt b1 (.cells #[Ix (x.tick), .slice p3 (min x.ents.length 40) c4] 24) :: M) (by rfl) (up_cons rfl hs29) ?_
      refine l_val (v := .slice p3 (min x.ents.length 40) c4) rfl rfl rfl (e_load1 tf30 (v := .slice p3 (min x.ents.length 40) c4) rfl (k_pt 0 (cs := #[Ix (x.tick), .slice p3 (min x.ents.length 40) c4]) (vs := [.slice p3 (min x.ents.length 40) c4]) rfl rfl)) ?_
      refine l_nil ?_
      exact f_owes_d (up_cons rfl hs29) rfl (perm_front 0 rfl)
    · rintro f M - ⟨i0, -⟩
      have hs3 : f 3 = Nx (k) := i0
      refine ob_start (L' := M) (by rfl) (up_cons rfl hs3) ?_
      refine l_val (v := Nx (k)) rfl rfl rfl (e_move) ?_
      refine l_nil ?_
      exact f_owes_d (up_cons rfl hs3) rfl (List.Perm.refl _)
    · rintro f M ⟨k0, k1, -⟩ -
      have hs30 : f 30 = .slice p3 (min x.ents.length 40) c4 := k0
      have hs31 : f 31 = Nx (k) := k1
      refine ob_start (L' := row (.slice p3 (x.ents.length) c4) 35 2 (x.ents.length) ((entCells (cutAt k vs5) x.ents)) :: M) (by rfl) (up_cons (up_cons rfl hs30) hs31) ?_
      refine l_val (v := .pointer (some ((ba p3).add (k * 2)))) rfl rfl rfl (e_indexRow 0 (j := k) (len := min x.ents.length 40) (cap := c4) (p := p3) rfl rfl tf32 (by omega) (by omega) rfl) ?_
      refine l_nil ?_
      exact f_owes_d (up_cons (up_cons rfl hs30) hs31) rfl (perm_front 0 rfl)
    · rintro f M ⟨k0, -⟩ -
      have hs32 : f 32 = .pointer (some ((ba p3).add (k * 2))) := k0
      refine ob_start (L' := M) (by rfl) (up_cons rfl hs32) ?_
      refine l_val (v := .pointer (some ((ba p3).add (k * 2 + 1)))) rfl rfl rfl (ev_eq (by rw [Addr.add_add']) (e_fieldAddr (a := (ba p3).add (k * 2)) rfl tf11)) ?_
      refine l_nil ?_
      exact f_owes_d (up_cons rfl hs32) rfl (List.Perm.refl _)
    · rintro f M ⟨k0, -⟩ -
      have hs33 : f 33 = .pointer (some ((ba p3).add (k * 2 + 1))) := k0
      refine ob_start (L' := row (.slice p3 (x.ents.length) c4) 35 2 (x.ents.length) ((entCells (cutAt k vs5) x.ents)) :: M) (by rfl) (up_cons rfl hs33) ?_
      refine l_val (v := .slice v9a (e7.comps.length) (v9c)) rfl rfl rfl (e_load1 tf12 (v := .slice v9a (e7.comps.length) (v9c)) rfl (k_row 0 (o := k * 2 + 1) (us := [.slice v9a (e7.comps.length) (v9c)]) rfl (ent_at (cut_at hv10) he8) (Nat.succ_pos _))) ?_
      refine l_nil ?_
      exact f_owes_d (up_cons rfl hs33) rfl (perm_front 0 rfl)
    · rintro f M ⟨k0, -⟩ -
      have hs34 : f 34 = .slice v9a (e7.comps.length) (v9c) := k0
      refine ob_start (L' := M) (by rfl) (up_cons rfl hs34) ?_
      refine l_val (v := Nx (e7.comps.length)) rfl rfl rfl (e_len (a := v9a) (n := e7.comps.length) (c := v9c) rfl tf13) ?_
      refine l_nil ?_
      exact f_owes_d (up_cons rfl hs34) rfl (List.Perm.refl _)
    · rintro f M ⟨k0, -⟩ -
      have hs35 : f 35 = Nx (e7.comps.length) := k0
      refine ob_start (L' := M) (by rfl) (up_cons rfl hs35) ?_
      refine l_val (v := Nx (min e7.comps.length 20)) rfl rfl rfl (ev_eq (congrArg (Value.int .i64) (by omega)) (e_min (a := ((e7.comps.length : Nat) : Int)) (b := (20 : Int)) rfl rfl)) ?_
      refine l_nil ?_
      exact f_owes_d (up_cons rfl hs35) rfl (List.Perm.refl _)
    · rintro f M ⟨k0, k1, -⟩ -
      have hs28 : f 28 = .slice v9a (e7.comps.length) (v9c) := k0
      have hs36 : f 36 = Nx (min e7.comps.length 20) := k1
      refine ob_start (L' := M) (by rfl) (up_cons (up_cons rfl hs28) hs36) ?_
      refine l_val (v := .slice v9a (zs12.length) (v9c)) rfl rfl rfl (ev_eq (by rw [show zs12.length = min e7.comps.length 20 by omega]) (e_slice_hi (a := v9a) (len := e7.comps.length) (cap := v9c) (h := min e7.comps.length 20) tf14 rfl rfl (by omega))) ?_
      refine l_nil ?_
      exact f_owes_d (up_cons (up_cons rfl hs28) hs36) rfl (List.Perm.refl _)
    · rintro f M ⟨k0, k1, -⟩ -
      have hs21 : f 21 = .slice p3 (min x.ents.length 40) c4 := k0
      have hs22 : f 22 = Nx (k) := k1
      refine ob_start (L' := row (.slice p3 (x.ents.length) c4) 35 2 (x.ents.length) ((entCells (cutAt k vs5) x.ents)) :: M) (by rfl) (up_cons (up_cons rfl hs21) hs22) ?_
      refine l_val (v := .pointer (some ((ba p3).add (k * 2)))) rfl rfl rfl (e_indexRow 0 (j := k) (len := min x.ents.length 40) (cap := c4) (p := p3) rfl rfl tf32 (by omega) (by omega) rfl) ?_
      refine l_nil ?_
      exact f_owes_d (up_cons (up_cons rfl hs21) hs22) rfl (perm_front 0 rfl)
    · rintro f M ⟨k0, -⟩ -
      have hs38 : f 38 = .pointer (some ((ba p3).add (k * 2))) := k0
      refine ob_start (L' := M) (by rfl) (up_cons rfl hs38) ?_
      refine l_val (v := .pointer (some ((ba p3).add (k * 2 + 1)))) rfl rfl rfl (ev_eq (by rw [Addr.add_add']) (e_fieldAddr (a := (ba p3).add (k * 2)) rfl tf11)) ?_
      refine l_nil ?_
      exact f_owes_d (up_cons rfl hs38) rfl (List.Perm.refl _)
    · rintro f M ⟨k0, k1, -⟩ -
      have hs39 : f 39 = .pointer (some ((ba p3).add (k * 2 + 1))) := k0
      have hs37 : f 37 = .slice v9a (zs12.length) (v9c) := k1
      refine ob_start (L' := row (.slice p3 (x.ents.length) c4) 35 2 (x.ents.length) ((entCells (cutAt k vs5) x.ents)) :: M) (by rfl) (up_cons (up_cons rfl hs39) hs37) ?_
      refine l_mu rfl rfl (m_storeRow 0 tf12 (o := k * 2 + 1) (v := .slice v9a (zs12.length) (v9c)) rfl rfl rfl rfl rfl (by omega) (by omega)) ?_
      refine l_nil ?_
      exact f_owes_n (up_cons (up_cons rfl hs39) hs37) trivial (perm_front 0 rfl)
    rintro fa16 ⟨-, -, -, -, -, -, -, -, -, -, -, -, -, -, -, -, -, -, -, -, -, -⟩ ⟨j0, j1, j2, j3, -⟩
    refine f_re (L' := [pt b2 (.cells #[.int .i64 (0), .slice none 0 0] 24), pt b1 (.cells #[Ix (x.tick), .slice p3 (min x.ents.length 40) c4] 24), row (.slice p3 (x.ents.length) c4) 35 2 (x.ents.length) ((overL (entCells (cutAt k vs5) x.ents) (k * 2 + 1) [.slice v9a (zs12.length) (v9c)]))]) (by rfl) ?_
    refine f_rebase (d := 1) (v := .pointer (some ⟨b1, 0, none⟩)) j0 ?_
    refine f_rebase (d := 2) (v := .pointer (some ⟨b2, 0, none⟩)) j1 ?_
    refine f_rebase (d := 16) (v := Nx (min x.ents.length 40)) j2 ?_
    refine f_rebase (d := 17) (v := Nx (k)) j3 ?_
    refine f_block ?_
    refine f_then ?_
    refine c_region ?_
    refine l_val (v := Nx (k + 1)) rfl rfl rfl (e_add (a := ((k : Nat) : Int)) (b := (1 : Int)) rfl rfl (i64n (by omega) (by omega))) ?_
    refine l_val (v := Nx (k + 1)) rfl rfl rfl (e_move) ?_
    refine l_nil ?_
    refine f_perm (L' := [row (.slice p3 (x.ents.length) c4) 35 2 (x.ents.length) ((overL (entCells (cutAt k vs5) x.ents) (k * 2 + 1) [.slice v9a (zs12.length) (v9c)])), pt b2 (.cells #[.int .i64 (0), .slice none 0 0] 24), pt b1 (.cells #[Ix (x.tick), .slice p3 (min x.ents.length 40) c4] 24)]) (((perm_front 1 rfl).trans (perm_front 1 rfl)).trans (perm_front 2 rfl)) ?_
    exact f_cut ⟨k + 1, ⟨⟨rfl, rfl, rfl, rfl⟩, (by rw [few_step hv10 he8 (by omega)]), (by omega)⟩, (show min x.ents.length 40 - (k + 1) < min x.ents.length 40 - k from by omega)⟩
  ·
    refine c_exit ?_
    refine f_then_exit ?_
    refine f_then_exit ?_
    refine f_exit ?_
    refine f_then ?_
    refine c_seq ?_
    refine c_region ?_
    refine l_val (v := .agg #[Ix (x.tick), .slice p3 (min x.ents.length 40) c4]) rfl rfl rfl (e_load tf46 (cs := [Ix (x.tick), .slice p3 (min x.ents.length 40) c4]) rfl (k_pt 2 (cs := #[Ix (x.tick), .slice p3 (min x.ents.length 40) c4]) (vs := [Ix (x.tick), .slice p3 (min x.ents.length 40) c4]) rfl rfl) rfl) ?_
    refine l_mu rfl rfl (m_store 1 tf46 (b := b2) (o := 0) (T := 24) (cs := #[.int .i64 (0), .slice none 0 0]) (cs' := #[Ix (x.tick), .slice p3 (min x.ents.length 40) c4]) (v := .agg #[Ix (x.tick), .slice p3 (min x.ents.length 40) c4]) rfl rfl rfl rfl rfl rfl rfl) ?_
    refine l_nil ?_
    refine f_then ?_
    refine c_ret ?_
    refine retG (l := [.cell 2 24]) (m := [.agg #[Ix (x.tick), .slice p3 (min x.ents.length 40) c4]]) (v := .agg #[Ix (x.tick), .slice p3 (min x.ents.length 40) c4]) Tryz.results5 ⟨rd_cell tf46 (cs := [Ix (x.tick), .slice p3 (min x.ents.length 40) c4]) rfl (k_pt 1 (cs := #[Ix (x.tick), .slice p3 (min x.ents.length 40) c4]) (vs := [Ix (x.tick), .slice p3 (min x.ents.length 40) c4]) rfl rfl) rfl, trivial⟩ rfl ?_
    intro w hw
    have h := back _ _ (st_mask (L' := [row (.slice p3 (x.ents.length) c4) 35 2 (x.ents.length) ((entCells (cutAt k vs5) x.ents))]) [true, false, false] rfl hw)
    exact ⟨_, rfl, few_end hvs (by omega) h⟩
end Go.Proofs
