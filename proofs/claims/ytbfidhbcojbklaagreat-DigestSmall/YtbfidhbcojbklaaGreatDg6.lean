/-
  Own work; plain Lean (Dg6).
-/
import Derived.Test.YtbfidhbcojbklaaGreatDg5
import Derived.Test.YtbfidhbcojbklaaGreatSlMap
namespace Go.Proofs
open Go Go.Sl
def dg (es : List KEnt) (i : Int) : List UInt64 := (es.filter fun e => decide (e.id = i)).map entU
theorem dg_length (es : List KEnt) (k : Nat) (i : Int) : (dg (es.take k) i).length ≤ k := by
  have h1 := List.length_filter_le (fun e : KEnt => decide (e.id = i)) (es.take k)
  have h2 := List.length_take_le k es
  simp only [dg, List.length_map]; omega
def rowsOf (ks : List (Int × Value)) (dgs : Int → List UInt64) : List Res := ks.map fun p => row p.2 41 1 (dgs p.1).length ((dgs p.1).map fun z => Ux z)
theorem look_split {ks : List (Int × Value)} {i : Int} {v : Value} (hn : (ks.map (·.1)).Nodup) (h : lookK KInt ks i = some v) : ∃ A B, ks = A ++ (i, v) :: B ∧ ∀ p ∈ A ++ B, p.1 ≠ i := by
  induction ks with
  | nil => cases h
  | cons p ks ih =>
    obtain ⟨a, u⟩ := p
    unfold lookK at h
    simp only [List.map_cons, List.nodup_cons] at hn
    cases hd : KInt.dec i a with
    | isTrue e =>
      rw [hd] at h; injection h with h; subst h; subst e
      exact ⟨[], ks, rfl, fun p hp e => hn.1 (by rw [← e]; exact List.mem_map_of_mem (by simpa using hp))⟩
    | isFalse e =>
      rw [hd] at h
      obtain ⟨A, B, rfl, hAB⟩ := ih hn.2 h
      refine ⟨(a, u) :: A, B, rfl, fun p hp => ?_⟩
      rcases List.mem_cons.1 hp with rfl | hp
      · exact fun e' => e e'.symm
      · exact hAB p hp
theorem rows_out (i : Int) (v : Value) (A B : List (Int × Value)) (dgs : Int → List UInt64) (own : List Res) :
    (own ++ rowsOf (A ++ (i, v) :: B) dgs).Perm (row v 41 1 (dgs i).length ((dgs i).map fun z => Ux z) :: own ++ rowsOf (A ++ B) dgs) := by
  simp only [rowsOf, List.map_append, List.map_cons]
  rw [← List.append_assoc, List.cons_append]
  refine List.perm_middle.trans ?_
  simp [List.append_assoc]
theorem dg_snoc {es : List KEnt} {k : Nat} {e : KEnt} (h : es[k]? = some e) (i : Int) : dg (es.take (k + 1)) i = dg (es.take k) i ++ if e.id = i then [entU e] else [] := by
  rw [take_succ h]
  by_cases hi : e.id = i <;> simp [dg, hi, List.filter_append]
theorem rowsOf_congr {ks : List (Int × Value)} {d d' : Int → List UInt64} (h : ∀ p ∈ ks, d p.1 = d' p.1) : rowsOf ks d = rowsOf ks d' := by
  unfold rowsOf
  exact List.map_congr_left fun p hp => by rw [h p hp]
theorem put_split {A B : List (Int × Value)} {i : Int} {v u : Value} (h : ∀ p ∈ A ++ B, p.1 ≠ i) : putK KInt (A ++ (i, v) :: B) i u = A ++ (i, u) :: B := by
  induction A with
  | nil =>
    show putK KInt ((i, v) :: B) i u = _
    unfold putK
    cases hd : KInt.dec i i with
    | isTrue e => rfl
    | isFalse e => exact absurd rfl e
  | cons p A ih =>
    obtain ⟨a, w⟩ := p
    show putK KInt ((a, w) :: (A ++ (i, v) :: B)) i u = _
    unfold putK
    cases hd : KInt.dec i a with
    | isTrue e => exact absurd e.symm (h (a, w) (by simp))
    | isFalse e => simp only [ih fun p hp => h p (by simp at hp ⊢; exact .inr hp), List.cons_append]
theorem rows_put_old {es : List KEnt} {k : Nat} {e : KEnt} (hx : es[k]? = some e) {ks A B : List (Int × Value)} {v u : Value} (hks : ks = A ++ (e.id, v) :: B) (hAB : ∀ p ∈ A ++ B, p.1 ≠ e.id) :
    (row u 41 1 ((dg (es.take k) e.id).length + 1) ((dg (es.take k) e.id).map (fun z => Ux z) ++ [Ux (entU e)]) :: rowsOf (A ++ B) (dg (es.take k))).Perm (rowsOf (putK KInt ks e.id u) (dg (es.take (k + 1)))) := by
  subst hks
  rw [put_split hAB]
  have h := rows_out e.id u A B (dg (es.take (k + 1))) []
  simp only [List.nil_append] at h
  refine List.Perm.trans ?_ h.symm
  rw [dg_snoc hx e.id, if_pos rfl, rowsOf_congr (ks := A ++ B) (d := dg (es.take (k + 1))) (d' := dg (es.take k)) fun p hp => by rw [dg_snoc hx, if_neg fun e' => hAB p hp e'.symm, List.append_nil]]
  simp
theorem put_new {ks : List (Int × Value)} {i : Int} {u : Value} (h : lookK KInt ks i = none) : putK KInt ks i u = ks ++ [(i, u)] := by
  induction ks with
  | nil => rfl
  | cons p ks ih =>
    obtain ⟨a, v⟩ := p
    unfold lookK at h
    unfold putK
    cases hd : KInt.dec i a with
    | isTrue e => rw [hd] at h; cases h
    | isFalse e => rw [hd] at h; simp [ih h]
theorem look_none {ks : List (Int × Value)} {i : Int} (h : lookK KInt ks i = none) : ∀ p ∈ ks, p.1 ≠ i := by
  induction ks with
  | nil => simp
  | cons p ks ih =>
    obtain ⟨a, v⟩ := p
    unfold lookK at h
    cases hd : KInt.dec i a with
    | isTrue e => rw [hd] at h; cases h
    | isFalse e =>
      rw [hd] at h
      intro q hq
      rcases List.mem_cons.1 hq with rfl | hq
      · exact fun e' => e e'.symm
      · exact ih h q hq
theorem rows_put_new {es : List KEnt} {k : Nat} {e : KEnt} (hx : es[k]? = some e) {ks : List (Int × Value)} {u : Value} (hl : lookK KInt ks e.id = none) (hks : ∀ i, lookK KInt ks i = none → dg (es.take k) i = []) :
    (row u 41 1 (0 + 1) ([] ++ [Ux (entU e)]) :: rowsOf ks (dg (es.take k))).Perm (rowsOf (putK KInt ks e.id u) (dg (es.take (k + 1)))) := by
  rw [put_new hl]
  have h := rows_out e.id u ks [] (dg (es.take (k + 1))) []
  simp only [List.nil_append, List.append_nil] at h
  refine List.Perm.trans ?_ h.symm
  rw [dg_snoc hx e.id, if_pos rfl, hks _ hl, rowsOf_congr (ks := ks) (d := dg (es.take (k + 1))) (d' := dg (es.take k)) fun p hp => by rw [dg_snoc hx, if_neg fun e' => look_none hl p hp e'.symm, List.append_nil]]
  simp
theorem put_nodup {ks : List (Int × Value)} {i : Int} {u : Value} (h : (ks.map (·.1)).Nodup) : ((putK KInt ks i u).map (·.1)).Nodup := by
  cases hl : lookK KInt ks i with
  | none =>
    rw [put_new hl, List.map_append, List.nodup_append]
    refine ⟨h, by simp, fun a ha b hb e => ?_⟩
    obtain ⟨p, hp, rfl⟩ := List.mem_map.1 ha
    simp at hb; subst hb
    exact look_none hl p hp e
  | some v =>
    obtain ⟨A, B, rfl, hAB⟩ := look_split h hl
    rw [put_split hAB]
    simpa using h
theorem look_put {ks : List (Int × Value)} {i j : Int} {u : Value} (h : lookK KInt (putK KInt ks i u) j = none) : lookK KInt ks j = none ∧ j ≠ i := by
  induction ks with
  | nil =>
    unfold putK lookK at h
    cases hd : KInt.dec j i with
    | isTrue e => rw [hd] at h; cases h
    | isFalse e => exact ⟨rfl, e⟩
  | cons p ks ih =>
    obtain ⟨a, v⟩ := p
    unfold putK at h
    cases hd : KInt.dec i a with
    | isTrue e =>
      rw [hd] at h
      unfold lookK at h ⊢
      cases hj : KInt.dec j a with
      | isTrue e' => rw [hj] at h; cases h
      | isFalse e' => rw [hj] at h; exact ⟨h, fun e2 => e' (e2.trans e)⟩
    | isFalse e =>
      rw [hd] at h
      simp only at h
      unfold lookK at h ⊢
      cases hj : KInt.dec j a with
      | isTrue e' => rw [hj] at h; cases h
      | isFalse e' => rw [hj] at h; exact ih h
theorem put_keys {es : List KEnt} {k : Nat} {e : KEnt} (hx : es[k]? = some e) {ks : List (Int × Value)} {u : Value} (hks : ∀ i, lookK KInt ks i = none → dg (es.take k) i = []) :
    ∀ i, lookK KInt (putK KInt ks e.id u) i = none → dg (es.take (k + 1)) i = [] := by
  intro i hi
  obtain ⟨h1, h2⟩ := look_put hi
  rw [dg_snoc hx, hks i h1, if_neg (Ne.symm h2)]; rfl
/-- a map whose values are the lists that a function says -/
def mapU (b : Nat) (d : Int → List UInt64) : Res := fun h => ∃ ks, mapR KInt b ks h ∧ ∀ i, Sl U64R h ((lookK KInt ks i).getD (.slice none 0 0)) (d i)
theorem row_sl64 {v : Value} {T : Nat} {xs : List UInt64} {a : PHeap} (h : row v T 1 xs.length (xs.map fun z => Ux z) a) : Sl U64R a v xs := by
  obtain ⟨_, ⟨rfl, h0⟩ | ⟨g, cap, cur, rfl, hg, h1, h2, h3, h4⟩⟩ := h
  · have : xs = [] := List.eq_nil_of_length_eq_zero h0
    subst this
    exact ⟨none, 0, rfl, Nat.le_refl _, by omega, fun j x hj => by simp at hj⟩
  · refine ⟨some ⟨g, 0, none⟩, cap, rfl, h1, by unfold maxLen at h2; omega, fun j x hj => ⟨rfl, [Ux x], ?_, rfl⟩⟩
    have hlt := (List.getElem?_eq_some_iff.1 hj).1
    have hc : Cs a ⟨g, 0, none⟩ (xs.map fun z => Ux z) := Cs.of_pt (o := 0) hg (by simpa using h4)
    have := Cs.sub (vs := [Ux x]) j hc (by
      have hx := (List.getElem?_eq_some_iff.1 hj).2
      rw [List.drop_eq_getElem_cons (by simpa using hlt)]
      simp [hx])
    show Cs a ((⟨g, 0, none⟩ : Addr).add (j * 1)) [Ux x]
    rw [Nat.mul_one]; exact this
theorem own_end {β : Base} {b : Nat} {ks : List (Int × Value)} {d : Int → List UInt64} {w : World} (hks : ∀ i, lookK KInt ks i = none → d i = []) (h : St β (mapR KInt b ks :: rowsOf ks d) w) : St β [mapU b d] w := by
  refine St.merge (L := mapR KInt b ks :: rowsOf ks d) (M := []) (by simpa using h) fun a ha => ?_
  obtain ⟨a1, hs1, h1⟩ := ha.each (mapR KInt b ks) (by simp)
  refine ⟨ks, mapR.mono KInt b ks _ _ hs1 h1, fun i => ?_⟩
  cases hl : lookK KInt ks i with
  | none =>
    rw [hks i hl]
    exact ⟨none, 0, rfl, Nat.le_refl _, by omega, fun j x hj => by simp at hj⟩
  | some v =>
    have hm : ∀ (ks : List (Int × Value)), lookK KInt ks i = some v → (i, v) ∈ ks := by
      intro ks
      induction ks with
      | nil => intro h; cases h
      | cons p ks ih =>
        obtain ⟨c, u⟩ := p
        intro h
        unfold lookK at h
        cases hd : KInt.dec i c with
        | isTrue e => rw [hd] at h; injection h with h; subst h; subst e; simp
        | isFalse e => rw [hd] at h; exact List.mem_cons_of_mem _ (ih h)
    obtain ⟨a2, hs2, h2⟩ := ha.each (row v 41 1 (d i).length ((d i).map fun z => Ux z)) (List.mem_cons_of_mem _ (List.mem_map.2 ⟨(i, v), hm ks hl, rfl⟩))
    exact Sl.mono U64R v _ _ _ hs2 (row_sl64 h2)
theorem tf42 : Tryz.prog.underlying 43 = some (.map 3 47) := by kernel_rfl
theorem tf43 : Tryz.prog.underlying 3 = some KInt.d := by kernel_rfl
theorem tf44 : (Tryz.prog.info? 47).bind (·.zero) = some (.slice none 0 0) := by kernel_rfl
theorem tf45 : elB Tryz.prog 41 1 8 = true := by kernel_rfl
theorem own_ok (β : Base) (w : World) (hw : St β [] w) (x : KWorld) (v : Value) (hs : Sl EntR β.heap v x.ents) (hn : x.ents.length ≤ 1000000) : Calls Tryz.prog 16 #[.agg #[Ix x.tick, v]] w fun r w' => ∃ b, r = .returned (.map (some b)) ∧ St β [mapU b (dg x.ents)] w' := by
  obtain ⟨va, vc, rfl, vl, vm, ve⟩ := hs.get
  have hdl := fun k i => dg_length x.ents k i
  refine enter (n := 27) Tryz.func16 rfl Tryz.ntmps16 rfl ?_ hw
  refine c_seq ?_
  refine c_region ?_
  refine l_mv rfl rfl rfl (m_box (v := .agg #[Ix (x.tick), .slice va (x.ents.length) (vc)]) rfl) ?_
  rintro _ _ ⟨b1, rfl, rfl⟩
  refine l_val (v := .map none) rfl rfl rfl (e_assign) ?_
  refine l_nil ?_
  refine f_then ?_
  refine c_seq ?_
  refine c_region ?_
  refine l_mv rfl rfl rfl (m_makeMap KInt) ?_
  rintro _ _ ⟨b2, rfl, rfl⟩
  refine l_val (v := .map (some b2)) rfl rfl rfl (e_assign) ?_
  refine l_nil ?_
  refine f_then ?_
  refine c_seq ?_
  refine c_seq ?_
  refine c_region ?_
  refine l_val (v := .pointer (some ⟨b1, 1, none⟩)) rfl rfl rfl (e_fieldPt (b := b1) (o := 0) rfl tf29) ?_
  refine l_val (v := .slice va (x.ents.length) (vc)) rfl rfl rfl (e_load1 tf30 (v := .slice va (x.ents.length) (vc)) rfl (k_pt 1 (cs := #[Ix (x.tick), .slice va (x.ents.length) (vc)]) (vs := [.slice va (x.ents.length) (vc)]) rfl rfl)) ?_
  refine l_val (v := Nx (x.ents.length)) rfl rfl rfl (e_len (a := va) (n := x.ents.length) (c := vc) rfl tf31) ?_
  refine l_val (v := .int .i64 (0)) rfl rfl rfl (e_move) ?_
  refine l_nil ?_
  refine f_then ?_
  refine c_block ?_
  refine c_mask [true, true] rfl ?_
  refine c_loop (fun (x_ : Nat × List (Int × Value)) (f : Fm) (L : List Res) => match x_ with | (k, ks) => (f 3 = .map (some b2) ∧ f 8 = .slice va (x.ents.length) (vc) ∧ f 9 = Nx (x.ents.length) ∧ f 10 = Nx (k)) ∧ L = (mapR KInt b2 ks :: pt b1 (.cells #[Ix (x.tick), .slice va (x.ents.length) (vc)] 24) :: (rowsOf ks (dg (x.ents.take k)))) ∧ (k ≤ x.ents.length ∧ (ks.map (·.1)).Nodup ∧ ∀ i, lookK KInt ks i = none → (dg (x.ents.take k)) i = [])) (fun (x_ : Nat × List (Int × Value)) => match x_ with | (k, ks) => x.ents.length - k) (0, []) ?_ ?_
  · exact ⟨⟨rfl, rfl, rfl, rfl⟩, rfl, ⟨by omega, by simp, by simp [dg]⟩⟩
  rintro ⟨k, ks⟩ f0 L0 ⟨⟨hs3, hs8, hs9, hs10⟩, hL, ⟨hk, hnd, hks⟩⟩
  subst L0
  refine rebase (d := 3) hs3 ?_
  refine rebase (d := 8) hs8 ?_
  refine rebase (d := 9) hs9 ?_
  refine rebase (d := 10) hs10 ?_
  clear hs3 hs8 hs9 hs10
  refine c_seq ?_
  refine c_region ?_
  refine l_val (v := .bool (decide (((k : Nat) : Int) < ((x.ents.length : Nat) : Int)))) rfl rfl rfl (e_lss (a := ((k : Nat) : Int)) (b := ((x.ents.length : Nat) : Int)) rfl rfl) ?_
  refine l_nil ?_
  refine f_then ?_
  refine c_seq ?_
  refine c_if (((k : Nat) : Int) < ((x.ents.length : Nat) : Int)) rfl (fun hc3 => ?_) (fun hc3 => ?_)
  ·
    refine c_skip ?_
    refine f_then ?_
    refine c_seq ?_
    refine c_block ?_
    refine c_seq ?_
    refine c_region ?_
    obtain ⟨x4, hx5⟩ : ∃ x_, (x.ents)[k]? = some x_ := ⟨_, List.getElem?_eq_getElem (by omega)⟩
    obtain ⟨ha6, cs7, hc8, hr9⟩ := ve _ _ hx5
    obtain ⟨v10, rfl, hv11⟩ := hr9
    obtain ⟨v10a, v10c, rfl, v10l, v10m, v10e⟩ := hv11.get
    refine l_val (v := .pointer (some ((ba va).add (k * 2)))) rfl rfl rfl (e_indexAddr (k := k) (len := x.ents.length) (cap := vc) (a := va) rfl rfl tf32 (by omega) ha6) ?_
    refine l_val (v := .agg #[Ix (x4.id), .slice v10a (x4.comps.length) (v10c)]) rfl rfl rfl (e_load tf24 (cs := [Ix (x4.id), .slice v10a (x4.comps.length) (v10c)]) rfl (Knows.of_base (Cs.mono _ _) hc8) rfl) ?_
    refine l_mv rfl rfl rfl (m_alloc tf33) ?_
    rintro _ _ ⟨b12, rfl, rfl⟩
    refine l_mu rfl rfl (m_store 0 tf24 (b := b12) (o := 0) (T := 35) (cs := #[.int .i64 (0), .slice none 0 0]) (cs' := #[Ix (x4.id), .slice v10a (x4.comps.length) (v10c)]) (v := .agg #[Ix (x4.id), .slice v10a (x4.comps.length) (v10c)]) rfl rfl rfl rfl rfl rfl rfl) ?_
    refine l_nil ?_
    refine f_then ?_
    cases hlk : lookK KInt ks x4.id with
    | some v =>
      obtain ⟨A, B, rfl, hAB⟩ := look_split hnd hlk
      have hdk := hdl k x4.id
      refine c_perm (L' := (row v 41 1 (((dg (x.ents.take k)) x4.id).length) ((((dg (x.ents.take k)) x4.id).map fun z => Ux z)) :: pt b12 (.cells #[Ix (x4.id), .slice v10a (x4.comps.length) (v10c)] 35) :: mapR KInt b2 (A ++ (x4.id, v) :: B) :: pt b1 (.cells #[Ix (x.tick), .slice va (x.ents.length) (vc)] 24) :: (rowsOf (A ++ B) (dg (x.ents.take k))))) (rows_out x4.id v A B (dg (x.ents.take k)) [_, _, _]) ?_
      refine c_any [⟨[], [], [0], [14], fun f => f 14 = .map (some b2)⟩, ⟨[], [], [1], [15], fun f => f 15 = .pointer (some ⟨b12, 0, none⟩)⟩, ⟨[1], [1], [], [16], fun f => f 16 = Ix (x4.id)⟩, ⟨[], [], [0], [17], fun f => f 17 = .map (some b2)⟩, ⟨[], [], [1], [18], fun f => f 18 = .pointer (some ⟨b12, 0, none⟩)⟩, ⟨[4], [4], [], [19], fun f => f 19 = Ix (x4.id)⟩, ⟨[3, 4, 5], [3, 5], [], [20], fun f => f 20 = v⟩, ⟨[], [], [1], [21], fun f => f 21 = .agg #[Ix (x4.id), .slice v10a (x4.comps.length) (v10c)]⟩, ⟨[7], [7], [], [22], fun f => f 22 = Ux (entU x4)⟩, ⟨[7, 8], [8], [], [23], fun f => f 23 = .slice (some ⟨(blk (f 23)), 0, none⟩) 1 1⟩, ⟨[3, 4, 5, 6, 7, 8, 9], [6, 9], [], [24], fun f => f 24 = (f 24)⟩, ⟨[0, 1, 2, 3, 4, 5, 6, 7, 8, 9, 10], [0, 2, 10], [], [], fun _ => True⟩] [⟨none, (some 10), [10], [], fun _ => row v 41 1 (((dg (x.ents.take k)) x4.id).length) ((((dg (x.ents.take k)) x4.id).map fun z => Ux z))⟩, ⟨none, none, [2, 5, 7], [], fun _ => pt b12 (.cells #[Ix (x4.id), .slice v10a (x4.comps.length) (v10c)] 35)⟩, ⟨none, (some 11), [6, 11], [], fun _ => mapR KInt b2 (A ++ (x4.id, v) :: B)⟩, ⟨none, none, [], [], fun _ => pt b1 (.cells #[Ix (x.tick), .slice va (x.ents.length) (vc)] 24)⟩, ⟨(some 9), none, [10], [23], fun f => pt (blk (f 23)) (.cells #[Ux (entU x4)] 41)⟩, ⟨(some 10), none, [], [24], fun f => row (f 24) 41 1 ((((dg (x.ents.take k)) x4.id).length) + 1) ((((dg (x.ents.take k)) x4.id).map fun z => Ux z) ++ [Ux (entU x4)])⟩, ⟨(some 11), none, [], [24], fun f => mapR KInt b2 (putK KInt ((A ++ (x4.id, v) :: B)) (x4.id) ((f 24)))⟩] [(3, .map (some b2)), (5, .pointer (some ⟨b12, 0, none⟩)), (8, .slice va (x.ents.length) (vc)), (9, Nx (x.ents.length)), (10, Nx (k))] [0, 2, 3, 4] (rowsOf (A ++ B) (dg (x.ents.take k))) (by kernel_rfl) (by kernel_rfl) (by kernel_rfl) (by kernel_rfl) rfl ⟨rfl, rfl, rfl, rfl, rfl, trivial⟩ ⟨?_, ?_, ?_, ?_, ?_, ?_, ?_, ?_, ?_, ?_, ?_, ?_, trivial⟩ ?_
      · rintro f M - ⟨i0, -⟩
        have hs3 : f 3 = .map (some b2) := i0
        refine ob_start (L' := M) (by rfl) (up_cons rfl hs3) ?_
        refine l_val (v := .map (some b2)) rfl rfl rfl (e_move) ?_
        refine l_nil ?_
        exact f_owes_d (up_cons rfl hs3) rfl (List.Perm.refl _)
      · rintro f M - ⟨i0, -⟩
        have hs5 : f 5 = .pointer (some ⟨b12, 0, none⟩) := i0
        refine ob_start (L' := M) (by rfl) (up_cons rfl hs5) ?_
        refine l_val (v := .pointer (some ⟨b12, 0, none⟩)) rfl rfl rfl (e_fieldPt (b := b12) (o := 0) rfl tf9) ?_
        refine l_nil ?_
        exact f_owes_d (up_cons rfl hs5) rfl (List.Perm.refl _)
      · rintro f M ⟨k0, -⟩ -
        have hs15 : f 15 = .pointer (some ⟨b12, 0, none⟩) := k0
        refine ob_start (L' := pt b12 (.cells #[Ix (x4.id), .slice v10a (x4.comps.length) (v10c)] 35) :: M) (by rfl) (up_cons rfl hs15) ?_
        refine l_val (v := Ix (x4.id)) rfl rfl rfl (e_load1 tf10 (v := Ix (x4.id)) rfl (k_pt 0 (cs := #[Ix (x4.id), .slice v10a (x4.comps.length) (v10c)]) (vs := [Ix (x4.id)]) rfl rfl)) ?_
        refine l_nil ?_
        exact f_owes_d (up_cons rfl hs15) rfl (perm_front 0 rfl)
      · rintro f M - ⟨i0, -⟩
        have hs3 : f 3 = .map (some b2) := i0
        refine ob_start (L' := M) (by rfl) (up_cons rfl hs3) ?_
        refine l_val (v := .map (some b2)) rfl rfl rfl (e_move) ?_
        refine l_nil ?_
        exact f_owes_d (up_cons rfl hs3) rfl (List.Perm.refl _)
      · rintro f M - ⟨i0, -⟩
        have hs5 : f 5 = .pointer (some ⟨b12, 0, none⟩) := i0
        refine ob_start (L' := M) (by rfl) (up_cons rfl hs5) ?_
        refine l_val (v := .pointer (some ⟨b12, 0, none⟩)) rfl rfl rfl (e_fieldPt (b := b12) (o := 0) rfl tf9) ?_
        refine l_nil ?_
        exact f_owes_d (up_cons rfl hs5) rfl (List.Perm.refl _)
      · rintro f M ⟨k0, -⟩ -
        have hs18 : f 18 = .pointer (some ⟨b12, 0, none⟩) := k0
        refine ob_start (L' := pt b12 (.cells #[Ix (x4.id), .slice v10a (x4.comps.length) (v10c)] 35) :: M) (by rfl) (up_cons rfl hs18) ?_
        refine l_val (v := Ix (x4.id)) rfl rfl rfl (e_load1 tf10 (v := Ix (x4.id)) rfl (k_pt 0 (cs := #[Ix (x4.id), .slice v10a (x4.comps.length) (v10c)]) (vs := [Ix (x4.id)]) rfl rfl)) ?_
        refine l_nil ?_
        exact f_owes_d (up_cons rfl hs18) rfl (perm_front 0 rfl)
      · rintro f M ⟨k0, k1, -⟩ -
        have hs17 : f 17 = .map (some b2) := k0
        have hs19 : f 19 = Ix (x4.id) := k1
        refine ob_start (L' := mapR KInt b2 (A ++ (x4.id, v) :: B) :: M) (by rfl) (up_cons (up_cons rfl hs17) hs19) ?_
        refine l_val (v := v) rfl rfl rfl (ev_eq (by rw [hlk]; rfl) (e_lookup KInt (b := b2) (ks := (A ++ (x4.id, v) :: B)) (k := (x4.id)) tf42 tf43 tf44 rfl rfl (Knows.of_res 0 rfl (mapR.mono _ _ _) fun _ h => h))) ?_
        refine l_nil ?_
        exact f_owes_d (up_cons (up_cons rfl hs17) hs19) rfl (perm_front 0 rfl)
      · rintro f M - ⟨i0, -⟩
        have hs5 : f 5 = .pointer (some ⟨b12, 0, none⟩) := i0
        refine ob_start (L' := pt b12 (.cells #[Ix (x4.id), .slice v10a (x4.comps.length) (v10c)] 35) :: M) (by rfl) (up_cons rfl hs5) ?_
        refine l_val (v := .agg #[Ix (x4.id), .slice v10a (x4.comps.length) (v10c)]) rfl rfl rfl (e_load tf24 (cs := [Ix (x4.id), .slice v10a (x4.comps.length) (v10c)]) rfl (k_pt 0 (cs := #[Ix (x4.id), .slice v10a (x4.comps.length) (v10c)]) (vs := [Ix (x4.id), .slice v10a (x4.comps.length) (v10c)]) rfl rfl) rfl) ?_
        refine l_nil ?_
        exact f_owes_d (up_cons rfl hs5) rfl (perm_front 0 rfl)
      · rintro f M ⟨k0, -⟩ -
        have hs21 : f 21 = .agg #[Ix (x4.id), .slice v10a (x4.comps.length) (v10c)] := k0
        refine ob_start (L' := M) (by rfl) (up_cons rfl hs21) ?_
        refine l_call rfl rfl rfl (cl_value (fst := []) (cap := []) (vs := [.agg #[Ix (x4.id), .slice v10a (x4.comps.length) (v10c)]]) (all := [.agg #[Ix (x4.id), .slice v10a (x4.comps.length) (v10c)]]) tf26 rfl rfl rfl) ?_
        intro w hw
        obtain ⟨β1, sb, kn, hw1, back⟩ := St.frame_all hw
        refine (entity_ok β1 w hw1 x4 _ (Sl.mono _ _ _ _ _ sb (⟨⟨_, _, rfl, v10l, v10m, v10e⟩⟩ : Sl CompR _ _ x4.comps))).mono ?_
        rintro e w' ⟨rfl, hw'⟩
        refine ⟨_, rfl, _, back _ _ hw', ?_⟩
        clear hw hw1 hw' back kn sb
        refine l_nil ?_
        exact f_owes_d (up_cons rfl hs21) rfl (List.Perm.refl _)
      · rintro f M ⟨k0, -⟩ -
        have hs22 : f 22 = Ux (entU x4) := k0
        refine ob_start (L' := M) (by rfl) (up_cons rfl hs22) ?_
        refine l_mv rfl rfl rfl (m_slices tf41 tf4 (vs := [(0, Ux (entU x4))]) (cells := #[Ux (entU x4)]) rfl rfl rfl rfl) ?_
        rintro _ _ ⟨b14, rfl, rfl⟩
        refine l_nil ?_
        exact f_owes_d (up_cons rfl hs22) rfl (perm_front 0 rfl)
      · rintro f M ⟨k0, k1, -⟩ -
        have hs20 : f 20 = v := k0
        have hs23 : f 23 = .slice (some ⟨(blk (f 23)), 0, none⟩) 1 1 := k1
        refine ob_start (L' := row v 41 1 (((dg (x.ents.take k)) x4.id).length) ((((dg (x.ents.take k)) x4.id).map fun z => Ux z)) :: pt (blk (f 23)) (.cells #[Ux (entU x4)] 41) :: M) (by rfl) (up_cons (up_cons rfl hs20) hs23) ?_
        refine l_mv rfl rfl rfl (m_append 0 tf41 tf45 (v := v) (m := ((dg (x.ents.take k)) x4.id).length) (vs := (((dg (x.ents.take k)) x4.id).map fun z => Ux z)) (ad := ⟨(blk (f 23)), 0, none⟩) (k := 1) (c := 1) (news := [Ux (entU x4)]) rfl rfl rfl rfl (k_pt 1 (cs := #[Ux (entU x4)]) (vs := [Ux (entU x4)]) rfl rfl) rfl (by unfold maxLen; omega) (by omega)) ?_
        rintro v16 _ ⟨hnv16, rfl⟩
        refine l_nil ?_
        exact f_owes_d (up_cons (up_cons rfl hs20) hs23) rfl ((perm_front 0 rfl).trans (perm_front 1 rfl))
      · rintro f M ⟨k0, k1, k2, -⟩ -
        have hs14 : f 14 = .map (some b2) := k0
        have hs16 : f 16 = Ix (x4.id) := k1
        have hs24 : f 24 = (f 24) := k2
        refine ob_start (L' := mapR KInt b2 (A ++ (x4.id, v) :: B) :: M) (by rfl) (up_cons (up_cons (up_cons rfl hs14) hs16) hs24) ?_
        refine l_mu rfl rfl (m_mapUpdate KInt (b := b2) (ks := (A ++ (x4.id, v) :: B)) (k := (x4.id)) (v := (f 24)) 0 tf42 tf43 rfl rfl rfl rfl) ?_
        refine l_nil ?_
        exact f_owes_n (up_cons (up_cons (up_cons rfl hs14) hs16) hs24) trivial (perm_front 0 rfl)
      rintro fa17 ⟨-, -, -, -, -, -, -, -, -, -, -, -, -⟩ ⟨j0, j1, j2, j3, -⟩
      refine f_re (L' := (pt b12 (.cells #[Ix (x4.id), .slice v10a (x4.comps.length) (v10c)] 35) :: pt b1 (.cells #[Ix (x.tick), .slice va (x.ents.length) (vc)] 24) :: pt (blk (fa17 23)) (.cells #[Ux (entU x4)] 41) :: row (fa17 24) 41 1 ((((dg (x.ents.take k)) x4.id).length) + 1) ((((dg (x.ents.take k)) x4.id).map fun z => Ux z) ++ [Ux (entU x4)]) :: mapR KInt b2 (putK KInt ((A ++ (x4.id, v) :: B)) (x4.id) ((fa17 24))) :: (rowsOf (A ++ B) (dg (x.ents.take k))))) (by rfl) ?_
      refine f_rebase (d := 3) (v := .map (some b2)) j0 ?_
      refine f_rebase (d := 8) (v := .slice va (x.ents.length) (vc)) j1 ?_
      refine f_rebase (d := 9) (v := Nx (x.ents.length)) j2 ?_
      refine f_rebase (d := 10) (v := Nx (k)) j3 ?_
      refine f_block ?_
      refine f_then ?_
      refine c_region ?_
      refine l_val (v := Nx (k + 1)) rfl rfl rfl (e_add (a := ((k : Nat) : Int)) (b := (1 : Int)) rfl rfl (i64n (by omega) (by omega))) ?_
      refine l_val (v := Nx (k + 1)) rfl rfl rfl (e_move) ?_
      refine l_nil ?_
      refine f_mask [false, true, false, true, true] rfl ?_
      refine f_perm (((perm_front 1 rfl).trans (perm_front 1 rfl)).trans (perm_front 2 rfl)) ?_
      refine f_perm (L' := (mapR KInt b2 (putK KInt ((A ++ (x4.id, v) :: B)) (x4.id) ((fa17 24))) :: pt b1 (.cells #[Ix (x.tick), .slice va (x.ents.length) (vc)] 24) :: (rowsOf (putK KInt ((A ++ (x4.id, v) :: B)) (x4.id) ((fa17 24))) (dg (x.ents.take (k + 1)))))) (((rows_put_old hx5 rfl hAB).cons _).cons _) ?_
      exact f_cut ⟨(k + 1, (putK KInt ((A ++ (x4.id, v) :: B)) (x4.id) ((fa17 24)))), ⟨⟨rfl, rfl, rfl, rfl⟩, rfl, ⟨by omega, put_nodup hnd, put_keys hx5 hks⟩⟩, (show x.ents.length - (k + 1) < x.ents.length - k from by omega)⟩
    | none =>
      refine c_any [⟨[], [], [0], [14], fun f => f 14 = .map (some b2)⟩, ⟨[], [], [1], [15], fun f => f 15 = .pointer (some ⟨b12, 0, none⟩)⟩, ⟨[1], [1], [], [16], fun f => f 16 = Ix (x4.id)⟩, ⟨[], [], [0], [17], fun f => f 17 = .map (some b2)⟩, ⟨[], [], [1], [18], fun f => f 18 = .pointer (some ⟨b12, 0, none⟩)⟩, ⟨[4], [4], [], [19], fun f => f 19 = Ix (x4.id)⟩, ⟨[3, 4, 5], [3, 5], [], [20], fun f => f 20 = .slice none 0 0⟩, ⟨[], [], [1], [21], fun f => f 21 = .agg #[Ix (x4.id), .slice v10a (x4.comps.length) (v10c)]⟩, ⟨[7], [7], [], [22], fun f => f 22 = Ux (entU x4)⟩, ⟨[7, 8], [8], [], [23], fun f => f 23 = .slice (some ⟨(blk (f 23)), 0, none⟩) 1 1⟩, ⟨[3, 4, 5, 6, 7, 8, 9], [6, 9], [], [24], fun f => f 24 = (f 24)⟩, ⟨[0, 1, 2, 3, 4, 5, 6, 7, 8, 9, 10], [0, 2, 10], [], [], fun _ => True⟩] [⟨none, none, [2, 5, 7], [], fun _ => pt b12 (.cells #[Ix (x4.id), .slice v10a (x4.comps.length) (v10c)] 35)⟩, ⟨none, (some 11), [6, 11], [], fun _ => mapR KInt b2 ks⟩, ⟨none, none, [], [], fun _ => pt b1 (.cells #[Ix (x.tick), .slice va (x.ents.length) (vc)] 24)⟩, ⟨(some 9), none, [10], [23], fun f => pt (blk (f 23)) (.cells #[Ux (entU x4)] 41)⟩, ⟨(some 10), none, [], [24], fun f => row (f 24) 41 1 (0 + 1) ([] ++ [Ux (entU x4)])⟩, ⟨(some 11), none, [], [24], fun f => mapR KInt b2 (putK KInt (ks) (x4.id) ((f 24)))⟩] [(3, .map (some b2)), (5, .pointer (some ⟨b12, 0, none⟩)), (8, .slice va (x.ents.length) (vc)), (9, Nx (x.ents.length)), (10, Nx (k))] [0, 2, 3, 4] (rowsOf ks (dg (x.ents.take k))) (by kernel_rfl) (by kernel_rfl) (by kernel_rfl) (by kernel_rfl) rfl ⟨rfl, rfl, rfl, rfl, rfl, trivial⟩ ⟨?_, ?_, ?_, ?_, ?_, ?_, ?_, ?_, ?_, ?_, ?_, ?_, trivial⟩ ?_
      · rintro f M - ⟨i0, -⟩
        have hs3 : f 3 = .map (some b2) := i0
        refine ob_start (L' := M) (by rfl) (up_cons rfl hs3) ?_
        refine l_val (v := .map (some b2)) rfl rfl rfl (e_move) ?_
        refine l_nil ?_
        exact f_owes_d (up_cons rfl hs3) rfl (List.Perm.refl _)
      · rintro f M - ⟨i0, -⟩
        have hs5 : f 5 = .pointer (some ⟨b12, 0, none⟩) := i0
        refine ob_start (L' := M) (by rfl) (up_cons rfl hs5) ?_
        refine l_val (v := .pointer (some ⟨b12, 0, none⟩)) rfl rfl rfl (e_fieldPt (b := b12) (o := 0) rfl tf9) ?_
        refine l_nil ?_
        exact f_owes_d (up_cons rfl hs5) rfl (List.Perm.refl _)
      · rintro f M ⟨k0, -⟩ -
        have hs15 : f 15 = .pointer (some ⟨b12, 0, none⟩) := k0
        refine ob_start (L' := pt b12 (.cells #[Ix (x4.id), .slice v10a (x4.comps.length) (v10c)] 35) :: M) (by rfl) (up_cons rfl hs15) ?_
        refine l_val (v := Ix (x4.id)) rfl rfl rfl (e_load1 tf10 (v := Ix (x4.id)) rfl (k_pt 0 (cs := #[Ix (x4.id), .slice v10a (x4.comps.length) (v10c)]) (vs := [Ix (x4.id)]) rfl rfl)) ?_
        refine l_nil ?_
        exact f_owes_d (up_cons rfl hs15) rfl (perm_front 0 rfl)
      · rintro f M - ⟨i0, -⟩
        have hs3 : f 3 = .map (some b2) := i0
        refine ob_start (L' := M) (by rfl) (up_cons rfl hs3) ?_
        refine l_val (v := .map (some b2)) rfl rfl rfl (e_move) ?_
        refine l_nil ?_
        exact f_owes_d (up_cons rfl hs3) rfl (List.Perm.refl _)
      · rintro f M - ⟨i0, -⟩
        have hs5 : f 5 = .pointer (some ⟨b12, 0, none⟩) := i0
        refine ob_start (L' := M) (by rfl) (up_cons rfl hs5) ?_
        refine l_val (v := .pointer (some ⟨b12, 0, none⟩)) rfl rfl rfl (e_fieldPt (b := b12) (o := 0) rfl tf9) ?_
        refine l_nil ?_
        exact f_owes_d (up_cons rfl hs5) rfl (List.Perm.refl _)
      · rintro f M ⟨k0, -⟩ -
        have hs18 : f 18 = .pointer (some ⟨b12, 0, none⟩) := k0
        refine ob_start (L' := pt b12 (.cells #[Ix (x4.id), .slice v10a (x4.comps.length) (v10c)] 35) :: M) (by rfl) (up_cons rfl hs18) ?_
        refine l_val (v := Ix (x4.id)) rfl rfl rfl (e_load1 tf10 (v := Ix (x4.id)) rfl (k_pt 0 (cs := #[Ix (x4.id), .slice v10a (x4.comps.length) (v10c)]) (vs := [Ix (x4.id)]) rfl rfl)) ?_
        refine l_nil ?_
        exact f_owes_d (up_cons rfl hs18) rfl (perm_front 0 rfl)
      · rintro f M ⟨k0, k1, -⟩ -
        have hs17 : f 17 = .map (some b2) := k0
        have hs19 : f 19 = Ix (x4.id) := k1
        refine ob_start (L' := mapR KInt b2 ks :: M) (by rfl) (up_cons (up_cons rfl hs17) hs19) ?_
        refine l_val (v := .slice none 0 0) rfl rfl rfl (ev_eq (by rw [hlk]; rfl) (e_lookup KInt (b := b2) (ks := ks) (k := (x4.id)) tf42 tf43 tf44 rfl rfl (Knows.of_res 0 rfl (mapR.mono _ _ _) fun _ h => h))) ?_
        refine l_nil ?_
        exact f_owes_d (up_cons (up_cons rfl hs17) hs19) rfl (perm_front 0 rfl)
      · rintro f M - ⟨i0, -⟩
        have hs5 : f 5 = .pointer (some ⟨b12, 0, none⟩) := i0
        refine ob_start (L' := pt b12 (.cells #[Ix (x4.id), .slice v10a (x4.comps.length) (v10c)] 35) :: M) (by rfl) (up_cons rfl hs5) ?_
        refine l_val (v := .agg #[Ix (x4.id), .slice v10a (x4.comps.length) (v10c)]) rfl rfl rfl (e_load tf24 (cs := [Ix (x4.id), .slice v10a (x4.comps.length) (v10c)]) rfl (k_pt 0 (cs := #[Ix (x4.id), .slice v10a (x4.comps.length) (v10c)]) (vs := [Ix (x4.id), .slice v10a (x4.comps.length) (v10c)]) rfl rfl) rfl) ?_
        refine l_nil ?_
        exact f_owes_d (up_cons rfl hs5) rfl (perm_front 0 rfl)
      · rintro f M ⟨k0, -⟩ -
        have hs21 : f 21 = .agg #[Ix (x4.id), .slice v10a (x4.comps.length) (v10c)] := k0
        refine ob_start (L' := M) (by rfl) (up_cons rfl hs21) ?_
        refine l_call rfl rfl rfl (cl_value (fst := []) (cap := []) (vs := [.agg #[Ix (x4.id), .slice v10a (x4.comps.length) (v10c)]]) (all := [.agg #[Ix (x4.id), .slice v10a (x4.comps.length) (v10c)]]) tf26 rfl rfl rfl) ?_
        intro w hw
        obtain ⟨β1, sb, kn, hw1, back⟩ := St.frame_all hw
        refine (entity_ok β1 w hw1 x4 _ (Sl.mono _ _ _ _ _ sb (⟨⟨_, _, rfl, v10l, v10m, v10e⟩⟩ : Sl CompR _ _ x4.comps))).mono ?_
        rintro e w' ⟨rfl, hw'⟩
        refine ⟨_, rfl, _, back _ _ hw', ?_⟩
        clear hw hw1 hw' back kn sb
        refine l_nil ?_
        exact f_owes_d (up_cons rfl hs21) rfl (List.Perm.refl _)
      · rintro f M ⟨k0, -⟩ -
        have hs22 : f 22 = Ux (entU x4) := k0
        refine ob_start (L' := M) (by rfl) (up_cons rfl hs22) ?_
        refine l_mv rfl rfl rfl (m_slices tf41 tf4 (vs := [(0, Ux (entU x4))]) (cells := #[Ux (entU x4)]) rfl rfl rfl rfl) ?_
        rintro _ _ ⟨b19, rfl, rfl⟩
        refine l_nil ?_
        exact f_owes_d (up_cons rfl hs22) rfl (perm_front 0 rfl)
      · rintro f M ⟨k0, k1, -⟩ -
        have hs20 : f 20 = .slice none 0 0 := k0
        have hs23 : f 23 = .slice (some ⟨(blk (f 23)), 0, none⟩) 1 1 := k1
        refine ob_start (L' := pt (blk (f 23)) (.cells #[Ux (entU x4)] 41) :: M) (by rfl) (up_cons (up_cons rfl hs20) hs23) ?_
        refine l_emp (r := row (.slice none 0 0) 41 1 0 []) (row_nil _ _ _) ?_
        refine l_mv rfl rfl rfl (m_append 0 tf41 tf45 (v := .slice none 0 0) (m := 0) (vs := []) (ad := ⟨(blk (f 23)), 0, none⟩) (k := 1) (c := 1) (news := [Ux (entU x4)]) rfl rfl rfl rfl (k_pt 1 (cs := #[Ux (entU x4)]) (vs := [Ux (entU x4)]) rfl rfl) rfl (by unfold maxLen; omega) (by omega)) ?_
        rintro v21 _ ⟨hnv21, rfl⟩
        refine l_nil ?_
        exact f_owes_d (up_cons (up_cons rfl hs20) hs23) rfl ((perm_front 0 rfl).trans (perm_front 1 rfl))
      · rintro f M ⟨k0, k1, k2, -⟩ -
        have hs14 : f 14 = .map (some b2) := k0
        have hs16 : f 16 = Ix (x4.id) := k1
        have hs24 : f 24 = (f 24) := k2
        refine ob_start (L' := mapR KInt b2 ks :: M) (by rfl) (up_cons (up_cons (up_cons rfl hs14) hs16) hs24) ?_
        refine l_mu rfl rfl (m_mapUpdate KInt (b := b2) (ks := ks) (k := (x4.id)) (v := (f 24)) 0 tf42 tf43 rfl rfl rfl rfl) ?_
        refine l_nil ?_
        exact f_owes_n (up_cons (up_cons (up_cons rfl hs14) hs16) hs24) trivial (perm_front 0 rfl)
      rintro fa22 ⟨-, -, -, -, -, -, -, -, -, -, -, -, -⟩ ⟨j0, j1, j2, j3, -⟩
      refine f_re (L' := (pt b12 (.cells #[Ix (x4.id), .slice v10a (x4.comps.length) (v10c)] 35) :: pt b1 (.cells #[Ix (x.tick), .slice va (x.ents.length) (vc)] 24) :: pt (blk (fa22 23)) (.cells #[Ux (entU x4)] 41) :: row (fa22 24) 41 1 (0 + 1) ([] ++ [Ux (entU x4)]) :: mapR KInt b2 (putK KInt (ks) (x4.id) ((fa22 24))) :: (rowsOf ks (dg (x.ents.take k))))) (by rfl) ?_
      refine f_rebase (d := 3) (v := .map (some b2)) j0 ?_
      refine f_rebase (d := 8) (v := .slice va (x.ents.length) (vc)) j1 ?_
      refine f_rebase (d := 9) (v := Nx (x.ents.length)) j2 ?_
      refine f_rebase (d := 10) (v := Nx (k)) j3 ?_
      refine f_block ?_
      refine f_then ?_
      refine c_region ?_
      refine l_val (v := Nx (k + 1)) rfl rfl rfl (e_add (a := ((k : Nat) : Int)) (b := (1 : Int)) rfl rfl (i64n (by omega) (by omega))) ?_
      refine l_val (v := Nx (k + 1)) rfl rfl rfl (e_move) ?_
      refine l_nil ?_
      refine f_mask [false, true, false, true, true] rfl ?_
      refine f_perm (((perm_front 1 rfl).trans (perm_front 1 rfl)).trans (perm_front 2 rfl)) ?_
      refine f_perm (L' := (mapR KInt b2 (putK KInt (ks) (x4.id) ((fa22 24))) :: pt b1 (.cells #[Ix (x.tick), .slice va (x.ents.length) (vc)] 24) :: (rowsOf (putK KInt (ks) (x4.id) ((fa22 24))) (dg (x.ents.take (k + 1)))))) (((rows_put_new hx5 hlk hks).cons _).cons _) ?_
      exact f_cut ⟨(k + 1, (putK KInt (ks) (x4.id) ((fa22 24)))), ⟨⟨rfl, rfl, rfl, rfl⟩, rfl, ⟨by omega, put_nodup hnd, put_keys hx5 hks⟩⟩, (show x.ents.length - (k + 1) < x.ents.length - k from by omega)⟩
  ·
    refine c_exit ?_
    refine f_then_exit ?_
    refine f_then_exit ?_
    refine f_exit ?_
    refine f_then ?_
    refine c_seq ?_
    refine c_region ?_
    refine l_val (v := .map (some b2)) rfl rfl rfl (e_move) ?_
    refine l_val (v := .map (some b2)) rfl rfl rfl (e_assign) ?_
    refine l_nil ?_
    refine f_then ?_
    refine c_ret ?_
    refine ret1 Tryz.results16 (v := .map (some b2)) rfl ?_
    intro w hw
    refine ⟨_, rfl, ?_⟩
    rw [List.take_of_length_le (show x.ents.length ≤ k by omega)] at hks hw
    exact own_end hks (st_mask [true, false] rfl hw)
end Go.Proofs
