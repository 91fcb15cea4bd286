/-
  Meshes that are shifted or turned over, or have fewer rooms: what Find answers. Own work; plain Lean.
-/
import Derived.Test.YthncdmfogeemcaaPtGeo
namespace Go.Pth
open Go.Sl Go.Brd
structure Sim (f : KA → KA) (g : KV → KV) : Prop where
  touch : ∀ a b, touchA (f a) (f b) ↔ touchA a b
  com : ∀ a b, comA (f a) (f b) = f (comA a b)
  flat : ∀ a, flatA (f a) ↔ flatA a
  pnt : ∀ a, ((f a).lx = (f a).hx ∧ (f a).ly = (f a).hy) ↔ (a.lx = a.hx ∧ a.ly = a.hy)
  mid : ∀ c : KA, (⟨((f c).lx + (f c).hx) / 2, ((f c).ly + (f c).hy) / 2⟩ : KV) = g ⟨(c.lx + c.hx) / 2, (c.ly + c.hy) / 2⟩
  has : ∀ a p, hasP (f a) (g p).x (g p).y ↔ hasP a p.x p.y
def shA (dx dy : Int) (a : KA) : KA := ⟨a.lx + dx, a.ly + dy, a.hx + dx, a.hy + dy⟩
def shV (dx dy : Int) (p : KV) : KV := ⟨p.x + dx, p.y + dy⟩
def swA (a : KA) : KA := ⟨a.ly, a.lx, a.hy, a.hx⟩
def swV (p : KV) : KV := ⟨p.y, p.x⟩
theorem ka_ext {a b : KA} (h1 : a.lx = b.lx) (h2 : a.ly = b.ly) (h3 : a.hx = b.hx) (h4 : a.hy = b.hy) : a = b := by cases a; cases b; simp_all
theorem kv_ext {a b : KV} (h1 : a.x = b.x) (h2 : a.y = b.y) : a = b := by cases a; cases b; simp_all
theorem sim_sh (dx dy : Int) : Sim (shA dx dy) (shV dx dy) := by
  refine ⟨fun a b => ?_, fun a b => ?_, fun a => ?_, fun a => ?_, fun c => ?_, fun a p => ?_⟩
  · unfold touchA shA; simp only; omega
  · refine ka_ext ?_ ?_ ?_ ?_ <;> (unfold comA shA; simp only; omega)
  · unfold flatA shA; simp only; omega
  · unfold shA; simp only; omega
  · refine kv_ext ?_ ?_ <;> (unfold shA shV; simp only; omega)
  · unfold hasP shA shV; simp only; omega
theorem sim_sw : Sim swA swV := by
  refine ⟨fun a b => ?_, fun a b => ?_, fun a => ?_, fun a => ?_, fun c => ?_, fun a p => ?_⟩
  · unfold touchA swA; simp only; omega
  · rfl
  · unfold flatA swA; simp only; omega
  · unfold swA; simp only; omega
  · rfl
  · unfold hasP swA swV; simp only; omega
section
variable {f : KA → KA} {g : KV → KV} {l : List KA} {p q : KV}
theorem things_map : ∀ (l : List KA) (n : Nat), things (l.map f) n = (things l n).map fun t => ⟨t.id, f t.ar⟩
  | [], _ => rfl
  | a :: l, n => by show _ :: things (l.map f) (n + 1) = _; rw [things_map l]; rfl
theorem pairsT_map (h : ∀ a b, touchA (f a) (f b) ↔ touchA a b) : ∀ L : List KT, pairsT (L.map fun t => ⟨t.id, f t.ar⟩) = pairsT L
  | [] => rfl
  | x :: L => by
    show hitsT ⟨x.id, f x.ar⟩ (L.map _) ++ pairsT (L.map _) = hitsT x L ++ pairsT L
    rw [pairsT_map h L]
    congr 1
    unfold hitsT
    rw [List.filter_map, List.map_map]
    have : (fun y => decide (touchA (⟨x.id, f x.ar⟩ : KT).ar y.ar)) ∘ (fun t : KT => (⟨t.id, f t.ar⟩ : KT)) = fun y : KT => decide (touchA x.ar y.ar) := by
      funext y; exact decide_eq_decide.2 (h _ _)
    rw [this]; rfl
theorem pairsA_map (h : Sim f g) (l : List KA) : pairsA (l.map f) = pairsA l := by rw [pairsA_eq, pairsA_eq, things_map, pairsT_map h.touch]
theorem comP_map (h : Sim f g) {z : KP} (hz : z ∈ pairsA l) : comP (l.map f) z = f (comP l z) := by
  obtain ⟨i, k, a, b, h1, h2, h3, h4, rfl, h5⟩ := pairs_two hz
  rw [comP_of h3 h4, comP_of (a := f a) (b := f b) (by rw [List.getElem?_map, h3]; rfl) (by rw [List.getElem?_map, h4]; rfl)]
  exact h.com a b
theorem okM_map (h : Sim f g) (hM : okM l) (hr : ∀ a ∈ l, roomOk (f a)) : okM (l.map f) := by
  refine ⟨by rw [List.length_map]; exact hM.1, fun a ha => ?_, fun z hz => ?_⟩
  · obtain ⟨b, hb, rfl⟩ := List.mem_map.1 ha; exact hr b hb
  · rw [pairsA_map h] at hz
    rw [comP_map h hz]; exact (h.flat _).2 (hM.2.2 z hz)
def gO (g : KV → KV) (o : KO) : KO := ⟨o.a, o.b, (g ⟨o.x, o.y⟩).x, (g ⟨o.x, o.y⟩).y⟩
def gN (g : KV → KV) (x : KN) : KN := ⟨(g ⟨x.x, x.y⟩).x, (g ⟨x.x, x.y⟩).y, x.rs⟩
theorem portO_map (h : Sim f g) {z : KP} (hz : z ∈ pairsA l) : portO (l.map f) z = (portO l z).map (gO g) := by
  unfold portO
  rw [comP_map h hz]
  by_cases c : (comP l z).lx = (comP l z).hx ∧ (comP l z).ly = (comP l z).hy
  · rw [if_pos c, if_pos ((h.pnt _).2 c)]; rfl
  · rw [if_neg c, if_neg fun q => c ((h.pnt _).1 q)]
    have := h.mid (comP l z)
    show some _ = some (gO g _)
    unfold gO
    rw [← this]
theorem portL_map (h : Sim f g) (l : List KA) : portL (l.map f) = (portL l).map (gO g) := by
  unfold portL
  rw [pairsA_map h, List.map_filterMap]
  have key : ∀ L : List KP, (∀ z ∈ L, z ∈ pairsA l) → L.filterMap (portO (l.map f)) = L.filterMap fun z => (portO l z).map (gO g) := by
    intro L
    induction L with
    | nil => intro _; rfl
    | cons z L ih =>
      intro hz
      rw [List.filterMap_cons, List.filterMap_cons, portO_map h (hz z List.mem_cons_self), ih fun y hy => hz y (List.mem_cons_of_mem _ hy)]
  exact key _ fun _ h => h
theorem roomF_map (h : Sim f g) (l : List KA) (p : KV) : roomF (l.map f) (g p).x (g p).y = roomF l p.x p.y := by
  unfold roomF
  rw [List.length_map]
  refine List.filter_congr fun i hi => decide_eq_decide.2 ?_
  have hi := List.mem_range.1 hi
  have e1 : (l.map f).getD i zeroA = f l[i] := by rw [List.getD_eq_getElem?_getD, List.getElem?_map, List.getElem?_eq_getElem hi]; rfl
  have e2 : l.getD i zeroA = l[i] := by rw [List.getD_eq_getElem?_getD, List.getElem?_eq_getElem hi]; rfl
  rw [e1, e2]; exact h.has _ _
theorem nodeL_map (h : Sim f g) (l : List KA) (p q : KV) : nodeL (l.map f) (g p) (g q) = (nodeL l p q).map (gN g) := by
  unfold nodeL
  rw [portL_map h, roomF_map h, roomF_map h, List.map_append, List.map_map, List.map_map]; rfl
theorem nAt_map {ns : List KN} {n : Nat} (h : n < ns.length) : nAt (ns.map (gN g)) n = gN g (nAt ns n) := by
  unfold nAt; rw [List.getD_eq_getElem?_getD, List.getD_eq_getElem?_getD, List.getElem?_map, List.getElem?_eq_getElem h]; rfl
theorem nAt_rs (ns : List KN) (n : Nat) : (nAt (ns.map (gN g)) n).rs = (nAt ns n).rs := by
  by_cases h : n < ns.length
  · rw [nAt_map h]; rfl
  · unfold nAt; rw [List.getD_eq_getElem?_getD, List.getD_eq_getElem?_getD, List.getElem?_eq_none (by rw [List.length_map]; omega), List.getElem?_eq_none (by omega)]
theorem rows_map (k : Nat) (ns : List KN) : rowsL k (ns.map (gN g)) = rowsL k ns := by
  unfold rowsL
  rw [List.map_map, List.length_map]; rfl
theorem nr_map (RR : List (List Nat)) (ns : List KN) (n : Nat) : nrL (ns.map (gN g)) RR n = nrL ns RR n := by
  unfold nrL; rw [nAt_rs]
end
section
variable {N e : Nat} {nr : Nat → List Nat} {wt wt' : Nat → Nat → Nat} {out : List KM}
theorem Mk.wt_eq (h : Mk N nr wt e out) (hw : ∀ m n, m < N → n < N → wt m n = wt' m n) : Mk N nr wt' e out := by
  refine ⟨h.len, h.en, h.z, h.nd, h.fe, fun n hn hp hne => ?_, fun m hm hp k hk => ?_⟩
  · obtain ⟨m, m1, m2, m3, m4, m5⟩ := h.fs n hn hp hne
    exact ⟨m, m1, m2, m3, by rw [← hw m n m1 hn]; exact m4, m5⟩
  · obtain ⟨c1, c2, c3⟩ := h.fc m hm hp k hk
    exact ⟨c1, c2, by rw [← hw m k hm c1]; exact c3⟩
theorem wayL_wt (hw : ∀ n k, k ∈ nr n → wt n k = wt' n k) : ∀ p n, wayL out nr wt N e p n = wayL out nr wt' N e p n := by
  have e1 : ∀ n, nxt out wt N n (nr n) = nxt out wt' N n (nr n) := fun n => by
    unfold nxt
    have key : ∀ (L : List Nat) (a : Nat), (∀ k ∈ L, k ∈ nr n) → L.foldl (nxF out wt n) a = L.foldl (nxF out wt' n) a := by
      intro L
      induction L with
      | nil => intro a _; rfl
      | cons k L ih =>
        intro a hk
        rw [List.foldl_cons, List.foldl_cons]
        have : nxF out wt n a k = nxF out wt' n a k := by
          have hm : mtch out wt n k ↔ mtch out wt' n k := by unfold mtch; rw [hw n k (hk k List.mem_cons_self)]
          unfold nxF
          by_cases c : mtch out wt n k
          · rw [if_pos c, if_pos (hm.1 c)]
          · rw [if_neg c, if_neg fun z => c (hm.2 z)]
        rw [this]; exact ih _ fun j hj => hk j (List.mem_cons_of_mem _ hj)
    exact key _ _ fun _ h => h
  intro p
  induction p with
  | zero => intro n; rfl
  | succ p ih => intro n; unfold wayL; rw [e1, ih]
theorem Mk.way_lt (h : Mk N nr wt e out) (hsym : ∀ a b, a < N → b ∈ nr a → a ∈ nr b) (hw : ∀ a b, wt a b = wt b a) : ∀ p n, n < N → 0 < (mAt out n).pts → (mAt out n).pts = p → ∀ x ∈ wayL out nr wt N e p n, x < N := by
  intro p
  induction p with
  | zero => intro n _ h1 h2; omega
  | succ p ih =>
    intro n hn hp he x hx
    by_cases hne : n = e
    · subst hne; rw [wayL_e] at hx; simp at hx
    · obtain ⟨b1, b2, b3, b4⟩ := h.nxt_ok hsym hw hn hp hne
      rw [wayL_next hne] at hx
      rcases List.mem_cons.1 hx with rfl | hx
      · exact b1
      · exact ih _ b1 b4 (by have := b3.1; omega) x hx
end
section
variable {f : KA → KA} {g : KV → KV} {l : List KA} {p q : KV} {w1 w2 : List KV} {n k : Nat} {e c : Int}
/-- the same mesh elsewhere -/
theorem find_sim (h : Sim f g) (hM : okM l) (hM2 : okM (l.map f)) (hp : inR p.x ∧ inR p.y) (hq : inR q.x ∧ inR q.y) (hl : ∀ u v : KV, (∃ i, i < (nodeL l p q).length ∧ u = vAt (nodeL l p q) i) → (∃ i, i < (nodeL l p q).length ∧ v = vAt (nodeL l p q) i) → lenV (g u).x (g u).y (g v).x (g v).y = lenV u.x u.y v.x v.y)
    (h1 : FindR l p q w1 n e) (h2 : FindR (l.map f) (g p) (g q) w2 k c) : k = n ∧ c = e ∧ w2 = w1.map g := by
  have hN := nodeL_len l p q
  have hw : ∀ a b, a < (nodeL l p q).length → b < (nodeL l p q).length → wtL ((nodeL l p q).map (gN g)) a b = wtL (nodeL l p q) a b := fun a b ha hb => by
    unfold wtL
    rw [nAt_map ha, nAt_map hb]
    exact hl (vAt _ a) (vAt _ b) ⟨a, ha, rfl⟩ ⟨b, hb, rfl⟩
  have hv : ∀ a, a < (nodeL l p q).length → vAt ((nodeL l p q).map (gN g)) a = g (vAt (nodeL l p q) a) := fun a ha => by
    unfold vAt; rw [nAt_map ha]; rfl
  rcases h1 with ⟨h1, _⟩ | ⟨_, out, hk, h1⟩
  · exact absurd hM h1
  rcases h2 with ⟨h2, _⟩ | ⟨_, out', hk', h2⟩
  · exact absurd hM2 h2
  unfold MkM nrM at hk'
  unfold wayM nrM at h2
  rw [nodeL_map h, portL_map h, List.length_map, List.length_map, List.length_map, rows_map] at hk'
  rw [nodeL_map h, portL_map h, List.length_map, List.length_map, List.length_map, rows_map] at h2
  have en : ∀ i, nrL ((nodeL l p q).map (gN g)) (rowsL l.length (nodeL l p q)) i = nrM l p q i := fun i => nr_map _ _ i
  have en2 : (fun i => nrL ((nodeL l p q).map (gN g)) (rowsL l.length (nodeL l p q)) i) = nrM l p q := funext en
  rw [en2] at hk' h2
  have hk2 := Mk.wt_eq hk' hw
  have eo := Mk.uniq hk hk2 fun _ _ _ => Iff.rfl
  subst eo
  have ew : wayL out (nrM l p q) (wtL ((nodeL l p q).map (gN g))) (nodeL l p q).length ((portL l).length + 1) (mAt out (portL l).length).pts (portL l).length = wayM l p q out := by
    unfold wayM
    refine wayL_wt (fun a b hb => ?_) _ _
    obtain ⟨b1, b2, r, b3, b4, b5⟩ := nr_mem.1 hb
    have ha : a < (nodeL l p q).length := by
      rcases Nat.lt_or_ge a (nodeL l p q).length with z | z
      · exact z
      · have : nAt (nodeL l p q) a = zN := by unfold nAt; rw [List.getD_eq_getElem?_getD, List.getElem?_eq_none z]; rfl
        rw [this] at b4; simp [zN] at b4
    exact hw a b ha b1
  rcases h1 with ⟨a1, a2, a3, a4⟩ | ⟨a1, a2, a3, a4⟩
  · rcases h2 with ⟨b1, b2, b3, b4⟩ | ⟨b1, b2, b3, b4⟩
    · exact ⟨by rw [b3, a3], by rw [b4, a4], by rw [b2, a2]; rfl⟩
    · omega
  · rcases h2 with ⟨b1, b2, b3, b4⟩ | ⟨b1, b2, b3, b4⟩
    · omega
    · refine ⟨by rw [b3, a3], by rw [b4, a4], ?_⟩
      rw [b2, a2, ew, List.map_cons, List.map_map]
      congr 1
      refine List.map_congr_left fun x hx => ?_
      exact hv x (Mk.way_lt hk (fun a b ha h => nr_sym a b ha h) (fun a b => lenV_comm _ _ _ _) _ (portL l).length (by omega) a1 rfl x hx)
theorem find_sub {l' : List KA} (hM : okM l) (hM2 : okM l') (hs : ∀ a ∈ l, a ∈ l') (h1 : FindR l p q w1 n e) (h2 : FindR l' p q w2 k c) : e = 0 → c = 0 ∧ k ≤ n := fun he => by
  rcases find_geo hM h1 with ⟨_, a2, _⟩ | ⟨a1, _⟩
  · rcases find_geo hM2 h2 with ⟨b1, _, b3⟩ | ⟨_, _, b3⟩
    · exact ⟨b1, b3 _ (geo_sub hs a2)⟩
    · exact absurd (geo_sub hs a2) (b3 _)
  · omega
theorem find_same {l' : List KA} (hM : okM l) (hM2 : okM l') (hs : ∀ a, a ∈ l ↔ a ∈ l') (h1 : FindR l p q w1 n e) (h2 : FindR l' p q w2 k c) : k = n ∧ c = e := by
  have i1 := find_sub hM hM2 (fun a ha => (hs a).1 ha) h1 h2
  have i2 := find_sub hM2 hM (fun a ha => (hs a).2 ha) h2 h1
  rcases find_geo hM h1 with ⟨a1, _⟩ | ⟨a1, a2, _⟩
  · have z1 := i1 a1; have z2 := i2 z1.1; exact ⟨by omega, by omega⟩
  · rcases find_geo hM2 h2 with ⟨b1, _⟩ | ⟨b1, b2, _⟩
    · have := i2 b1; omega
    · exact ⟨by omega, by omega⟩
theorem find_nil (h1 : FindR [] p q w1 n e) : e = 6 := by
  have hM : okM [] := ⟨by simp, by simp, fun z hz => by rw [pairsA_eq] at hz; simp [things, pairsT] at hz⟩
  rcases find_geo hM h1 with ⟨_, a2, _⟩ | ⟨a1, _⟩
  · exfalso
    have key : ∀ {t L}, Gw [] p q .en t L → False := by
      intro t L g
      induction g with
      | one _ _ c => obtain ⟨a, h, _⟩ := c; exact absurd h.1 (by simp)
      | snoc _ _ _ ih => exact ih
    exact key a2
  · exact a1
end
/-! the laws' meshes -/
theorem MeshB.sub {bs : List UInt8} {l l' : List KA} (h : MeshB bs l) (hs : ∀ a ∈ l', a ∈ l) (hn : l'.Nodup) (hl : l'.length ≤ 24) : MeshB bs l' := ⟨hl, hn, fun a ha => h.sq a (hs a ha)⟩
theorem less_sub {α : Type} (l : List α) (k : Nat) : (l.take k ++ l.drop (k + 1)).Sublist l := by
  have h : (l.take k ++ l.drop (k + 1)).Sublist (l.take k ++ l.drop k) := List.Sublist.append_left (by
    rw [show l.drop (k + 1) = (l.drop k).drop 1 by rw [List.drop_drop]]
    exact List.drop_sublist 1 _) _
  rwa [List.take_append_drop] at h
theorem MeshB.less {bs : List UInt8} {l : List KA} (h : MeshB bs l) (k : Nat) : MeshB bs (l.take k ++ l.drop (k + 1)) :=
  h.sub (fun _ ha => (less_sub l k).subset ha) (h.nd.sublist (less_sub l k)) (Nat.le_trans (less_sub l k).length_le h.len)
theorem turn_perm {α : Type} (l : List α) (k : Nat) : (l.drop k ++ l.take k).Perm l := List.perm_append_comm.trans (List.Perm.of_eq (List.take_append_drop k l))
theorem MeshB.turn {bs : List UInt8} {l : List KA} (h : MeshB bs l) (k : Nat) : MeshB bs (l.drop k ++ l.take k) :=
  h.sub (fun _ ha => (turn_perm l k).mem_iff.1 ha) ((turn_perm l k).nodup_iff.2 h.nd) (by rw [(turn_perm l k).length_eq]; exact h.len)
theorem sh_room {a : KA} {dx dy : Int} (h : smallA a) (h1 : -32768 ≤ dx) (h2 : dx ≤ 32767) (h3 : -32768 ≤ dy) (h4 : dy ≤ 32767) : roomOk (shA dx dy a) := by
  unfold smallA at h
  refine ⟨?_, ?_⟩
  · unfold okA okSpan shA; simp only; omega
  · unfold flatA shA; simp only; omega
theorem sw_room {a : KA} (h : smallA a) : roomOk (swA a) := by
  unfold smallA at h
  refine ⟨?_, ?_⟩
  · unfold okA okSpan swA; simp only; omega
  · unfold flatA swA; simp only; omega
theorem len_sh {u v : KV} {dx dy : Int} (a1 : -1000 ≤ u.x ∧ u.x ≤ 1000 ∧ -1000 ≤ u.y ∧ u.y ≤ 1000) (a2 : -1000 ≤ v.x ∧ v.x ≤ 1000 ∧ -1000 ≤ v.y ∧ v.y ≤ 1000) (h1 : -32768 ≤ dx) (h2 : dx ≤ 32767) (h3 : -32768 ≤ dy) (h4 : dy ≤ 32767) : lenV (shV dx dy u).x (shV dx dy u).y (shV dx dy v).x (shV dx dy v).y = lenV u.x u.y v.x v.y := by
  unfold lenV shV
  simp only
  rw [if_pos (by unfold inR; omega), if_pos (by unfold inR; omega)]
  unfold d2
  rw [show u.x + dx - (v.x + dx) = u.x - v.x by omega, show u.y + dy - (v.y + dy) = u.y - v.y by omega]
theorem len_sw (u v : KV) : lenV (swV u).x (swV u).y (swV v).x (swV v).y = lenV u.x u.y v.x v.y := by
  unfold lenV swV
  simp only
  have e : d2 u.y u.x v.y v.x = d2 u.x u.y v.x v.y := by unfold d2; rw [Int.add_comm]
  rw [e]
  by_cases h : inR u.x ∧ inR u.y ∧ inR v.x ∧ inR v.y
  · rw [if_pos h, if_pos ⟨h.2.1, h.1, h.2.2.2, h.2.2.1⟩]
  · rw [if_neg h, if_neg fun z => h ⟨z.2.1, z.1, z.2.2.2, z.2.2.1⟩]
theorem node_small {bs : List UInt8} {l : List KA} {p q : KV} (hB : MeshB bs l) (hp : nearP p) (hq : nearP q) {i : Nat} (h : i < (nodeL l p q).length) : -1000 ≤ (vAt (nodeL l p q) i).x ∧ (vAt (nodeL l p q) i).x ≤ 1000 ∧ -1000 ≤ (vAt (nodeL l p q) i).y ∧ (vAt (nodeL l p q) i).y ≤ 1000 := by
  obtain ⟨t, ht, hi, _⟩ := tag_of (p := p) (q := q) hB.okM h
  rw [hi.2.1]
  unfold nearP at hp hq
  cases t with
  | be => show -1000 ≤ p.x ∧ p.x ≤ 1000 ∧ -1000 ≤ p.y ∧ p.y ≤ 1000; omega
  | en => show -1000 ≤ q.x ∧ q.x ≤ 1000 ∧ -1000 ≤ q.y ∧ q.y ≤ 1000; omega
  | po a b =>
    have h1 := hB.small a ht.1; have h2 := hB.small b ht.2.1
    unfold smallA at h1 h2
    show -1000 ≤ (midA a b).x ∧ (midA a b).x ≤ 1000 ∧ -1000 ≤ (midA a b).y ∧ (midA a b).y ≤ 1000
    unfold midA comA; simp only; omega
theorem way_small {bs : List UInt8} {l : List KA} {p q : KV} {w : List KV} {n : Nat} {e : Int} (hB : MeshB bs l) (hp : nearP p) (hq : nearP q) (h : FindR l p q w n e) : ∀ v ∈ w, -1000 ≤ v.x ∧ v.x ≤ 1000 ∧ -1000 ≤ v.y ∧ v.y ≤ 1000 := by
  rcases h with ⟨h, _⟩ | ⟨_, out, hk, h⟩
  · exact absurd hB.okM h
  · rcases h with ⟨_, h, _⟩ | ⟨h0, h, _⟩
    · rw [h]; simp
    · rw [h]
      intro v hv
      rcases List.mem_cons.1 hv with rfl | hv
      · unfold nearP at hp; omega
      · obtain ⟨x, hx, rfl⟩ := List.mem_map.1 hv
        have hN := nodeL_len l p q
        exact node_small hB hp hq (Mk.way_lt hk (fun a b ha h => nr_sym a b ha h) (fun a b => lenV_comm _ _ _ _) _ (portL l).length (by omega) h0 rfl x hx)
end Go.Pth
