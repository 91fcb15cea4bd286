/-
  Find: walked. Printed by a program of my own.
-/
import Derived.Test.YthncdmfogeemcaaGreatPt5
import Derived.Test.YthncdmfogeemcaaGreatPtG
namespace Go.Pth
open Go.Sl Go.Brd Go.Proofs
theorem nAt_beg (l : List KA) (p q : KV) : nAt (nodeL l p q) (portL l).length = ⟨p.x, p.y, roomF l p.x p.y⟩ := by
  unfold nAt nodeL
  rw [List.getD_eq_getElem?_getD, List.getElem?_append_right (by rw [List.length_map]; exact Nat.le_refl _), List.length_map, Nat.sub_self]; rfl
theorem k_gr {β : Base} {L : List Res} {v1 v2 : Value} {ns : List KN} {RR : List (List Nat)} (i : Nat) (hi : L[i]? = some (grR v1 v2 ns RR)) : Knows β L fun h => GrB h v1 v2 ns RR :=
  Knows.of_res i hi (fun _ _ hs h => GrB.mono hs h) fun _ h => h
theorem find_end {l : List KA} {p q : KV} {K : Nat} {ns : List KN} {RR : List (List Nat)} {out : List KM} {ys : List KV} {y : KM} (hM : okM l) (h1 : ns = nodeL l p q) (h2 : RR = rowsL l.length ns) (h3 : K = (portL l).length) (hk : Mk ns.length (nrL ns RR) (wtL ns) (K + 1) out) (hp : 0 < (mAt out K).pts)
    (hw : ys = p :: (wayL out (nrL ns RR) (wtL ns) ns.length (K + 1) (mAt out K).pts K).map (vAt ns)) (hy : y = mAt out K) : FindR l p q ys y.len 0 := by
  subst h1; subst h2; subst h3; subst hy
  exact .inr ⟨hM, out, hk, .inr ⟨hp, hw, rfl, rfl⟩⟩
end Go.Pth
namespace Go.Proofs
open Go Go.Sl Go.Brd Go.Pth
theorem madeG_ok (β : Base) (w : World) (hw : St β [] w) (v : Value) (l : List KA) (hs : Sl AreaF.R β.heap v l) (hM : okM l) (K : Nat) (hK : K = (portL l).length) (p q : KV) (ns : List KN) (hns : ns = nodeL l p q) (RR : List (List Nat)) (hRR : RR = rowsL l.length ns) : Calls Tryz.prog 22 #[v, .agg #[Ix (p.x), Ix (p.y)], .agg #[Ix (q.x), Ix (q.y)]] w fun r w' => ∃ np nc rp rc, r = .returned (.agg #[.slice np (K + 1 + 1) nc, .slice rp l.length rc]) ∧
    St β [grR (.slice np (K + 1 + 1) nc) (.slice rp l.length rc) ns RR] w' := by
  subst hns; subst hRR
  refine (made_ok β w hw v l hs hM p q).mono ?_
  rintro r w' ⟨np, nc, rp, rc, hn, hv, e1, e2, e3, rfl, hw'⟩
  have hl : hn.length = K + 1 + 1 := by rw [← List.length_map (f := HN.k), e1, nodeL_len, hK]
  refine ⟨np, nc, rp, rc, by rw [hl], ?_⟩
  rw [← e2, ← e1]
  exact St.merge (M := []) (by simpa using hw') (gr_of hl e3)
theorem marksG_ok (β : Base) (w : World) (hw : St β [] w) (v1 v2 : Value) (ns : List KN) (RR : List (List Nat)) (hG : GrB β.heap v1 v2 ns RR) (e : Nat) (he : e < ns.length) (hN : ns.length ≤ 5000) (hnb : ∀ m, m < ns.length → ∀ k ∈ nrL ns RR m, k < ns.length) (hnbl : ∀ m, m < ns.length → (nrL ns RR m).length ≤ 1000000) (hRR : ∀ x ∈ ns, ∀ r ∈ x.rs, r < RR.length) (N : Nat) (hNN : ns.length = N) :
    Calls Tryz.prog 23 #[.agg #[v1, v2], Nx e] w fun r w' => ∃ p c out, r = .returned (.slice p N c) ∧ Mk ns.length (nrL ns RR) (wtL ns) e out ∧ (∀ y ∈ out, y.len ≤ y.pts * 134217728 ∧ y.pts ≤ 5000) ∧ St β [rowF MarkF 70 p c out] w' := by
  subst hNN; exact marks_ok β w hw v1 v2 ns RR hG e he hN hnb hnbl hRR
theorem tx92 : cfB Tryz.prog 22 = true := by kernel_rfl
theorem tx93 : cfB Tryz.prog 23 = true := by kernel_rfl
theorem tx94 : (Tryz.prog.info? 67).bind (·.zero) = some (.slice none 0 0) := by kernel_rfl
theorem tx95 : tyB Tryz.prog 67 false 1 = true := by kernel_rfl
theorem tx96 : elB Tryz.prog 27 2 16 = true := by kernel_rfl
set_option maxHeartbeats 4000000 in
theorem find_ok (β : Base) (w : World) (hw : St β [] w) (v : Value) (l : List KA) (hs : Sl AreaF.R β.heap v l) (p q : KV) : Calls Tryz.prog 11 #[v, .agg #[Ix (p.x), Ix (p.y)], .agg #[Ix (q.x), Ix (q.y)]] w fun r w' => ∃ c d way n err, r = .returned (.tuple #[.slice c way.length d, Nx n, Ix err]) ∧ FindR l p q way n err ∧ n ≤ 1099511627776 ∧ St β [rowF VecF 27 c d way] w' := by
  obtain ⟨va, vc, rfl, vl, vm, ve⟩ := hs.get
  refine enterM (n := 108) Tryz.func11 rfl Tryz.ntmps11 rfl ?_ hw
  refine c_seq ?_
  refine c_emp (r := Sat (([] : List Nat).map mkR)) trivial ?_
  refine c_region ?_
  refine l_mv rfl rfl rfl (m_box (v := .agg #[Ix (p.x), Ix (p.y)]) rfl) ?_
  rintro _ _ ⟨b1, rfl, rfl⟩
  refine l_mv rfl rfl rfl (m_box (v := .agg #[Ix (q.x), Ix (q.y)]) rfl) ?_
  rintro _ _ ⟨b2, rfl, rfl⟩
  refine l_val (v := .slice none 0 0) rfl rfl rfl (e_assign) ?_
  refine l_val (v := .int .i64 (0)) rfl rfl rfl (e_assign) ?_
  refine l_val (v := .int .i64 (0)) rfl rfl rfl (e_assign) ?_
  refine l_nil ?_
  refine f_then ?_
  refine c_seq ?_
  refine c_seq ?_
  refine c_region ?_
  refine l_val (v := .slice va (l.length) (vc)) rfl rfl rfl (e_move) ?_
  refine l_call rfl rfl rfl (cl_value (fst := []) (cap := []) (vs := [.slice va (l.length) (vc)]) (all := [.slice va (l.length) (vc)]) tu27 rfl rfl rfl) ?_
  intro w hw
  obtain ⟨β1, sb, kn, hw1, back⟩ := St.frame_all hw
  refine (valid_ok β1 w hw1 _ l (Sl.mono _ _ _ _ _ sb (⟨⟨_, _, rfl, vl, vm, ve⟩⟩ : Sl AreaF.R _ _ l))).mono ?_
  rintro e w' ⟨rfl, hw'⟩
  refine ⟨_, rfl, _, back _ _ hw', ?_⟩
  clear hw hw1 hw' back kn sb
  refine l_val (v := .bool (decide (¬ (okM l)))) rfl rfl rfl (e_not_p (p := okM l) rfl) ?_
  refine l_nil ?_
  refine f_then ?_
  refine c_if (¬ (okM l)) rfl (fun hc3 => ?_) (fun hc3 => ?_)
  ·
    refine c_seq ?_
    refine c_region ?_
    refine l_val (v := .slice none 0 0) rfl rfl rfl (e_assign) ?_
    refine l_val (v := .int .i64 (0)) rfl rfl rfl (e_assign) ?_
    refine l_val (v := .int .i64 (2)) rfl rfl rfl (e_assign) ?_
    refine l_nil ?_
    refine f_then ?_
    refine c_ret ?_
    refine f_then_ret ?_
    refine f_perm (L' := [Sat (([] : List Nat).map mkR), pt b2 (.cells #[Ix (q.x), Ix (q.y)] 27), pt b1 (.cells #[Ix (p.x), Ix (p.y)] 27)]) (perm_ix [2, 0, 1] 3 rfl (by kernel_rfl) (by kernel_rfl)) ?_
    refine retMs (Ds := ([] : List Nat)) rfl (res3M Tryz.results11 (v := .slice none 0 0) (v' := .int .i64 (0)) (v'' := .int .i64 (2)) rfl rfl rfl) ?_
    intro w hw
    exact ⟨none, 0, [], 0, 2, rfl, .inl ⟨by have q := hc3; simpa using q, rfl, rfl, rfl⟩, Nat.zero_le _, (st_mask [false, false] rfl hw).emp (row_nil _ _ _)⟩
  ·
    refine c_skip ?_
    refine f_then ?_
    refine c_seq ?_
    have hM : okM l := by have q := hc3; simpa using q
    have hl64 := hM.1
    obtain ⟨K, hKE⟩ : ∃ z, z = (portL l).length := ⟨_, rfl⟩
    have hK4 : K ≤ 4096 := by rw [hKE]; exact portL_len hl64
    obtain ⟨ns, hnsE⟩ : ∃ z, z = nodeL l p q := ⟨_, rfl⟩
    obtain ⟨RR, hRRE⟩ : ∃ z, z = rowsL l.length ns := ⟨_, rfl⟩
    have hnlt : ∀ m, m < ns.length → ∀ j ∈ nrL ns RR m, j < ns.length := by rw [hRRE]; exact nr_lt
    have hnlen : ∀ m, m < ns.length → (nrL ns RR m).length ≤ 1000000 := by rw [hRRE, hnsE]; exact nr_len hl64
    have hnrr : ∀ x ∈ ns, ∀ r ∈ x.rs, r < RR.length := by rw [hRRE, hnsE]; exact nodeL_rr hl64
    have hnsl : ns.length = K + 1 + 1 := by rw [hnsE, hKE]; exact nodeL_len l p q
    have hns0 : nAt ns K = ⟨p.x, p.y, roomF l p.x p.y⟩ := by rw [hnsE, hKE]; exact nAt_beg l p q
    refine c_region ?_
    refine l_val (v := .slice va (l.length) (vc)) rfl rfl rfl (e_move) ?_
    refine l_val (v := .agg #[Ix (p.x), Ix (p.y)]) rfl rfl rfl (e_load tp7 (cs := [Ix (p.x), Ix (p.y)]) rfl (k_pt 1 (cs := #[Ix (p.x), Ix (p.y)]) (vs := [Ix (p.x), Ix (p.y)]) rfl rfl) rfl) ?_
    refine l_val (v := .agg #[Ix (q.x), Ix (q.y)]) rfl rfl rfl (e_load tp7 (cs := [Ix (q.x), Ix (q.y)]) rfl (k_pt 0 (cs := #[Ix (q.x), Ix (q.y)]) (vs := [Ix (q.x), Ix (q.y)]) rfl rfl) rfl) ?_
    refine l_call rfl rfl rfl (cl_value (fst := []) (cap := []) (vs := [.slice va (l.length) (vc), .agg #[Ix (p.x), Ix (p.y)], .agg #[Ix (q.x), Ix (q.y)]]) (all := [.slice va (l.length) (vc), .agg #[Ix (p.x), Ix (p.y)], .agg #[Ix (q.x), Ix (q.y)]]) tx92 rfl rfl rfl) ?_
    intro w hw
    obtain ⟨β1, sb, kn, hw1, back⟩ := St.frame_all hw
    refine (madeG_ok β1 w hw1 _ l (Sl.mono _ _ _ _ _ sb (⟨⟨_, _, rfl, vl, vm, ve⟩⟩ : Sl AreaF.R _ _ l)) hM K hKE p q ns hnsE RR hRRE).mono ?_
    rintro e w' ⟨np, nc, rp, rc, rfl, hw'⟩
    refine ⟨_, rfl, _, back _ _ hw', ?_⟩
    clear hw hw1 hw' back kn sb
    refine l_mv rfl rfl rfl (m_alloc tv55) ?_
    rintro _ _ ⟨b4, rfl, rfl⟩
    refine l_mu rfl rfl (m_store 0 tv59 (b := b4) (o := 0) (T := 65) (cs := #[.slice none 0 0, .slice none 0 0]) (cs' := #[.slice np (K + 1 + 1) nc, .slice rp (l.length) rc]) (v := .agg #[.slice np (K + 1 + 1) nc, .slice rp (l.length) rc]) rfl rfl rfl rfl rfl rfl rfl) ?_
    refine l_nil ?_
    refine f_then ?_
    refine c_seq ?_
    refine c_perm (L' := [pt b4 (.cells #[.slice np (K + 1 + 1) nc, .slice rp (l.length) rc] 65), pt b2 (.cells #[Ix (q.x), Ix (q.y)] 27), pt b1 (.cells #[Ix (p.x), Ix (p.y)] 27), Sat (([] : List Nat).map mkR), grR (.slice np (K + 1 + 1) nc) (.slice rp (l.length) rc) ns RR]) (perm_ix [0, 2, 3, 4, 1] 5 rfl (by kernel_rfl) (by kernel_rfl)) ?_
    refine c_freeze2 (M := [pt b4 (.cells #[.slice np (K + 1 + 1) nc, .slice rp (l.length) rc] 65), pt b2 (.cells #[Ix (q.x), Ix (q.y)] 27), pt b1 (.cells #[Ix (p.x), Ix (p.y)] 27), Sat (([] : List Nat).map mkR)]) (K := [grR (.slice np (K + 1 + 1) nc) (.slice rp (l.length) rc) ns RR]) rfl (fun βf ext1 kn1 bk1 => ?_)
    have hG : GrB βf.heap (.slice np (K + 1 + 1) nc) (.slice rp (l.length) rc) ns RR := kn1 _ (k_gr 0 rfl)
    obtain ⟨hn, hr, e1, e2, s1, s2, a1, a2⟩ := id hG
    obtain ⟨hKn, nm, ncm, ne⟩ := Sl.parts s1
    refine c_region ?_
    refine l_val (v := .pointer (some ⟨b4, 0, none⟩)) rfl rfl rfl (e_fieldPt (b := b4) (o := 0) rfl tv48) ?_
    refine l_val (v := .slice np (K + 1 + 1) (nc)) rfl rfl rfl (e_load1 tv49 (v := .slice np (K + 1 + 1) (nc)) rfl (k_pt 0 (cs := #[.slice np (K + 1 + 1) (nc), .slice rp (l.length) rc]) (vs := [.slice np (K + 1 + 1) (nc)]) rfl rfl)) ?_
    refine l_val (v := Nx (K + 1 + 1)) rfl rfl rfl (e_len (a := np) (n := K + 1 + 1) (c := nc) rfl tv50) ?_
    refine l_val (v := Nx (K + 1)) rfl rfl rfl (ev_eq (congrArg (Value.int .i64) (by omega)) (e_sub (a := ((K + 1 + 1 : Nat) : Int)) (b := (1 : Int)) rfl rfl (i64w (by omega)))) ?_
    refine l_val (v := Nx (K + 1)) rfl rfl rfl (e_assign) ?_
    refine l_nil ?_
    refine f_then ?_
    refine c_seq ?_
    refine c_region ?_
    refine l_val (v := Nx (K + 1)) rfl rfl rfl (e_move) ?_
    refine l_val (v := Nx (K)) rfl rfl rfl (ev_eq (congrArg (Value.int .i64) (by omega)) (e_sub (a := ((K + 1 : Nat) : Int)) (b := (1 : Int)) rfl rfl (i64w (by omega)))) ?_
    refine l_mv rfl rfl rfl (m_alloc tu30) ?_
    rintro _ _ ⟨b5, rfl, rfl⟩
    refine l_mu rfl rfl (m_store 0 tp2 (b := b5) (o := 0) (T := 3) (cs := #[.int .i64 (0)]) (cs' := #[Nx (K)]) (v := Nx (K)) rfl rfl rfl rfl rfl rfl rfl) ?_
    refine l_nil ?_
    refine f_then ?_
    refine c_seq ?_
    refine c_region ?_
    refine l_val (v := .agg #[.slice np (K + 1 + 1) (nc), .slice rp (l.length) rc]) rfl rfl rfl (e_load tv59 (cs := [.slice np (K + 1 + 1) (nc), .slice rp (l.length) rc]) rfl (k_pt 1 (cs := #[.slice np (K + 1 + 1) (nc), .slice rp (l.length) rc]) (vs := [.slice np (K + 1 + 1) (nc), .slice rp (l.length) rc]) rfl rfl) rfl) ?_
    refine l_val (v := Nx (K + 1)) rfl rfl rfl (e_move) ?_
    refine l_call rfl rfl rfl (cl_value (fst := []) (cap := []) (vs := [.agg #[.slice np (K + 1 + 1) (nc), .slice rp (l.length) rc], Nx (K + 1)]) (all := [.agg #[.slice np (K + 1 + 1) (nc), .slice rp (l.length) rc], Nx (K + 1)]) tx93 rfl rfl rfl) ?_
    intro w hw
    obtain ⟨β1, sb, kn, hw1, back⟩ := St.frame_all hw
    refine (marksG_ok β1 w hw1 _ _ ns RR (hG.mono sb) (K + 1) (by omega) (by omega) hnlt hnlen hnrr (K + 1 + 1) hnsl).mono ?_
    rintro e w' ⟨p6, c7, out, rfl, hMk, hMb, hw'⟩
    refine ⟨_, rfl, _, back _ _ hw', ?_⟩
    clear hw hw1 hw' back kn sb
    refine l_mv rfl rfl rfl (m_alloc tx94) ?_
    rintro _ _ ⟨b8, rfl, rfl⟩
    refine l_mu rfl rfl (m_store 0 tx95 (b := b8) (o := 0) (T := 67) (cs := #[.slice none 0 0]) (cs' := #[.slice p6 (K + 1 + 1) c7]) (v := .slice p6 (K + 1 + 1) c7) rfl rfl rfl rfl rfl rfl rfl) ?_
    refine l_nil ?_
    refine f_then ?_
    refine c_seq ?_
    refine c_seq ?_
    have hol : out.length = K + 1 + 1 := hMk.len.trans hnsl
    refine c_region ?_
    refine l_val (v := .slice p6 (K + 1 + 1) c7) rfl rfl rfl (e_load1 tx95 (v := .slice p6 (K + 1 + 1) c7) rfl (k_pt 0 (cs := #[.slice p6 (K + 1 + 1) c7]) (vs := [.slice p6 (K + 1 + 1) c7]) rfl rfl)) ?_
    refine l_val (v := Nx (K)) rfl rfl rfl (e_load1 tp2 (v := Nx (K)) rfl (k_pt 2 (cs := #[Nx (K)]) (vs := [Nx (K)]) rfl rfl)) ?_
    refine l_val (v := .pointer (some ((ba p6).add (K * 3)))) rfl rfl rfl (e_indexFlN 1 (F := MarkF) (j := K) (m := K + 1 + 1) (xs := out) rfl (by omega) rfl tw71 (by omega) rfl) ?_
    refine l_val (v := .pointer (some ((ba p6).add (K * 3 + 2)))) rfl rfl rfl (ev_eq (congrArg (fun z => Value.pointer (some z)) (show ((ba p6).add (K * 3) : Addr).add 2 = (ba p6).add (K * 3 + 2) by rw [Addr.add_add'])) (e_fieldAddr (a := (ba p6).add (K * 3)) rfl tw86)) ?_
    obtain ⟨x9, hx10⟩ : ∃ x_, out[K]? = some x_ := ⟨_, List.getElem?_eq_getElem (by omega)⟩
    refine l_val (v := Nx (x9.pts)) rfl rfl rfl (e_load1 tp2 (v := Nx (x9.pts)) rfl (k_flPart 1 (F := MarkF) (o := 2) (us := [Nx (x9.pts)]) rfl hx10 rfl)) ?_
    refine l_val (v := .bool (decide (((x9.pts : Nat) : Int) = (0 : Int)))) rfl rfl rfl (e_eql (a := ((x9.pts : Nat) : Int)) (b := (0 : Int)) rfl rfl) ?_
    refine l_nil ?_
    refine f_then ?_
    refine c_if (((x9.pts : Nat) : Int) = (0 : Int)) rfl (fun hc11 => ?_) (fun hc11 => ?_)
    ·
      refine c_seq ?_
      refine c_region ?_
      refine l_val (v := .slice none 0 0) rfl rfl rfl (e_assign) ?_
      refine l_val (v := .int .i64 (0)) rfl rfl rfl (e_assign) ?_
      refine l_val (v := .int .i64 (6)) rfl rfl rfl (e_assign) ?_
      refine l_nil ?_
      refine f_then ?_
      refine c_ret ?_
      refine f_then_ret ?_
      refine f_perm (L' := [Sat (([] : List Nat).map mkR), pt b8 (.cells #[.slice p6 (K + 1 + 1) c7] 67), rowF MarkF 70 p6 c7 out, pt b5 (.cells #[Nx (K)] 3), pt b4 (.cells #[.slice np (K + 1 + 1) (nc), .slice rp (l.length) rc] 65), pt b2 (.cells #[Ix (q.x), Ix (q.y)] 27), pt b1 (.cells #[Ix (p.x), Ix (p.y)] 27)]) (perm_ix [6, 0, 1, 2, 3, 4, 5] 7 rfl (by kernel_rfl) (by kernel_rfl)) ?_
      refine retMs (Ds := ([] : List Nat)) rfl (res3M Tryz.results11 (v := .slice none 0 0) (v' := .int .i64 (0)) (v'' := .int .i64 (6)) rfl rfl rfl) ?_
      intro w hw
      exact ⟨none, 0, [], 0, 6, rfl, .inr ⟨hM, out, by rw [hnsE, hRRE] at hMk; rw [hKE] at hMk; rw [hnsE] at hMk; exact hMk, .inl ⟨by rw [← hKE, mAt_of hx10]; have q := hc11; omega, rfl, rfl, rfl⟩⟩, Nat.zero_le _, (st_mask [false] rfl (bk1 _ _ (st_mask [false, false, false, false, false, false] rfl hw))).emp (row_nil _ _ _)⟩
    ·
      refine c_skip ?_
      refine f_then ?_
      refine c_seq ?_
      refine c_region ?_
      refine l_val (v := .agg #[Ix (p.x), Ix (p.y)]) rfl rfl rfl (e_load tp7 (cs := [Ix (p.x), Ix (p.y)]) rfl (k_pt 5 (cs := #[Ix (p.x), Ix (p.y)]) (vs := [Ix (p.x), Ix (p.y)]) rfl rfl) rfl) ?_
      refine l_mv rfl rfl rfl (m_slices tv67 tp5 (vs := [(0, .agg #[Ix (p.x), Ix (p.y)])]) (cells := #[Ix (p.x), Ix (p.y)]) rfl rfl rfl rfl) ?_
      rintro _ _ ⟨b12, rfl, rfl⟩
      refine l_val (v := .slice (some ⟨b12, 0, none⟩) 1 1) rfl rfl rfl (e_assign) ?_
      refine l_nil ?_
      refine f_then ?_
      refine c_seq ?_
      refine c_block ?_
      refine c_conseq 0 (r' := rowF VecF 27 (some ⟨b12, 0, none⟩) 1 [p]) rfl (pt_rowF (F := VecF) (xs := [p]) rfl (by simp)) ?_
      have hp0 : 0 < (mAt out K).pts := by rw [mAt_of hx10]; have q := hc11; omega
      have hsym : ∀ a b, a < ns.length → b ∈ nrL ns RR a → a ∈ nrL ns RR b := by rw [hRRE]; exact nr_sym
      have hwc : ∀ a b, wtL ns a b = wtL ns b a := fun a b => lenV_comm _ _ _ _
      have hKe : K ≠ K + 1 := by omega
      refine c_loopM [] (fun (x_ : Nat × List KV × Option Addr × Nat) (Ds : List Nat) (f : Fm) (L : List Res) => match x_ with | (n, ys, tp, tc) => (f 9 = .pointer (some ⟨b4, 0, none⟩) ∧ f 10 = Nx (K + 1) ∧ f 11 = .pointer (some ⟨b5, 0, none⟩) ∧ f 12 = .pointer (some ⟨b8, 0, none⟩) ∧ f 13 = .slice tp (ys.length) tc) ∧ L = [rowF VecF 27 tp tc ys, pt b8 (.cells #[.slice p6 (K + 1 + 1) c7] 67), rowF MarkF 70 p6 c7 out, pt b5 (.cells #[Nx (n)] 3), pt b4 (.cells #[.slice np (K + 1 + 1) (nc), .slice rp (l.length) rc] 65), pt b2 (.cells #[Ix (q.x), Ix (q.y)] 27), pt b1 (.cells #[Ix (p.x), Ix (p.y)] 27), Sat (Ds.map mkR)] ∧ (n < ns.length ∧ 0 < (mAt out n).pts ∧ ys ++ (wayL out (nrL ns RR) (wtL ns) ns.length (K + 1) (mAt out n).pts n).map (vAt ns) = p :: (wayL out (nrL ns RR) (wtL ns) ns.length (K + 1) (mAt out K).pts K).map (vAt ns) ∧ ys.length + (mAt out n).pts ≤ 10000)) (fun (x_ : Nat × List KV × Option Addr × Nat) => match x_ with | (n, ys, tp, tc) => (mAt out n).pts) (K, [p], (some ⟨b12, 0, none⟩), 1) ?_ ?_
      · exact ⟨⟨rfl, rfl, rfl, rfl, rfl⟩, rfl, ⟨by omega, hp0, rfl, by have h := (hMb _ (List.mem_of_getElem? hx10)).2; rw [mAt_of hx10]; show 1 + _ ≤ _; omega⟩⟩
      rintro ⟨n, ys, tp, tc⟩ Ds f0 L0 ⟨⟨hs9, hs10, hs11, hs12, hs13⟩, hL, ⟨hnN, hnp, hnw, hnl⟩⟩
      subst L0
      refine rebase (d := 9) hs9 ?_
      refine rebase (d := 10) hs10 ?_
      refine rebase (d := 11) hs11 ?_
      refine rebase (d := 12) hs12 ?_
      refine rebase (d := 13) hs13 ?_
      clear hs9 hs10 hs11 hs12 hs13
      refine c_seq ?_
      refine c_seq ?_
      refine c_region ?_
      refine l_val (v := Nx (n)) rfl rfl rfl (e_load1 tp2 (v := Nx (n)) rfl (k_pt 3 (cs := #[Nx (n)]) (vs := [Nx (n)]) rfl rfl)) ?_
      refine l_val (v := Nx (K + 1)) rfl rfl rfl (e_move) ?_
      refine l_val (v := .bool (decide (((n : Nat) : Int) ≠ ((K + 1 : Nat) : Int)))) rfl rfl rfl (e_neq (a := ((n : Nat) : Int)) (b := ((K + 1 : Nat) : Int)) rfl rfl) ?_
      refine l_nil ?_
      refine f_then ?_
      refine c_if (((n : Nat) : Int) ≠ ((K + 1 : Nat) : Int)) rfl (fun hc13 => ?_) (fun hc13 => ?_)
      ·
        refine c_skip ?_
        refine f_then ?_
        refine c_block ?_
        refine c_seq ?_
        have hne : n ≠ K + 1 := by have q := hc13; omega
        refine c_region ?_
        refine l_val (v := Nx (K + 1)) rfl rfl rfl (e_move) ?_
        refine l_val (v := Nx ((K + 1) + 1)) rfl rfl rfl (e_add (a := ((K + 1 : Nat) : Int)) (b := (1 : Int)) rfl rfl (i64n (by omega) (by omega))) ?_
        refine l_mv rfl rfl rfl (m_alloc tu30) ?_
        rintro _ _ ⟨b14, rfl, rfl⟩
        refine l_mu rfl rfl (m_store 0 tp2 (b := b14) (o := 0) (T := 3) (cs := #[.int .i64 (0)]) (cs' := #[Nx ((K + 1) + 1)]) (v := Nx ((K + 1) + 1)) rfl rfl rfl rfl rfl rfl rfl) ?_
        refine l_nil ?_
        refine f_then ?_
        refine c_seq ?_
        refine c_seq ?_
        refine c_region ?_
        refine l_val (v := .agg #[.slice np (K + 1 + 1) (nc), .slice rp (l.length) rc]) rfl rfl rfl (e_load tv59 (cs := [.slice np (K + 1 + 1) (nc), .slice rp (l.length) rc]) rfl (k_pt 5 (cs := #[.slice np (K + 1 + 1) (nc), .slice rp (l.length) rc]) (vs := [.slice np (K + 1 + 1) (nc), .slice rp (l.length) rc]) rfl rfl) rfl) ?_
        refine l_val (v := Nx (n)) rfl rfl rfl (e_load1 tp2 (v := Nx (n)) rfl (k_pt 4 (cs := #[Nx (n)]) (vs := [Nx (n)]) rfl rfl)) ?_
        refine l_call rfl rfl rfl (cl_value (fst := []) (cap := []) (vs := [.agg #[.slice np (K + 1 + 1) (nc), .slice rp (l.length) rc], Nx (n)]) (all := [.agg #[.slice np (K + 1 + 1) (nc), .slice rp (l.length) rc], Nx (n)]) tw87 rfl rfl rfl) ?_
        intro w hw
        obtain ⟨β1, sb, kn, hw1, back⟩ := St.frame_all hw
        refine (near_ok β1 w hw1 (.slice np (K + 1 + 1) (nc)) (.slice rp (l.length) rc) n).mono ?_
        rintro e w' ⟨nb15, nd16, rfl, hw'⟩
        refine ⟨_, rfl, _, back _ _ hw', ?_⟩
        clear hw hw1 hw' back kn sb
        refine l_nil ?_
        refine f_then ?_
        refine c_block ?_
        refine c_perm (L' := [pt b14 (.cells #[Nx ((K + 1) + 1)] 3), rowF VecF 27 tp tc ys, pt b8 (.cells #[.slice p6 (K + 1 + 1) c7] 67), rowF MarkF 70 p6 c7 out, pt b5 (.cells #[Nx (n)] 3), pt b4 (.cells #[.slice np (K + 1 + 1) (nc), .slice rp (l.length) rc] 65), pt b2 (.cells #[Ix (q.x), Ix (q.y)] 27), pt b1 (.cells #[Ix (p.x), Ix (p.y)] 27), Sat (Ds.map mkR), pt nb15 (.cells #[.slice np (K + 1 + 1) (nc), .slice rp (l.length) rc] 65), pt nd16 (.cells #[Nx (n)] 3)]) (perm_ix [2, 3, 4, 5, 6, 7, 8, 9, 10, 0, 1] 11 rfl (by kernel_rfl) (by kernel_rfl)) ?_
        refine c_rangeK (L := [pt b14 (.cells #[Nx ((K + 1) + 1)] 3), rowF VecF 27 tp tc ys, pt b8 (.cells #[.slice p6 (K + 1 + 1) c7] 67), rowF MarkF 70 p6 c7 out, pt b5 (.cells #[Nx (n)] 3), pt b4 (.cells #[.slice np (K + 1 + 1) (nc), .slice rp (l.length) rc] 65), pt b2 (.cells #[Ix (q.x), Ix (q.y)] 27), pt b1 (.cells #[Ix (p.x), Ix (p.y)] 27), Sat (Ds.map mkR)]) (K := [pt nb15 (.cells #[.slice np (K + 1 + 1) (nc), .slice rp (l.length) rc] 65), pt nd16 (.cells #[Nx (n)] 3)]) (α := Nat) (enc := fun z : Nat => [Nx z]) (S := fun l_ => l_ = nrL ns RR n) (ps := [48]) (I := fun (pre : List (Nat)) (L : List Res) => L = [pt b14 (.cells #[Nx ((pre.foldl (nxF out (wtL ns) n) ns.length))] 3), rowF VecF 27 tp tc ys, pt b8 (.cells #[.slice p6 (K + 1 + 1) c7] 67), rowF MarkF 70 p6 c7 out, pt b5 (.cells #[Nx (n)] 3), pt b4 (.cells #[.slice np (K + 1 + 1) (nc), .slice rp (l.length) rc] 65), pt b2 (.cells #[Ix (q.x), Ix (q.y)] 27), pt b1 (.cells #[Ix (p.x), Ix (p.y)] 27), Sat (Ds.map mkR)] ∧ (True)) (X := fun _ _ _ => False) rfl (near_seq βf nb15 nd16 _ _ ns RR hG n hnN hnrr) (fun _ => rfl) rfl ⟨by rw [List.foldl_nil, hnsl], trivial⟩ ?_ ?_ ?_
        · rintro lz β1 pre x M ext hpre ⟨rfl, -⟩
          refine c_region ?_
          refine l_val (v := Nx (x)) rfl rfl rfl (e_assign) ?_
          refine l_nil ?_
          refine f_cut (fun β2 ext2 => ?_)
          replace s1 := Sl.mono _ _ _ _ _ ext2.sub s1
          obtain ⟨-, -, -, ne⟩ := Sl.parts s1
          obtain ⟨lq, hlq, hpq⟩ := hpre
          subst hlq
          have hxr : x ∈ nrL ns RR n := hpq.subset (List.mem_append_right _ List.mem_cons_self)
          have hxk : x < ns.length := hnlt n hnN x hxr
          have hfl := (nx_le (out := out) (wt := wtL ns) (n := n) pre ns.length).1
          refine c_block ?_
          refine c_seq ?_
          obtain ⟨x17, hx18⟩ : ∃ x_, (hn)[n]? = some x_ := ⟨_, List.getElem?_eq_getElem (by omega)⟩
          obtain ⟨ha19, cs20, hc21, rfl⟩ := ne _ _ hx18
          obtain ⟨x23, hx24⟩ : ∃ x_, (hn)[x]? = some x_ := ⟨_, List.getElem?_eq_getElem (by omega)⟩
          obtain ⟨ha25, cs26, hc27, rfl⟩ := ne _ _ hx24
          obtain ⟨x29, hx30⟩ : ∃ x_, out[n]? = some x_ := ⟨_, List.getElem?_eq_getElem (by omega)⟩
          obtain ⟨x31, hx32⟩ : ∃ x_, out[x]? = some x_ := ⟨_, List.getElem?_eq_getElem (by omega)⟩
          have hlv := lenV_bd x17.x x17.y x23.x x23.y
          have hwt : wtL ns n x = lenV x17.x x17.y x23.x x23.y := by rw [← e1]; exact wt_eq hx18 hx24
          have hb1 := hMb _ (List.mem_of_getElem? hx30)
          have hb2 := hMb _ (List.mem_of_getElem? hx32)
          by_cases hg33 : ((x29.pts : Nat) : Int) = ((x31.pts + 1 : Nat) : Int)
          ·
            refine c_any [⟨[], [], [0], [49], fun f => f 49 = .slice p6 (K + 1 + 1) c7⟩, ⟨[], [], [1], [50], fun f => f 50 = Nx (n)⟩, ⟨[0, 1], [0, 1], [], [51], fun f => f 51 = .pointer (some ((ba p6).add (n * 3)))⟩, ⟨[0, 1, 2], [2], [], [52], fun f => f 52 = .pointer (some ((ba p6).add (n * 3 + 2)))⟩, ⟨[0, 1, 2, 3], [3], [], [53], fun f => f 53 = Nx (x29.pts)⟩, ⟨[], [], [0], [54], fun f => f 54 = .slice p6 (K + 1 + 1) c7⟩, ⟨[], [], [2], [55], fun f => f 55 = Nx (x)⟩, ⟨[5, 6], [5, 6], [], [56], fun f => f 56 = .pointer (some ((ba p6).add (x * 3)))⟩, ⟨[5, 6, 7], [7], [], [57], fun f => f 57 = .pointer (some ((ba p6).add (x * 3 + 2)))⟩, ⟨[5, 6, 7, 8], [8], [], [58], fun f => f 58 = Nx (x31.pts)⟩, ⟨[5, 6, 7, 8, 9], [9], [], [59], fun f => f 59 = Nx (x31.pts + 1)⟩, ⟨[0, 1, 2, 3, 4, 5, 6, 7, 8, 9, 10], [4, 10], [], [60], fun f => f 60 = .bool true⟩, ⟨[0, 1, 2, 3, 4, 5, 6, 7, 8, 9, 10, 11], [11], [], [61], fun f => f 61 = .bool true⟩, ⟨[0, 1, 2, 3, 4, 5, 6, 7, 8, 9, 10, 11, 12], [12], [0], [62], fun f => f 62 = .slice p6 (K + 1 + 1) c7⟩, ⟨[0, 1, 2, 3, 4, 5, 6, 7, 8, 9, 10, 11, 12], [12], [1], [63], fun f => f 63 = Nx (n)⟩, ⟨[0, 1, 2, 3, 4, 5, 6, 7, 8, 9, 10, 11, 12, 13, 14], [13, 14, 12], [], [64], fun f => f 64 = .pointer (some ((ba p6).add (n * 3)))⟩, ⟨[0, 1, 2, 3, 4, 5, 6, 7, 8, 9, 10, 11, 12, 13, 14, 15], [15, 12], [], [65], fun f => f 65 = .pointer (some ((ba p6).add (n * 3 + 1)))⟩, ⟨[0, 1, 2, 3, 4, 5, 6, 7, 8, 9, 10, 11, 12, 13, 14, 15, 16], [16, 12], [], [66], fun f => f 66 = Nx (x29.len)⟩, ⟨[0, 1, 2, 3, 4, 5, 6, 7, 8, 9, 10, 11, 12], [12], [0], [67], fun f => f 67 = .slice p6 (K + 1 + 1) c7⟩, ⟨[0, 1, 2, 3, 4, 5, 6, 7, 8, 9, 10, 11, 12], [12], [2], [68], fun f => f 68 = Nx (x)⟩, ⟨[0, 1, 2, 3, 4, 5, 6, 7, 8, 9, 10, 11, 12, 18, 19], [18, 19, 12], [], [69], fun f => f 69 = .pointer (some ((ba p6).add (x * 3)))⟩, ⟨[0, 1, 2, 3, 4, 5, 6, 7, 8, 9, 10, 11, 12, 18, 19, 20], [20, 12], [], [70], fun f => f 70 = .pointer (some ((ba p6).add (x * 3 + 1)))⟩, ⟨[0, 1, 2, 3, 4, 5, 6, 7, 8, 9, 10, 11, 12, 18, 19, 20, 21], [21, 12], [], [71], fun f => f 71 = Nx (x31.len)⟩, ⟨[0, 1, 2, 3, 4, 5, 6, 7, 8, 9, 10, 11, 12], [12], [3], [72], fun f => f 72 = .pointer (some ⟨b4, 0, none⟩)⟩, ⟨[0, 1, 2, 3, 4, 5, 6, 7, 8, 9, 10, 11, 12, 23], [23, 12], [], [73], fun f => f 73 = .slice np (K + 1 + 1) (nc)⟩, ⟨[0, 1, 2, 3, 4, 5, 6, 7, 8, 9, 10, 11, 12], [12], [1], [74], fun f => f 74 = Nx (n)⟩, ⟨[0, 1, 2, 3, 4, 5, 6, 7, 8, 9, 10, 11, 12, 23, 24, 25], [24, 25, 12], [], [75], fun f => f 75 = .pointer (some ((ba np).add (n * 3)))⟩, ⟨[0, 1, 2, 3, 4, 5, 6, 7, 8, 9, 10, 11, 12, 23, 24, 25, 26], [26, 12], [], [76], fun f => f 76 = .pointer (some (((ba np).add (n * 3) : Addr).add 0))⟩, ⟨[0, 1, 2, 3, 4, 5, 6, 7, 8, 9, 10, 11, 12, 23, 24, 25, 26, 27], [27, 12], [], [77], fun f => f 77 = .agg #[Ix (x17.x), Ix (x17.y)]⟩, ⟨[0, 1, 2, 3, 4, 5, 6, 7, 8, 9, 10, 11, 12], [12], [3], [78], fun f => f 78 = .pointer (some ⟨b4, 0, none⟩)⟩, ⟨[0, 1, 2, 3, 4, 5, 6, 7, 8, 9, 10, 11, 12, 29], [29, 12], [], [79], fun f => f 79 = .slice np (K + 1 + 1) (nc)⟩, ⟨[0, 1, 2, 3, 4, 5, 6, 7, 8, 9, 10, 11, 12], [12], [2], [80], fun f => f 80 = Nx (x)⟩, ⟨[0, 1, 2, 3, 4, 5, 6, 7, 8, 9, 10, 11, 12, 29, 30, 31], [30, 31, 12], [], [81], fun f => f 81 = .pointer (some ((ba np).add (x * 3)))⟩, ⟨[0, 1, 2, 3, 4, 5, 6, 7, 8, 9, 10, 11, 12, 29, 30, 31, 32], [32, 12], [], [82], fun f => f 82 = .pointer (some (((ba np).add (x * 3) : Addr).add 0))⟩, ⟨[0, 1, 2, 3, 4, 5, 6, 7, 8, 9, 10, 11, 12, 29, 30, 31, 32, 33], [33, 12], [], [83], fun f => f 83 = .agg #[Ix (x23.x), Ix (x23.y)]⟩, ⟨[0, 1, 2, 3, 4, 5, 6, 7, 8, 9, 10, 11, 12, 23, 24, 25, 26, 27, 28, 29, 30, 31, 32, 33, 34], [28, 34, 12], [], [84], fun f => f 84 = Nx (lenV x17.x x17.y x23.x x23.y)⟩, ⟨[0, 1, 2, 3, 4, 5, 6, 7, 8, 9, 10, 11, 12, 18, 19, 20, 21, 22, 23, 24, 25, 26, 27, 28, 29, 30, 31, 32, 33, 34, 35], [22, 35, 12], [], [85], fun f => f 85 = Nx (x31.len + (lenV x17.x x17.y x23.x x23.y))⟩, ⟨[0, 1, 2, 3, 4, 5, 6, 7, 8, 9, 10, 11, 12, 13, 14, 15, 16, 17, 18, 19, 20, 21, 22, 23, 24, 25, 26, 27, 28, 29, 30, 31, 32, 33, 34, 35, 36], [17, 36, 12], [], [86], fun f => f 86 = .bool (decide (((x29.len : Nat) : Int) = ((x31.len + (lenV x17.x x17.y x23.x x23.y) : Nat) : Int)))⟩, ⟨[0, 1, 2, 3, 4, 5, 6, 7, 8, 9, 10, 11, 12, 13, 14, 15, 16, 17, 18, 19, 20, 21, 22, 23, 24, 25, 26, 27, 28, 29, 30, 31, 32, 33, 34, 35, 36, 37], [12, 37], [], [87], fun f => f 87 = .bool (decide (((x29.len : Nat) : Int) = ((x31.len + (lenV x17.x x17.y x23.x x23.y) : Nat) : Int)))⟩] [⟨none, none, [], [], fun _ => pt b14 (.cells #[Nx ((pre.foldl (nxF out (wtL ns) n) ns.length))] 3)⟩, ⟨none, none, [], [], fun _ => rowF VecF 27 tp tc ys⟩, ⟨none, none, [0, 5, 13, 18], [], fun _ => pt b8 (.cells #[.slice p6 (K + 1 + 1) c7] 67)⟩, ⟨none, none, [2, 4, 7, 9, 15, 17, 20, 22], [], fun _ => rowF MarkF 70 p6 c7 out⟩, ⟨none, none, [1, 14, 25], [], fun _ => pt b5 (.cells #[Nx (n)] 3)⟩, ⟨none, none, [24, 30], [], fun _ => pt b4 (.cells #[.slice np (K + 1 + 1) (nc), .slice rp (l.length) rc] 65)⟩, ⟨none, none, [], [], fun _ => pt b2 (.cells #[Ix (q.x), Ix (q.y)] 27)⟩, ⟨none, none, [], [], fun _ => pt b1 (.cells #[Ix (p.x), Ix (p.y)] 27)⟩, ⟨none, none, [], [], fun _ => Sat (Ds.map mkR)⟩] [(12, .pointer (some ⟨b8, 0, none⟩)), (11, .pointer (some ⟨b5, 0, none⟩)), (15, Nx (x)), (9, .pointer (some ⟨b4, 0, none⟩)), (14, .pointer (some ⟨b14, 0, none⟩))] [4, 2] [] (by kernel_rfl) (by kernel_rfl) (by kernel_rfl) (by kernel_rfl) rfl ⟨rfl, rfl, rfl, rfl, rfl, trivial⟩ ⟨?_, ?_, ?_, ?_, ?_, ?_, ?_, ?_, ?_, ?_, ?_, ?_, ?_, ?_, ?_, ?_, ?_, ?_, ?_, ?_, ?_, ?_, ?_, ?_, ?_, ?_, ?_, ?_, ?_, ?_, ?_, ?_, ?_, ?_, ?_, ?_, ?_, ?_, ?_, trivial⟩ ?_
            · rintro f M - ⟨i0, -⟩
              have hs12 : f 12 = .pointer (some ⟨b8, 0, none⟩) := i0
              refine ob_start (L' := pt b8 (.cells #[.slice p6 (K + 1 + 1) c7] 67) :: M) (by rfl) (up_cons rfl hs12) ?_
              refine l_val (v := .slice p6 (K + 1 + 1) c7) rfl rfl rfl (e_load1 tx95 (v := .slice p6 (K + 1 + 1) c7) rfl (k_pt 0 (cs := #[.slice p6 (K + 1 + 1) c7]) (vs := [.slice p6 (K + 1 + 1) c7]) rfl rfl)) ?_
              refine l_nil ?_
              exact f_owes_d (up_cons rfl hs12) rfl (perm_front 0 rfl)
            · rintro f M - ⟨i0, -⟩
              have hs11 : f 11 = .pointer (some ⟨b5, 0, none⟩) := i0
              refine ob_start (L' := pt b5 (.cells #[Nx (n)] 3) :: M) (by rfl) (up_cons rfl hs11) ?_
              refine l_val (v := Nx (n)) rfl rfl rfl (e_load1 tp2 (v := Nx (n)) rfl (k_pt 0 (cs := #[Nx (n)]) (vs := [Nx (n)]) rfl rfl)) ?_
              refine l_nil ?_
              exact f_owes_d (up_cons rfl hs11) rfl (perm_front 0 rfl)
            · rintro f M ⟨k0, k1, -⟩ -
              have hs49 : f 49 = .slice p6 (K + 1 + 1) c7 := k0
              have hs50 : f 50 = Nx (n) := k1
              refine ob_start (L' := rowF MarkF 70 p6 c7 out :: M) (by rfl) (up_cons (up_cons rfl hs49) hs50) ?_
              refine l_val (v := .pointer (some ((ba p6).add (n * 3)))) rfl rfl rfl (e_indexFlN 0 (F := MarkF) (j := n) (m := K + 1 + 1) (xs := out) rfl (by omega) rfl tw71 (by omega) rfl) ?_
              refine l_nil ?_
              exact f_owes_d (up_cons (up_cons rfl hs49) hs50) rfl (perm_front 0 rfl)
            · rintro f M ⟨k0, -⟩ -
              have hs51 : f 51 = .pointer (some ((ba p6).add (n * 3))) := k0
              refine ob_start (L' := M) (by rfl) (up_cons rfl hs51) ?_
              refine l_val (v := .pointer (some ((ba p6).add (n * 3 + 2)))) rfl rfl rfl (ev_eq (congrArg (fun z => Value.pointer (some z)) (show ((ba p6).add (n * 3) : Addr).add 2 = (ba p6).add (n * 3 + 2) by rw [Addr.add_add'])) (e_fieldAddr (a := (ba p6).add (n * 3)) rfl tw86)) ?_
              refine l_nil ?_
              exact f_owes_d (up_cons rfl hs51) rfl (List.Perm.refl _)
            · rintro f M ⟨k0, -⟩ -
              have hs52 : f 52 = .pointer (some ((ba p6).add (n * 3 + 2))) := k0
              refine ob_start (L' := rowF MarkF 70 p6 c7 out :: M) (by rfl) (up_cons rfl hs52) ?_
              refine l_val (v := Nx (x29.pts)) rfl rfl rfl (e_load1 tp2 (v := Nx (x29.pts)) rfl (k_flPart 0 (F := MarkF) (o := 2) (us := [Nx (x29.pts)]) rfl hx30 rfl)) ?_
              refine l_nil ?_
              exact f_owes_d (up_cons rfl hs52) rfl (perm_front 0 rfl)
            · rintro f M - ⟨i0, -⟩
              have hs12 : f 12 = .pointer (some ⟨b8, 0, none⟩) := i0
              refine ob_start (L' := pt b8 (.cells #[.slice p6 (K + 1 + 1) c7] 67) :: M) (by rfl) (up_cons rfl hs12) ?_
              refine l_val (v := .slice p6 (K + 1 + 1) c7) rfl rfl rfl (e_load1 tx95 (v := .slice p6 (K + 1 + 1) c7) rfl (k_pt 0 (cs := #[.slice p6 (K + 1 + 1) c7]) (vs := [.slice p6 (K + 1 + 1) c7]) rfl rfl)) ?_
              refine l_nil ?_
              exact f_owes_d (up_cons rfl hs12) rfl (perm_front 0 rfl)
            · rintro f M - ⟨i0, -⟩
              have hs15 : f 15 = Nx (x) := i0
              refine ob_start (L' := M) (by rfl) (up_cons rfl hs15) ?_
              refine l_val (v := Nx (x)) rfl rfl rfl (e_move) ?_
              refine l_nil ?_
              exact f_owes_d (up_cons rfl hs15) rfl (List.Perm.refl _)
            · rintro f M ⟨k0, k1, -⟩ -
              have hs54 : f 54 = .slice p6 (K + 1 + 1) c7 := k0
              have hs55 : f 55 = Nx (x) := k1
              refine ob_start (L' := rowF MarkF 70 p6 c7 out :: M) (by rfl) (up_cons (up_cons rfl hs54) hs55) ?_
              refine l_val (v := .pointer (some ((ba p6).add (x * 3)))) rfl rfl rfl (e_indexFlN 0 (F := MarkF) (j := x) (m := K + 1 + 1) (xs := out) rfl (by omega) rfl tw71 (by omega) rfl) ?_
              refine l_nil ?_
              exact f_owes_d (up_cons (up_cons rfl hs54) hs55) rfl (perm_front 0 rfl)
            · rintro f M ⟨k0, -⟩ -
              have hs56 : f 56 = .pointer (some ((ba p6).add (x * 3))) := k0
              refine ob_start (L' := M) (by rfl) (up_cons rfl hs56) ?_
              refine l_val (v := .pointer (some ((ba p6).add (x * 3 + 2)))) rfl rfl rfl (ev_eq (congrArg (fun z => Value.pointer (some z)) (show ((ba p6).add (x * 3) : Addr).add 2 = (ba p6).add (x * 3 + 2) by rw [Addr.add_add'])) (e_fieldAddr (a := (ba p6).add (x * 3)) rfl tw86)) ?_
              refine l_nil ?_
              exact f_owes_d (up_cons rfl hs56) rfl (List.Perm.refl _)
            · rintro f M ⟨k0, -⟩ -
              have hs57 : f 57 = .pointer (some ((ba p6).add (x * 3 + 2))) := k0
              refine ob_start (L' := rowF MarkF 70 p6 c7 out :: M) (by rfl) (up_cons rfl hs57) ?_
              refine l_val (v := Nx (x31.pts)) rfl rfl rfl (e_load1 tp2 (v := Nx (x31.pts)) rfl (k_flPart 0 (F := MarkF) (o := 2) (us := [Nx (x31.pts)]) rfl hx32 rfl)) ?_
              refine l_nil ?_
              exact f_owes_d (up_cons rfl hs57) rfl (perm_front 0 rfl)
            · rintro f M ⟨k0, -⟩ -
              have hs58 : f 58 = Nx (x31.pts) := k0
              refine ob_start (L' := M) (by rfl) (up_cons rfl hs58) ?_
              refine l_val (v := Nx (x31.pts + 1)) rfl rfl rfl (e_add (a := ((x31.pts : Nat) : Int)) (b := (1 : Int)) rfl rfl (i64n (by omega) (by omega))) ?_
              refine l_nil ?_
              exact f_owes_d (up_cons rfl hs58) rfl (List.Perm.refl _)
            · rintro f M ⟨k0, k1, -⟩ -
              have hs53 : f 53 = Nx (x29.pts) := k0
              have hs59 : f 59 = Nx (x31.pts + 1) := k1
              refine ob_start (L' := M) (by rfl) (up_cons (up_cons rfl hs53) hs59) ?_
              refine l_val (v := .bool true) rfl rfl rfl ((ev_t hg33 (e_eql (a := ((x29.pts : Nat) : Int)) (b := ((x31.pts + 1 : Nat) : Int)) rfl rfl))) ?_
              refine l_nil ?_
              exact f_owes_d (up_cons (up_cons rfl hs53) hs59) rfl (List.Perm.refl _)
            · rintro f M ⟨k0, -⟩ -
              have hs60 : f 60 = .bool true := k0
              refine ob_start (L' := M) (by rfl) (up_cons rfl hs60) ?_
              refine l_val (v := .bool true) rfl rfl rfl (e_move) ?_
              refine l_nil ?_
              exact f_owes_d (up_cons rfl hs60) rfl (List.Perm.refl _)
            · rintro f M ⟨k0, -⟩ ⟨i0, -⟩
              have hs12 : f 12 = .pointer (some ⟨b8, 0, none⟩) := i0
              have hs61 : f 61 = .bool true := k0
              refine ob_start (L' := pt b8 (.cells #[.slice p6 (K + 1 + 1) c7] 67) :: M) (by rfl) (up_cons (up_cons rfl hs12) hs61) ?_
              refine g_val (v := .slice p6 (K + 1 + 1) c7) rfl rfl rfl rfl rfl (e_load1 tx95 (v := .slice p6 (K + 1 + 1) c7) rfl (k_pt 0 (cs := #[.slice p6 (K + 1 + 1) c7]) (vs := [.slice p6 (K + 1 + 1) c7]) rfl rfl)) ?_
              refine l_nil ?_
              exact f_owes_d (up_cons (up_cons rfl hs12) hs61) rfl (perm_front 0 rfl)
            · rintro f M ⟨k0, -⟩ ⟨i0, -⟩
              have hs11 : f 11 = .pointer (some ⟨b5, 0, none⟩) := i0
              have hs61 : f 61 = .bool true := k0
              refine ob_start (L' := pt b5 (.cells #[Nx (n)] 3) :: M) (by rfl) (up_cons (up_cons rfl hs11) hs61) ?_
              refine g_val (v := Nx (n)) rfl rfl rfl rfl rfl (e_load1 tp2 (v := Nx (n)) rfl (k_pt 0 (cs := #[Nx (n)]) (vs := [Nx (n)]) rfl rfl)) ?_
              refine l_nil ?_
              exact f_owes_d (up_cons (up_cons rfl hs11) hs61) rfl (perm_front 0 rfl)
            · rintro f M ⟨k0, k1, k2, -⟩ -
              have hs62 : f 62 = .slice p6 (K + 1 + 1) c7 := k0
              have hs63 : f 63 = Nx (n) := k1
              have hs61 : f 61 = .bool true := k2
              refine ob_start (L' := rowF MarkF 70 p6 c7 out :: M) (by rfl) (up_cons (up_cons (up_cons rfl hs62) hs63) hs61) ?_
              refine g_val (v := .pointer (some ((ba p6).add (n * 3)))) rfl rfl rfl rfl rfl (e_indexFlN 0 (F := MarkF) (j := n) (m := K + 1 + 1) (xs := out) rfl (by omega) rfl tw71 (by omega) rfl) ?_
              refine l_nil ?_
              exact f_owes_d (up_cons (up_cons (up_cons rfl hs62) hs63) hs61) rfl (perm_front 0 rfl)
            · rintro f M ⟨k0, k1, -⟩ -
              have hs64 : f 64 = .pointer (some ((ba p6).add (n * 3))) := k0
              have hs61 : f 61 = .bool true := k1
              refine ob_start (L' := M) (by rfl) (up_cons (up_cons rfl hs64) hs61) ?_
              refine g_val (v := .pointer (some ((ba p6).add (n * 3 + 1)))) rfl rfl rfl rfl rfl (ev_eq (congrArg (fun z => Value.pointer (some z)) (show ((ba p6).add (n * 3) : Addr).add 1 = (ba p6).add (n * 3 + 1) by rw [Addr.add_add'])) (e_fieldAddr (a := (ba p6).add (n * 3)) rfl tw88)) ?_
              refine l_nil ?_
              exact f_owes_d (up_cons (up_cons rfl hs64) hs61) rfl (List.Perm.refl _)
            · rintro f M ⟨k0, k1, -⟩ -
              have hs65 : f 65 = .pointer (some ((ba p6).add (n * 3 + 1))) := k0
              have hs61 : f 61 = .bool true := k1
              refine ob_start (L' := rowF MarkF 70 p6 c7 out :: M) (by rfl) (up_cons (up_cons rfl hs65) hs61) ?_
              refine g_val (v := Nx (x29.len)) rfl rfl rfl rfl rfl (e_load1 tp2 (v := Nx (x29.len)) rfl (k_flPart 0 (F := MarkF) (o := 1) (us := [Nx (x29.len)]) rfl hx30 rfl)) ?_
              refine l_nil ?_
              exact f_owes_d (up_cons (up_cons rfl hs65) hs61) rfl (perm_front 0 rfl)
            · rintro f M ⟨k0, -⟩ ⟨i0, -⟩
              have hs12 : f 12 = .pointer (some ⟨b8, 0, none⟩) := i0
              have hs61 : f 61 = .bool true := k0
              refine ob_start (L' := pt b8 (.cells #[.slice p6 (K + 1 + 1) c7] 67) :: M) (by rfl) (up_cons (up_cons rfl hs12) hs61) ?_
              refine g_val (v := .slice p6 (K + 1 + 1) c7) rfl rfl rfl rfl rfl (e_load1 tx95 (v := .slice p6 (K + 1 + 1) c7) rfl (k_pt 0 (cs := #[.slice p6 (K + 1 + 1) c7]) (vs := [.slice p6 (K + 1 + 1) c7]) rfl rfl)) ?_
              refine l_nil ?_
              exact f_owes_d (up_cons (up_cons rfl hs12) hs61) rfl (perm_front 0 rfl)
            · rintro f M ⟨k0, -⟩ ⟨i0, -⟩
              have hs15 : f 15 = Nx (x) := i0
              have hs61 : f 61 = .bool true := k0
              refine ob_start (L' := M) (by rfl) (up_cons (up_cons rfl hs15) hs61) ?_
              refine g_val (v := Nx (x)) rfl rfl rfl rfl rfl (e_move) ?_
              refine l_nil ?_
              exact f_owes_d (up_cons (up_cons rfl hs15) hs61) rfl (List.Perm.refl _)
            · rintro f M ⟨k0, k1, k2, -⟩ -
              have hs67 : f 67 = .slice p6 (K + 1 + 1) c7 := k0
              have hs68 : f 68 = Nx (x) := k1
              have hs61 : f 61 = .bool true := k2
              refine ob_start (L' := rowF MarkF 70 p6 c7 out :: M) (by rfl) (up_cons (up_cons (up_cons rfl hs67) hs68) hs61) ?_
              refine g_val (v := .pointer (some ((ba p6).add (x * 3)))) rfl rfl rfl rfl rfl (e_indexFlN 0 (F := MarkF) (j := x) (m := K + 1 + 1) (xs := out) rfl (by omega) rfl tw71 (by omega) rfl) ?_
              refine l_nil ?_
              exact f_owes_d (up_cons (up_cons (up_cons rfl hs67) hs68) hs61) rfl (perm_front 0 rfl)
            · rintro f M ⟨k0, k1, -⟩ -
              have hs69 : f 69 = .pointer (some ((ba p6).add (x * 3))) := k0
              have hs61 : f 61 = .bool true := k1
              refine ob_start (L' := M) (by rfl) (up_cons (up_cons rfl hs69) hs61) ?_
              refine g_val (v := .pointer (some ((ba p6).add (x * 3 + 1)))) rfl rfl rfl rfl rfl (ev_eq (congrArg (fun z => Value.pointer (some z)) (show ((ba p6).add (x * 3) : Addr).add 1 = (ba p6).add (x * 3 + 1) by rw [Addr.add_add'])) (e_fieldAddr (a := (ba p6).add (x * 3)) rfl tw88)) ?_
              refine l_nil ?_
              exact f_owes_d (up_cons (up_cons rfl hs69) hs61) rfl (List.Perm.refl _)
            · rintro f M ⟨k0, k1, -⟩ -
              have hs70 : f 70 = .pointer (some ((ba p6).add (x * 3 + 1))) := k0
              have hs61 : f 61 = .bool true := k1
              refine ob_start (L' := rowF MarkF 70 p6 c7 out :: M) (by rfl) (up_cons (up_cons rfl hs70) hs61) ?_
              refine g_val (v := Nx (x31.len)) rfl rfl rfl rfl rfl (e_load1 tp2 (v := Nx (x31.len)) rfl (k_flPart 0 (F := MarkF) (o := 1) (us := [Nx (x31.len)]) rfl hx32 rfl)) ?_
              refine l_nil ?_
              exact f_owes_d (up_cons (up_cons rfl hs70) hs61) rfl (perm_front 0 rfl)
            · rintro f M ⟨k0, -⟩ ⟨i0, -⟩
              have hs9 : f 9 = .pointer (some ⟨b4, 0, none⟩) := i0
              have hs61 : f 61 = .bool true := k0
              refine ob_start (L' := M) (by rfl) (up_cons (up_cons rfl hs9) hs61) ?_
              refine g_val (v := .pointer (some ⟨b4, 0, none⟩)) rfl rfl rfl rfl rfl (e_fieldPt (b := b4) (o := 0) rfl tv48) ?_
              refine l_nil ?_
              exact f_owes_d (up_cons (up_cons rfl hs9) hs61) rfl (List.Perm.refl _)
            · rintro f M ⟨k0, k1, -⟩ -
              have hs72 : f 72 = .pointer (some ⟨b4, 0, none⟩) := k0
              have hs61 : f 61 = .bool true := k1
              refine ob_start (L' := pt b4 (.cells #[.slice np (K + 1 + 1) (nc), .slice rp (l.length) rc] 65) :: M) (by rfl) (up_cons (up_cons rfl hs72) hs61) ?_
              refine g_val (v := .slice np (K + 1 + 1) (nc)) rfl rfl rfl rfl rfl (e_load1 tv49 (v := .slice np (K + 1 + 1) (nc)) rfl (k_pt 0 (cs := #[.slice np (K + 1 + 1) (nc), .slice rp (l.length) rc]) (vs := [.slice np (K + 1 + 1) (nc)]) rfl rfl)) ?_
              refine l_nil ?_
              exact f_owes_d (up_cons (up_cons rfl hs72) hs61) rfl (perm_front 0 rfl)
            · rintro f M ⟨k0, -⟩ ⟨i0, -⟩
              have hs11 : f 11 = .pointer (some ⟨b5, 0, none⟩) := i0
              have hs61 : f 61 = .bool true := k0
              refine ob_start (L' := pt b5 (.cells #[Nx (n)] 3) :: M) (by rfl) (up_cons (up_cons rfl hs11) hs61) ?_
              refine g_val (v := Nx (n)) rfl rfl rfl rfl rfl (e_load1 tp2 (v := Nx (n)) rfl (k_pt 0 (cs := #[Nx (n)]) (vs := [Nx (n)]) rfl rfl)) ?_
              refine l_nil ?_
              exact f_owes_d (up_cons (up_cons rfl hs11) hs61) rfl (perm_front 0 rfl)
            · rintro f M ⟨k0, k1, k2, -⟩ -
              have hs73 : f 73 = .slice np (K + 1 + 1) (nc) := k0
              have hs74 : f 74 = Nx (n) := k1
              have hs61 : f 61 = .bool true := k2
              refine ob_start (L' := M) (by rfl) (up_cons (up_cons (up_cons rfl hs73) hs74) hs61) ?_
              refine g_val (v := .pointer (some ((ba np).add (n * 3)))) rfl rfl rfl rfl rfl (e_indexAddr (k := n) (len := K + 1 + 1) (cap := nc) (a := np) rfl rfl tv53 (by omega) ha19) ?_
              refine l_nil ?_
              exact f_owes_d (up_cons (up_cons (up_cons rfl hs73) hs74) hs61) rfl (List.Perm.refl _)
            · rintro f M ⟨k0, k1, -⟩ -
              have hs75 : f 75 = .pointer (some ((ba np).add (n * 3))) := k0
              have hs61 : f 61 = .bool true := k1
              refine ob_start (L' := M) (by rfl) (up_cons (up_cons rfl hs75) hs61) ?_
              refine g_val (v := .pointer (some (((ba np).add (n * 3) : Addr).add 0))) rfl rfl rfl rfl rfl (e_fieldAddr (a := (ba np).add (n * 3)) rfl tw89) ?_
              refine l_nil ?_
              exact f_owes_d (up_cons (up_cons rfl hs75) hs61) rfl (List.Perm.refl _)
            · rintro f M ⟨k0, k1, -⟩ -
              have hs76 : f 76 = .pointer (some (((ba np).add (n * 3) : Addr).add 0)) := k0
              have hs61 : f 61 = .bool true := k1
              refine ob_start (L' := M) (by rfl) (up_cons (up_cons rfl hs76) hs61) ?_
              refine g_val (v := .agg #[Ix (x17.x), Ix (x17.y)]) rfl rfl rfl rfl rfl (e_load tp7 (cs := [Ix (x17.x), Ix (x17.y)]) rfl (Knows.imp (Knows.of_base (Cs.mono _ _) hc21) (fun _ h => Cs.sub (vs := [Ix (x17.x), Ix (x17.y)]) 0 h rfl)) rfl) ?_
              refine l_nil ?_
              exact f_owes_d (up_cons (up_cons rfl hs76) hs61) rfl (List.Perm.refl _)
            · rintro f M ⟨k0, -⟩ ⟨i0, -⟩
              have hs9 : f 9 = .pointer (some ⟨b4, 0, none⟩) := i0
              have hs61 : f 61 = .bool true := k0
              refine ob_start (L' := M) (by rfl) (up_cons (up_cons rfl hs9) hs61) ?_
              refine g_val (v := .pointer (some ⟨b4, 0, none⟩)) rfl rfl rfl rfl rfl (e_fieldPt (b := b4) (o := 0) rfl tv48) ?_
              refine l_nil ?_
              exact f_owes_d (up_cons (up_cons rfl hs9) hs61) rfl (List.Perm.refl _)
            · rintro f M ⟨k0, k1, -⟩ -
              have hs78 : f 78 = .pointer (some ⟨b4, 0, none⟩) := k0
              have hs61 : f 61 = .bool true := k1
              refine ob_start (L' := pt b4 (.cells #[.slice np (K + 1 + 1) (nc), .slice rp (l.length) rc] 65) :: M) (by rfl) (up_cons (up_cons rfl hs78) hs61) ?_
              refine g_val (v := .slice np (K + 1 + 1) (nc)) rfl rfl rfl rfl rfl (e_load1 tv49 (v := .slice np (K + 1 + 1) (nc)) rfl (k_pt 0 (cs := #[.slice np (K + 1 + 1) (nc), .slice rp (l.length) rc]) (vs := [.slice np (K + 1 + 1) (nc)]) rfl rfl)) ?_
              refine l_nil ?_
              exact f_owes_d (up_cons (up_cons rfl hs78) hs61) rfl (perm_front 0 rfl)
            · rintro f M ⟨k0, -⟩ ⟨i0, -⟩
              have hs15 : f 15 = Nx (x) := i0
              have hs61 : f 61 = .bool true := k0
              refine ob_start (L' := M) (by rfl) (up_cons (up_cons rfl hs15) hs61) ?_
              refine g_val (v := Nx (x)) rfl rfl rfl rfl rfl (e_move) ?_
              refine l_nil ?_
              exact f_owes_d (up_cons (up_cons rfl hs15) hs61) rfl (List.Perm.refl _)
            · rintro f M ⟨k0, k1, k2, -⟩ -
              have hs79 : f 79 = .slice np (K + 1 + 1) (nc) := k0
              have hs80 : f 80 = Nx (x) := k1
              have hs61 : f 61 = .bool true := k2
              refine ob_start (L' := M) (by rfl) (up_cons (up_cons (up_cons rfl hs79) hs80) hs61) ?_
              refine g_val (v := .pointer (some ((ba np).add (x * 3)))) rfl rfl rfl rfl rfl (e_indexAddr (k := x) (len := K + 1 + 1) (cap := nc) (a := np) rfl rfl tv53 (by omega) ha25) ?_
              refine l_nil ?_
              exact f_owes_d (up_cons (up_cons (up_cons rfl hs79) hs80) hs61) rfl (List.Perm.refl _)
            · rintro f M ⟨k0, k1, -⟩ -
              have hs81 : f 81 = .pointer (some ((ba np).add (x * 3))) := k0
              have hs61 : f 61 = .bool true := k1
              refine ob_start (L' := M) (by rfl) (up_cons (up_cons rfl hs81) hs61) ?_
              refine g_val (v := .pointer (some (((ba np).add (x * 3) : Addr).add 0))) rfl rfl rfl rfl rfl (e_fieldAddr (a := (ba np).add (x * 3)) rfl tw89) ?_
              refine l_nil ?_
              exact f_owes_d (up_cons (up_cons rfl hs81) hs61) rfl (List.Perm.refl _)
            · rintro f M ⟨k0, k1, -⟩ -
              have hs82 : f 82 = .pointer (some (((ba np).add (x * 3) : Addr).add 0)) := k0
              have hs61 : f 61 = .bool true := k1
              refine ob_start (L' := M) (by rfl) (up_cons (up_cons rfl hs82) hs61) ?_
              refine g_val (v := .agg #[Ix (x23.x), Ix (x23.y)]) rfl rfl rfl rfl rfl (e_load tp7 (cs := [Ix (x23.x), Ix (x23.y)]) rfl (Knows.imp (Knows.of_base (Cs.mono _ _) hc27) (fun _ h => Cs.sub (vs := [Ix (x23.x), Ix (x23.y)]) 0 h rfl)) rfl) ?_
              refine l_nil ?_
              exact f_owes_d (up_cons (up_cons rfl hs82) hs61) rfl (List.Perm.refl _)
            · rintro f M ⟨k0, k1, k2, -⟩ -
              have hs77 : f 77 = .agg #[Ix (x17.x), Ix (x17.y)] := k0
              have hs83 : f 83 = .agg #[Ix (x23.x), Ix (x23.y)] := k1
              have hs61 : f 61 = .bool true := k2
              refine ob_start (L' := M) (by rfl) (up_cons (up_cons (up_cons rfl hs77) hs83) hs61) ?_
              refine g_call rfl rfl rfl rfl rfl (cl_value (fst := []) (cap := []) (vs := [.agg #[Ix (x17.x), Ix (x17.y)], .agg #[Ix (x23.x), Ix (x23.y)]]) (all := [.agg #[Ix (x17.x), Ix (x17.y)], .agg #[Ix (x23.x), Ix (x23.y)]]) tw90 rfl rfl rfl) ?_
              intro w hw
              obtain ⟨β1, sb, kn, hw1, back⟩ := St.frame_all hw
              refine (length_ok β1 w hw1 ⟨x17.x, x17.y⟩ ⟨x23.x, x23.y⟩).mono ?_
              rintro e w' ⟨rfl, hw'⟩
              refine ⟨_, rfl, _, back _ _ hw', ?_⟩
              clear hw hw1 hw' back kn sb
              refine l_nil ?_
              exact f_owes_d (up_cons (up_cons (up_cons rfl hs77) hs83) hs61) rfl (List.Perm.refl _)
            · rintro f M ⟨k0, k1, k2, -⟩ -
              have hs71 : f 71 = Nx (x31.len) := k0
              have hs84 : f 84 = Nx (lenV x17.x x17.y x23.x x23.y) := k1
              have hs61 : f 61 = .bool true := k2
              refine ob_start (L' := M) (by rfl) (up_cons (up_cons (up_cons rfl hs71) hs84) hs61) ?_
              refine g_val (v := Nx (x31.len + (lenV x17.x x17.y x23.x x23.y))) rfl rfl rfl rfl rfl (e_add (a := ((x31.len : Nat) : Int)) (b := ((lenV x17.x x17.y x23.x x23.y : Nat) : Int)) rfl rfl (i64n (by omega) (by omega))) ?_
              refine l_nil ?_
              exact f_owes_d (up_cons (up_cons (up_cons rfl hs71) hs84) hs61) rfl (List.Perm.refl _)
            · rintro f M ⟨k0, k1, k2, -⟩ -
              have hs66 : f 66 = Nx (x29.len) := k0
              have hs85 : f 85 = Nx (x31.len + (lenV x17.x x17.y x23.x x23.y)) := k1
              have hs61 : f 61 = .bool true := k2
              refine ob_start (L' := M) (by rfl) (up_cons (up_cons (up_cons rfl hs66) hs85) hs61) ?_
              refine g_val (v := .bool (decide (((x29.len : Nat) : Int) = ((x31.len + (lenV x17.x x17.y x23.x x23.y) : Nat) : Int)))) rfl rfl rfl rfl rfl (e_eql (a := ((x29.len : Nat) : Int)) (b := ((x31.len + (lenV x17.x x17.y x23.x x23.y) : Nat) : Int)) rfl rfl) ?_
              refine l_nil ?_
              exact f_owes_d (up_cons (up_cons (up_cons rfl hs66) hs85) hs61) rfl (List.Perm.refl _)
            · rintro f M ⟨k0, k1, -⟩ -
              have hs61 : f 61 = .bool true := k0
              have hs86 : f 86 = .bool (decide (((x29.len : Nat) : Int) = ((x31.len + (lenV x17.x x17.y x23.x x23.y) : Nat) : Int))) := k1
              refine ob_start (L' := M) (by rfl) (up_cons (up_cons rfl hs61) hs86) ?_
              refine l_val (v := .bool (decide (((x29.len : Nat) : Int) = ((x31.len + (lenV x17.x x17.y x23.x x23.y) : Nat) : Int)))) rfl rfl rfl (e_pick_t rfl) ?_
              refine l_nil ?_
              exact f_owes_d (up_cons (up_cons rfl hs61) hs86) rfl (List.Perm.refl _)
            rintro fa34 ⟨-, -, -, -, -, -, -, -, -, -, -, -, -, -, -, -, -, -, -, -, -, -, -, -, -, -, -, -, -, -, -, -, -, -, -, -, -, -, k38, -⟩ ⟨j0, j1, -⟩
            refine f_re (L' := [pt b14 (.cells #[Nx ((pre.foldl (nxF out (wtL ns) n) ns.length))] 3), rowF VecF 27 tp tc ys, pt b8 (.cells #[.slice p6 (K + 1 + 1) c7] 67), rowF MarkF 70 p6 c7 out, pt b5 (.cells #[Nx (n)] 3), pt b4 (.cells #[.slice np (K + 1 + 1) (nc), .slice rp (l.length) rc] 65), pt b2 (.cells #[Ix (q.x), Ix (q.y)] 27), pt b1 (.cells #[Ix (p.x), Ix (p.y)] 27), Sat (Ds.map mkR)]) (by rfl) ?_
            refine f_rebase (d := 14) (v := .pointer (some ⟨b14, 0, none⟩)) j0 ?_
            refine f_rebase (d := 15) (v := Nx (x)) j1 ?_
            refine f_rebase (d := 87) (v := .bool (decide (((x29.len : Nat) : Int) = ((x31.len + (lenV x17.x x17.y x23.x x23.y) : Nat) : Int)))) k38 ?_
            refine f_then ?_
            refine c_if (((x29.len : Nat) : Int) = ((x31.len + (lenV x17.x x17.y x23.x x23.y) : Nat) : Int)) rfl (fun hc35 => ?_) (fun hc35 => ?_)
            ·
              refine c_region ?_
              refine l_val (v := Nx ((pre.foldl (nxF out (wtL ns) n) ns.length))) rfl rfl rfl (e_load1 tp2 (v := Nx ((pre.foldl (nxF out (wtL ns) n) ns.length))) rfl (k_pt 0 (cs := #[Nx ((pre.foldl (nxF out (wtL ns) n) ns.length))]) (vs := [Nx ((pre.foldl (nxF out (wtL ns) n) ns.length))]) rfl rfl)) ?_
              refine l_val (v := Nx (x)) rfl rfl rfl (e_move) ?_
              refine l_val (v := Nx (min (pre.foldl (nxF out (wtL ns) n) ns.length) x)) rfl rfl rfl (ev_eq (congrArg (Value.int .i64) (by omega)) (e_min (a := (((pre.foldl (nxF out (wtL ns) n) ns.length) : Nat) : Int)) (b := ((x : Nat) : Int)) rfl rfl)) ?_
              refine l_mu rfl rfl (m_store 0 tp2 (b := b14) (o := 0) (T := 3) (cs := #[Nx ((pre.foldl (nxF out (wtL ns) n) ns.length))]) (cs' := #[Nx (min (pre.foldl (nxF out (wtL ns) n) ns.length) x)]) (v := Nx (min (pre.foldl (nxF out (wtL ns) n) ns.length) x)) rfl rfl rfl rfl rfl rfl rfl) ?_
              refine l_nil ?_
              refine f_block ?_
              exact fun a w ha hw => ⟨_, ⟨by simp only [List.foldl_append, List.foldl_cons, List.foldl_nil, nxF, if_pos (show mtch out (wtL ns) n x from ⟨by rw [mAt_of hx30, mAt_of hx32]; have q := hg33; omega, by rw [mAt_of hx30, mAt_of hx32, hwt]; have q := hc35; omega⟩)] <;> rfl, trivial⟩, hw⟩
            ·
              refine c_skip ?_
              refine f_block ?_
              exact fun a w ha hw => ⟨_, ⟨by simp only [List.foldl_append, List.foldl_cons, List.foldl_nil, nxF, if_neg (show ¬ mtch out (wtL ns) n x from fun q => by have q := q.2; rw [mAt_of hx30, mAt_of hx32, hwt] at q; have q2 := hc35; omega)], trivial⟩, hw⟩
          ·
            refine c_any [⟨[], [], [0], [49], fun f => f 49 = .slice p6 (K + 1 + 1) c7⟩, ⟨[], [], [1], [50], fun f => f 50 = Nx (n)⟩, ⟨[0, 1], [0, 1], [], [51], fun f => f 51 = .pointer (some ((ba p6).add (n * 3)))⟩, ⟨[0, 1, 2], [2], [], [52], fun f => f 52 = .pointer (some ((ba p6).add (n * 3 + 2)))⟩, ⟨[0, 1, 2, 3], [3], [], [53], fun f => f 53 = Nx (x29.pts)⟩, ⟨[], [], [0], [54], fun f => f 54 = .slice p6 (K + 1 + 1) c7⟩, ⟨[], [], [2], [55], fun f => f 55 = Nx (x)⟩, ⟨[5, 6], [5, 6], [], [56], fun f => f 56 = .pointer (some ((ba p6).add (x * 3)))⟩, ⟨[5, 6, 7], [7], [], [57], fun f => f 57 = .pointer (some ((ba p6).add (x * 3 + 2)))⟩, ⟨[5, 6, 7, 8], [8], [], [58], fun f => f 58 = Nx (x31.pts)⟩, ⟨[5, 6, 7, 8, 9], [9], [], [59], fun f => f 59 = Nx (x31.pts + 1)⟩, ⟨[0, 1, 2, 3, 4, 5, 6, 7, 8, 9, 10], [4, 10], [], [60], fun f => f 60 = .bool false⟩, ⟨[0, 1, 2, 3, 4, 5, 6, 7, 8, 9, 10, 11], [11], [], [61], fun f => f 61 = .bool false⟩, ⟨[0, 1, 2, 3, 4, 5, 6, 7, 8, 9, 10, 11, 12], [12], [0], [62], fun f => f 62 = undef⟩, ⟨[0, 1, 2, 3, 4, 5, 6, 7, 8, 9, 10, 11, 12], [12], [1], [63], fun f => f 63 = undef⟩, ⟨[0, 1, 2, 3, 4, 5, 6, 7, 8, 9, 10, 11, 12, 13, 14], [13, 14, 12], [], [64], fun f => f 64 = undef⟩, ⟨[0, 1, 2, 3, 4, 5, 6, 7, 8, 9, 10, 11, 12, 13, 14, 15], [15, 12], [], [65], fun f => f 65 = undef⟩, ⟨[0, 1, 2, 3, 4, 5, 6, 7, 8, 9, 10, 11, 12, 13, 14, 15, 16], [16, 12], [], [66], fun f => f 66 = undef⟩, ⟨[0, 1, 2, 3, 4, 5, 6, 7, 8, 9, 10, 11, 12], [12], [0], [67], fun f => f 67 = undef⟩, ⟨[0, 1, 2, 3, 4, 5, 6, 7, 8, 9, 10, 11, 12], [12], [2], [68], fun f => f 68 = undef⟩, ⟨[0, 1, 2, 3, 4, 5, 6, 7, 8, 9, 10, 11, 12, 18, 19], [18, 19, 12], [], [69], fun f => f 69 = undef⟩, ⟨[0, 1, 2, 3, 4, 5, 6, 7, 8, 9, 10, 11, 12, 18, 19, 20], [20, 12], [], [70], fun f => f 70 = undef⟩, ⟨[0, 1, 2, 3, 4, 5, 6, 7, 8, 9, 10, 11, 12, 18, 19, 20, 21], [21, 12], [], [71], fun f => f 71 = undef⟩, ⟨[0, 1, 2, 3, 4, 5, 6, 7, 8, 9, 10, 11, 12], [12], [3], [72], fun f => f 72 = undef⟩, ⟨[0, 1, 2, 3, 4, 5, 6, 7, 8, 9, 10, 11, 12, 23], [23, 12], [], [73], fun f => f 73 = undef⟩, ⟨[0, 1, 2, 3, 4, 5, 6, 7, 8, 9, 10, 11, 12], [12], [1], [74], fun f => f 74 = undef⟩, ⟨[0, 1, 2, 3, 4, 5, 6, 7, 8, 9, 10, 11, 12, 23, 24, 25], [24, 25, 12], [], [75], fun f => f 75 = undef⟩, ⟨[0, 1, 2, 3, 4, 5, 6, 7, 8, 9, 10, 11, 12, 23, 24, 25, 26], [26, 12], [], [76], fun f => f 76 = undef⟩, ⟨[0, 1, 2, 3, 4, 5, 6, 7, 8, 9, 10, 11, 12, 23, 24, 25, 26, 27], [27, 12], [], [77], fun f => f 77 = undef⟩, ⟨[0, 1, 2, 3, 4, 5, 6, 7, 8, 9, 10, 11, 12], [12], [3], [78], fun f => f 78 = undef⟩, ⟨[0, 1, 2, 3, 4, 5, 6, 7, 8, 9, 10, 11, 12, 29], [29, 12], [], [79], fun f => f 79 = undef⟩, ⟨[0, 1, 2, 3, 4, 5, 6, 7, 8, 9, 10, 11, 12], [12], [2], [80], fun f => f 80 = undef⟩, ⟨[0, 1, 2, 3, 4, 5, 6, 7, 8, 9, 10, 11, 12, 29, 30, 31], [30, 31, 12], [], [81], fun f => f 81 = undef⟩, ⟨[0, 1, 2, 3, 4, 5, 6, 7, 8, 9, 10, 11, 12, 29, 30, 31, 32], [32, 12], [], [82], fun f => f 82 = undef⟩, ⟨[0, 1, 2, 3, 4, 5, 6, 7, 8, 9, 10, 11, 12, 29, 30, 31, 32, 33], [33, 12], [], [83], fun f => f 83 = undef⟩, ⟨[0, 1, 2, 3, 4, 5, 6, 7, 8, 9, 10, 11, 12, 23, 24, 25, 26, 27, 28, 29, 30, 31, 32, 33, 34], [28, 34, 12], [], [84], fun f => f 84 = undef⟩, ⟨[0, 1, 2, 3, 4, 5, 6, 7, 8, 9, 10, 11, 12, 18, 19, 20, 21, 22, 23, 24, 25, 26, 27, 28, 29, 30, 31, 32, 33, 34, 35], [22, 35, 12], [], [85], fun f => f 85 = undef⟩, ⟨[0, 1, 2, 3, 4, 5, 6, 7, 8, 9, 10, 11, 12, 13, 14, 15, 16, 17, 18, 19, 20, 21, 22, 23, 24, 25, 26, 27, 28, 29, 30, 31, 32, 33, 34, 35, 36], [17, 36, 12], [], [86], fun f => f 86 = undef⟩, ⟨[0, 1, 2, 3, 4, 5, 6, 7, 8, 9, 10, 11, 12, 13, 14, 15, 16, 17, 18, 19, 20, 21, 22, 23, 24, 25, 26, 27, 28, 29, 30, 31, 32, 33, 34, 35, 36, 37], [12, 37], [], [87], fun f => f 87 = .bool false⟩] [⟨none, none, [], [], fun _ => pt b14 (.cells #[Nx ((pre.foldl (nxF out (wtL ns) n) ns.length))] 3)⟩, ⟨none, none, [], [], fun _ => rowF VecF 27 tp tc ys⟩, ⟨none, none, [0, 5], [], fun _ => pt b8 (.cells #[.slice p6 (K + 1 + 1) c7] 67)⟩, ⟨none, none, [2, 4, 7, 9], [], fun _ => rowF MarkF 70 p6 c7 out⟩, ⟨none, none, [1], [], fun _ => pt b5 (.cells #[Nx (n)] 3)⟩, ⟨none, none, [], [], fun _ => pt b4 (.cells #[.slice np (K + 1 + 1) (nc), .slice rp (l.length) rc] 65)⟩, ⟨none, none, [], [], fun _ => pt b2 (.cells #[Ix (q.x), Ix (q.y)] 27)⟩, ⟨none, none, [], [], fun _ => pt b1 (.cells #[Ix (p.x), Ix (p.y)] 27)⟩, ⟨none, none, [], [], fun _ => Sat (Ds.map mkR)⟩] [(12, .pointer (some ⟨b8, 0, none⟩)), (11, .pointer (some ⟨b5, 0, none⟩)), (15, Nx (x)), (9, .pointer (some ⟨b4, 0, none⟩)), (14, .pointer (some ⟨b14, 0, none⟩))] [4, 2] [] (by kernel_rfl) (by kernel_rfl) (by kernel_rfl) (by kernel_rfl) rfl ⟨rfl, rfl, rfl, rfl, rfl, trivial⟩ ⟨?_, ?_, ?_, ?_, ?_, ?_, ?_, ?_, ?_, ?_, ?_, ?_, ?_, ?_, ?_, ?_, ?_, ?_, ?_, ?_, ?_, ?_, ?_, ?_, ?_, ?_, ?_, ?_, ?_, ?_, ?_, ?_, ?_, ?_, ?_, ?_, ?_, ?_, ?_, trivial⟩ ?_
            · rintro f M - ⟨i0, -⟩
              have hs12 : f 12 = .pointer (some ⟨b8, 0, none⟩) := i0
              refine ob_start (L' := pt b8 (.cells #[.slice p6 (K + 1 + 1) c7] 67) :: M) (by rfl) (up_cons rfl hs12) ?_
              refine l_val (v := .slice p6 (K + 1 + 1) c7) rfl rfl rfl (e_load1 tx95 (v := .slice p6 (K + 1 + 1) c7) rfl (k_pt 0 (cs := #[.slice p6 (K + 1 + 1) c7]) (vs := [.slice p6 (K + 1 + 1) c7]) rfl rfl)) ?_
              refine l_nil ?_
              exact f_owes_d (up_cons rfl hs12) rfl (perm_front 0 rfl)
            · rintro f M - ⟨i0, -⟩
              have hs11 : f 11 = .pointer (some ⟨b5, 0, none⟩) := i0
              refine ob_start (L' := pt b5 (.cells #[Nx (n)] 3) :: M) (by rfl) (up_cons rfl hs11) ?_
              refine l_val (v := Nx (n)) rfl rfl rfl (e_load1 tp2 (v := Nx (n)) rfl (k_pt 0 (cs := #[Nx (n)]) (vs := [Nx (n)]) rfl rfl)) ?_
              refine l_nil ?_
              exact f_owes_d (up_cons rfl hs11) rfl (perm_front 0 rfl)
            · rintro f M ⟨k0, k1, -⟩ -
              have hs49 : f 49 = .slice p6 (K + 1 + 1) c7 := k0
              have hs50 : f 50 = Nx (n) := k1
              refine ob_start (L' := rowF MarkF 70 p6 c7 out :: M) (by rfl) (up_cons (up_cons rfl hs49) hs50) ?_
              refine l_val (v := .pointer (some ((ba p6).add (n * 3)))) rfl rfl rfl (e_indexFlN 0 (F := MarkF) (j := n) (m := K + 1 + 1) (xs := out) rfl (by omega) rfl tw71 (by omega) rfl) ?_
              refine l_nil ?_
              exact f_owes_d (up_cons (up_cons rfl hs49) hs50) rfl (perm_front 0 rfl)
            · rintro f M ⟨k0, -⟩ -
              have hs51 : f 51 = .pointer (some ((ba p6).add (n * 3))) := k0
              refine ob_start (L' := M) (by rfl) (up_cons rfl hs51) ?_
              refine l_val (v := .pointer (some ((ba p6).add (n * 3 + 2)))) rfl rfl rfl (ev_eq (congrArg (fun z => Value.pointer (some z)) (show ((ba p6).add (n * 3) : Addr).add 2 = (ba p6).add (n * 3 + 2) by rw [Addr.add_add'])) (e_fieldAddr (a := (ba p6).add (n * 3)) rfl tw86)) ?_
              refine l_nil ?_
              exact f_owes_d (up_cons rfl hs51) rfl (List.Perm.refl _)
            · rintro f M ⟨k0, -⟩ -
              have hs52 : f 52 = .pointer (some ((ba p6).add (n * 3 + 2))) := k0
              refine ob_start (L' := rowF MarkF 70 p6 c7 out :: M) (by rfl) (up_cons rfl hs52) ?_
              refine l_val (v := Nx (x29.pts)) rfl rfl rfl (e_load1 tp2 (v := Nx (x29.pts)) rfl (k_flPart 0 (F := MarkF) (o := 2) (us := [Nx (x29.pts)]) rfl hx30 rfl)) ?_
              refine l_nil ?_
              exact f_owes_d (up_cons rfl hs52) rfl (perm_front 0 rfl)
            · rintro f M - ⟨i0, -⟩
              have hs12 : f 12 = .pointer (some ⟨b8, 0, none⟩) := i0
              refine ob_start (L' := pt b8 (.cells #[.slice p6 (K + 1 + 1) c7] 67) :: M) (by rfl) (up_cons rfl hs12) ?_
              refine l_val (v := .slice p6 (K + 1 + 1) c7) rfl rfl rfl (e_load1 tx95 (v := .slice p6 (K + 1 + 1) c7) rfl (k_pt 0 (cs := #[.slice p6 (K + 1 + 1) c7]) (vs := [.slice p6 (K + 1 + 1) c7]) rfl rfl)) ?_
              refine l_nil ?_
              exact f_owes_d (up_cons rfl hs12) rfl (perm_front 0 rfl)
            · rintro f M - ⟨i0, -⟩
              have hs15 : f 15 = Nx (x) := i0
              refine ob_start (L' := M) (by rfl) (up_cons rfl hs15) ?_
              refine l_val (v := Nx (x)) rfl rfl rfl (e_move) ?_
              refine l_nil ?_
              exact f_owes_d (up_cons rfl hs15) rfl (List.Perm.refl _)
            · rintro f M ⟨k0, k1, -⟩ -
              have hs54 : f 54 = .slice p6 (K + 1 + 1) c7 := k0
              have hs55 : f 55 = Nx (x) := k1
              refine ob_start (L' := rowF MarkF 70 p6 c7 out :: M) (by rfl) (up_cons (up_cons rfl hs54) hs55) ?_
              refine l_val (v := .pointer (some ((ba p6).add (x * 3)))) rfl rfl rfl (e_indexFlN 0 (F := MarkF) (j := x) (m := K + 1 + 1) (xs := out) rfl (by omega) rfl tw71 (by omega) rfl) ?_
              refine l_nil ?_
              exact f_owes_d (up_cons (up_cons rfl hs54) hs55) rfl (perm_front 0 rfl)
            · rintro f M ⟨k0, -⟩ -
              have hs56 : f 56 = .pointer (some ((ba p6).add (x * 3))) := k0
              refine ob_start (L' := M) (by rfl) (up_cons rfl hs56) ?_
              refine l_val (v := .pointer (some ((ba p6).add (x * 3 + 2)))) rfl rfl rfl (ev_eq (congrArg (fun z => Value.pointer (some z)) (show ((ba p6).add (x * 3) : Addr).add 2 = (ba p6).add (x * 3 + 2) by rw [Addr.add_add'])) (e_fieldAddr (a := (ba p6).add (x * 3)) rfl tw86)) ?_
              refine l_nil ?_
              exact f_owes_d (up_cons rfl hs56) rfl (List.Perm.refl _)
            · rintro f M ⟨k0, -⟩ -
              have hs57 : f 57 = .pointer (some ((ba p6).add (x * 3 + 2))) := k0
              refine ob_start (L' := rowF MarkF 70 p6 c7 out :: M) (by rfl) (up_cons rfl hs57) ?_
              refine l_val (v := Nx (x31.pts)) rfl rfl rfl (e_load1 tp2 (v := Nx (x31.pts)) rfl (k_flPart 0 (F := MarkF) (o := 2) (us := [Nx (x31.pts)]) rfl hx32 rfl)) ?_
              refine l_nil ?_
              exact f_owes_d (up_cons rfl hs57) rfl (perm_front 0 rfl)
            · rintro f M ⟨k0, -⟩ -
              have hs58 : f 58 = Nx (x31.pts) := k0
              refine ob_start (L' := M) (by rfl) (up_cons rfl hs58) ?_
              refine l_val (v := Nx (x31.pts + 1)) rfl rfl rfl (e_add (a := ((x31.pts : Nat) : Int)) (b := (1 : Int)) rfl rfl (i64n (by omega) (by omega))) ?_
              refine l_nil ?_
              exact f_owes_d (up_cons rfl hs58) rfl (List.Perm.refl _)
            · rintro f M ⟨k0, k1, -⟩ -
              have hs53 : f 53 = Nx (x29.pts) := k0
              have hs59 : f 59 = Nx (x31.pts + 1) := k1
              refine ob_start (L' := M) (by rfl) (up_cons (up_cons rfl hs53) hs59) ?_
              refine l_val (v := .bool false) rfl rfl rfl ((ev_f hg33 (e_eql (a := ((x29.pts : Nat) : Int)) (b := ((x31.pts + 1 : Nat) : Int)) rfl rfl))) ?_
              refine l_nil ?_
              exact f_owes_d (up_cons (up_cons rfl hs53) hs59) rfl (List.Perm.refl _)
            · rintro f M ⟨k0, -⟩ -
              have hs60 : f 60 = .bool false := k0
              refine ob_start (L' := M) (by rfl) (up_cons rfl hs60) ?_
              refine l_val (v := .bool false) rfl rfl rfl (e_move) ?_
              refine l_nil ?_
              exact f_owes_d (up_cons rfl hs60) rfl (List.Perm.refl _)
            · rintro f M ⟨k0, -⟩ ⟨i0, -⟩
              have hs12 : f 12 = .pointer (some ⟨b8, 0, none⟩) := i0
              have hs61 : f 61 = .bool false := k0
              refine ob_start (L' := M) (by rfl) (up_cons (up_cons rfl hs12) hs61) ?_
              refine l_skip rfl rfl rfl rfl rfl rfl ?_
              refine l_nil ?_
              exact f_owes_d (up_cons (up_cons rfl hs12) hs61) rfl (List.Perm.refl _)
            · rintro f M ⟨k0, -⟩ ⟨i0, -⟩
              have hs11 : f 11 = .pointer (some ⟨b5, 0, none⟩) := i0
              have hs61 : f 61 = .bool false := k0
              refine ob_start (L' := M) (by rfl) (up_cons (up_cons rfl hs11) hs61) ?_
              refine l_skip rfl rfl rfl rfl rfl rfl ?_
              refine l_nil ?_
              exact f_owes_d (up_cons (up_cons rfl hs11) hs61) rfl (List.Perm.refl _)
            · rintro f M ⟨k0, k1, k2, -⟩ -
              have hs62 : f 62 = undef := k0
              have hs63 : f 63 = undef := k1
              have hs61 : f 61 = .bool false := k2
              refine ob_start (L' := M) (by rfl) (up_cons (up_cons (up_cons rfl hs62) hs63) hs61) ?_
              refine l_skip rfl rfl rfl rfl rfl rfl ?_
              refine l_nil ?_
              exact f_owes_d (up_cons (up_cons (up_cons rfl hs62) hs63) hs61) rfl (List.Perm.refl _)
            · rintro f M ⟨k0, k1, -⟩ -
              have hs64 : f 64 = undef := k0
              have hs61 : f 61 = .bool false := k1
              refine ob_start (L' := M) (by rfl) (up_cons (up_cons rfl hs64) hs61) ?_
              refine l_skip rfl rfl rfl rfl rfl rfl ?_
              refine l_nil ?_
              exact f_owes_d (up_cons (up_cons rfl hs64) hs61) rfl (List.Perm.refl _)
            · rintro f M ⟨k0, k1, -⟩ -
              have hs65 : f 65 = undef := k0
              have hs61 : f 61 = .bool false := k1
              refine ob_start (L' := M) (by rfl) (up_cons (up_cons rfl hs65) hs61) ?_
              refine l_skip rfl rfl rfl rfl rfl rfl ?_
              refine l_nil ?_
              exact f_owes_d (up_cons (up_cons rfl hs65) hs61) rfl (List.Perm.refl _)
            · rintro f M ⟨k0, -⟩ ⟨i0, -⟩
              have hs12 : f 12 = .pointer (some ⟨b8, 0, none⟩) := i0
              have hs61 : f 61 = .bool false := k0
              refine ob_start (L' := M) (by rfl) (up_cons (up_cons rfl hs12) hs61) ?_
              refine l_skip rfl rfl rfl rfl rfl rfl ?_
              refine l_nil ?_
              exact f_owes_d (up_cons (up_cons rfl hs12) hs61) rfl (List.Perm.refl _)
            · rintro f M ⟨k0, -⟩ ⟨i0, -⟩
              have hs15 : f 15 = Nx (x) := i0
              have hs61 : f 61 = .bool false := k0
              refine ob_start (L' := M) (by rfl) (up_cons (up_cons rfl hs15) hs61) ?_
              refine l_skip rfl rfl rfl rfl rfl rfl ?_
              refine l_nil ?_
              exact f_owes_d (up_cons (up_cons rfl hs15) hs61) rfl (List.Perm.refl _)
            · rintro f M ⟨k0, k1, k2, -⟩ -
              have hs67 : f 67 = undef := k0
              have hs68 : f 68 = undef := k1
              have hs61 : f 61 = .bool false := k2
              refine ob_start (L' := M) (by rfl) (up_cons (up_cons (up_cons rfl hs67) hs68) hs61) ?_
              refine l_skip rfl rfl rfl rfl rfl rfl ?_
              refine l_nil ?_
              exact f_owes_d (up_cons (up_cons (up_cons rfl hs67) hs68) hs61) rfl (List.Perm.refl _)
            · rintro f M ⟨k0, k1, -⟩ -
              have hs69 : f 69 = undef := k0
              have hs61 : f 61 = .bool false := k1
              refine ob_start (L' := M) (by rfl) (up_cons (up_cons rfl hs69) hs61) ?_
              refine l_skip rfl rfl rfl rfl rfl rfl ?_
              refine l_nil ?_
              exact f_owes_d (up_cons (up_cons rfl hs69) hs61) rfl (List.Perm.refl _)
            · rintro f M ⟨k0, k1, -⟩ -
              have hs70 : f 70 = undef := k0
              have hs61 : f 61 = .bool false := k1
              refine ob_start (L' := M) (by rfl) (up_cons (up_cons rfl hs70) hs61) ?_
              refine l_skip rfl rfl rfl rfl rfl rfl ?_
              refine l_nil ?_
              exact f_owes_d (up_cons (up_cons rfl hs70) hs61) rfl (List.Perm.refl _)
            · rintro f M ⟨k0, -⟩ ⟨i0, -⟩
              have hs9 : f 9 = .pointer (some ⟨b4, 0, none⟩) := i0
              have hs61 : f 61 = .bool false := k0
              refine ob_start (L' := M) (by rfl) (up_cons (up_cons rfl hs9) hs61) ?_
              refine l_skip rfl rfl rfl rfl rfl rfl ?_
              refine l_nil ?_
              exact f_owes_d (up_cons (up_cons rfl hs9) hs61) rfl (List.Perm.refl _)
            · rintro f M ⟨k0, k1, -⟩ -
              have hs72 : f 72 = undef := k0
              have hs61 : f 61 = .bool false := k1
              refine ob_start (L' := M) (by rfl) (up_cons (up_cons rfl hs72) hs61) ?_
              refine l_skip rfl rfl rfl rfl rfl rfl ?_
              refine l_nil ?_
              exact f_owes_d (up_cons (up_cons rfl hs72) hs61) rfl (List.Perm.refl _)
            · rintro f M ⟨k0, -⟩ ⟨i0, -⟩
              have hs11 : f 11 = .pointer (some ⟨b5, 0, none⟩) := i0
              have hs61 : f 61 = .bool false := k0
              refine ob_start (L' := M) (by rfl) (up_cons (up_cons rfl hs11) hs61) ?_
              refine l_skip rfl rfl rfl rfl rfl rfl ?_
              refine l_nil ?_
              exact f_owes_d (up_cons (up_cons rfl hs11) hs61) rfl (List.Perm.refl _)
            · rintro f M ⟨k0, k1, k2, -⟩ -
              have hs73 : f 73 = undef := k0
              have hs74 : f 74 = undef := k1
              have hs61 : f 61 = .bool false := k2
              refine ob_start (L' := M) (by rfl) (up_cons (up_cons (up_cons rfl hs73) hs74) hs61) ?_
              refine l_skip rfl rfl rfl rfl rfl rfl ?_
              refine l_nil ?_
              exact f_owes_d (up_cons (up_cons (up_cons rfl hs73) hs74) hs61) rfl (List.Perm.refl _)
            · rintro f M ⟨k0, k1, -⟩ -
              have hs75 : f 75 = undef := k0
              have hs61 : f 61 = .bool false := k1
              refine ob_start (L' := M) (by rfl) (up_cons (up_cons rfl hs75) hs61) ?_
              refine l_skip rfl rfl rfl rfl rfl rfl ?_
              refine l_nil ?_
              exact f_owes_d (up_cons (up_cons rfl hs75) hs61) rfl (List.Perm.refl _)
            · rintro f M ⟨k0, k1, -⟩ -
              have hs76 : f 76 = undef := k0
              have hs61 : f 61 = .bool false := k1
              refine ob_start (L' := M) (by rfl) (up_cons (up_cons rfl hs76) hs61) ?_
              refine l_skip rfl rfl rfl rfl rfl rfl ?_
              refine l_nil ?_
              exact f_owes_d (up_cons (up_cons rfl hs76) hs61) rfl (List.Perm.refl _)
            · rintro f M ⟨k0, -⟩ ⟨i0, -⟩
              have hs9 : f 9 = .pointer (some ⟨b4, 0, none⟩) := i0
              have hs61 : f 61 = .bool false := k0
              refine ob_start (L' := M) (by rfl) (up_cons (up_cons rfl hs9) hs61) ?_
              refine l_skip rfl rfl rfl rfl rfl rfl ?_
              refine l_nil ?_
              exact f_owes_d (up_cons (up_cons rfl hs9) hs61) rfl (List.Perm.refl _)
            · rintro f M ⟨k0, k1, -⟩ -
              have hs78 : f 78 = undef := k0
              have hs61 : f 61 = .bool false := k1
              refine ob_start (L' := M) (by rfl) (up_cons (up_cons rfl hs78) hs61) ?_
              refine l_skip rfl rfl rfl rfl rfl rfl ?_
              refine l_nil ?_
              exact f_owes_d (up_cons (up_cons rfl hs78) hs61) rfl (List.Perm.refl _)
            · rintro f M ⟨k0, -⟩ ⟨i0, -⟩
              have hs15 : f 15 = Nx (x) := i0
              have hs61 : f 61 = .bool false := k0
              refine ob_start (L' := M) (by rfl) (up_cons (up_cons rfl hs15) hs61) ?_
              refine l_skip rfl rfl rfl rfl rfl rfl ?_
              refine l_nil ?_
              exact f_owes_d (up_cons (up_cons rfl hs15) hs61) rfl (List.Perm.refl _)
            · rintro f M ⟨k0, k1, k2, -⟩ -
              have hs79 : f 79 = undef := k0
              have hs80 : f 80 = undef := k1
              have hs61 : f 61 = .bool false := k2
              refine ob_start (L' := M) (by rfl) (up_cons (up_cons (up_cons rfl hs79) hs80) hs61) ?_
              refine l_skip rfl rfl rfl rfl rfl rfl ?_
              refine l_nil ?_
              exact f_owes_d (up_cons (up_cons (up_cons rfl hs79) hs80) hs61) rfl (List.Perm.refl _)
            · rintro f M ⟨k0, k1, -⟩ -
              have hs81 : f 81 = undef := k0
              have hs61 : f 61 = .bool false := k1
              refine ob_start (L' := M) (by rfl) (up_cons (up_cons rfl hs81) hs61) ?_
              refine l_skip rfl rfl rfl rfl rfl rfl ?_
              refine l_nil ?_
              exact f_owes_d (up_cons (up_cons rfl hs81) hs61) rfl (List.Perm.refl _)
            · rintro f M ⟨k0, k1, -⟩ -
              have hs82 : f 82 = undef := k0
              have hs61 : f 61 = .bool false := k1
              refine ob_start (L' := M) (by rfl) (up_cons (up_cons rfl hs82) hs61) ?_
              refine l_skip rfl rfl rfl rfl rfl rfl ?_
              refine l_nil ?_
              exact f_owes_d (up_cons (up_cons rfl hs82) hs61) rfl (List.Perm.refl _)
            · rintro f M ⟨k0, k1, k2, -⟩ -
              have hs77 : f 77 = undef := k0
              have hs83 : f 83 = undef := k1
              have hs61 : f 61 = .bool false := k2
              refine ob_start (L' := M) (by rfl) (up_cons (up_cons (up_cons rfl hs77) hs83) hs61) ?_
              refine l_skip rfl rfl rfl rfl rfl rfl ?_
              refine l_nil ?_
              exact f_owes_d (up_cons (up_cons (up_cons rfl hs77) hs83) hs61) rfl (List.Perm.refl _)
            · rintro f M ⟨k0, k1, k2, -⟩ -
              have hs71 : f 71 = undef := k0
              have hs84 : f 84 = undef := k1
              have hs61 : f 61 = .bool false := k2
              refine ob_start (L' := M) (by rfl) (up_cons (up_cons (up_cons rfl hs71) hs84) hs61) ?_
              refine l_skip rfl rfl rfl rfl rfl rfl ?_
              refine l_nil ?_
              exact f_owes_d (up_cons (up_cons (up_cons rfl hs71) hs84) hs61) rfl (List.Perm.refl _)
            · rintro f M ⟨k0, k1, k2, -⟩ -
              have hs66 : f 66 = undef := k0
              have hs85 : f 85 = undef := k1
              have hs61 : f 61 = .bool false := k2
              refine ob_start (L' := M) (by rfl) (up_cons (up_cons (up_cons rfl hs66) hs85) hs61) ?_
              refine l_skip rfl rfl rfl rfl rfl rfl ?_
              refine l_nil ?_
              exact f_owes_d (up_cons (up_cons (up_cons rfl hs66) hs85) hs61) rfl (List.Perm.refl _)
            · rintro f M ⟨k0, k1, -⟩ -
              have hs61 : f 61 = .bool false := k0
              have hs86 : f 86 = undef := k1
              refine ob_start (L' := M) (by rfl) (up_cons (up_cons rfl hs61) hs86) ?_
              refine l_val (v := .bool false) rfl rfl rfl (e_pick_f rfl) ?_
              refine l_nil ?_
              exact f_owes_d (up_cons (up_cons rfl hs61) hs86) rfl (List.Perm.refl _)
            rintro fa36 ⟨-, -, -, -, -, -, -, -, -, -, -, -, -, -, -, -, -, -, -, -, -, -, -, -, -, -, -, -, -, -, -, -, -, -, -, -, -, -, k38, -⟩ ⟨j0, j1, -⟩
            refine f_re (L' := [pt b14 (.cells #[Nx ((pre.foldl (nxF out (wtL ns) n) ns.length))] 3), rowF VecF 27 tp tc ys, pt b8 (.cells #[.slice p6 (K + 1 + 1) c7] 67), rowF MarkF 70 p6 c7 out, pt b5 (.cells #[Nx (n)] 3), pt b4 (.cells #[.slice np (K + 1 + 1) (nc), .slice rp (l.length) rc] 65), pt b2 (.cells #[Ix (q.x), Ix (q.y)] 27), pt b1 (.cells #[Ix (p.x), Ix (p.y)] 27), Sat (Ds.map mkR)]) (by rfl) ?_
            refine f_rebase (d := 14) (v := .pointer (some ⟨b14, 0, none⟩)) j0 ?_
            refine f_rebase (d := 15) (v := Nx (x)) j1 ?_
            refine f_rebase (d := 87) (v := .bool false) k38 ?_
            refine f_then ?_
            refine c_no rfl ?_
            refine c_skip ?_
            refine f_block ?_
            exact fun a w ha hw => ⟨_, ⟨by simp only [List.foldl_append, List.foldl_cons, List.foldl_nil, nxF, if_neg (show ¬ mtch out (wtL ns) n x from fun q => by have q := q.1; rw [mAt_of hx30, mAt_of hx32] at q; have q2 := hg33; omega)], trivial⟩, hw⟩
        · rintro D1 ys1 M hS1 ⟨rfl, -⟩
          refine f_perm (L' := [pt D1 (.deferred (some [])), Sat (Ds.map mkR), pt b14 (.cells #[Nx ((ys1.foldl (nxF out (wtL ns) n) ns.length))] 3), rowF VecF 27 tp tc ys, pt b8 (.cells #[.slice p6 (K + 1 + 1) c7] 67), rowF MarkF 70 p6 c7 out, pt b5 (.cells #[Nx (n)] 3), pt b4 (.cells #[.slice np (K + 1 + 1) (nc), .slice rp (l.length) rc] 65), pt b2 (.cells #[Ix (q.x), Ix (q.y)] 27), pt b1 (.cells #[Ix (p.x), Ix (p.y)] 27)]) (perm_ix [9, 8, 0, 1, 2, 3, 4, 5, 6, 7] 10 rfl (by kernel_rfl) (by kernel_rfl)) ?_
          refine f_consG (own := mkR) (x := D1) rfl ?_
          subst hS1
          obtain ⟨hm1, hm2, hm3, hm4⟩ := hMk.nxt_ok hsym hwc hnN hnp hne
          obtain ⟨m, hmE⟩ : ∃ z, z = nxt out (wtL ns) ns.length n (nrL ns RR n) := ⟨_, rfl⟩
          rw [← hmE] at hm1 hm2 hm3 hm4
          have hm5 := hm3.1
          refine f_re (L' := [Sat ((D1 :: Ds).map mkR), pt b14 (.cells #[Nx (m)] 3), rowF VecF 27 tp tc ys, pt b8 (.cells #[.slice p6 (K + 1 + 1) c7] 67), rowF MarkF 70 p6 c7 out, pt b5 (.cells #[Nx (n)] 3), pt b4 (.cells #[.slice np (K + 1 + 1) (nc), .slice rp (l.length) rc] 65), pt b2 (.cells #[Ix (q.x), Ix (q.y)] 27), pt b1 (.cells #[Ix (p.x), Ix (p.y)] 27)]) (by rw [hmE]; rfl) ?_
          refine f_block ?_
          refine f_then ?_
          refine c_seq ?_
          refine c_region ?_
          refine l_val (v := Nx (m)) rfl rfl rfl (e_load1 tp2 (v := Nx (m)) rfl (k_pt 1 (cs := #[Nx (m)]) (vs := [Nx (m)]) rfl rfl)) ?_
          refine l_mu rfl rfl (m_store 5 tp2 (b := b5) (o := 0) (T := 3) (cs := #[Nx (n)]) (cs' := #[Nx (m)]) (v := Nx (m)) rfl rfl rfl rfl rfl rfl rfl) ?_
          refine l_nil ?_
          refine f_then ?_
          obtain ⟨x37, hx38⟩ : ∃ x_, (hn)[m]? = some x_ := ⟨_, List.getElem?_eq_getElem (by omega)⟩
          obtain ⟨ha39, cs40, hc41, rfl⟩ := ne _ _ hx38
          have hmv : vAt ns m = (⟨x37.x, x37.y⟩ : KV) := by unfold vAt; rw [← e1, nAt_of hx38]; rfl
          have hmw : (ys ++ [(⟨x37.x, x37.y⟩ : KV)]) ++ (wayL out (nrL ns RR) (wtL ns) ns.length (K + 1) (mAt out m).pts m).map (vAt ns) = p :: (wayL out (nrL ns RR) (wtL ns) ns.length (K + 1) (mAt out K).pts K).map (vAt ns) := by rw [← hnw, hm5, wayL_next hne, ← hmE, List.map_cons, hmv, List.append_assoc]; rfl
          refine c_region ?_
          refine l_val (v := .slice tp (ys.length) tc) rfl rfl rfl (e_move) ?_
          refine l_val (v := .pointer (some ⟨b4, 0, none⟩)) rfl rfl rfl (e_fieldPt (b := b4) (o := 0) rfl tv48) ?_
          refine l_val (v := .slice np (K + 1 + 1) (nc)) rfl rfl rfl (e_load1 tv49 (v := .slice np (K + 1 + 1) (nc)) rfl (k_pt 6 (cs := #[.slice np (K + 1 + 1) (nc), .slice rp (l.length) rc]) (vs := [.slice np (K + 1 + 1) (nc)]) rfl rfl)) ?_
          refine l_val (v := Nx (m)) rfl rfl rfl (e_load1 tp2 (v := Nx (m)) rfl (k_pt 5 (cs := #[Nx (m)]) (vs := [Nx (m)]) rfl rfl)) ?_
          refine l_val (v := .pointer (some ((ba np).add (m * 3)))) rfl rfl rfl (e_indexAddr (k := m) (len := K + 1 + 1) (cap := nc) (a := np) rfl rfl tv53 (by omega) ha39) ?_
          refine l_val (v := .pointer (some (((ba np).add (m * 3) : Addr).add 0))) rfl rfl rfl (e_fieldAddr (a := (ba np).add (m * 3)) rfl tw89) ?_
          refine l_val (v := .agg #[Ix (x37.x), Ix (x37.y)]) rfl rfl rfl (e_load tp7 (cs := [Ix (x37.x), Ix (x37.y)]) rfl (Knows.imp (Knows.of_base (Cs.mono _ _) hc41) (fun _ h => Cs.sub (vs := [Ix (x37.x), Ix (x37.y)]) 0 h rfl)) rfl) ?_
          refine l_mv rfl rfl rfl (m_slices tv67 tp5 (vs := [(0, .agg #[Ix (x37.x), Ix (x37.y)])]) (cells := #[Ix (x37.x), Ix (x37.y)]) rfl rfl rfl rfl) ?_
          rintro _ _ ⟨b43, rfl, rfl⟩
          refine l_mv rfl rfl rfl (m_appendFlN (F := VecF) 3 tv67 tx96 (p := tp) (m := ys.length) (xs := ys) (ys := [(⟨x37.x, x37.y⟩ : KV)]) (ao := (some ⟨b43, 0, none⟩)) (k := 1) (c := 1) rfl rfl rfl rfl rfl (k_ptFl (z := (⟨x37.x, x37.y⟩ : KV)) 0 rfl rfl) (by first | omega | simp only [List.length_nil, List.length_cons, List.length_append, List.length_set]; omega) (by first | omega | simp only [List.length_nil, List.length_cons, List.length_append, List.length_set]; omega)) ?_
          rintro _ _ ⟨rp44, rc45, rfl, rfl⟩
          refine l_val (v := .slice rp44 ((ys ++ [(⟨x37.x, x37.y⟩ : KV)]).length) rc45) rfl rfl rfl (e_assign) ?_
          refine l_nil ?_
          refine f_block ?_
          refine f_perm (L' := [rowF VecF 27 rp44 rc45 (ys ++ [(⟨x37.x, x37.y⟩ : KV)]), pt b8 (.cells #[.slice p6 (K + 1 + 1) c7] 67), rowF MarkF 70 p6 c7 out, pt b5 (.cells #[Nx (m)] 3), pt b4 (.cells #[.slice np (K + 1 + 1) (nc), .slice rp (l.length) rc] 65), pt b2 (.cells #[Ix (q.x), Ix (q.y)] 27), pt b1 (.cells #[Ix (p.x), Ix (p.y)] 27), Sat ((D1 :: Ds).map mkR), pt b43 (.cells #[Ix (x37.x), Ix (x37.y)] 27), pt b14 (.cells #[Nx (m)] 3)]) (perm_ix [3, 4, 5, 6, 7, 8, 9, 1, 0, 2] 10 rfl (by kernel_rfl) (by kernel_rfl)) ?_
          refine f_mask (L' := [rowF VecF 27 rp44 rc45 (ys ++ [(⟨x37.x, x37.y⟩ : KV)]), pt b8 (.cells #[.slice p6 (K + 1 + 1) c7] 67), rowF MarkF 70 p6 c7 out, pt b5 (.cells #[Nx (m)] 3), pt b4 (.cells #[.slice np (K + 1 + 1) (nc), .slice rp (l.length) rc] 65), pt b2 (.cells #[Ix (q.x), Ix (q.y)] 27), pt b1 (.cells #[Ix (p.x), Ix (p.y)] 27), Sat ((D1 :: Ds).map mkR)]) [true, true, true, true, true, true, true, true, false, false] rfl ?_
          exact f_cutM (D1 :: Ds) ⟨(m, (ys ++ [(⟨x37.x, x37.y⟩ : KV)]), rp44, rc45), ⟨⟨rfl, rfl, rfl, rfl, rfl⟩, rfl, ⟨hm1, hm4, hmw, by rw [List.length_append, List.length_singleton]; omega⟩⟩, (by show (mAt out m).pts < (mAt out n).pts; omega)⟩
        · intro D c pre M h; exact h.elim
      ·
        refine c_exit ?_
        refine f_then_exit ?_
        refine f_then_exit ?_
        refine f_exit ?_
        refine f_then ?_
        refine c_seq ?_
        have hne : n = K + 1 := by have q := hc13; omega
        rw [hne, wayL_e, List.map_nil, List.append_nil] at hnw
        refine c_quiet (by kernel_rfl) (by kernel_rfl) ?_
        refine q_val (v := .slice tp (ys.length) tc) rfl rfl rfl (e_move) ?_
        refine q_val (v := .slice p6 (K + 1 + 1) c7) rfl rfl rfl (e_load1 tx95 (v := .slice p6 (K + 1 + 1) c7) rfl (k_pt 1 (cs := #[.slice p6 (K + 1 + 1) c7]) (vs := [.slice p6 (K + 1 + 1) c7]) rfl rfl)) ?_
        refine q_val (v := Nx (K + 1)) rfl rfl rfl (e_move) ?_
        refine q_val (v := Nx (K)) rfl rfl rfl (ev_eq (congrArg (Value.int .i64) (by omega)) (e_sub (a := ((K + 1 : Nat) : Int)) (b := (1 : Int)) rfl rfl (i64w (by omega)))) ?_
        refine q_val (v := .pointer (some ((ba p6).add (K * 3)))) rfl rfl rfl (e_indexFlN 2 (F := MarkF) (j := K) (m := K + 1 + 1) (xs := out) rfl (by omega) rfl tw71 (by omega) rfl) ?_
        refine q_val (v := .pointer (some ((ba p6).add (K * 3 + 1)))) rfl rfl rfl (ev_eq (congrArg (fun z => Value.pointer (some z)) (show ((ba p6).add (K * 3) : Addr).add 1 = (ba p6).add (K * 3 + 1) by rw [Addr.add_add'])) (e_fieldAddr (a := (ba p6).add (K * 3)) rfl tw88)) ?_
        refine q_val (v := Nx (x9.len)) rfl rfl rfl (e_load1 tp2 (v := Nx (x9.len)) rfl (k_flPart 2 (F := MarkF) (o := 1) (us := [Nx (x9.len)]) rfl hx10 rfl)) ?_
        refine q_val (v := .slice tp (ys.length) tc) rfl rfl rfl (e_assign) ?_
        refine q_val (v := Nx (x9.len)) rfl rfl rfl (e_assign) ?_
        refine q_val (v := .int .i64 (0)) rfl rfl rfl (e_assign) ?_
        refine q_nil ?_
        refine f_then ?_
        refine c_ret ?_
        refine f_perm (L' := [Sat (Ds.map mkR), rowF VecF 27 tp tc ys, pt b8 (.cells #[.slice p6 (K + 1 + 1) c7] 67), rowF MarkF 70 p6 c7 out, pt b5 (.cells #[Nx (n)] 3), pt b4 (.cells #[.slice np (K + 1 + 1) (nc), .slice rp (l.length) rc] 65), pt b2 (.cells #[Ix (q.x), Ix (q.y)] 27), pt b1 (.cells #[Ix (p.x), Ix (p.y)] 27)]) (perm_ix [7, 0, 1, 2, 3, 4, 5, 6] 8 rfl (by kernel_rfl) (by kernel_rfl)) ?_
        refine retMs (Ds := Ds) rfl (res3M Tryz.results11 (v := .slice tp (ys.length) tc) (v' := Nx (x9.len)) (v'' := .int .i64 (0)) rfl rfl rfl) ?_
        intro w hw
        exact ⟨tp, tc, ys, _, 0, rfl, find_end hM hnsE hRRE hKE hMk hp0 hnw (mAt_of hx10).symm, by have h := hMb _ (List.mem_of_getElem? hx10); omega, st_mask [true, false] rfl (bk1 _ _ (st_mask [true, false, false, false, false, false, false] rfl hw))⟩
end Go.Proofs
