/-
  Own work; plain Lean (DgLent).
-/
import Derived.Test.YtbfidhbcojbklaaGreatDgKept
namespace Go.Proofs
open Go Go.Sl
theorem tf96 : cfB Tryz.prog 74 = true := by kernel_rfl
theorem tf97 : cfB Tryz.prog 40 = true := by kernel_rfl
theorem tf98 : cfB Tryz.prog 15 = true := by kernel_rfl
theorem lentComps_ok (β : Base) (w : World) (hw : St β [] w) (v : Value) (xs : List KComp) (hs : Sl CompR β.heap v xs) (hn : xs.length ≤ 1000) : Calls Tryz.prog 74 #[v] w fun r w' => ∃ p c, r = .returned (.slice p xs.length c) ∧ St β [row (.slice p (xs.length + 12) c) 38 5 (xs.length + 12) ((xs ++ marksC 12).flatMap compE)] w' := by
  obtain ⟨va, vc, rfl, vl, vm, ve⟩ := hs.get
  refine enter (n := 25) Tryz.func74 rfl Tryz.ntmps74 rfl ?_ hw
  refine c_seq ?_
  refine c_region ?_
  refine l_val (v := .slice none 0 0) rfl rfl rfl (e_assign) ?_
  refine l_nil ?_
  refine f_then ?_
  refine c_seq ?_
  refine c_region ?_
  refine l_val (v := .slice va (xs.length) (vc)) rfl rfl rfl (e_move) ?_
  refine l_val (v := Nx (xs.length)) rfl rfl rfl (e_len (a := va) (n := xs.length) (c := vc) rfl tf13) ?_
  refine l_val (v := Nx (xs.length + 12)) rfl rfl rfl (e_add (a := ((xs.length : Nat) : Int)) (b := (12 : Int)) rfl rfl (i64n (by omega) (by omega))) ?_
  refine l_mv rfl rfl rfl (m_make0 (c := xs.length + 12) tf14 tf69 tf16 rfl rfl (by omega) (by unfold maxLen; omega) (by omega)) ?_
  rintro _ _ ⟨b1, rfl, rfl⟩
  refine l_val (v := .slice (some ⟨b1, 0, none⟩) 0 (xs.length + 12)) rfl rfl rfl (e_assign) ?_
  refine l_nil ?_
  refine f_then ?_
  refine c_seq ?_
  refine c_region ?_
  refine l_val (v := .slice (some ⟨b1, 0, none⟩) 0 (xs.length + 12)) rfl rfl rfl (e_move) ?_
  refine l_val (v := .slice va (xs.length) (vc)) rfl rfl rfl (e_move) ?_
  refine l_mv rfl rfl rfl (m_append_w 0 tf14 tf69 (v := .slice (some ⟨b1, 0, none⟩) 0 (xs.length + 12)) (m := 0) (vs := []) (ao := va) (k := xs.length) (c := vc) (news := (xs.flatMap compE)) rfl rfl rfl (comp_len xs) (Knows.of_base (Cs.mono _ _) (elems_comps ve)) (comp_one xs) (elems_ba ve) (by unfold maxLen; omega) (by omega)) ?_
  rintro _ _ ⟨rp2, rc3, rfl, rfl⟩
  refine l_val (v := .slice rp2 (0 + xs.length) rc3) rfl rfl rfl (e_assign) ?_
  refine l_nil ?_
  refine f_then ?_
  refine c_seq ?_
  refine c_seq ?_
  refine c_region ?_
  refine l_val (v := .int .i64 (0)) rfl rfl rfl (e_assign) ?_
  refine l_nil ?_
  refine f_then ?_
  refine c_block ?_
  refine c_mask [true] rfl ?_
  refine c_loop (fun (x_ : Nat × Value) (f : Fm) (L : List Res) => match x_ with | (k, z) => (f 0 = .slice va (xs.length) (vc) ∧ f 3 = z ∧ f 4 = Nx (k)) ∧ L = [row z 38 5 (xs.length + k) (((xs ++ marksC k).flatMap compE))] ∧ (k ≤ 12)) (fun (x_ : Nat × Value) => match x_ with | (k, z) => 12 - k) (0, (.slice rp2 (0 + xs.length) rc3)) ?_ ?_
  · exact ⟨⟨rfl, rfl, rfl⟩, (by simp [mask, marksC]), (by omega)⟩
  rintro ⟨k, z⟩ f0 L0 ⟨⟨hs0, hs3, hs4⟩, hL, hk⟩
  subst L0
  refine rebase (d := 0) hs0 ?_
  refine rebase (d := 3) hs3 ?_
  refine rebase (d := 4) hs4 ?_
  clear hs0 hs3 hs4
  refine c_seq ?_
  refine c_seq ?_
  refine c_region ?_
  refine l_val (v := Nx (k)) rfl rfl rfl (e_move) ?_
  refine l_val (v := .bool (decide (((k : Nat) : Int) < (12 : Int)))) rfl rfl rfl (e_lss (a := ((k : Nat) : Int)) (b := (12 : Int)) rfl rfl) ?_
  refine l_nil ?_
  refine f_then ?_
  refine c_if (((k : Nat) : Int) < (12 : Int)) rfl (fun hc4 => ?_) (fun hc4 => ?_)
  ·
    refine c_skip ?_
    refine f_then ?_
    refine c_seq ?_
    refine c_block ?_
    refine c_region ?_
    refine l_val (v := z) rfl rfl rfl (e_move) ?_
    refine l_val (v := Nx (k)) rfl rfl rfl (e_move) ?_
    refine l_call rfl rfl rfl (cl_value (fst := []) (cap := []) (vs := [.int .i64 (1), Nx (k)]) (all := [.int .i64 (1), Nx (k)]) tf90 rfl rfl rfl) ?_
    intro w hw
    obtain ⟨β1, sb, kn, hw1, back⟩ := St.frame_all hw
    refine (markComp_ok β1 w hw1 k (by omega)).mono ?_
    rintro e w' ⟨rfl, hw'⟩
    refine ⟨_, rfl, _, back _ _ hw', ?_⟩
    clear hw hw1 hw' back kn sb
    refine l_mv rfl rfl rfl (m_slices tf14 tf16 (vs := [(0, .agg #[Bx ((markC k).kind), Ix ((markC k).v0), Ix ((markC k).v1), Ix ((markC k).v2), Ix ((markC k).v3)])]) (cells := #[Bx ((markC k).kind), Ix ((markC k).v0), Ix ((markC k).v1), Ix ((markC k).v2), Ix ((markC k).v3)]) rfl rfl rfl rfl) ?_
    rintro _ _ ⟨b5, rfl, rfl⟩
    refine l_mv rfl rfl rfl (m_append 1 tf14 tf69 (v := z) (m := xs.length + k) (vs := ((xs ++ marksC k).flatMap compE)) (ad := ⟨b5, 0, none⟩) (k := 1) (c := 1) (news := [Bx ((markC k).kind), Ix ((markC k).v0), Ix ((markC k).v1), Ix ((markC k).v2), Ix ((markC k).v3)]) rfl rfl rfl rfl (k_pt 0 (cs := #[Bx ((markC k).kind), Ix ((markC k).v0), Ix ((markC k).v1), Ix ((markC k).v2), Ix ((markC k).v3)]) (vs := [Bx ((markC k).kind), Ix ((markC k).v0), Ix ((markC k).v1), Ix ((markC k).v2), Ix ((markC k).v3)]) rfl rfl) rfl (by unfold maxLen; omega) (by omega)) ?_
    rintro v6 _ ⟨hnv6, rfl⟩
    refine l_val (v := v6) rfl rfl rfl (e_assign) ?_
    refine l_nil ?_
    refine f_block ?_
    refine f_then ?_
    refine c_region ?_
    refine l_val (v := Nx (k)) rfl rfl rfl (e_move) ?_
    refine l_val (v := Nx (k + 1)) rfl rfl rfl (e_add (a := ((k : Nat) : Int)) (b := (1 : Int)) rfl rfl (i64n (by omega) (by omega))) ?_
    refine l_val (v := Nx (k + 1)) rfl rfl rfl (e_assign) ?_
    refine l_nil ?_
    refine f_mask (L' := [row v6 38 5 ((xs.length + k) + 1) (((xs ++ marksC k).flatMap compE) ++ [Bx ((markC k).kind), Ix ((markC k).v0), Ix ((markC k).v1), Ix ((markC k).v2), Ix ((markC k).v3)])]) [false, true] rfl ?_
    exact f_cut ⟨(k + 1, v6), ⟨⟨rfl, rfl, rfl⟩, (by rw [marksC_succ, ← List.append_assoc, List.flatMap_append (xs := xs ++ marksC k)]; simp [compE, Nat.add_assoc]), (by omega)⟩, (show 12 - (k + 1) < 12 - k from by omega)⟩
  ·
    refine c_exit ?_
    refine f_then_exit ?_
    refine f_then_exit ?_
    refine f_exit ?_
    refine f_then ?_
    refine c_seq ?_
    have hke : k = 12 := by omega
    subst hke
    refine c_rowform 0 rfl (fun rp rc hrv hrc hrm => ?_)
    subst hrv
    refine c_region ?_
    refine l_val (v := .slice rp (xs.length + 12) rc) rfl rfl rfl (e_move) ?_
    refine l_val (v := .slice va (xs.length) (vc)) rfl rfl rfl (e_move) ?_
    refine l_val (v := Nx (xs.length)) rfl rfl rfl (e_len (a := va) (n := xs.length) (c := vc) rfl tf13) ?_
    refine l_val (v := .slice rp (xs.length) rc) rfl rfl rfl (e_slice_hi (a := rp) (len := xs.length + 12) (cap := rc) (h := xs.length) tf14 rfl rfl (by omega)) ?_
    refine l_val (v := .slice rp (xs.length) rc) rfl rfl rfl (e_assign) ?_
    refine l_nil ?_
    refine f_then ?_
    refine c_ret ?_
    refine ret1 Tryz.results74 (v := .slice rp (xs.length) rc) rfl ?_
    intro w hw
    exact ⟨rp, rc, rfl, st_mask [true] rfl hw⟩
theorem lentEntity_ok (β : Base) (w : World) (hw : St β [] w) (e : KEnt) (v : Value) (hs : Sl CompR β.heap v e.comps) (hn : e.comps.length ≤ 1000) : Calls Tryz.prog 40 #[.agg #[Ix e.id, v]] w fun r w' => ∃ p c, r = .returned (.agg #[Ix e.id, .slice p e.comps.length c]) ∧ St β [row (.slice p (e.comps.length + 12) c) 38 5 (e.comps.length + 12) ((e.comps ++ marksC 12).flatMap compE)] w' := by
  obtain ⟨va, vc, rfl, vl, vm, ve⟩ := hs.get
  refine enter (n := 8) Tryz.func40 rfl Tryz.ntmps40 rfl ?_ hw
  refine c_seq ?_
  refine c_region ?_
  refine l_mv rfl rfl rfl (m_box (v := .agg #[Ix (e.id), .slice va (e.comps.length) (vc)]) rfl) ?_
  rintro _ _ ⟨b1, rfl, rfl⟩
  refine l_mv rfl rfl rfl (m_alloc tf33) ?_
  rintro _ _ ⟨b2, rfl, rfl⟩
  refine l_nil ?_
  refine f_then ?_
  refine c_seq ?_
  refine c_region ?_
  refine l_val (v := .pointer (some ⟨b1, 1, none⟩)) rfl rfl rfl (e_fieldPt (b := b1) (o := 0) rfl tf11) ?_
  refine l_val (v := .slice va (e.comps.length) (vc)) rfl rfl rfl (e_load1 tf12 (v := .slice va (e.comps.length) (vc)) rfl (k_pt 1 (cs := #[Ix (e.id), .slice va (e.comps.length) (vc)]) (vs := [.slice va (e.comps.length) (vc)]) rfl rfl)) ?_
  refine l_call rfl rfl rfl (cl_value (fst := []) (cap := []) (vs := [.slice va (e.comps.length) (vc)]) (all := [.slice va (e.comps.length) (vc)]) tf96 rfl rfl rfl) ?_
  intro w hw
  obtain ⟨β1, sb, kn, hw1, back⟩ := St.frame_all hw
  refine (lentComps_ok β1 w hw1 _ e.comps (Sl.mono _ _ _ _ _ sb (⟨⟨_, _, rfl, vl, vm, ve⟩⟩ : Sl CompR _ _ e.comps)) (by assumption)).mono ?_
  rintro e w' ⟨p3, c4, rfl, hw'⟩
  refine ⟨_, rfl, _, back _ _ hw', ?_⟩
  clear hw hw1 hw' back kn sb
  refine l_val (v := .pointer (some ⟨b1, 1, none⟩)) rfl rfl rfl (e_fieldPt (b := b1) (o := 0) rfl tf11) ?_
  refine l_mu rfl rfl (m_store 2 tf12 (b := b1) (o := 1) (T := 35) (cs := #[Ix (e.id), .slice va (e.comps.length) (vc)]) (cs' := #[Ix (e.id), .slice p3 (e.comps.length) c4]) (v := .slice p3 (e.comps.length) c4) rfl rfl rfl rfl rfl rfl rfl) ?_
  refine l_nil ?_
  refine f_then ?_
  refine c_seq ?_
  refine c_region ?_
  refine l_val (v := .agg #[Ix (e.id), .slice p3 (e.comps.length) c4]) rfl rfl rfl (e_load tf24 (cs := [Ix (e.id), .slice p3 (e.comps.length) c4]) rfl (k_pt 2 (cs := #[Ix (e.id), .slice p3 (e.comps.length) c4]) (vs := [Ix (e.id), .slice p3 (e.comps.length) c4]) rfl rfl) rfl) ?_
  refine l_mu rfl rfl (m_store 1 tf24 (b := b2) (o := 0) (T := 35) (cs := #[.int .i64 (0), .slice none 0 0]) (cs' := #[Ix (e.id), .slice p3 (e.comps.length) c4]) (v := .agg #[Ix (e.id), .slice p3 (e.comps.length) c4]) rfl rfl rfl rfl rfl rfl rfl) ?_
  refine l_nil ?_
  refine f_then ?_
  refine c_ret ?_
  refine retG (l := [.cell 2 35]) (m := [.agg #[Ix (e.id), .slice p3 (e.comps.length) c4]]) (v := .agg #[Ix (e.id), .slice p3 (e.comps.length) c4]) Tryz.results40 ⟨rd_cell tf24 (cs := [Ix (e.id), .slice p3 (e.comps.length) c4]) rfl (k_pt 1 (cs := #[Ix (e.id), .slice p3 (e.comps.length) c4]) (vs := [Ix (e.id), .slice p3 (e.comps.length) c4]) rfl rfl) rfl, trivial⟩ rfl ?_
  intro w hw
  exact ⟨_, _, rfl, st_mask [true, false, false] rfl hw⟩
theorem lentEntities_ok (β : Base) (w : World) (hw : St β [] w) (v : Value) (xs : List KEnt) (hs : Sl EntR β.heap v xs) (hn : xs.length ≤ 1000) (hbig : ∀ (i : Nat) e, xs[i]? = some e → e.comps.length ≤ 20) : Calls Tryz.prog 15 #[v] w fun r w' => ∃ p c vs, r = .returned (.slice p xs.length c) ∧ vs.length = xs.length ∧ St β (row (.slice p (xs.length + 12) c) 35 2 (xs.length + 12) (entCells (vs ++ nils 12) (xs ++ marksE 12)) :: lentRows vs xs) w' := by
  obtain ⟨va, vc, rfl, vl, vm, ve⟩ := hs.get
  refine enter (n := 39) Tryz.func15 rfl Tryz.ntmps15 rfl ?_ hw
  refine c_seq ?_
  refine c_region ?_
  refine l_val (v := .slice none 0 0) rfl rfl rfl (e_assign) ?_
  refine l_nil ?_
  refine f_then ?_
  refine c_seq ?_
  refine c_region ?_
  refine l_val (v := .slice va (xs.length) (vc)) rfl rfl rfl (e_move) ?_
  refine l_val (v := Nx (xs.length)) rfl rfl rfl (e_len (a := va) (n := xs.length) (c := vc) rfl tf31) ?_
  refine l_val (v := Nx (xs.length + 12)) rfl rfl rfl (e_add (a := ((xs.length : Nat) : Int)) (b := (12 : Int)) rfl rfl (i64n (by omega) (by omega))) ?_
  refine l_mv rfl rfl rfl (m_make0 (c := xs.length + 12) tf32 tf72 tf33 rfl rfl (by omega) (by unfold maxLen; omega) (by omega)) ?_
  rintro _ _ ⟨b1, rfl, rfl⟩
  refine l_val (v := .slice (some ⟨b1, 0, none⟩) 0 (xs.length + 12)) rfl rfl rfl (e_assign) ?_
  refine l_nil ?_
  refine f_then ?_
  refine c_seq ?_
  refine c_seq ?_
  refine c_region ?_
  refine l_val (v := .int .i64 (0)) rfl rfl rfl (e_assign) ?_
  refine l_nil ?_
  refine f_then ?_
  refine c_block ?_
  refine c_mask [true] rfl ?_
  refine c_loop (fun (x_ : Nat × Value × List Value) (f : Fm) (L : List Res) => match x_ with | (k, z, vs) => (f 0 = .slice va (xs.length) (vc) ∧ f 3 = z ∧ f 4 = Nx (k)) ∧ L = (row z 35 2 (k) ((entCells vs (xs.take k))) :: (lentRows vs (xs.take k))) ∧ (k ≤ xs.length ∧ vs.length = k)) (fun (x_ : Nat × Value × List Value) => match x_ with | (k, z, vs) => xs.length - k) (0, (.slice (some ⟨b1, 0, none⟩) 0 (xs.length + 12)), []) ?_ ?_
  · exact ⟨⟨rfl, rfl, rfl⟩, (by simp [mask, entCells, lentRows]), ⟨by omega, rfl⟩⟩
  rintro ⟨k, z, vs⟩ f0 L0 ⟨⟨hs0, hs3, hs4⟩, hL, ⟨hp1, hp2⟩⟩
  subst L0
  refine rebase (d := 0) hs0 ?_
  refine rebase (d := 3) hs3 ?_
  refine rebase (d := 4) hs4 ?_
  clear hs0 hs3 hs4
  refine c_seq ?_
  refine c_seq ?_
  refine c_region ?_
  refine l_val (v := Nx (k)) rfl rfl rfl (e_move) ?_
  refine l_val (v := .slice va (xs.length) (vc)) rfl rfl rfl (e_move) ?_
  refine l_val (v := Nx (xs.length)) rfl rfl rfl (e_len (a := va) (n := xs.length) (c := vc) rfl tf31) ?_
  refine l_val (v := .bool (decide (((k : Nat) : Int) < ((xs.length : Nat) : Int)))) rfl rfl rfl (e_lss (a := ((k : Nat) : Int)) (b := ((xs.length : Nat) : Int)) rfl rfl) ?_
  refine l_nil ?_
  refine f_then ?_
  refine c_if (((k : Nat) : Int) < ((xs.length : Nat) : Int)) rfl (fun hc2 => ?_) (fun hc2 => ?_)
  ·
    refine c_skip ?_
    refine f_then ?_
    refine c_seq ?_
    refine c_block ?_
    refine c_seq ?_
    refine c_region ?_
    refine l_val (v := .slice va (xs.length) (vc)) rfl rfl rfl (e_move) ?_
    refine l_val (v := Nx (k)) rfl rfl rfl (e_move) ?_
    obtain ⟨x3, hx4⟩ : ∃ x_, (xs)[k]? = some x_ := ⟨_, List.getElem?_eq_getElem (by omega)⟩
    obtain ⟨ha5, cs6, hc7, hr8⟩ := ve _ _ hx4
    obtain ⟨v9, rfl, hv10⟩ := hr8
    obtain ⟨v9a, v9c, rfl, v9l, v9m, v9e⟩ := hv10.get
    refine l_val (v := .pointer (some ((ba va).add (k * 2)))) rfl rfl rfl (e_indexAddr (k := k) (len := xs.length) (cap := vc) (a := va) rfl rfl tf32 (by omega) ha5) ?_
    refine l_val (v := .agg #[Ix (x3.id), .slice v9a (x3.comps.length) (v9c)]) rfl rfl rfl (e_load tf24 (cs := [Ix (x3.id), .slice v9a (x3.comps.length) (v9c)]) rfl (Knows.of_base (Cs.mono _ _) hc7) rfl) ?_
    refine l_call rfl rfl rfl (cl_value (fst := []) (cap := []) (vs := [.agg #[Ix (x3.id), .slice v9a (x3.comps.length) (v9c)]]) (all := [.agg #[Ix (x3.id), .slice v9a (x3.comps.length) (v9c)]]) tf97 rfl rfl rfl) ?_
    intro w hw
    obtain ⟨β1, sb, kn, hw1, back⟩ := St.frame_all hw
    refine (lentEntity_ok β1 w hw1 x3 _ (Sl.mono _ _ _ _ _ sb (⟨⟨_, _, rfl, v9l, v9m, v9e⟩⟩ : Sl CompR _ _ x3.comps)) (by have := hbig _ _ hx4; omega)).mono ?_
    rintro e w' ⟨p11, c12, rfl, hw'⟩
    refine ⟨_, rfl, _, back _ _ hw', ?_⟩
    clear hw hw1 hw' back kn sb
    refine l_mv rfl rfl rfl (m_alloc tf33) ?_
    rintro _ _ ⟨b13, rfl, rfl⟩
    refine l_mu rfl rfl (m_store 0 tf24 (b := b13) (o := 0) (T := 35) (cs := #[.int .i64 (0), .slice none 0 0]) (cs' := #[Ix (x3.id), .slice p11 (x3.comps.length) c12]) (v := .agg #[Ix (x3.id), .slice p11 (x3.comps.length) c12]) rfl rfl rfl rfl rfl rfl rfl) ?_
    refine l_nil ?_
    refine f_then ?_
    refine c_region ?_
    refine l_val (v := z) rfl rfl rfl (e_move) ?_
    refine l_val (v := .agg #[Ix (x3.id), .slice p11 (x3.comps.length) c12]) rfl rfl rfl (e_load tf24 (cs := [Ix (x3.id), .slice p11 (x3.comps.length) c12]) rfl (k_pt 0 (cs := #[Ix (x3.id), .slice p11 (x3.comps.length) c12]) (vs := [Ix (x3.id), .slice p11 (x3.comps.length) c12]) rfl rfl) rfl) ?_
    refine l_mv rfl rfl rfl (m_slices tf32 tf33 (vs := [(0, .agg #[Ix (x3.id), .slice p11 (x3.comps.length) c12])]) (cells := #[Ix (x3.id), .slice p11 (x3.comps.length) c12]) rfl rfl rfl rfl) ?_
    rintro _ _ ⟨b14, rfl, rfl⟩
    refine l_mv rfl rfl rfl (m_append 3 tf32 tf72 (v := z) (m := k) (vs := (entCells vs (xs.take k))) (ad := ⟨b14, 0, none⟩) (k := 1) (c := 1) (news := [Ix (x3.id), .slice p11 (x3.comps.length) c12]) rfl rfl rfl rfl (k_pt 0 (cs := #[Ix (x3.id), .slice p11 (x3.comps.length) c12]) (vs := [Ix (x3.id), .slice p11 (x3.comps.length) c12]) rfl rfl) rfl (by unfold maxLen; omega) (by omega)) ?_
    rintro v15 _ ⟨hnv15, rfl⟩
    refine l_val (v := v15) rfl rfl rfl (e_assign) ?_
    refine l_nil ?_
    refine f_block ?_
    refine f_then ?_
    refine c_region ?_
    refine l_val (v := Nx (k)) rfl rfl rfl (e_move) ?_
    refine l_val (v := Nx (k + 1)) rfl rfl rfl (e_add (a := ((k : Nat) : Int)) (b := (1 : Int)) rfl rfl (i64n (by omega) (by omega))) ?_
    refine l_val (v := Nx (k + 1)) rfl rfl rfl (e_assign) ?_
    refine l_nil ?_
    refine f_mask (L' := (row (.slice p11 (x3.comps.length + 12) c12) 38 5 (x3.comps.length + 12) (((x3.comps ++ marksC 12).flatMap compE)) :: row v15 35 2 (k + 1) ((entCells vs (xs.take k)) ++ [Ix (x3.id), .slice p11 (x3.comps.length) c12]) :: (lentRows vs (xs.take k)))) [false, false, true, true] rfl ?_
    refine f_perm (List.Perm.swap _ _ _) ?_
    refine f_turn (L' := (row v15 35 2 (k + 1) ((entCells vs (xs.take k)) ++ [Ix (x3.id), .slice p11 (x3.comps.length) c12]) :: lentRow (.slice p11 (x3.comps.length) c12) x3 :: (lentRows vs (xs.take k)))) (fun w h => h.conseq_at 1 rfl (fun a h => ⟨_, _, rfl, h⟩)) ?_
    refine f_perm (L' := (row v15 35 2 (k + 1) ((entCells vs (xs.take k)) ++ [Ix (x3.id), .slice p11 (x3.comps.length) c12]) :: (lentRows (vs ++ [.slice p11 (x3.comps.length) c12]) (xs.take (k + 1))))) ((lent_rows_snoc hx4 hp2 (by omega)).cons _) ?_
    exact f_cut ⟨(k + 1, v15, (vs ++ [.slice p11 (x3.comps.length) c12])), ⟨⟨rfl, rfl, rfl⟩, (by rw [ent_cells_snoc hx4 hp2 (by omega)]), ⟨by omega, by simp; omega⟩⟩, (show xs.length - (k + 1) < xs.length - k from by omega)⟩
  ·
    refine c_exit ?_
    refine f_then_exit ?_
    refine f_then_exit ?_
    refine f_exit ?_
    refine f_then ?_
    refine c_seq ?_
    refine c_seq ?_
    have hke : k = xs.length := by omega
    subst hke
    rw [List.take_of_length_le (Nat.le_refl xs.length)]
    refine c_region ?_
    refine l_val (v := .int .i64 (0)) rfl rfl rfl (e_assign) ?_
    refine l_nil ?_
    refine f_then ?_
    refine c_block ?_
    refine c_mask [true] rfl ?_
    refine c_loop (fun (x_ : Nat × Value) (f : Fm) (L : List Res) => match x_ with | (k, y) => (f 0 = .slice va (xs.length) (vc) ∧ f 3 = y ∧ f 6 = Nx (k)) ∧ L = (row y 35 2 (xs.length + k) ((entCells (vs ++ nils k) (xs ++ marksE k))) :: (lentRows vs xs)) ∧ (k ≤ 12)) (fun (x_ : Nat × Value) => match x_ with | (k, y) => 12 - k) (0, z) ?_ ?_
    · exact ⟨⟨rfl, rfl, rfl⟩, (by simp [mask, nils, marksE]), (by omega)⟩
    rintro ⟨k, y⟩ f0 L0 ⟨⟨hs0, hs3, hs6⟩, hL, hk⟩
    subst L0
    refine rebase (d := 0) hs0 ?_
    refine rebase (d := 3) hs3 ?_
    refine rebase (d := 6) hs6 ?_
    clear hs0 hs3 hs6
    refine c_seq ?_
    refine c_seq ?_
    refine c_region ?_
    refine l_val (v := Nx (k)) rfl rfl rfl (e_move) ?_
    refine l_val (v := .bool (decide (((k : Nat) : Int) < (12 : Int)))) rfl rfl rfl (e_lss (a := ((k : Nat) : Int)) (b := (12 : Int)) rfl rfl) ?_
    refine l_nil ?_
    refine f_then ?_
    refine c_if (((k : Nat) : Int) < (12 : Int)) rfl (fun hc16 => ?_) (fun hc16 => ?_)
    ·
      refine c_skip ?_
      refine f_then ?_
      refine c_seq ?_
      refine c_block ?_
      refine c_region ?_
      refine l_val (v := y) rfl rfl rfl (e_move) ?_
      refine l_val (v := Nx (k)) rfl rfl rfl (e_move) ?_
      refine l_call rfl rfl rfl (cl_value (fst := []) (cap := []) (vs := [.int .i64 (1), Nx (k)]) (all := [.int .i64 (1), Nx (k)]) tf93 rfl rfl rfl) ?_
      intro w hw
      obtain ⟨β1, sb, kn, hw1, back⟩ := St.frame_all hw
      refine (markEntity_ok β1 w hw1 k (by omega)).mono ?_
      rintro e w' ⟨rfl, hw'⟩
      refine ⟨_, rfl, _, back _ _ hw', ?_⟩
      clear hw hw1 hw' back kn sb
      refine l_mv rfl rfl rfl (m_slices tf32 tf33 (vs := [(0, .agg #[Ix ((markE k).id), .slice none 0 0])]) (cells := #[Ix ((markE k).id), .slice none 0 0]) rfl rfl rfl rfl) ?_
      rintro _ _ ⟨b17, rfl, rfl⟩
      refine l_mv rfl rfl rfl (m_append 1 tf32 tf72 (v := y) (m := xs.length + k) (vs := (entCells (vs ++ nils k) (xs ++ marksE k))) (ad := ⟨b17, 0, none⟩) (k := 1) (c := 1) (news := [Ix ((markE k).id), .slice none 0 0]) rfl rfl rfl rfl (k_pt 0 (cs := #[Ix ((markE k).id), .slice none 0 0]) (vs := [Ix ((markE k).id), .slice none 0 0]) rfl rfl) rfl (by unfold maxLen; omega) (by omega)) ?_
      rintro v18 _ ⟨hnv18, rfl⟩
      refine l_val (v := v18) rfl rfl rfl (e_assign) ?_
      refine l_nil ?_
      refine f_block ?_
      refine f_then ?_
      refine c_region ?_
      refine l_val (v := Nx (k)) rfl rfl rfl (e_move) ?_
      refine l_val (v := Nx (k + 1)) rfl rfl rfl (e_add (a := ((k : Nat) : Int)) (b := (1 : Int)) rfl rfl (i64n (by omega) (by omega))) ?_
      refine l_val (v := Nx (k + 1)) rfl rfl rfl (e_assign) ?_
      refine l_nil ?_
      refine f_mask (L' := (row v18 35 2 ((xs.length + k) + 1) ((entCells (vs ++ nils k) (xs ++ marksE k)) ++ [Ix ((markE k).id), .slice none 0 0]) :: (lentRows vs xs))) [false, true] rfl ?_
      exact f_cut ⟨(k + 1, v18), ⟨⟨rfl, rfl, rfl⟩, (by rw [nils_succ, marksE_succ, ← List.append_assoc, ← List.append_assoc, ent_cells_append (vs := vs ++ nils k) (es := xs ++ marksE k) (by simp [nils_len, marksE_len, hp2])]; rfl), (by omega)⟩, (show 12 - (k + 1) < 12 - k from by omega)⟩
    ·
      refine c_exit ?_
      refine f_then_exit ?_
      refine f_then_exit ?_
      refine f_exit ?_
      refine f_then ?_
      refine c_seq ?_
      have hke : k = 12 := by omega
      subst hke
      refine c_rowform 0 rfl (fun rp rc hrv hrc hrm => ?_)
      subst hrv
      refine c_region ?_
      refine l_val (v := .slice rp (xs.length + 12) rc) rfl rfl rfl (e_move) ?_
      refine l_val (v := .slice va (xs.length) (vc)) rfl rfl rfl (e_move) ?_
      refine l_val (v := Nx (xs.length)) rfl rfl rfl (e_len (a := va) (n := xs.length) (c := vc) rfl tf31) ?_
      refine l_val (v := .slice rp (xs.length) rc) rfl rfl rfl (e_slice_hi (a := rp) (len := xs.length + 12) (cap := rc) (h := xs.length) tf32 rfl rfl (by omega)) ?_
      refine l_val (v := .slice rp (xs.length) rc) rfl rfl rfl (e_assign) ?_
      refine l_nil ?_
      refine f_then ?_
      refine c_ret ?_
      refine ret1 Tryz.results15 (v := .slice rp (xs.length) rc) rfl ?_
      intro w hw
      exact ⟨rp, rc, vs, rfl, hp2, st_mask (L' := (row (.slice rp (xs.length + 12) rc) 35 2 (xs.length + 12) ((entCells (vs ++ nils 12) (xs ++ marksE 12))) :: (lentRows vs xs))) [true] rfl hw⟩
theorem lentWorld_ok (β : Base) (w : World) (hw : St β [] w) (x : KWorld) (v : Value) (hs : Sl EntR β.heap v x.ents) (hn : x.ents.length ≤ 1000) (hbig : ∀ (i : Nat) e, x.ents[i]? = some e → e.comps.length ≤ 20) : Calls Tryz.prog 6 #[.agg #[Ix x.tick, v]] w fun r w' => ∃ p c vs, r = .returned (.agg #[Ix x.tick, .slice p x.ents.length c]) ∧ vs.length = x.ents.length ∧ St β (row (.slice p (x.ents.length + 12) c) 35 2 (x.ents.length + 12) (entCells (vs ++ nils 12) (x.ents ++ marksE 12)) :: lentRows vs x.ents) w' := by
  obtain ⟨va, vc, rfl, vl, vm, ve⟩ := hs.get
  refine enter (n := 8) Tryz.func6 rfl Tryz.ntmps6 rfl ?_ hw
  refine c_seq ?_
  refine c_region ?_
  refine l_mv rfl rfl rfl (m_box (v := .agg #[Ix (x.tick), .slice va (x.ents.length) (vc)]) rfl) ?_
  rintro _ _ ⟨b1, rfl, rfl⟩
  refine l_mv rfl rfl rfl (m_alloc tf49) ?_
  rintro _ _ ⟨b2, rfl, rfl⟩
  refine l_nil ?_
  refine f_then ?_
  refine c_seq ?_
  refine c_region ?_
  refine l_val (v := .pointer (some ⟨b1, 1, none⟩)) rfl rfl rfl (e_fieldPt (b := b1) (o := 0) rfl tf29) ?_
  refine l_val (v := .slice va (x.ents.length) (vc)) rfl rfl rfl (e_load1 tf30 (v := .slice va (x.ents.length) (vc)) rfl (k_pt 1 (cs := #[Ix (x.tick), .slice va (x.ents.length) (vc)]) (vs := [.slice va (x.ents.length) (vc)]) rfl rfl)) ?_
  refine l_call rfl rfl rfl (cl_value (fst := []) (cap := []) (vs := [.slice va (x.ents.length) (vc)]) (all := [.slice va (x.ents.length) (vc)]) tf98 rfl rfl rfl) ?_
  intro w hw
  obtain ⟨β1, sb, kn, hw1, back⟩ := St.frame_all hw
  refine (lentEntities_ok β1 w hw1 _ x.ents (Sl.mono _ _ _ _ _ sb (⟨⟨_, _, rfl, vl, vm, ve⟩⟩ : Sl EntR _ _ x.ents)) (by assumption) (by assumption)).mono ?_
  rintro e w' ⟨p3, c4, vs5, rfl, hvs, hw'⟩
  refine ⟨_, rfl, _, St.perm (L' := row (.slice p3 (x.ents.length + 12) c4) 35 2 (x.ents.length + 12) ((entCells (vs5 ++ nils 12) (x.ents ++ marksE 12))) :: pt b2 (.cells #[.int .i64 (0), .slice none 0 0] 24) :: pt b1 (.cells #[Ix (x.tick), .slice va (x.ents.length) (vc)] 24) :: (lentRows vs5 x.ents)) (back _ _ hw') (List.Perm.cons _ List.perm_append_comm), ?_⟩
  clear hw hw1 hw' back kn sb
  refine l_val (v := .pointer (some ⟨b1, 1, none⟩)) rfl rfl rfl (e_fieldPt (b := b1) (o := 0) rfl tf29) ?_
  refine l_mu rfl rfl (m_store 2 tf30 (b := b1) (o := 1) (T := 24) (cs := #[Ix (x.tick), .slice va (x.ents.length) (vc)]) (cs' := #[Ix (x.tick), .slice p3 (x.ents.length) c4]) (v := .slice p3 (x.ents.length) c4) rfl rfl rfl rfl rfl rfl rfl) ?_
  refine l_nil ?_
  refine f_then ?_
  refine c_seq ?_
  refine c_region ?_
  refine l_val (v := .agg #[Ix (x.tick), .slice p3 (x.ents.length) c4]) rfl rfl rfl (e_load tf46 (cs := [Ix (x.tick), .slice p3 (x.ents.length) c4]) rfl (k_pt 2 (cs := #[Ix (x.tick), .slice p3 (x.ents.length) c4]) (vs := [Ix (x.tick), .slice p3 (x.ents.length) c4]) rfl rfl) rfl) ?_
  refine l_mu rfl rfl (m_store 1 tf46 (b := b2) (o := 0) (T := 24) (cs := #[.int .i64 (0), .slice none 0 0]) (cs' := #[Ix (x.tick), .slice p3 (x.ents.length) c4]) (v := .agg #[Ix (x.tick), .slice p3 (x.ents.length) c4]) rfl rfl rfl rfl rfl rfl rfl) ?_
  refine l_nil ?_
  refine f_then ?_
  refine c_ret ?_
  refine retG (l := [.cell 2 24]) (m := [.agg #[Ix (x.tick), .slice p3 (x.ents.length) c4]]) (v := .agg #[Ix (x.tick), .slice p3 (x.ents.length) c4]) Tryz.results6 ⟨rd_cell tf46 (cs := [Ix (x.tick), .slice p3 (x.ents.length) c4]) rfl (k_pt 1 (cs := #[Ix (x.tick), .slice p3 (x.ents.length) c4]) (vs := [Ix (x.tick), .slice p3 (x.ents.length) c4]) rfl rfl) rfl, trivial⟩ rfl ?_
  intro w hw
  exact ⟨_, _, _, rfl, hvs, st_mask (L' := (row (.slice p3 (x.ents.length + 12) c4) 35 2 (x.ents.length + 12) ((entCells (vs5 ++ nils 12) (x.ents ++ marksE 12))) :: (lentRows vs5 x.ents))) [true, false, false] rfl hw⟩
end Go.Proofs
