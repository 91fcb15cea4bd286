import Derived.Test.YtbfidhbcojbklaaDgEnts
import Derived.Test.YtbfidhbcojbklaaDg8
namespace Go.Proofs
open Go Go.Sl
theorem sums_parts {t : Int} {es lo hi : List KEnt} {m : Nat} (h1 : lo = es.take m) (h2 : hi = es.drop m) : worldU (⟨t, lo⟩ : KWorld) + worldU (⟨(-1 : Int), hi⟩ : KWorld) = worldU (⟨t, es⟩ : KWorld) := by
  subst h1; subst h2
  have h0 : tickU (-1 : Int) = 0 := UInt64.toNat_inj.1 (Int.ofNat_inj.1 (Decidable.not_not.1 cl0))
  show entsU _ _ + entsU (tickU (-1 : Int)) _ = _
  rw [h0]
  exact ents_split m
theorem sums_set {t : Int} {es : List KEnt} {k : Nat} {a b : KEnt} (h : es[k]? = some a) : worldU (⟨t, es.set k b⟩ : KWorld) = worldU (⟨t, es⟩ : KWorld) - entU a + entU b := ents_set h
theorem tf75 : cfB Try.prog 9 = true := by kernel_rfl
theorem sums_ok (β : Base) (w : World) (hw : St β [] w) (x : KWorld) (v : Value) (hs : Sl EntR β.heap v x.ents) (hxn : x.ents.length * 32 ≤ 140737488355328) (hxbig : ∀ (i : Nat) e, x.ents[i]? = some e → e.comps.length * 40 ≤ 140737488355328) (by_ at_ : UInt8) : Calls Try.prog 5 #[.agg #[Ix x.tick, v], Bx by_, Bx at_] w fun r w' => r = .returned (.bool true) ∧ St β [] w' := by
  obtain ⟨va, vc, rfl, vl, vm, ve⟩ := hs.get
  refine enter (n := 179) Try.func5 rfl Try.ntmps5 rfl ?_ hw
  refine c_seq ?_
  refine c_region ?_
  refine l_mv rfl rfl rfl (m_box (v := .agg #[Ix (x.tick), .slice va (x.ents.length) (vc)]) rfl) ?_
  rintro _ _ ⟨b1, rfl, rfl⟩
  refine l_val (v := .bool false) rfl rfl rfl (e_assign) ?_
  refine l_nil ?_
  refine f_then ?_
  refine c_seq ?_
  refine c_region ?_
  refine l_val (v := .agg #[Ix (x.tick), .slice va (x.ents.length) (vc)]) rfl rfl rfl (e_load tf46 (cs := [Ix (x.tick), .slice va (x.ents.length) (vc)]) rfl (k_pt 0 (cs := #[Ix (x.tick), .slice va (x.ents.length) (vc)]) (vs := [Ix (x.tick), .slice va (x.ents.length) (vc)]) rfl rfl) rfl) ?_
  refine l_call rfl rfl rfl (cl_value (fst := []) (cap := []) (vs := [.agg #[Ix (x.tick), .slice va (x.ents.length) (vc)]]) (all := [.agg #[Ix (x.tick), .slice va (x.ents.length) (vc)]]) tf75 rfl rfl rfl) ?_
  intro w hw
  obtain ⟨β1, sb, kn, hw1, back⟩ := St.frame_all hw
  refine (few_ok' β1 w hw1 x _ (Sl.mono _ _ _ _ _ sb (⟨⟨_, _, rfl, vl, vm, ve⟩⟩ : Sl EntR _ _ x.ents)) hxn hxbig).mono ?_
  rintro e w' ⟨p2, c3, rfl, hw'⟩
  refine ⟨_, rfl, _, back _ _ hw', ?_⟩
  clear hw hw1 hw' back kn sb
  refine l_mu rfl rfl (m_store 1 tf46 (b := b1) (o := 0) (T := 24) (cs := #[Ix (x.tick), .slice va (x.ents.length) (vc)]) (cs' := #[Ix (x.tick), .slice p2 ((fewE x.ents).length) c3]) (v := .agg #[Ix (x.tick), .slice p2 ((fewE x.ents).length) c3]) rfl rfl rfl rfl rfl rfl rfl) ?_
  refine l_nil ?_
  refine f_then ?_
  refine c_seq ?_
  refine c_perm (L' := [pt b1 (.cells #[Ix (x.tick), .slice p2 ((fewE x.ents).length) c3] 24), (fun h => Sl EntR h (.slice p2 ((fewE x.ents).length) c3) (fewE x.ents))]) ((perm_front 0 rfl).trans (perm_front 1 rfl)) ?_
  refine c_freeze (M := [pt b1 (.cells #[Ix (x.tick), .slice p2 ((fewE x.ents).length) c3] 24)]) (K := [(fun h => Sl EntR h (.slice p2 ((fewE x.ents).length) c3) (fewE x.ents))]) rfl (fun β₁ ext₁ kn₁ => ?_)
  have hf := kn₁ _ (Knows.of_res 0 rfl (fun _ _ hs h => Sl.mono EntR _ _ _ _ hs h) fun _ h => h)
  obtain ⟨es, hes⟩ : ∃ z, z = fewE x.ents := ⟨_, rfl⟩
  have hesl : es.length ≤ 40 := by rw [hes]; simp [fewE]; omega
  rw [← hes] at hf ⊢
  obtain ⟨p2l, p2m, p2e⟩ := sl_parts hf
  clear hf
  have hesb := few_big hes
  refine c_region ?_
  refine l_val (v := .agg #[Ix (x.tick), .slice p2 (es.length) (c3)]) rfl rfl rfl (e_load tf46 (cs := [Ix (x.tick), .slice p2 (es.length) (c3)]) rfl (k_pt 0 (cs := #[Ix (x.tick), .slice p2 (es.length) (c3)]) (vs := [Ix (x.tick), .slice p2 (es.length) (c3)]) rfl rfl) rfl) ?_
  refine l_call rfl rfl rfl (cl_value (fst := []) (cap := []) (vs := [.agg #[Ix (x.tick), .slice p2 (es.length) (c3)]]) (all := [.agg #[Ix (x.tick), .slice p2 (es.length) (c3)]]) tf59 rfl rfl rfl) ?_
  intro w hw
  obtain ⟨β1, sb, kn, hw1, back⟩ := St.frame_all hw
  refine (world_ok β1 w hw1 (⟨x.tick, es⟩ : KWorld) _ ((Sl.mono _ _ _ _ _ sb (⟨⟨_, _, rfl, p2l, p2m, p2e⟩⟩ : Sl EntR _ _ es)))).mono ?_
  rintro e w' ⟨rfl, hw'⟩
  refine ⟨_, rfl, _, back _ _ hw', ?_⟩
  clear hw hw1 hw' back kn sb
  refine l_val (v := Ux (worldU (⟨x.tick, es⟩ : KWorld))) rfl rfl rfl (e_assign) ?_
  refine l_nil ?_
  refine f_then ?_
  refine c_seq ?_
  refine c_region ?_
  refine l_val (v := .pointer (some ⟨b1, 1, none⟩)) rfl rfl rfl (e_fieldPt (b := b1) (o := 0) rfl tf29) ?_
  refine l_val (v := .slice p2 (es.length) (c3)) rfl rfl rfl (e_load1 tf30 (v := .slice p2 (es.length) (c3)) rfl (k_pt 0 (cs := #[Ix (x.tick), .slice p2 (es.length) (c3)]) (vs := [.slice p2 (es.length) (c3)]) rfl rfl)) ?_
  refine l_val (v := Nx (es.length)) rfl rfl rfl (e_len (a := p2) (n := es.length) (c := c3) rfl tf31) ?_
  refine l_val (v := Nx (es.length)) rfl rfl rfl (e_assign) ?_
  refine l_nil ?_
  refine f_then ?_
  refine c_seq ?_
  refine c_seq ?_
  refine c_region ?_
  refine l_val (v := Nx (es.length)) rfl rfl rfl (e_move) ?_
  refine l_val (v := .bool (decide (((es.length : Nat) : Int) = (0 : Int)))) rfl rfl rfl (e_eql (a := ((es.length : Nat) : Int)) (b := (0 : Int)) rfl rfl) ?_
  refine l_nil ?_
  refine f_then ?_
  refine c_if (((es.length : Nat) : Int) = (0 : Int)) rfl (fun hc4 => ?_) (fun hc4 => ?_)
  ·
    refine c_seq ?_
    refine c_region ?_
    refine l_val (v := Ux (worldU (⟨x.tick, es⟩ : KWorld))) rfl rfl rfl (e_move) ?_
    refine l_val (v := .pointer (some ⟨b1, 0, none⟩)) rfl rfl rfl (e_fieldPt (b := b1) (o := 0) rfl tf27) ?_
    refine l_val (v := Ix (x.tick)) rfl rfl rfl (e_load1 tf10 (v := Ix (x.tick)) rfl (k_pt 0 (cs := #[Ix (x.tick), .slice p2 (es.length) (c3)]) (vs := [Ix (x.tick)]) rfl rfl)) ?_
    refine l_call rfl rfl rfl (cl_value (fst := []) (cap := []) (vs := [Ix (x.tick)]) (all := [Ix (x.tick)]) tf28 rfl rfl rfl) ?_
    intro w hw
    obtain ⟨β1, sb, kn, hw1, back⟩ := St.frame_all hw
    refine (tick_ok β1 w hw1 (x.tick)).mono ?_
    rintro e w' ⟨rfl, hw'⟩
    refine ⟨_, rfl, _, back _ _ hw', ?_⟩
    clear hw hw1 hw' back kn sb
    refine l_val (v := .bool (decide (((worldU (⟨x.tick, es⟩ : KWorld)).toNat : Int) = ((tickU (x.tick)).toNat : Int)))) rfl rfl rfl (e_eql (a := ((worldU (⟨x.tick, es⟩ : KWorld)).toNat : Int)) (b := ((tickU (x.tick)).toNat : Int)) rfl rfl) ?_
    refine l_val (v := .bool (decide (((worldU (⟨x.tick, es⟩ : KWorld)).toNat : Int) = ((tickU (x.tick)).toNat : Int)))) rfl rfl rfl (e_move) ?_
    refine l_split (s := 37) (p := ((worldU (⟨x.tick, es⟩ : KWorld)).toNat : Int) = ((tickU (x.tick)).toNat : Int)) rfl (fun h => ?_) (fun h => ?_)
    rotate_left; exact absurd (by rw [show es = [] from List.eq_nil_of_length_eq_zero (by omega)]; rfl) h
    refine g_call rfl rfl rfl rfl rfl (cl_value (fst := []) (cap := []) (vs := []) (all := []) tf63 rfl rfl rfl) ?_
    intro w hw
    obtain ⟨β1, sb, kn, hw1, back⟩ := St.frame_all hw
    refine (awake_ok β1 w hw1).mono ?_
    rintro e w' ⟨rfl, hw'⟩
    refine ⟨_, rfl, _, back _ _ hw', ?_⟩
    clear hw hw1 hw' back kn sb
    refine l_val (v := .bool true) rfl rfl rfl (e_pick_t rfl) ?_
    refine l_val (v := .bool true) rfl rfl rfl (e_assign) ?_
    refine l_nil ?_
    refine f_then ?_
    refine c_ret ?_
    refine f_then_ret ?_
    refine ret1 Try.results5 (v := .bool true) rfl ?_
    intro w hw
    exact ⟨rfl, St.weaken ext₁ (st_mask [false] rfl hw)⟩
  ·
    refine c_skip ?_
    refine f_then ?_
    refine c_seq ?_
    refine c_quiet (by kernel_rfl) (by kernel_rfl) ?_
    refine q_val (v := Bx (by_)) rfl rfl rfl (e_move) ?_
    refine q_val (v := Nx (by_.toNat)) rfl rfl rfl (e_conv (a := ((by_).toNat : Int)) rfl ⟨_, tf8⟩ tf1 (i64n rfl (by have := (by_).toNat_lt; omega))) ?_
    refine q_val (v := Nx (es.length)) rfl rfl rfl (e_move) ?_
    refine q_val (v := Nx (by_.toNat % es.length)) rfl rfl rfl (e_rem (a := ((by_.toNat : Nat) : Int)) (b := ((es.length : Nat) : Int)) rfl rfl (by omega) (nat_tmod _ _)) ?_
    refine q_val (v := Bx (at_)) rfl rfl rfl (e_move) ?_
    refine q_val (v := Nx (at_.toNat)) rfl rfl rfl (e_conv (a := ((at_).toNat : Int)) rfl ⟨_, tf8⟩ tf1 (i64n rfl (by have := (at_).toNat_lt; omega))) ?_
    refine q_val (v := Nx (es.length)) rfl rfl rfl (e_move) ?_
    refine q_val (v := Nx (at_.toNat % es.length)) rfl rfl rfl (e_rem (a := ((at_.toNat : Nat) : Int)) (b := ((es.length : Nat) : Int)) rfl rfl (by omega) (nat_tmod _ _)) ?_
    refine q_val (v := Nx (by_.toNat % es.length)) rfl rfl rfl (e_assign) ?_
    refine q_val (v := Nx (at_.toNat % es.length)) rfl rfl rfl (e_assign) ?_
    refine q_nil ?_
    refine f_then ?_
    refine c_seq ?_
    obtain ⟨kk, hkk⟩ : ∃ z, z = by_.toNat % es.length := ⟨_, rfl⟩
    have hkkl : kk < es.length := by rw [hkk]; exact Nat.mod_lt _ (by omega)
    rw [← hkk]
    clear hkk
    obtain ⟨mm, hmm⟩ : ∃ z, z = at_.toNat % es.length := ⟨_, rfl⟩
    have hmml : mm < es.length := by rw [hmm]; exact Nat.mod_lt _ (by omega)
    rw [← hmm]
    clear hmm
    obtain ⟨zs7, hz8⟩ : ∃ zs, zs = (es.drop kk) := ⟨_, rfl⟩
    have zl9 : zs7.length = (es).length - kk := by rw [hz8]; simp; try omega
    have ze10 := (Elems.drop (cap := c3) kk (by first | omega | (simp; omega)) p2e)
    rw [← hz8] at ze10
    obtain ⟨us11, hg12, hcs13⟩ := elems_ents ze10
    obtain ⟨zs18, hz19⟩ : ∃ zs, zs = (es.take kk) := ⟨_, rfl⟩
    have zl20 : zs18.length = min kk (es).length - 0 := by rw [hz19]; simp; try omega
    have ze21 := (Elems.take kk p2e)
    rw [← hz19] at ze21
    obtain ⟨us22, hg23, hcs24⟩ := elems_ents ze21
    refine c_any [⟨[], [], [0], [48], fun f => f 48 = .pointer (some ⟨b1, 0, none⟩)⟩, ⟨[0], [0], [], [49], fun f => f 49 = Ix (x.tick)⟩, ⟨[], [], [], [50], fun f => f 50 = .slice (some ⟨(blk (f 50)), 0, none⟩) 0 0⟩, ⟨[], [], [0], [51], fun f => f 51 = .pointer (some ⟨b1, 1, none⟩)⟩, ⟨[3], [3], [], [52], fun f => f 52 = .slice p2 (es.length) (c3)⟩, ⟨[], [], [1], [53], fun f => f 53 = Nx (kk)⟩, ⟨[3, 4, 5], [4, 5], [], [54], fun f => f 54 = .slice (adv p2 c3 kk 2) (zs7.length) ((c3 - kk))⟩, ⟨[2, 3, 4, 5, 6], [2, 6], [], [55], fun f => f 55 = .slice (sla (f 55)) (0 + zs7.length) (slc (f 55))⟩, ⟨[], [], [0], [56], fun f => f 56 = .pointer (some ⟨b1, 1, none⟩)⟩, ⟨[8], [8], [], [57], fun f => f 57 = .slice p2 (es.length) (c3)⟩, ⟨[], [], [1], [58], fun f => f 58 = Nx (kk)⟩, ⟨[8, 9, 10], [9, 10], [], [59], fun f => f 59 = .slice p2 (zs18.length) (c3)⟩, ⟨[2, 3, 4, 5, 6, 7, 8, 9, 10, 11], [7, 11], [], [60], fun f => f 60 = .slice (sla (f 60)) ((0 + zs7.length) + zs18.length) (slc (f 60))⟩, ⟨[0, 1, 2, 3, 4, 5, 6, 7, 8, 9, 10, 11, 12], [1, 12], [], [60, 61], fun f => f 61 = .agg #[Ix (x.tick), .slice (sla (f 60)) ((0 + zs7.length) + zs18.length) (slc (f 60))]⟩, ⟨[], [], [], [11], fun f => f 11 = .pointer (some ⟨(blk (f 11)), 0, none⟩)⟩, ⟨[0, 1, 2, 3, 4, 5, 6, 7, 8, 9, 10, 11, 12, 13, 14], [14, 13], [], [], fun _ => True⟩] [⟨none, none, [1, 4, 9], [], fun _ => pt b1 (.cells #[Ix (x.tick), .slice p2 (es.length) (c3)] 24)⟩, ⟨(some 2), (some 7), [7], [50], fun f => pt (blk (f 50)) (.cells #[] 33)⟩, ⟨(some 7), (some 12), [12], [55], fun f => row (.slice (sla (f 55)) (0 + zs7.length) (slc (f 55))) 33 2 (0 + zs7.length) ([] ++ (entCells us11 zs7))⟩, ⟨(some 12), none, [], [60], fun f => row (.slice (sla (f 60)) ((0 + zs7.length) + zs18.length) (slc (f 60))) 33 2 ((0 + zs7.length) + zs18.length) ([] ++ (entCells us11 zs7) ++ (entCells us22 zs18))⟩, ⟨(some 14), (some 15), [15], [11], fun f => pt (blk (f 11)) (.cells #[.int .i64 (0), .slice none 0 0] 24)⟩, ⟨(some 15), none, [], [11, 60], fun f => pt (blk (f 11)) (.cells #[Ix (x.tick), .slice (sla (f 60)) ((0 + zs7.length) + zs18.length) (slc (f 60))] 24)⟩] [(3, .pointer (some ⟨b1, 0, none⟩)), (9, Nx (kk)), (2, Bx (at_)), (7, Ux (worldU (⟨x.tick, es⟩ : KWorld))), (8, Nx (es.length)), (10, Nx (mm))] [2, 0, 3, 4, 1, 5] [] (by kernel_rfl) (by kernel_rfl) (by kernel_rfl) (by kernel_rfl) rfl ⟨rfl, rfl, rfl, rfl, rfl, rfl, trivial⟩ ⟨?_, ?_, ?_, ?_, ?_, ?_, ?_, ?_, ?_, ?_, ?_, ?_, ?_, ?_, ?_, ?_, trivial⟩ ?_
    · rintro f M - ⟨i0, -⟩
      have hs3 : f 3 = .pointer (some ⟨b1, 0, none⟩) := i0
      refine ob_start (L' := M) (by rfl) (up_cons rfl hs3) ?_
      refine l_val (v := .pointer (some ⟨b1, 0, none⟩)) rfl rfl rfl (e_fieldPt (b := b1) (o := 0) rfl tf27) ?_
      refine l_nil ?_
      exact f_owes_d (up_cons rfl hs3) rfl (List.Perm.refl _)
    · rintro f M ⟨k0, -⟩ -
      have hs48 : f 48 = .pointer (some ⟨b1, 0, none⟩) := k0
      refine ob_start (L' := pt b1 (.cells #[Ix (x.tick), .slice p2 (es.length) (c3)] 24) :: M) (by rfl) (up_cons rfl hs48) ?_
      refine l_val (v := Ix (x.tick)) rfl rfl rfl (e_load1 tf10 (v := Ix (x.tick)) rfl (k_pt 0 (cs := #[Ix (x.tick), .slice p2 (es.length) (c3)]) (vs := [Ix (x.tick)]) rfl rfl)) ?_
      refine l_nil ?_
      exact f_owes_d (up_cons rfl hs48) rfl (perm_front 0 rfl)
    · rintro f M - -
      refine ob_start (L' := M) (by rfl) rfl ?_
      refine l_mv rfl rfl rfl (m_slice0 tf32) ?_
      rintro _ _ ⟨b6, rfl, rfl⟩
      refine l_nil ?_
      exact f_owes_d rfl rfl (perm_front 0 rfl)
    · rintro f M - ⟨i0, -⟩
      have hs3 : f 3 = .pointer (some ⟨b1, 0, none⟩) := i0
      refine ob_start (L' := M) (by rfl) (up_cons rfl hs3) ?_
      refine l_val (v := .pointer (some ⟨b1, 1, none⟩)) rfl rfl rfl (e_fieldPt (b := b1) (o := 0) rfl tf29) ?_
      refine l_nil ?_
      exact f_owes_d (up_cons rfl hs3) rfl (List.Perm.refl _)
    · rintro f M ⟨k0, -⟩ -
      have hs51 : f 51 = .pointer (some ⟨b1, 1, none⟩) := k0
      refine ob_start (L' := pt b1 (.cells #[Ix (x.tick), .slice p2 (es.length) (c3)] 24) :: M) (by rfl) (up_cons rfl hs51) ?_
      refine l_val (v := .slice p2 (es.length) (c3)) rfl rfl rfl (e_load1 tf30 (v := .slice p2 (es.length) (c3)) rfl (k_pt 0 (cs := #[Ix (x.tick), .slice p2 (es.length) (c3)]) (vs := [.slice p2 (es.length) (c3)]) rfl rfl)) ?_
      refine l_nil ?_
      exact f_owes_d (up_cons rfl hs51) rfl (perm_front 0 rfl)
    · rintro f M - ⟨i0, -⟩
      have hs9 : f 9 = Nx (kk) := i0
      refine ob_start (L' := M) (by rfl) (up_cons rfl hs9) ?_
      refine l_val (v := Nx (kk)) rfl rfl rfl (e_move) ?_
      refine l_nil ?_
      exact f_owes_d (up_cons rfl hs9) rfl (List.Perm.refl _)
    · rintro f M ⟨k0, k1, -⟩ -
      have hs52 : f 52 = .slice p2 (es.length) (c3) := k0
      have hs53 : f 53 = Nx (kk) := k1
      refine ob_start (L' := M) (by rfl) (up_cons (up_cons rfl hs52) hs53) ?_
      refine l_val (v := .slice (adv p2 c3 kk 2) (zs7.length) ((c3 - kk))) rfl rfl rfl (ev_eq (by rw [show zs7.length = es.length - kk by omega]) (e_slice_lo (a := p2) (len := es.length) (cap := c3) (l := kk) tf32 rfl rfl (by omega))) ?_
      refine l_nil ?_
      exact f_owes_d (up_cons (up_cons rfl hs52) hs53) rfl (List.Perm.refl _)
    · rintro f M ⟨k0, k1, -⟩ -
      have hs50 : f 50 = .slice (some ⟨(blk (f 50)), 0, none⟩) 0 0 := k0
      have hs54 : f 54 = .slice (adv p2 c3 kk 2) (zs7.length) ((c3 - kk)) := k1
      refine ob_start (L' := pt (blk (f 50)) (.cells #[] 33) :: M) (by rfl) (up_cons (up_cons rfl hs50) hs54) ?_
      refine l_conseq 0 (r' := row (.slice (some ⟨(blk (f 50)), 0, none⟩) 0 0) 33 2 0 []) rfl (fun a h => pt_row (m := 0) (by decide) rfl a h) ?_
      refine l_mv rfl rfl rfl (m_append_w 0 tf32 tf72 (v := .slice (some ⟨(blk (f 50)), 0, none⟩) 0 0) (m := 0) (vs := []) (ao := (adv p2 c3 kk 2)) (k := zs7.length) (c := (c3 - kk)) (news := (entCells us11 zs7)) rfl rfl rfl (ent_length hg12.1) (Knows.of_base (Cs.mono _ _) hcs13) (ent_one hg12) (elems_ba ze10) (by unfold maxLen; omega) (by omega)) ?_
      rintro _ _ ⟨rp16, rc17, rfl, rfl⟩
      refine l_nil ?_
      exact f_owes_d (up_cons (up_cons rfl hs50) hs54) rfl (perm_front 0 rfl)
    · rintro f M - ⟨i0, -⟩
      have hs3 : f 3 = .pointer (some ⟨b1, 0, none⟩) := i0
      refine ob_start (L' := M) (by rfl) (up_cons rfl hs3) ?_
      refine l_val (v := .pointer (some ⟨b1, 1, none⟩)) rfl rfl rfl (e_fieldPt (b := b1) (o := 0) rfl tf29) ?_
      refine l_nil ?_
      exact f_owes_d (up_cons rfl hs3) rfl (List.Perm.refl _)
    · rintro f M ⟨k0, -⟩ -
      have hs56 : f 56 = .pointer (some ⟨b1, 1, none⟩) := k0
      refine ob_start (L' := pt b1 (.cells #[Ix (x.tick), .slice p2 (es.length) (c3)] 24) :: M) (by rfl) (up_cons rfl hs56) ?_
      refine l_val (v := .slice p2 (es.length) (c3)) rfl rfl rfl (e_load1 tf30 (v := .slice p2 (es.length) (c3)) rfl (k_pt 0 (cs := #[Ix (x.tick), .slice p2 (es.length) (c3)]) (vs := [.slice p2 (es.length) (c3)]) rfl rfl)) ?_
      refine l_nil ?_
      exact f_owes_d (up_cons rfl hs56) rfl (perm_front 0 rfl)
    · rintro f M - ⟨i0, -⟩
      have hs9 : f 9 = Nx (kk) := i0
      refine ob_start (L' := M) (by rfl) (up_cons rfl hs9) ?_
      refine l_val (v := Nx (kk)) rfl rfl rfl (e_move) ?_
      refine l_nil ?_
      exact f_owes_d (up_cons rfl hs9) rfl (List.Perm.refl _)
    · rintro f M ⟨k0, k1, -⟩ -
      have hs57 : f 57 = .slice p2 (es.length) (c3) := k0
      have hs58 : f 58 = Nx (kk) := k1
      refine ob_start (L' := M) (by rfl) (up_cons (up_cons rfl hs57) hs58) ?_
      refine l_val (v := .slice p2 (zs18.length) (c3)) rfl rfl rfl (ev_eq (by rw [show zs18.length = kk by omega]) (e_slice_hi (a := p2) (len := es.length) (cap := c3) (h := kk) tf32 rfl rfl (by omega))) ?_
      refine l_nil ?_
      exact f_owes_d (up_cons (up_cons rfl hs57) hs58) rfl (List.Perm.refl _)
    · rintro f M ⟨k0, k1, -⟩ -
      have hs55 : f 55 = .slice (sla (f 55)) (0 + zs7.length) (slc (f 55)) := k0
      have hs59 : f 59 = .slice p2 (zs18.length) (c3) := k1
      refine ob_start (L' := row (.slice (sla (f 55)) (0 + zs7.length) (slc (f 55))) 33 2 (0 + zs7.length) ([] ++ (entCells us11 zs7)) :: M) (by rfl) (up_cons (up_cons rfl hs55) hs59) ?_
      refine l_mv rfl rfl rfl (m_append_w 0 tf32 tf72 (v := .slice (sla (f 55)) (0 + zs7.length) (slc (f 55))) (m := 0 + zs7.length) (vs := [] ++ (entCells us11 zs7)) (ao := p2) (k := zs18.length) (c := c3) (news := (entCells us22 zs18)) rfl rfl rfl (ent_length hg23.1) (Knows.of_base (Cs.mono _ _) hcs24) (ent_one hg23) (elems_ba ze21) (by unfold maxLen; omega) (by omega)) ?_
      rintro _ _ ⟨rp27, rc28, rfl, rfl⟩
      refine l_nil ?_
      exact f_owes_d (up_cons (up_cons rfl hs55) hs59) rfl (perm_front 0 rfl)
    · rintro f M ⟨k0, k1, -⟩ -
      have hs49 : f 49 = Ix (x.tick) := k0
      have hs60 : f 60 = .slice (sla (f 60)) ((0 + zs7.length) + zs18.length) (slc (f 60)) := k1
      refine ob_start (L' := M) (by rfl) (up_cons (up_cons rfl hs49) hs60) ?_
      refine l_val (v := .agg #[Ix (x.tick), .slice (sla (f 60)) ((0 + zs7.length) + zs18.length) (slc (f 60))]) rfl rfl rfl (e_build tf49 tf58 (vs := [(0, Ix (x.tick)), (1, .slice (sla (f 60)) ((0 + zs7.length) + zs18.length) (slc (f 60)))]) (cells := #[Ix (x.tick), .slice (sla (f 60)) ((0 + zs7.length) + zs18.length) (slc (f 60))]) rfl rfl) ?_
      refine l_nil ?_
      exact f_owes_d (up_cons (up_cons rfl hs49) hs60) rfl (List.Perm.refl _)
    · rintro f M - -
      refine ob_start (L' := M) (by rfl) rfl ?_
      refine l_mv rfl rfl rfl (m_alloc tf49) ?_
      rintro _ _ ⟨b30, rfl, rfl⟩
      refine l_nil ?_
      exact f_owes_d rfl rfl (perm_front 0 rfl)
    · rintro f M ⟨k0, k1, -⟩ -
      have hs11 : f 11 = .pointer (some ⟨(blk (f 11)), 0, none⟩) := k0
      have hs61 : f 61 = .agg #[Ix (x.tick), .slice (sla (f 60)) ((0 + zs7.length) + zs18.length) (slc (f 60))] := k1
      refine ob_start (L' := pt (blk (f 11)) (.cells #[.int .i64 (0), .slice none 0 0] 24) :: M) (by rfl) (up_cons (up_cons rfl hs11) hs61) ?_
      refine l_mu rfl rfl (m_store 0 tf46 (b := (blk (f 11))) (o := 0) (T := 24) (cs := #[.int .i64 (0), .slice none 0 0]) (cs' := #[Ix (x.tick), .slice (sla (f 60)) ((0 + zs7.length) + zs18.length) (slc (f 60))]) (v := .agg #[Ix (x.tick), .slice (sla (f 60)) ((0 + zs7.length) + zs18.length) (slc (f 60))]) rfl rfl rfl rfl rfl rfl rfl) ?_
      refine l_nil ?_
      exact f_owes_n (up_cons (up_cons rfl hs11) hs61) trivial (perm_front 0 rfl)
    rintro fa31 ⟨-, -, -, -, -, -, -, -, -, -, -, -, -, -, k14, -, -⟩ ⟨j0, j1, j2, j3, j4, j5, -⟩
    refine f_re (L' := [pt b1 (.cells #[Ix (x.tick), .slice p2 (es.length) (c3)] 24), row (.slice (sla (fa31 60)) ((0 + zs7.length) + zs18.length) (slc (fa31 60))) 33 2 ((0 + zs7.length) + zs18.length) ([] ++ (entCells us11 zs7) ++ (entCells us22 zs18)), pt (blk (fa31 11)) (.cells #[Ix (x.tick), .slice (sla (fa31 60)) ((0 + zs7.length) + zs18.length) (slc (fa31 60))] 24)]) (by rfl) ?_
    refine f_rebase (d := 2) (v := Bx (at_)) j0 ?_
    refine f_rebase (d := 3) (v := .pointer (some ⟨b1, 0, none⟩)) j1 ?_
    refine f_rebase (d := 7) (v := Ux (worldU (⟨x.tick, es⟩ : KWorld))) j2 ?_
    refine f_rebase (d := 8) (v := Nx (es.length)) j3 ?_
    refine f_rebase (d := 9) (v := Nx (kk)) j4 ?_
    refine f_rebase (d := 10) (v := Nx (mm)) j5 ?_
    refine f_rebase (d := 11) (v := .pointer (some ⟨(blk (fa31 11)), 0, none⟩)) k14 ?_
    refine f_then ?_
    refine c_seq ?_
    refine c_seq ?_
    refine c_rowcap 1 rfl (fun hrc hrm => ?_)
    refine c_region ?_
    refine l_val (v := Nx (es.length)) rfl rfl rfl (e_move) ?_
    refine l_val (v := Nx (es.length - 1)) rfl rfl rfl (ev_eq (congrArg (Value.int .i64) (by omega)) (e_sub (a := ((es.length : Nat) : Int)) (b := (1 : Int)) rfl rfl (i64w (by omega)))) ?_
    refine l_val (v := .int .i64 (0)) rfl rfl rfl (e_assign) ?_
    refine l_val (v := Nx (es.length - 1)) rfl rfl rfl (e_assign) ?_
    refine l_nil ?_
    refine f_then ?_
    refine c_block ?_
    refine c_loop (fun (x_ : Nat × List Value × List KEnt) (f : Fm) (L : List Res) => match x_ with | (k, us, zs) => (f 2 = Bx (at_) ∧ f 3 = .pointer (some ⟨b1, 0, none⟩) ∧ f 7 = Ux (worldU (⟨x.tick, es⟩ : KWorld)) ∧ f 9 = Nx (kk) ∧ f 10 = Nx (mm) ∧ f 11 = .pointer (some ⟨(blk (fa31 11)), 0, none⟩) ∧ f 12 = Nx (k) ∧ f 13 = Nx (es.length - 1 - k)) ∧ L = [pt b1 (.cells #[Ix (x.tick), .slice p2 (es.length) (c3)] 24), row (.slice (sla (fa31 60)) ((0 + zs7.length) + zs18.length) (slc (fa31 60))) 33 2 ((0 + zs7.length) + zs18.length) ((entCells us zs)), pt (blk (fa31 11)) (.cells #[Ix (x.tick), .slice (sla (fa31 60)) ((0 + zs7.length) + zs18.length) (slc (fa31 60))] 24)] ∧ (k ≤ es.length - 1 ∧ EGood β₁.heap us zs ∧ zs.Perm (es.drop kk ++ es.take kk) ∧ zs.length = es.length)) (fun (x_ : Nat × List Value × List KEnt) => match x_ with | (k, us, zs) => es.length - k) (0, (us11 ++ us22), (zs7 ++ zs18)) ?_ ?_
    · exact ⟨⟨rfl, rfl, rfl, rfl, rfl, rfl, rfl, rfl⟩, (by simp [ent_cells_append hg12.1]), ⟨by omega, hg12.append hg23, by rw [hz8, hz19], by rw [List.length_append]; omega⟩⟩
    rintro ⟨k, us, zs⟩ f0 L0 ⟨⟨hs2, hs3, hs7, hs9, hs10, hs11, hs12, hs13⟩, hL, ⟨hp1, hp2, hp3, hp4⟩⟩
    subst L0
    refine rebase (d := 2) hs2 ?_
    refine rebase (d := 3) hs3 ?_
    refine rebase (d := 7) hs7 ?_
    refine rebase (d := 9) hs9 ?_
    refine rebase (d := 10) hs10 ?_
    refine rebase (d := 11) hs11 ?_
    refine rebase (d := 12) hs12 ?_
    refine rebase (d := 13) hs13 ?_
    clear hs2 hs3 hs7 hs9 hs10 hs11 hs12 hs13
    refine c_seq ?_
    refine c_seq ?_
    refine c_region ?_
    refine l_val (v := Nx (k)) rfl rfl rfl (e_move) ?_
    refine l_val (v := Nx (es.length - 1 - k)) rfl rfl rfl (e_move) ?_
    refine l_val (v := .bool (decide (((k : Nat) : Int) < ((es.length - 1 - k : Nat) : Int)))) rfl rfl rfl (e_lss (a := ((k : Nat) : Int)) (b := ((es.length - 1 - k : Nat) : Int)) rfl rfl) ?_
    refine l_val (v := .bool (decide (((k : Nat) : Int) < ((es.length - 1 - k : Nat) : Int)))) rfl rfl rfl (e_move) ?_
    refine l_split (s := 67) (p := ((k : Nat) : Int) < ((es.length - 1 - k : Nat) : Int)) rfl (fun hg32 => ?_) (fun hg32 => ?_)
    ·
      refine g_val (v := Bx (at_)) rfl rfl rfl rfl rfl (e_move) ?_
      refine g_val (v := .int .u8 (((at_.toNat % 2 : Nat)) : Int)) rfl rfl rfl rfl rfl (e_rem (a := ((at_).toNat : Int)) (b := ((2 : Nat) : Int)) rfl rfl (by decide) (nat_tmod _ _)) ?_
      refine g_val (v := .bool (decide (((at_.toNat % 2 : Nat) : Int) = ((1 : UInt8).toNat : Int)))) rfl rfl rfl rfl rfl (e_eql (a := ((at_.toNat % 2 : Nat) : Int)) (b := ((1 : UInt8).toNat : Int)) rfl rfl) ?_
      refine l_val (v := .bool (decide (((at_.toNat % 2 : Nat) : Int) = ((1 : UInt8).toNat : Int)))) rfl rfl rfl (e_pick_t rfl) ?_
      refine l_nil ?_
      refine f_then ?_
      refine c_if (((at_.toNat % 2 : Nat) : Int) = ((1 : UInt8).toNat : Int)) rfl (fun hc33 => ?_) (fun hc33 => ?_)
      ·
        refine c_skip ?_
        refine f_then ?_
        refine c_seq ?_
        refine c_block ?_
        obtain ⟨ep34, ec35, e36, hu37, he38, hs39⟩ := hp2.getS (show (es.length - 1 - k) < zs.length by omega)
        obtain ⟨ep40, ec41, e42, hu43, he44, hs45⟩ := hp2.getS (show k < zs.length by omega)
        refine c_any [⟨[], [], [0], [76], fun f => f 76 = .pointer (some ⟨(blk (fa31 11)), 1, none⟩)⟩, ⟨[0], [0], [], [77], fun f => f 77 = .slice (sla (fa31 60)) ((0 + zs7.length) + zs18.length) (slc (fa31 60))⟩, ⟨[], [], [1], [78], fun f => f 78 = Nx (k)⟩, ⟨[], [], [0], [79], fun f => f 79 = .pointer (some ⟨(blk (fa31 11)), 1, none⟩)⟩, ⟨[3], [3], [], [80], fun f => f 80 = .slice (sla (fa31 60)) ((0 + zs7.length) + zs18.length) (slc (fa31 60))⟩, ⟨[], [], [2], [81], fun f => f 81 = Nx (es.length - 1 - k)⟩, ⟨[], [], [0], [82], fun f => f 82 = .pointer (some ⟨(blk (fa31 11)), 1, none⟩)⟩, ⟨[6], [6], [], [83], fun f => f 83 = .slice (sla (fa31 60)) ((0 + zs7.length) + zs18.length) (slc (fa31 60))⟩, ⟨[], [], [2], [84], fun f => f 84 = Nx (es.length - 1 - k)⟩, ⟨[6, 7, 8], [7, 8], [], [85], fun f => f 85 = .pointer (some ((ba (sla (fa31 60))).add ((es.length - 1 - k) * 2)))⟩, ⟨[6, 7, 8, 9], [9], [], [86], fun f => f 86 = .agg #[Ix (e36.id), .slice ep34 (e36.comps.length) ec35]⟩, ⟨[], [], [0], [87], fun f => f 87 = .pointer (some ⟨(blk (fa31 11)), 1, none⟩)⟩, ⟨[11], [11], [], [88], fun f => f 88 = .slice (sla (fa31 60)) ((0 + zs7.length) + zs18.length) (slc (fa31 60))⟩, ⟨[], [], [1], [89], fun f => f 89 = Nx (k)⟩, ⟨[11, 12, 13], [12, 13], [], [90], fun f => f 90 = .pointer (some ((ba (sla (fa31 60))).add (k * 2)))⟩, ⟨[11, 12, 13, 14], [14], [], [91], fun f => f 91 = .agg #[Ix (e42.id), .slice ep40 (e42.comps.length) ec41]⟩, ⟨[0, 1, 2, 6, 7, 8, 9, 10, 11, 12, 13, 14, 15], [1, 2], [], [92], fun f => f 92 = .pointer (some ((ba (sla (fa31 60))).add (k * 2)))⟩, ⟨[0, 1, 2, 6, 7, 8, 9, 10, 11, 12, 13, 14, 15, 16], [16, 10], [], [], fun _ => True⟩, ⟨[0, 1, 2, 3, 4, 5, 6, 7, 8, 9, 10, 11, 12, 13, 14, 15, 16, 17], [4, 5], [], [93], fun f => f 93 = .pointer (some ((ba (sla (fa31 60))).add ((es.length - 1 - k) * 2)))⟩, ⟨[0, 1, 2, 3, 4, 5, 6, 7, 8, 9, 10, 11, 12, 13, 14, 15, 16, 17, 18], [18, 15], [], [], fun _ => True⟩] [⟨none, none, [], [], fun _ => pt b1 (.cells #[Ix (x.tick), .slice p2 (es.length) (c3)] 24)⟩, ⟨none, (some 17), [9, 10, 14, 15, 16, 17], [], fun _ => row (.slice (sla (fa31 60)) ((0 + zs7.length) + zs18.length) (slc (fa31 60))) 33 2 ((0 + zs7.length) + zs18.length) ((entCells us zs))⟩, ⟨none, none, [1, 4, 7, 12], [], fun _ => pt (blk (fa31 11)) (.cells #[Ix (x.tick), .slice (sla (fa31 60)) ((0 + zs7.length) + zs18.length) (slc (fa31 60))] 24)⟩, ⟨(some 17), (some 19), [18, 19], [], fun _ => row (.slice (sla (fa31 60)) ((0 + zs7.length) + zs18.length) (slc (fa31 60))) 33 2 ((0 + zs7.length) + zs18.length) ((overL (entCells us zs) (k * 2) [Ix (e36.id), .slice ep34 (e36.comps.length) ec35]))⟩, ⟨(some 19), none, [], [], fun _ => row (.slice (sla (fa31 60)) ((0 + zs7.length) + zs18.length) (slc (fa31 60))) 33 2 ((0 + zs7.length) + zs18.length) ((overL (overL (entCells us zs) (k * 2) [Ix (e36.id), .slice ep34 (e36.comps.length) ec35]) ((es.length - 1 - k) * 2) [Ix (e42.id), .slice ep40 (e42.comps.length) ec41]))⟩] [(11, .pointer (some ⟨(blk (fa31 11)), 0, none⟩)), (12, Nx (k)), (13, Nx (es.length - 1 - k)), (2, Bx (at_)), (3, .pointer (some ⟨b1, 0, none⟩)), (7, Ux (worldU (⟨x.tick, es⟩ : KWorld))), (9, Nx (kk)), (10, Nx (mm))] [3, 4, 5, 6, 7, 0, 1, 2] [] (by kernel_rfl) (by kernel_rfl) (by kernel_rfl) (by kernel_rfl) rfl ⟨rfl, rfl, rfl, rfl, rfl, rfl, rfl, rfl, trivial⟩ ⟨?_, ?_, ?_, ?_, ?_, ?_, ?_, ?_, ?_, ?_, ?_, ?_, ?_, ?_, ?_, ?_, ?_, ?_, ?_, ?_, trivial⟩ ?_
        · rintro f M - ⟨i0, -⟩
          have hs11 : f 11 = .pointer (some ⟨(blk (fa31 11)), 0, none⟩) := i0
          refine ob_start (L' := M) (by rfl) (up_cons rfl hs11) ?_
          refine l_val (v := .pointer (some ⟨(blk (fa31 11)), 1, none⟩)) rfl rfl rfl (e_fieldPt (b := (blk (fa31 11))) (o := 0) rfl tf29) ?_
          refine l_nil ?_
          exact f_owes_d (up_cons rfl hs11) rfl (List.Perm.refl _)
        · rintro f M ⟨k0, -⟩ -
          have hs76 : f 76 = .pointer (some ⟨(blk (fa31 11)), 1, none⟩) := k0
          refine ob_start (L' := pt (blk (fa31 11)) (.cells #[Ix (x.tick), .slice (sla (fa31 60)) ((0 + zs7.length) + zs18.length) (slc (fa31 60))] 24) :: M) (by rfl) (up_cons rfl hs76) ?_
          refine l_val (v := .slice (sla (fa31 60)) ((0 + zs7.length) + zs18.length) (slc (fa31 60))) rfl rfl rfl (e_load1 tf30 (v := .slice (sla (fa31 60)) ((0 + zs7.length) + zs18.length) (slc (fa31 60))) rfl (k_pt 0 (cs := #[Ix (x.tick), .slice (sla (fa31 60)) ((0 + zs7.length) + zs18.length) (slc (fa31 60))]) (vs := [.slice (sla (fa31 60)) ((0 + zs7.length) + zs18.length) (slc (fa31 60))]) rfl rfl)) ?_
          refine l_nil ?_
          exact f_owes_d (up_cons rfl hs76) rfl (perm_front 0 rfl)
        · rintro f M - ⟨i0, -⟩
          have hs12 : f 12 = Nx (k) := i0
          refine ob_start (L' := M) (by rfl) (up_cons rfl hs12) ?_
          refine l_val (v := Nx (k)) rfl rfl rfl (e_move) ?_
          refine l_nil ?_
          exact f_owes_d (up_cons rfl hs12) rfl (List.Perm.refl _)
        · rintro f M - ⟨i0, -⟩
          have hs11 : f 11 = .pointer (some ⟨(blk (fa31 11)), 0, none⟩) := i0
          refine ob_start (L' := M) (by rfl) (up_cons rfl hs11) ?_
          refine l_val (v := .pointer (some ⟨(blk (fa31 11)), 1, none⟩)) rfl rfl rfl (e_fieldPt (b := (blk (fa31 11))) (o := 0) rfl tf29) ?_
          refine l_nil ?_
          exact f_owes_d (up_cons rfl hs11) rfl (List.Perm.refl _)
        · rintro f M ⟨k0, -⟩ -
          have hs79 : f 79 = .pointer (some ⟨(blk (fa31 11)), 1, none⟩) := k0
          refine ob_start (L' := pt (blk (fa31 11)) (.cells #[Ix (x.tick), .slice (sla (fa31 60)) ((0 + zs7.length) + zs18.length) (slc (fa31 60))] 24) :: M) (by rfl) (up_cons rfl hs79) ?_
          refine l_val (v := .slice (sla (fa31 60)) ((0 + zs7.length) + zs18.length) (slc (fa31 60))) rfl rfl rfl (e_load1 tf30 (v := .slice (sla (fa31 60)) ((0 + zs7.length) + zs18.length) (slc (fa31 60))) rfl (k_pt 0 (cs := #[Ix (x.tick), .slice (sla (fa31 60)) ((0 + zs7.length) + zs18.length) (slc (fa31 60))]) (vs := [.slice (sla (fa31 60)) ((0 + zs7.length) + zs18.length) (slc (fa31 60))]) rfl rfl)) ?_
          refine l_nil ?_
          exact f_owes_d (up_cons rfl hs79) rfl (perm_front 0 rfl)
        · rintro f M - ⟨i0, -⟩
          have hs13 : f 13 = Nx (es.length - 1 - k) := i0
          refine ob_start (L' := M) (by rfl) (up_cons rfl hs13) ?_
          refine l_val (v := Nx (es.length - 1 - k)) rfl rfl rfl (e_move) ?_
          refine l_nil ?_
          exact f_owes_d (up_cons rfl hs13) rfl (List.Perm.refl _)
        · rintro f M - ⟨i0, -⟩
          have hs11 : f 11 = .pointer (some ⟨(blk (fa31 11)), 0, none⟩) := i0
          refine ob_start (L' := M) (by rfl) (up_cons rfl hs11) ?_
          refine l_val (v := .pointer (some ⟨(blk (fa31 11)), 1, none⟩)) rfl rfl rfl (e_fieldPt (b := (blk (fa31 11))) (o := 0) rfl tf29) ?_
          refine l_nil ?_
          exact f_owes_d (up_cons rfl hs11) rfl (List.Perm.refl _)
        · rintro f M ⟨k0, -⟩ -
          have hs82 : f 82 = .pointer (some ⟨(blk (fa31 11)), 1, none⟩) := k0
          refine ob_start (L' := pt (blk (fa31 11)) (.cells #[Ix (x.tick), .slice (sla (fa31 60)) ((0 + zs7.length) + zs18.length) (slc (fa31 60))] 24) :: M) (by rfl) (up_cons rfl hs82) ?_
          refine l_val (v := .slice (sla (fa31 60)) ((0 + zs7.length) + zs18.length) (slc (fa31 60))) rfl rfl rfl (e_load1 tf30 (v := .slice (sla (fa31 60)) ((0 + zs7.length) + zs18.length) (slc (fa31 60))) rfl (k_pt 0 (cs := #[Ix (x.tick), .slice (sla (fa31 60)) ((0 + zs7.length) + zs18.length) (slc (fa31 60))]) (vs := [.slice (sla (fa31 60)) ((0 + zs7.length) + zs18.length) (slc (fa31 60))]) rfl rfl)) ?_
          refine l_nil ?_
          exact f_owes_d (up_cons rfl hs82) rfl (perm_front 0 rfl)
        · rintro f M - ⟨i0, -⟩
          have hs13 : f 13 = Nx (es.length - 1 - k) := i0
          refine ob_start (L' := M) (by rfl) (up_cons rfl hs13) ?_
          refine l_val (v := Nx (es.length - 1 - k)) rfl rfl rfl (e_move) ?_
          refine l_nil ?_
          exact f_owes_d (up_cons rfl hs13) rfl (List.Perm.refl _)
        · rintro f M ⟨k0, k1, -⟩ -
          have hs83 : f 83 = .slice (sla (fa31 60)) ((0 + zs7.length) + zs18.length) (slc (fa31 60)) := k0
          have hs84 : f 84 = Nx (es.length - 1 - k) := k1
          refine ob_start (L' := row (.slice (sla (fa31 60)) ((0 + zs7.length) + zs18.length) (slc (fa31 60))) 33 2 ((0 + zs7.length) + zs18.length) ((entCells us zs)) :: M) (by rfl) (up_cons (up_cons rfl hs83) hs84) ?_
          refine l_val (v := .pointer (some ((ba (sla (fa31 60))).add ((es.length - 1 - k) * 2)))) rfl rfl rfl (e_indexRow 0 (j := es.length - 1 - k) (len := (0 + zs7.length) + zs18.length) (cap := (slc (fa31 60))) (p := (sla (fa31 60))) rfl rfl tf32 (by omega) (by omega) rfl) ?_
          refine l_nil ?_
          exact f_owes_d (up_cons (up_cons rfl hs83) hs84) rfl (perm_front 0 rfl)
        · rintro f M ⟨k0, -⟩ -
          have hs85 : f 85 = .pointer (some ((ba (sla (fa31 60))).add ((es.length - 1 - k) * 2))) := k0
          refine ob_start (L' := row (.slice (sla (fa31 60)) ((0 + zs7.length) + zs18.length) (slc (fa31 60))) 33 2 ((0 + zs7.length) + zs18.length) ((entCells us zs)) :: M) (by rfl) (up_cons rfl hs85) ?_
          refine l_val (v := .agg #[Ix (e36.id), .slice ep34 (e36.comps.length) ec35]) rfl rfl rfl (e_load tf24 (cs := [Ix (e36.id), .slice ep34 (e36.comps.length) ec35]) rfl (k_row 0 (o := (es.length - 1 - k) * 2) (us := [Ix (e36.id), .slice ep34 (e36.comps.length) ec35]) rfl (ent_at2 hu37 he38) (Nat.succ_pos _)) rfl) ?_
          refine l_nil ?_
          exact f_owes_d (up_cons rfl hs85) rfl (perm_front 0 rfl)
        · rintro f M - ⟨i0, -⟩
          have hs11 : f 11 = .pointer (some ⟨(blk (fa31 11)), 0, none⟩) := i0
          refine ob_start (L' := M) (by rfl) (up_cons rfl hs11) ?_
          refine l_val (v := .pointer (some ⟨(blk (fa31 11)), 1, none⟩)) rfl rfl rfl (e_fieldPt (b := (blk (fa31 11))) (o := 0) rfl tf29) ?_
          refine l_nil ?_
          exact f_owes_d (up_cons rfl hs11) rfl (List.Perm.refl _)
        · rintro f M ⟨k0, -⟩ -
          have hs87 : f 87 = .pointer (some ⟨(blk (fa31 11)), 1, none⟩) := k0
          refine ob_start (L' := pt (blk (fa31 11)) (.cells #[Ix (x.tick), .slice (sla (fa31 60)) ((0 + zs7.length) + zs18.length) (slc (fa31 60))] 24) :: M) (by rfl) (up_cons rfl hs87) ?_
          refine l_val (v := .slice (sla (fa31 60)) ((0 + zs7.length) + zs18.length) (slc (fa31 60))) rfl rfl rfl (e_load1 tf30 (v := .slice (sla (fa31 60)) ((0 + zs7.length) + zs18.length) (slc (fa31 60))) rfl (k_pt 0 (cs := #[Ix (x.tick), .slice (sla (fa31 60)) ((0 + zs7.length) + zs18.length) (slc (fa31 60))]) (vs := [.slice (sla (fa31 60)) ((0 + zs7.length) + zs18.length) (slc (fa31 60))]) rfl rfl)) ?_
          refine l_nil ?_
          exact f_owes_d (up_cons rfl hs87) rfl (perm_front 0 rfl)
        · rintro f M - ⟨i0, -⟩
          have hs12 : f 12 = Nx (k) := i0
          refine ob_start (L' := M) (by rfl) (up_cons rfl hs12) ?_
          refine l_val (v := Nx (k)) rfl rfl rfl (e_move) ?_
          refine l_nil ?_
          exact f_owes_d (up_cons rfl hs12) rfl (List.Perm.refl _)
        · rintro f M ⟨k0, k1, -⟩ -
          have hs88 : f 88 = .slice (sla (fa31 60)) ((0 + zs7.length) + zs18.length) (slc (fa31 60)) := k0
          have hs89 : f 89 = Nx (k) := k1
          refine ob_start (L' := row (.slice (sla (fa31 60)) ((0 + zs7.length) + zs18.length) (slc (fa31 60))) 33 2 ((0 + zs7.length) + zs18.length) ((entCells us zs)) :: M) (by rfl) (up_cons (up_cons rfl hs88) hs89) ?_
          refine l_val (v := .pointer (some ((ba (sla (fa31 60))).add (k * 2)))) rfl rfl rfl (e_indexRow 0 (j := k) (len := (0 + zs7.length) + zs18.length) (cap := (slc (fa31 60))) (p := (sla (fa31 60))) rfl rfl tf32 (by omega) (by omega) rfl) ?_
          refine l_nil ?_
          exact f_owes_d (up_cons (up_cons rfl hs88) hs89) rfl (perm_front 0 rfl)
        · rintro f M ⟨k0, -⟩ -
          have hs90 : f 90 = .pointer (some ((ba (sla (fa31 60))).add (k * 2))) := k0
          refine ob_start (L' := row (.slice (sla (fa31 60)) ((0 + zs7.length) + zs18.length) (slc (fa31 60))) 33 2 ((0 + zs7.length) + zs18.length) ((entCells us zs)) :: M) (by rfl) (up_cons rfl hs90) ?_
          refine l_val (v := .agg #[Ix (e42.id), .slice ep40 (e42.comps.length) ec41]) rfl rfl rfl (e_load tf24 (cs := [Ix (e42.id), .slice ep40 (e42.comps.length) ec41]) rfl (k_row 0 (o := k * 2) (us := [Ix (e42.id), .slice ep40 (e42.comps.length) ec41]) rfl (ent_at2 hu43 he44) (Nat.succ_pos _)) rfl) ?_
          refine l_nil ?_
          exact f_owes_d (up_cons rfl hs90) rfl (perm_front 0 rfl)
        · rintro f M ⟨k0, k1, -⟩ -
          have hs77 : f 77 = .slice (sla (fa31 60)) ((0 + zs7.length) + zs18.length) (slc (fa31 60)) := k0
          have hs78 : f 78 = Nx (k) := k1
          refine ob_start (L' := row (.slice (sla (fa31 60)) ((0 + zs7.length) + zs18.length) (slc (fa31 60))) 33 2 ((0 + zs7.length) + zs18.length) ((entCells us zs)) :: M) (by rfl) (up_cons (up_cons rfl hs77) hs78) ?_
          refine l_val (v := .pointer (some ((ba (sla (fa31 60))).add (k * 2)))) rfl rfl rfl (e_indexRow 0 (j := k) (len := (0 + zs7.length) + zs18.length) (cap := (slc (fa31 60))) (p := (sla (fa31 60))) rfl rfl tf32 (by omega) (by omega) rfl) ?_
          refine l_nil ?_
          exact f_owes_d (up_cons (up_cons rfl hs77) hs78) rfl (perm_front 0 rfl)
        · rintro f M ⟨k0, k1, -⟩ -
          have hs92 : f 92 = .pointer (some ((ba (sla (fa31 60))).add (k * 2))) := k0
          have hs86 : f 86 = .agg #[Ix (e36.id), .slice ep34 (e36.comps.length) ec35] := k1
          refine ob_start (L' := row (.slice (sla (fa31 60)) ((0 + zs7.length) + zs18.length) (slc (fa31 60))) 33 2 ((0 + zs7.length) + zs18.length) ((entCells us zs)) :: M) (by rfl) (up_cons (up_cons rfl hs92) hs86) ?_
          refine l_mu rfl rfl (m_storeRow 0 tf24 (o := k * 2) (v := .agg #[Ix (e36.id), .slice ep34 (e36.comps.length) ec35]) rfl rfl rfl rfl rfl (by omega) (by omega)) ?_
          refine l_nil ?_
          exact f_owes_n (up_cons (up_cons rfl hs92) hs86) trivial (perm_front 0 rfl)
        · rintro f M ⟨k0, k1, -⟩ -
          have hs80 : f 80 = .slice (sla (fa31 60)) ((0 + zs7.length) + zs18.length) (slc (fa31 60)) := k0
          have hs81 : f 81 = Nx (es.length - 1 - k) := k1
          refine ob_start (L' := row (.slice (sla (fa31 60)) ((0 + zs7.length) + zs18.length) (slc (fa31 60))) 33 2 ((0 + zs7.length) + zs18.length) ((overL (entCells us zs) (k * 2) [Ix (e36.id), .slice ep34 (e36.comps.length) ec35])) :: M) (by rfl) (up_cons (up_cons rfl hs80) hs81) ?_
          refine l_val (v := .pointer (some ((ba (sla (fa31 60))).add ((es.length - 1 - k) * 2)))) rfl rfl rfl (e_indexRow 0 (j := es.length - 1 - k) (len := (0 + zs7.length) + zs18.length) (cap := (slc (fa31 60))) (p := (sla (fa31 60))) rfl rfl tf32 (by omega) (by omega) rfl) ?_
          refine l_nil ?_
          exact f_owes_d (up_cons (up_cons rfl hs80) hs81) rfl (perm_front 0 rfl)
        · rintro f M ⟨k0, k1, -⟩ -
          have hs93 : f 93 = .pointer (some ((ba (sla (fa31 60))).add ((es.length - 1 - k) * 2))) := k0
          have hs91 : f 91 = .agg #[Ix (e42.id), .slice ep40 (e42.comps.length) ec41] := k1
          refine ob_start (L' := row (.slice (sla (fa31 60)) ((0 + zs7.length) + zs18.length) (slc (fa31 60))) 33 2 ((0 + zs7.length) + zs18.length) ((overL (entCells us zs) (k * 2) [Ix (e36.id), .slice ep34 (e36.comps.length) ec35])) :: M) (by rfl) (up_cons (up_cons rfl hs93) hs91) ?_
          refine l_mu rfl rfl (m_storeRow 0 tf24 (o := (es.length - 1 - k) * 2) (v := .agg #[Ix (e42.id), .slice ep40 (e42.comps.length) ec41]) rfl rfl rfl rfl rfl (by omega) (by omega)) ?_
          refine l_nil ?_
          exact f_owes_n (up_cons (up_cons rfl hs93) hs91) trivial (perm_front 0 rfl)
        rintro fa46 ⟨-, -, -, -, -, -, -, -, -, -, -, -, -, -, -, -, -, -, -, -, -⟩ ⟨j0, j1, j2, j3, j4, j5, j6, j7, -⟩
        refine f_re (L' := [pt b1 (.cells #[Ix (x.tick), .slice p2 (es.length) (c3)] 24), pt (blk (fa31 11)) (.cells #[Ix (x.tick), .slice (sla (fa31 60)) ((0 + zs7.length) + zs18.length) (slc (fa31 60))] 24), row (.slice (sla (fa31 60)) ((0 + zs7.length) + zs18.length) (slc (fa31 60))) 33 2 ((0 + zs7.length) + zs18.length) ((overL (overL (entCells us zs) (k * 2) [Ix (e36.id), .slice ep34 (e36.comps.length) ec35]) ((es.length - 1 - k) * 2) [Ix (e42.id), .slice ep40 (e42.comps.length) ec41]))]) (by rfl) ?_
        refine f_rebase (d := 2) (v := Bx (at_)) j0 ?_
        refine f_rebase (d := 3) (v := .pointer (some ⟨b1, 0, none⟩)) j1 ?_
        refine f_rebase (d := 7) (v := Ux (worldU (⟨x.tick, es⟩ : KWorld))) j2 ?_
        refine f_rebase (d := 9) (v := Nx (kk)) j3 ?_
        refine f_rebase (d := 10) (v := Nx (mm)) j4 ?_
        refine f_rebase (d := 11) (v := .pointer (some ⟨(blk (fa31 11)), 0, none⟩)) j5 ?_
        refine f_rebase (d := 12) (v := Nx (k)) j6 ?_
        refine f_rebase (d := 13) (v := Nx (es.length - 1 - k)) j7 ?_
        refine f_block ?_
        refine f_then ?_
        refine c_region ?_
        refine l_val (v := Nx (k)) rfl rfl rfl (e_move) ?_
        refine l_val (v := Nx (k + 1)) rfl rfl rfl (e_add (a := ((k : Nat) : Int)) (b := (1 : Int)) rfl rfl (i64n (by omega) (by omega))) ?_
        refine l_val (v := Nx (es.length - 1 - k)) rfl rfl rfl (e_move) ?_
        refine l_val (v := Nx ((es.length - 1 - k) - 1)) rfl rfl rfl (ev_eq (congrArg (Value.int .i64) (by omega)) (e_sub (a := ((es.length - 1 - k : Nat) : Int)) (b := (1 : Int)) rfl rfl (i64w (by omega)))) ?_
        refine l_val (v := Nx (k + 1)) rfl rfl rfl (e_assign) ?_
        refine l_val (v := Nx ((es.length - 1 - k) - 1)) rfl rfl rfl (e_assign) ?_
        refine l_nil ?_
        refine f_perm (L' := [pt b1 (.cells #[Ix (x.tick), .slice p2 (es.length) (c3)] 24), row (.slice (sla (fa31 60)) ((0 + zs7.length) + zs18.length) (slc (fa31 60))) 33 2 ((0 + zs7.length) + zs18.length) ((overL (overL (entCells us zs) (k * 2) [Ix (e36.id), .slice ep34 (e36.comps.length) ec35]) ((es.length - 1 - k) * 2) [Ix (e42.id), .slice ep40 (e42.comps.length) ec41])), pt (blk (fa31 11)) (.cells #[Ix (x.tick), .slice (sla (fa31 60)) ((0 + zs7.length) + zs18.length) (slc (fa31 60))] 24)]) (((perm_front 1 rfl).trans (perm_front 2 rfl)).trans (perm_front 2 rfl)) ?_
        exact f_cut ⟨(k + 1, ((us.set k (.slice ep34 e36.comps.length ec35)).set (es.length - 1 - k) (.slice ep40 e42.comps.length ec41)), ((zs.set k e36).set (es.length - 1 - k) e42)), ⟨⟨rfl, rfl, rfl, rfl, rfl, rfl, rfl, rfl⟩, (by rw [swap_ents (show k ≠ es.length - 1 - k by omega) hu43 he44 hu37 he38]), ⟨by omega, (hp2.set k hs39).set _ hs45, (swap_perm he44 he38).trans hp3, by simp [hp4]⟩⟩, (show es.length - (k + 1) < es.length - k from by omega)⟩
      ·
        refine c_exit ?_
        refine f_then_exit ?_
        refine f_then_exit ?_
        refine f_exit ?_
        refine f_then ?_
        refine c_seq ?_
        refine c_perm (L' := [pt b1 (.cells #[Ix (x.tick), .slice p2 (es.length) (c3)] 24), pt (blk (fa31 11)) (.cells #[Ix (x.tick), .slice (sla (fa31 60)) ((0 + zs7.length) + zs18.length) (slc (fa31 60))] 24), row (.slice (sla (fa31 60)) ((0 + zs7.length) + zs18.length) (slc (fa31 60))) 33 2 ((0 + zs7.length) + zs18.length) ((entCells us zs))]) (((perm_front 1 rfl).trans (perm_front 2 rfl)).trans (perm_front 2 rfl)) ?_
        refine c_freeze (M := [pt b1 (.cells #[Ix (x.tick), .slice p2 (es.length) (c3)] 24), pt (blk (fa31 11)) (.cells #[Ix (x.tick), .slice (sla (fa31 60)) ((0 + zs7.length) + zs18.length) (slc (fa31 60))] 24)]) (K := [row (.slice (sla (fa31 60)) ((0 + zs7.length) + zs18.length) (slc (fa31 60))) 33 2 ((0 + zs7.length) + zs18.length) ((entCells us zs))]) rfl (fun β₂ ext₂ kn₂ => ?_)
        have hT := kn₂ _ (k_row_ents 0 rfl hp2 (by omega))
        replace p2e := Elems.mono EntR _ _ _ _ ext₂.sub p2e
        refine c_quiet (by kernel_rfl) (by kernel_rfl) ?_
        refine q_val (v := .pointer (some ⟨b1, 0, none⟩)) rfl rfl rfl (e_fieldPt (b := b1) (o := 0) rfl tf27) ?_
        refine q_val (v := Ix (x.tick)) rfl rfl rfl (e_load1 tf10 (v := Ix (x.tick)) rfl (k_pt 0 (cs := #[Ix (x.tick), .slice p2 (es.length) (c3)]) (vs := [Ix (x.tick)]) rfl rfl)) ?_
        refine q_val (v := .pointer (some ⟨b1, 1, none⟩)) rfl rfl rfl (e_fieldPt (b := b1) (o := 0) rfl tf29) ?_
        refine q_val (v := .slice p2 (es.length) (c3)) rfl rfl rfl (e_load1 tf30 (v := .slice p2 (es.length) (c3)) rfl (k_pt 0 (cs := #[Ix (x.tick), .slice p2 (es.length) (c3)]) (vs := [.slice p2 (es.length) (c3)]) rfl rfl)) ?_
        refine q_val (v := Nx (mm)) rfl rfl rfl (e_move) ?_
        obtain ⟨zs47, hz48⟩ : ∃ zs, zs = (es.take mm) := ⟨_, rfl⟩
        have zl49 : zs47.length = min mm (es).length - 0 := by rw [hz48]; simp; try omega
        have ze50 := (Elems.take mm p2e)
        rw [← hz48] at ze50
        refine q_val (v := .slice p2 (zs47.length) (c3)) rfl rfl rfl (ev_eq (by rw [show zs47.length = mm by omega]) (e_slice_hi (a := p2) (len := es.length) (cap := c3) (h := mm) tf32 rfl rfl (by omega))) ?_
        refine q_val (v := .agg #[Ix (x.tick), .slice p2 (zs47.length) (c3)]) rfl rfl rfl (e_build tf49 tf58 (vs := [(0, Ix (x.tick)), (1, .slice p2 (zs47.length) (c3))]) (cells := #[Ix (x.tick), .slice p2 (zs47.length) (c3)]) rfl rfl) ?_
        refine q_call (v := Ux (worldU (⟨(x.tick), zs47⟩ : KWorld))) rfl rfl rfl (cl_value (fst := []) (cap := []) (vs := [.agg #[Ix (x.tick), .slice p2 (zs47.length) (c3)]]) (all := [.agg #[Ix (x.tick), .slice p2 (zs47.length) (c3)]]) tf59 rfl rfl rfl) (fun w hw => ?_) ?_
        · obtain ⟨β1, sb, kn, hw1, back⟩ := St.frame_all hw
          exact (world_ok β1 w hw1 (⟨(x.tick), zs47⟩ : KWorld) _ ((Sl.mono _ _ _ _ _ sb (⟨⟨_, _, rfl, by omega, by omega, ze50⟩⟩ : Sl EntR _ _ zs47)))).mono (fun e w' ⟨he, hw'⟩ => ⟨he, st_mask [true, true] rfl (back _ _ hw')⟩)
        refine q_val (v := Ux (worldU (⟨(x.tick), zs47⟩ : KWorld))) rfl rfl rfl (e_assign) ?_
        refine q_nil ?_
        refine f_then ?_
        refine c_seq ?_
        refine c_region ?_
        refine l_val (v := .pointer (some ⟨b1, 1, none⟩)) rfl rfl rfl (e_fieldPt (b := b1) (o := 0) rfl tf29) ?_
        refine l_val (v := .slice p2 (es.length) (c3)) rfl rfl rfl (e_load1 tf30 (v := .slice p2 (es.length) (c3)) rfl (k_pt 0 (cs := #[Ix (x.tick), .slice p2 (es.length) (c3)]) (vs := [.slice p2 (es.length) (c3)]) rfl rfl)) ?_
        refine l_val (v := Nx (mm)) rfl rfl rfl (e_move) ?_
        obtain ⟨zs51, hz52⟩ : ∃ zs, zs = (es.drop mm) := ⟨_, rfl⟩
        have zl53 : zs51.length = (es).length - mm := by rw [hz52]; simp; try omega
        have ze54 := (Elems.drop (cap := c3) mm (by first | omega | (simp; omega)) p2e)
        rw [← hz52] at ze54
        refine l_val (v := .slice (adv p2 c3 mm 2) (zs51.length) ((c3 - mm))) rfl rfl rfl (ev_eq (by rw [show zs51.length = es.length - mm by omega]) (e_slice_lo (a := p2) (len := es.length) (cap := c3) (l := mm) tf32 rfl rfl (by omega))) ?_
        refine l_val (v := .agg #[.int .i64 (-1), .slice (adv p2 c3 mm 2) (zs51.length) ((c3 - mm))]) rfl rfl rfl (e_build tf49 tf58 (vs := [(0, .int .i64 (-1)), (1, .slice (adv p2 c3 mm 2) (zs51.length) ((c3 - mm)))]) (cells := #[.int .i64 (-1), .slice (adv p2 c3 mm 2) (zs51.length) ((c3 - mm))]) rfl rfl) ?_
        refine l_call rfl rfl rfl (cl_value (fst := []) (cap := []) (vs := [.agg #[.int .i64 (-1), .slice (adv p2 c3 mm 2) (zs51.length) ((c3 - mm))]]) (all := [.agg #[.int .i64 (-1), .slice (adv p2 c3 mm 2) (zs51.length) ((c3 - mm))]]) tf59 rfl rfl rfl) ?_
        intro w hw
        obtain ⟨β1, sb, kn, hw1, back⟩ := St.frame_all hw
        refine (world_ok β1 w hw1 (⟨(-1 : Int), zs51⟩ : KWorld) _ ((Sl.mono _ _ _ _ _ sb (⟨⟨_, _, rfl, by omega, by omega, ze54⟩⟩ : Sl EntR _ _ zs51)))).mono ?_
        rintro e w' ⟨rfl, hw'⟩
        refine ⟨_, rfl, _, back _ _ hw', ?_⟩
        clear hw hw1 hw' back kn sb
        refine l_val (v := Ux (worldU (⟨(-1 : Int), zs51⟩ : KWorld))) rfl rfl rfl (e_assign) ?_
        refine l_nil ?_
        refine f_then ?_
        refine c_seq ?_
        refine c_seq ?_
        refine c_region ?_
        refine l_val (v := .agg #[Ix (x.tick), .slice (sla (fa31 60)) ((0 + zs7.length) + zs18.length) (slc (fa31 60))]) rfl rfl rfl (e_load tf46 (cs := [Ix (x.tick), .slice (sla (fa31 60)) ((0 + zs7.length) + zs18.length) (slc (fa31 60))]) rfl (k_pt 1 (cs := #[Ix (x.tick), .slice (sla (fa31 60)) ((0 + zs7.length) + zs18.length) (slc (fa31 60))]) (vs := [Ix (x.tick), .slice (sla (fa31 60)) ((0 + zs7.length) + zs18.length) (slc (fa31 60))]) rfl rfl) rfl) ?_
        refine l_call rfl rfl rfl (cl_value (fst := []) (cap := []) (vs := [.agg #[Ix (x.tick), .slice (sla (fa31 60)) ((0 + zs7.length) + zs18.length) (slc (fa31 60))]]) (all := [.agg #[Ix (x.tick), .slice (sla (fa31 60)) ((0 + zs7.length) + zs18.length) (slc (fa31 60))]]) tf59 rfl rfl rfl) ?_
        intro w hw
        obtain ⟨β1, sb, kn, hw1, back⟩ := St.frame_all hw
        refine (world_ok β1 w hw1 (⟨x.tick, zs⟩ : KWorld) _ ((Sl.mono _ _ _ _ _ sb hT))).mono ?_
        rintro e w' ⟨rfl, hw'⟩
        refine ⟨_, rfl, _, back _ _ hw', ?_⟩
        clear hw hw1 hw' back kn sb
        refine l_val (v := Ux (worldU (⟨x.tick, es⟩ : KWorld))) rfl rfl rfl (e_move) ?_
        refine l_val (v := .bool (decide (((worldU (⟨x.tick, zs⟩ : KWorld)).toNat : Int) ≠ ((worldU (⟨x.tick, es⟩ : KWorld)).toNat : Int)))) rfl rfl rfl (e_neq (a := ((worldU (⟨x.tick, zs⟩ : KWorld)).toNat : Int)) (b := ((worldU (⟨x.tick, es⟩ : KWorld)).toNat : Int)) rfl rfl) ?_
        refine l_val (v := .bool (decide (((worldU (⟨x.tick, zs⟩ : KWorld)).toNat : Int) ≠ ((worldU (⟨x.tick, es⟩ : KWorld)).toNat : Int)))) rfl rfl rfl (e_move) ?_
        refine l_split (s := 112) (p := ((worldU (⟨x.tick, zs⟩ : KWorld)).toNat : Int) ≠ ((worldU (⟨x.tick, es⟩ : KWorld)).toNat : Int)) rfl (fun h => ?_) (fun h => ?_)
        exact absurd h (fun h => h (by rw [show worldU (⟨x.tick, zs⟩ : KWorld) = worldU (⟨x.tick, es⟩ : KWorld) from ents_turn hp3]))
        refine g_val (v := Ux (worldU (⟨(x.tick), zs47⟩ : KWorld))) rfl rfl rfl rfl rfl (e_move) ?_
        refine g_val (v := Ux (worldU (⟨(-1 : Int), zs51⟩ : KWorld))) rfl rfl rfl rfl rfl (e_move) ?_
        refine g_val (v := Ux ((worldU (⟨(x.tick), zs47⟩ : KWorld)) + (worldU (⟨(-1 : Int), zs51⟩ : KWorld)))) rfl rfl rfl rfl rfl (e_add (a := ((worldU (⟨(x.tick), zs47⟩ : KWorld)).toNat : Int)) (b := ((worldU (⟨(-1 : Int), zs51⟩ : KWorld)).toNat : Int)) rfl rfl (ux_add _ _)) ?_
        refine g_val (v := Ux (worldU (⟨x.tick, es⟩ : KWorld))) rfl rfl rfl rfl rfl (e_move) ?_
        refine g_val (v := .bool (decide ((((worldU (⟨(x.tick), zs47⟩ : KWorld)) + (worldU (⟨(-1 : Int), zs51⟩ : KWorld))).toNat : Int) ≠ ((worldU (⟨x.tick, es⟩ : KWorld)).toNat : Int)))) rfl rfl rfl rfl rfl (e_neq (a := (((worldU (⟨(x.tick), zs47⟩ : KWorld)) + (worldU (⟨(-1 : Int), zs51⟩ : KWorld))).toNat : Int)) (b := ((worldU (⟨x.tick, es⟩ : KWorld)).toNat : Int)) rfl rfl) ?_
        refine l_val (v := .bool (decide ((((worldU (⟨(x.tick), zs47⟩ : KWorld)) + (worldU (⟨(-1 : Int), zs51⟩ : KWorld))).toNat : Int) ≠ ((worldU (⟨x.tick, es⟩ : KWorld)).toNat : Int)))) rfl rfl rfl (e_pick_f rfl) ?_
        refine l_nil ?_
        refine f_then ?_
        refine c_if ((((worldU (⟨(x.tick), zs47⟩ : KWorld)) + (worldU (⟨(-1 : Int), zs51⟩ : KWorld))).toNat : Int) ≠ ((worldU (⟨x.tick, es⟩ : KWorld)).toNat : Int)) rfl (fun hc55 => ?_) (fun hc55 => ?_)
        ·
          exact absurd hc55 (fun h => h (by rw [sums_parts hz48 hz52]))
        ·
          refine c_skip ?_
          refine f_then ?_
          refine c_seq ?_
          refine c_region ?_
          refine l_val (v := .pointer (some ⟨b1, 0, none⟩)) rfl rfl rfl (e_fieldPt (b := b1) (o := 0) rfl tf27) ?_
          refine l_val (v := Ix (x.tick)) rfl rfl rfl (e_load1 tf10 (v := Ix (x.tick)) rfl (k_pt 0 (cs := #[Ix (x.tick), .slice p2 (es.length) (c3)]) (vs := [Ix (x.tick)]) rfl rfl)) ?_
          refine l_call rfl rfl rfl (cl_value (fst := []) (cap := []) (vs := [Ix (x.tick)]) (all := [Ix (x.tick)]) tf28 rfl rfl rfl) ?_
          intro w hw
          obtain ⟨β1, sb, kn, hw1, back⟩ := St.frame_all hw
          refine (tick_ok β1 w hw1 (x.tick)).mono ?_
          rintro e w' ⟨rfl, hw'⟩
          refine ⟨_, rfl, _, back _ _ hw', ?_⟩
          clear hw hw1 hw' back kn sb
          refine l_val (v := Ux (tickU (x.tick))) rfl rfl rfl (e_assign) ?_
          refine l_nil ?_
          refine f_then ?_
          refine c_seq ?_
          refine c_seq ?_
          refine c_region ?_
          refine l_val (v := .pointer (some ⟨b1, 1, none⟩)) rfl rfl rfl (e_fieldPt (b := b1) (o := 0) rfl tf29) ?_
          refine l_val (v := .slice p2 (es.length) (c3)) rfl rfl rfl (e_load1 tf30 (v := .slice p2 (es.length) (c3)) rfl (k_pt 0 (cs := #[Ix (x.tick), .slice p2 (es.length) (c3)]) (vs := [.slice p2 (es.length) (c3)]) rfl rfl)) ?_
          refine l_val (v := Nx (es.length)) rfl rfl rfl (e_len (a := p2) (n := es.length) (c := c3) rfl tf31) ?_
          refine l_val (v := .int .i64 (0)) rfl rfl rfl (e_move) ?_
          refine l_nil ?_
          refine f_then ?_
          refine c_block ?_
          refine c_loop (fun (j : Nat) (f : Fm) (L : List Res) => (f 3 = .pointer (some ⟨b1, 0, none⟩) ∧ f 7 = Ux (worldU (⟨x.tick, es⟩ : KWorld)) ∧ f 9 = Nx (kk) ∧ f 10 = Nx (mm) ∧ f 16 = Ux (entsU (tickU x.tick) (es.take j)) ∧ f 123 = .slice p2 (es.length) (c3) ∧ f 124 = Nx (es.length) ∧ f 125 = Nx (j)) ∧ L = [pt b1 (.cells #[Ix (x.tick), .slice p2 (es.length) (c3)] 24), pt (blk (fa31 11)) (.cells #[Ix (x.tick), .slice (sla (fa31 60)) ((0 + zs7.length) + zs18.length) (slc (fa31 60))] 24)] ∧ (j ≤ es.length)) (fun (j : Nat) => es.length - j) 0 ?_ ?_
          · exact ⟨⟨rfl, rfl, rfl, rfl, rfl, rfl, rfl, rfl⟩, rfl, (by omega)⟩
          rintro j f0 L0 ⟨⟨hs3, hs7, hs9, hs10, hs16, hs123, hs124, hs125⟩, hL, hj⟩
          subst L0
          refine rebase (d := 3) hs3 ?_
          refine rebase (d := 7) hs7 ?_
          refine rebase (d := 9) hs9 ?_
          refine rebase (d := 10) hs10 ?_
          refine rebase (d := 16) hs16 ?_
          refine rebase (d := 123) hs123 ?_
          refine rebase (d := 124) hs124 ?_
          refine rebase (d := 125) hs125 ?_
          clear hs3 hs7 hs9 hs10 hs16 hs123 hs124 hs125
          refine c_seq ?_
          refine c_region ?_
          refine l_val (v := .bool (decide (((j : Nat) : Int) < ((es.length : Nat) : Int)))) rfl rfl rfl (e_lss (a := ((j : Nat) : Int)) (b := ((es.length : Nat) : Int)) rfl rfl) ?_
          refine l_nil ?_
          refine f_then ?_
          refine c_seq ?_
          refine c_if (((j : Nat) : Int) < ((es.length : Nat) : Int)) rfl (fun hc56 => ?_) (fun hc56 => ?_)
          ·
            refine c_skip ?_
            refine f_then ?_
            refine c_seq ?_
            refine c_block ?_
            refine c_seq ?_
            refine c_region ?_
            obtain ⟨x57, hx58⟩ : ∃ x_, (es)[j]? = some x_ := ⟨_, List.getElem?_eq_getElem (by omega)⟩
            obtain ⟨ha59, cs60, hc61, hr62⟩ := p2e _ _ hx58
            obtain ⟨v63, rfl, hv64⟩ := hr62
            obtain ⟨v63a, v63c, rfl, v63l, v63m, v63e⟩ := hv64.get
            refine l_val (v := .pointer (some ((ba p2).add (j * 2)))) rfl rfl rfl (e_indexAddr (k := j) (len := es.length) (cap := c3) (a := p2) rfl rfl tf32 (by omega) ha59) ?_
            refine l_val (v := .agg #[Ix (x57.id), .slice v63a (x57.comps.length) (v63c)]) rfl rfl rfl (e_load tf24 (cs := [Ix (x57.id), .slice v63a (x57.comps.length) (v63c)]) rfl (Knows.of_base (Cs.mono _ _) hc61) rfl) ?_
            refine l_mv rfl rfl rfl (m_alloc tf33) ?_
            rintro _ _ ⟨b65, rfl, rfl⟩
            refine l_mu rfl rfl (m_store 0 tf24 (b := b65) (o := 0) (T := 33) (cs := #[.int .i64 (0), .slice none 0 0]) (cs' := #[Ix (x57.id), .slice v63a (x57.comps.length) (v63c)]) (v := .agg #[Ix (x57.id), .slice v63a (x57.comps.length) (v63c)]) rfl rfl rfl rfl rfl rfl rfl) ?_
            refine l_nil ?_
            refine f_then ?_
            refine c_seq ?_
            refine c_region ?_
            refine l_val (v := Ux (entsU (tickU x.tick) (es.take j))) rfl rfl rfl (e_move) ?_
            refine l_val (v := .agg #[Ix (x57.id), .slice v63a (x57.comps.length) (v63c)]) rfl rfl rfl (e_load tf24 (cs := [Ix (x57.id), .slice v63a (x57.comps.length) (v63c)]) rfl (k_pt 0 (cs := #[Ix (x57.id), .slice v63a (x57.comps.length) (v63c)]) (vs := [Ix (x57.id), .slice v63a (x57.comps.length) (v63c)]) rfl rfl) rfl) ?_
            refine l_call rfl rfl rfl (cl_value (fst := []) (cap := []) (vs := [Ux (entsU (tickU x.tick) (es.take j)), .agg #[Ix (x57.id), .slice v63a (x57.comps.length) (v63c)]]) (all := [Ux (entsU (tickU x.tick) (es.take j)), .agg #[Ix (x57.id), .slice v63a (x57.comps.length) (v63c)]]) tf34 rfl rfl rfl) ?_
            intro w hw
            obtain ⟨β1, sb, kn, hw1, back⟩ := St.frame_all hw
            refine (with_ok β1 w hw1 (entsU (tickU x.tick) (es.take j)) x57 _ (Sl.mono _ _ _ _ _ sb (⟨⟨_, _, rfl, v63l, v63m, v63e⟩⟩ : Sl CompR _ _ x57.comps))).mono ?_
            rintro e w' ⟨rfl, hw'⟩
            refine ⟨_, rfl, _, back _ _ hw', ?_⟩
            clear hw hw1 hw' back kn sb
            refine l_val (v := Ux ((entsU (tickU x.tick) (es.take j)) + entU x57)) rfl rfl rfl (e_assign) ?_
            refine l_nil ?_
            refine f_then ?_
            refine c_seq ?_
            refine c_seq ?_
            refine c_quiet (by kernel_rfl) (by kernel_rfl) ?_
            refine q_val (v := Ux ((entsU (tickU x.tick) (es.take j)) + entU x57)) rfl rfl rfl (e_move) ?_
            refine q_val (v := .agg #[Ix (x57.id), .slice v63a (x57.comps.length) (v63c)]) rfl rfl rfl (e_load tf24 (cs := [Ix (x57.id), .slice v63a (x57.comps.length) (v63c)]) rfl (k_pt 0 (cs := #[Ix (x57.id), .slice v63a (x57.comps.length) (v63c)]) (vs := [Ix (x57.id), .slice v63a (x57.comps.length) (v63c)]) rfl rfl) rfl) ?_
            refine q_call (v := Ux (((entsU (tickU x.tick) (es.take j)) + entU x57) - entU x57)) rfl rfl rfl (cl_value (fst := []) (cap := []) (vs := [Ux ((entsU (tickU x.tick) (es.take j)) + entU x57), .agg #[Ix (x57.id), .slice v63a (x57.comps.length) (v63c)]]) (all := [Ux ((entsU (tickU x.tick) (es.take j)) + entU x57), .agg #[Ix (x57.id), .slice v63a (x57.comps.length) (v63c)]]) tf60 rfl rfl rfl) (fun w hw => ?_) ?_
            · obtain ⟨β1, sb, kn, hw1, back⟩ := St.frame_all hw
              exact (without_ok β1 w hw1 ((entsU (tickU x.tick) (es.take j)) + entU x57) x57 _ (Sl.mono _ _ _ _ _ sb (⟨⟨_, _, rfl, v63l, v63m, v63e⟩⟩ : Sl CompR _ _ x57.comps))).mono (fun e w' ⟨he, hw'⟩ => ⟨he, st_mask [true, true, true] rfl (back _ _ hw')⟩)
            refine q_val (v := Ux (entsU (tickU x.tick) (es.take j))) rfl rfl rfl (e_move) ?_
            refine q_val (v := .bool (decide (((((entsU (tickU x.tick) (es.take j)) + entU x57) - entU x57).toNat : Int) ≠ ((entsU (tickU x.tick) (es.take j)).toNat : Int)))) rfl rfl rfl (e_neq (a := ((((entsU (tickU x.tick) (es.take j)) + entU x57) - entU x57).toNat : Int)) (b := ((entsU (tickU x.tick) (es.take j)).toNat : Int)) rfl rfl) ?_
            refine q_val (v := .bool (decide (((((entsU (tickU x.tick) (es.take j)) + entU x57) - entU x57).toNat : Int) ≠ ((entsU (tickU x.tick) (es.take j)).toNat : Int)))) rfl rfl rfl (e_move) ?_
            refine q_split (s := 137) (p := ((((entsU (tickU x.tick) (es.take j)) + entU x57) - entU x57).toNat : Int) ≠ ((entsU (tickU x.tick) (es.take j)).toNat : Int)) rfl (fun h => ?_) (fun h => ?_)
            exact absurd h (fun h => h (by rw [UInt64.add_sub_cancel]))
            refine qg_val (v := .agg #[Ix (x57.id), .slice v63a (x57.comps.length) (v63c)]) rfl rfl rfl rfl rfl (e_load tf24 (cs := [Ix (x57.id), .slice v63a (x57.comps.length) (v63c)]) rfl (k_pt 0 (cs := #[Ix (x57.id), .slice v63a (x57.comps.length) (v63c)]) (vs := [Ix (x57.id), .slice v63a (x57.comps.length) (v63c)]) rfl rfl) rfl) ?_
            refine qg_call (v := Ux ((0 : UInt64) + entU x57)) rfl rfl rfl rfl rfl (cl_value (fst := []) (cap := []) (vs := [.int .u64 (0), .agg #[Ix (x57.id), .slice v63a (x57.comps.length) (v63c)]]) (all := [.int .u64 (0), .agg #[Ix (x57.id), .slice v63a (x57.comps.length) (v63c)]]) tf34 rfl rfl rfl) (fun w hw => ?_) ?_
            · obtain ⟨β1, sb, kn, hw1, back⟩ := St.frame_all hw
              exact (with_ok β1 w hw1 (0 : UInt64) x57 _ (Sl.mono _ _ _ _ _ sb (⟨⟨_, _, rfl, v63l, v63m, v63e⟩⟩ : Sl CompR _ _ x57.comps))).mono (fun e w' ⟨he, hw'⟩ => ⟨he, st_mask [true, true, true] rfl (back _ _ hw')⟩)
            refine qg_val (v := .agg #[Ix (x57.id), .slice v63a (x57.comps.length) (v63c)]) rfl rfl rfl rfl rfl (e_load tf24 (cs := [Ix (x57.id), .slice v63a (x57.comps.length) (v63c)]) rfl (k_pt 0 (cs := #[Ix (x57.id), .slice v63a (x57.comps.length) (v63c)]) (vs := [Ix (x57.id), .slice v63a (x57.comps.length) (v63c)]) rfl rfl) rfl) ?_
            refine qg_call (v := Ux (entU x57)) rfl rfl rfl rfl rfl (cl_value (fst := []) (cap := []) (vs := [.agg #[Ix (x57.id), .slice v63a (x57.comps.length) (v63c)]]) (all := [.agg #[Ix (x57.id), .slice v63a (x57.comps.length) (v63c)]]) tf26 rfl rfl rfl) (fun w hw => ?_) ?_
            · obtain ⟨β1, sb, kn, hw1, back⟩ := St.frame_all hw
              exact (entity_ok β1 w hw1 x57 _ (Sl.mono _ _ _ _ _ sb (⟨⟨_, _, rfl, v63l, v63m, v63e⟩⟩ : Sl CompR _ _ x57.comps))).mono (fun e w' ⟨he, hw'⟩ => ⟨he, st_mask [true, true, true] rfl (back _ _ hw')⟩)
            refine qg_val (v := .bool (decide ((((0 : UInt64) + entU x57).toNat : Int) ≠ ((entU x57).toNat : Int)))) rfl rfl rfl rfl rfl (e_neq (a := (((0 : UInt64) + entU x57).toNat : Int)) (b := ((entU x57).toNat : Int)) rfl rfl) ?_
            refine q_val (v := .bool (decide ((((0 : UInt64) + entU x57).toNat : Int) ≠ ((entU x57).toNat : Int)))) rfl rfl rfl (e_pick_f rfl) ?_
            refine q_nil ?_
            refine f_then ?_
            refine c_if ((((0 : UInt64) + entU x57).toNat : Int) ≠ ((entU x57).toNat : Int)) rfl (fun hc66 => ?_) (fun hc66 => ?_)
            ·
              exact absurd hc66 (fun h => h (by rw [UInt64.zero_add]))
            ·
              refine c_skip ?_
              refine f_then ?_
              refine c_region ?_
              refine l_val (v := Ux ((entsU (tickU x.tick) (es.take j)) + entU x57)) rfl rfl rfl (e_move) ?_
              refine l_val (v := Ux ((entsU (tickU x.tick) (es.take j)) + entU x57)) rfl rfl rfl (e_assign) ?_
              refine l_nil ?_
              refine f_block ?_
              refine f_then ?_
              refine c_region ?_
              refine l_val (v := Nx (j + 1)) rfl rfl rfl (e_add (a := ((j : Nat) : Int)) (b := (1 : Int)) rfl rfl (i64n (by omega) (by omega))) ?_
              refine l_val (v := Nx (j + 1)) rfl rfl rfl (e_move) ?_
              refine l_nil ?_
              refine f_mask (L' := [pt b1 (.cells #[Ix (x.tick), .slice p2 (es.length) (c3)] 24), pt (blk (fa31 11)) (.cells #[Ix (x.tick), .slice (sla (fa31 60)) ((0 + zs7.length) + zs18.length) (slc (fa31 60))] 24)]) [false, true, true] rfl ?_
              exact f_cut ⟨j + 1, ⟨⟨rfl, rfl, rfl, rfl, congrArg (fun z => Ux z) (entsU_snoc hx58).symm, rfl, rfl, rfl⟩, rfl, (by omega)⟩, (show es.length - (j + 1) < es.length - j from by omega)⟩
          ·
            refine c_exit ?_
            refine f_then_exit ?_
            refine f_then_exit ?_
            refine f_exit ?_
            refine f_then ?_
            refine c_seq ?_
            obtain ⟨x67, hx68⟩ : ∃ x_, (es)[kk]? = some x_ := ⟨_, List.getElem?_eq_getElem (by omega)⟩
            obtain ⟨ha69, cs70, hc71, hr72⟩ := p2e _ _ hx68
            obtain ⟨v73, rfl, hv74⟩ := hr72
            obtain ⟨v73a, v73c, rfl, v73l, v73m, v73e⟩ := hv74.get
            obtain ⟨x75, hx76⟩ : ∃ x_, (es)[mm]? = some x_ := ⟨_, List.getElem?_eq_getElem (by omega)⟩
            obtain ⟨ha77, cs78, hc79, hr80⟩ := p2e _ _ hx76
            obtain ⟨v81, rfl, hv82⟩ := hr80
            obtain ⟨v81a, v81c, rfl, v81l, v81m, v81e⟩ := hv82.get
            refine c_any [⟨[], [], [0], [146], fun f => f 146 = .pointer (some ⟨b1, 1, none⟩)⟩, ⟨[0], [0], [], [147], fun f => f 147 = .slice p2 (es.length) (c3)⟩, ⟨[], [], [1], [148], fun f => f 148 = Nx (kk)⟩, ⟨[0, 1, 2], [1, 2], [], [149], fun f => f 149 = .pointer (some ((ba p2).add (kk * 2)))⟩, ⟨[0, 1, 2, 3], [3], [], [150], fun f => f 150 = .agg #[Ix (x67.id), .slice v73a (x67.comps.length) (v73c)]⟩, ⟨[], [], [0], [151], fun f => f 151 = .pointer (some ⟨b1, 1, none⟩)⟩, ⟨[5], [5], [], [152], fun f => f 152 = .slice p2 (es.length) (c3)⟩, ⟨[], [], [2], [153], fun f => f 153 = Nx (mm)⟩, ⟨[5, 6, 7], [6, 7], [], [154], fun f => f 154 = .pointer (some ((ba p2).add (mm * 2)))⟩, ⟨[5, 6, 7, 8], [8], [], [155], fun f => f 155 = .agg #[Ix (x75.id), .slice v81a (x75.comps.length) (v81c)]⟩, ⟨[], [], [], [20], fun f => f 20 = .pointer (some ⟨(blk (f 20)), 0, none⟩)⟩, ⟨[], [], [], [21], fun f => f 21 = .pointer (some ⟨(blk (f 21)), 0, none⟩)⟩, ⟨[0, 1, 2, 3, 4, 10, 11], [10, 4], [], [], fun _ => True⟩, ⟨[0, 1, 2, 3, 4, 5, 6, 7, 8, 9, 10, 11, 12], [11, 9], [], [], fun _ => True⟩] [⟨none, none, [1, 6], [], fun _ => pt b1 (.cells #[Ix (x.tick), .slice p2 (es.length) (c3)] 24)⟩, ⟨none, none, [], [], fun _ => pt (blk (fa31 11)) (.cells #[Ix (x.tick), .slice (sla (fa31 60)) ((0 + zs7.length) + zs18.length) (slc (fa31 60))] 24)⟩, ⟨(some 10), (some 12), [12], [20], fun f => pt (blk (f 20)) (.cells #[.int .i64 (0), .slice none 0 0] 33)⟩, ⟨(some 11), (some 13), [13], [21], fun f => pt (blk (f 21)) (.cells #[.int .i64 (0), .slice none 0 0] 33)⟩, ⟨(some 12), none, [], [20], fun f => pt (blk (f 20)) (.cells #[Ix (x67.id), .slice v73a (x67.comps.length) (v73c)] 33)⟩, ⟨(some 13), none, [], [21], fun f => pt (blk (f 21)) (.cells #[Ix (x75.id), .slice v81a (x75.comps.length) (v81c)] 33)⟩] [(3, .pointer (some ⟨b1, 0, none⟩)), (9, Nx (kk)), (10, Nx (mm)), (7, Ux (worldU (⟨x.tick, es⟩ : KWorld))), (16, Ux (entsU (tickU x.tick) (es.take j)))] [0, 3, 1, 4] [] (by kernel_rfl) (by kernel_rfl) (by kernel_rfl) (by kernel_rfl) rfl ⟨rfl, rfl, rfl, rfl, rfl, trivial⟩ ⟨?_, ?_, ?_, ?_, ?_, ?_, ?_, ?_, ?_, ?_, ?_, ?_, ?_, ?_, trivial⟩ ?_
            · rintro f M - ⟨i0, -⟩
              have hs3 : f 3 = .pointer (some ⟨b1, 0, none⟩) := i0
              refine ob_start (L' := M) (by rfl) (up_cons rfl hs3) ?_
              refine l_val (v := .pointer (some ⟨b1, 1, none⟩)) rfl rfl rfl (e_fieldPt (b := b1) (o := 0) rfl tf29) ?_
              refine l_nil ?_
              exact f_owes_d (up_cons rfl hs3) rfl (List.Perm.refl _)
            · rintro f M ⟨k0, -⟩ -
              have hs146 : f 146 = .pointer (some ⟨b1, 1, none⟩) := k0
              refine ob_start (L' := pt b1 (.cells #[Ix (x.tick), .slice p2 (es.length) (c3)] 24) :: M) (by rfl) (up_cons rfl hs146) ?_
              refine l_val (v := .slice p2 (es.length) (c3)) rfl rfl rfl (e_load1 tf30 (v := .slice p2 (es.length) (c3)) rfl (k_pt 0 (cs := #[Ix (x.tick), .slice p2 (es.length) (c3)]) (vs := [.slice p2 (es.length) (c3)]) rfl rfl)) ?_
              refine l_nil ?_
              exact f_owes_d (up_cons rfl hs146) rfl (perm_front 0 rfl)
            · rintro f M - ⟨i0, -⟩
              have hs9 : f 9 = Nx (kk) := i0
              refine ob_start (L' := M) (by rfl) (up_cons rfl hs9) ?_
              refine l_val (v := Nx (kk)) rfl rfl rfl (e_move) ?_
              refine l_nil ?_
              exact f_owes_d (up_cons rfl hs9) rfl (List.Perm.refl _)
            · rintro f M ⟨k0, k1, -⟩ -
              have hs147 : f 147 = .slice p2 (es.length) (c3) := k0
              have hs148 : f 148 = Nx (kk) := k1
              refine ob_start (L' := M) (by rfl) (up_cons (up_cons rfl hs147) hs148) ?_
              refine l_val (v := .pointer (some ((ba p2).add (kk * 2)))) rfl rfl rfl (e_indexAddr (k := kk) (len := es.length) (cap := c3) (a := p2) rfl rfl tf32 (by omega) ha69) ?_
              refine l_nil ?_
              exact f_owes_d (up_cons (up_cons rfl hs147) hs148) rfl (List.Perm.refl _)
            · rintro f M ⟨k0, -⟩ -
              have hs149 : f 149 = .pointer (some ((ba p2).add (kk * 2))) := k0
              refine ob_start (L' := M) (by rfl) (up_cons rfl hs149) ?_
              refine l_val (v := .agg #[Ix (x67.id), .slice v73a (x67.comps.length) (v73c)]) rfl rfl rfl (e_load tf24 (cs := [Ix (x67.id), .slice v73a (x67.comps.length) (v73c)]) rfl (Knows.of_base (Cs.mono _ _) hc71) rfl) ?_
              refine l_nil ?_
              exact f_owes_d (up_cons rfl hs149) rfl (List.Perm.refl _)
            · rintro f M - ⟨i0, -⟩
              have hs3 : f 3 = .pointer (some ⟨b1, 0, none⟩) := i0
              refine ob_start (L' := M) (by rfl) (up_cons rfl hs3) ?_
              refine l_val (v := .pointer (some ⟨b1, 1, none⟩)) rfl rfl rfl (e_fieldPt (b := b1) (o := 0) rfl tf29) ?_
              refine l_nil ?_
              exact f_owes_d (up_cons rfl hs3) rfl (List.Perm.refl _)
            · rintro f M ⟨k0, -⟩ -
              have hs151 : f 151 = .pointer (some ⟨b1, 1, none⟩) := k0
              refine ob_start (L' := pt b1 (.cells #[Ix (x.tick), .slice p2 (es.length) (c3)] 24) :: M) (by rfl) (up_cons rfl hs151) ?_
              refine l_val (v := .slice p2 (es.length) (c3)) rfl rfl rfl (e_load1 tf30 (v := .slice p2 (es.length) (c3)) rfl (k_pt 0 (cs := #[Ix (x.tick), .slice p2 (es.length) (c3)]) (vs := [.slice p2 (es.length) (c3)]) rfl rfl)) ?_
              refine l_nil ?_
              exact f_owes_d (up_cons rfl hs151) rfl (perm_front 0 rfl)
            · rintro f M - ⟨i0, -⟩
              have hs10 : f 10 = Nx (mm) := i0
              refine ob_start (L' := M) (by rfl) (up_cons rfl hs10) ?_
              refine l_val (v := Nx (mm)) rfl rfl rfl (e_move) ?_
              refine l_nil ?_
              exact f_owes_d (up_cons rfl hs10) rfl (List.Perm.refl _)
            · rintro f M ⟨k0, k1, -⟩ -
              have hs152 : f 152 = .slice p2 (es.length) (c3) := k0
              have hs153 : f 153 = Nx (mm) := k1
              refine ob_start (L' := M) (by rfl) (up_cons (up_cons rfl hs152) hs153) ?_
              refine l_val (v := .pointer (some ((ba p2).add (mm * 2)))) rfl rfl rfl (e_indexAddr (k := mm) (len := es.length) (cap := c3) (a := p2) rfl rfl tf32 (by omega) ha77) ?_
              refine l_nil ?_
              exact f_owes_d (up_cons (up_cons rfl hs152) hs153) rfl (List.Perm.refl _)
            · rintro f M ⟨k0, -⟩ -
              have hs154 : f 154 = .pointer (some ((ba p2).add (mm * 2))) := k0
              refine ob_start (L' := M) (by rfl) (up_cons rfl hs154) ?_
              refine l_val (v := .agg #[Ix (x75.id), .slice v81a (x75.comps.length) (v81c)]) rfl rfl rfl (e_load tf24 (cs := [Ix (x75.id), .slice v81a (x75.comps.length) (v81c)]) rfl (Knows.of_base (Cs.mono _ _) hc79) rfl) ?_
              refine l_nil ?_
              exact f_owes_d (up_cons rfl hs154) rfl (List.Perm.refl _)
            · rintro f M - -
              refine ob_start (L' := M) (by rfl) rfl ?_
              refine l_mv rfl rfl rfl (m_alloc tf33) ?_
              rintro _ _ ⟨b84, rfl, rfl⟩
              refine l_nil ?_
              exact f_owes_d rfl rfl (perm_front 0 rfl)
            · rintro f M - -
              refine ob_start (L' := M) (by rfl) rfl ?_
              refine l_mv rfl rfl rfl (m_alloc tf33) ?_
              rintro _ _ ⟨b86, rfl, rfl⟩
              refine l_nil ?_
              exact f_owes_d rfl rfl (perm_front 0 rfl)
            · rintro f M ⟨k0, k1, -⟩ -
              have hs20 : f 20 = .pointer (some ⟨(blk (f 20)), 0, none⟩) := k0
              have hs150 : f 150 = .agg #[Ix (x67.id), .slice v73a (x67.comps.length) (v73c)] := k1
              refine ob_start (L' := pt (blk (f 20)) (.cells #[.int .i64 (0), .slice none 0 0] 33) :: M) (by rfl) (up_cons (up_cons rfl hs20) hs150) ?_
              refine l_mu rfl rfl (m_store 0 tf24 (b := (blk (f 20))) (o := 0) (T := 33) (cs := #[.int .i64 (0), .slice none 0 0]) (cs' := #[Ix (x67.id), .slice v73a (x67.comps.length) (v73c)]) (v := .agg #[Ix (x67.id), .slice v73a (x67.comps.length) (v73c)]) rfl rfl rfl rfl rfl rfl rfl) ?_
              refine l_nil ?_
              exact f_owes_n (up_cons (up_cons rfl hs20) hs150) trivial (perm_front 0 rfl)
            · rintro f M ⟨k0, k1, -⟩ -
              have hs21 : f 21 = .pointer (some ⟨(blk (f 21)), 0, none⟩) := k0
              have hs155 : f 155 = .agg #[Ix (x75.id), .slice v81a (x75.comps.length) (v81c)] := k1
              refine ob_start (L' := pt (blk (f 21)) (.cells #[.int .i64 (0), .slice none 0 0] 33) :: M) (by rfl) (up_cons (up_cons rfl hs21) hs155) ?_
              refine l_mu rfl rfl (m_store 0 tf24 (b := (blk (f 21))) (o := 0) (T := 33) (cs := #[.int .i64 (0), .slice none 0 0]) (cs' := #[Ix (x75.id), .slice v81a (x75.comps.length) (v81c)]) (v := .agg #[Ix (x75.id), .slice v81a (x75.comps.length) (v81c)]) rfl rfl rfl rfl rfl rfl rfl) ?_
              refine l_nil ?_
              exact f_owes_n (up_cons (up_cons rfl hs21) hs155) trivial (perm_front 0 rfl)
            rintro fa87 ⟨-, -, -, -, -, -, -, -, -, -, k10, k11, -, -, -⟩ ⟨j0, j1, j2, j3, -⟩
            refine f_re (L' := [pt b1 (.cells #[Ix (x.tick), .slice p2 (es.length) (c3)] 24), pt (blk (fa31 11)) (.cells #[Ix (x.tick), .slice (sla (fa31 60)) ((0 + zs7.length) + zs18.length) (slc (fa31 60))] 24), pt (blk (fa87 20)) (.cells #[Ix (x67.id), .slice v73a (x67.comps.length) (v73c)] 33), pt (blk (fa87 21)) (.cells #[Ix (x75.id), .slice v81a (x75.comps.length) (v81c)] 33)]) (by rfl) ?_
            refine f_rebase (d := 3) (v := .pointer (some ⟨b1, 0, none⟩)) j0 ?_
            refine f_rebase (d := 7) (v := Ux (worldU (⟨x.tick, es⟩ : KWorld))) j1 ?_
            refine f_rebase (d := 9) (v := Nx (kk)) j2 ?_
            refine f_rebase (d := 16) (v := Ux (entsU (tickU x.tick) (es.take j))) j3 ?_
            refine f_rebase (d := 20) (v := .pointer (some ⟨(blk (fa87 20)), 0, none⟩)) k10 ?_
            refine f_rebase (d := 21) (v := .pointer (some ⟨(blk (fa87 21)), 0, none⟩)) k11 ?_
            refine f_then ?_
            refine c_seq ?_
            refine c_region ?_
            refine l_val (v := .agg #[Ix (x.tick), .slice p2 (es.length) (c3)]) rfl rfl rfl (e_load tf46 (cs := [Ix (x.tick), .slice p2 (es.length) (c3)]) rfl (k_pt 0 (cs := #[Ix (x.tick), .slice p2 (es.length) (c3)]) (vs := [Ix (x.tick), .slice p2 (es.length) (c3)]) rfl rfl) rfl) ?_
            refine l_call rfl rfl rfl (cl_value (fst := []) (cap := []) (vs := [.agg #[Ix (x.tick), .slice p2 (es.length) (c3)]]) (all := [.agg #[Ix (x.tick), .slice p2 (es.length) (c3)]]) tf74 rfl rfl rfl) ?_
            intro w hw
            obtain ⟨β1, sb, kn, hw1, back⟩ := St.frame_all hw
            refine (copyWorld_ok β1 w hw1 (⟨x.tick, es⟩ : KWorld) _ (Sl.mono _ _ _ _ _ sb (⟨⟨_, _, rfl, p2l, p2m, p2e⟩⟩ : Sl EntR _ _ es)) (show es.length * 32 ≤ 140737488355328 by omega) (fun i e he => by have := hesb i e he; omega)).mono ?_
            rintro e w' ⟨p88, c89, vs90, rfl, hvs, hw'⟩
            refine ⟨_, rfl, _, St.perm (L' := row (.slice p88 (es.length) c89) 33 2 (es.length) ((entCells vs90 es)) :: pt b1 (.cells #[Ix (x.tick), .slice p2 (es.length) (c3)] 24) :: pt (blk (fa31 11)) (.cells #[Ix (x.tick), .slice (sla (fa31 60)) ((0 + zs7.length) + zs18.length) (slc (fa31 60))] 24) :: pt (blk (fa87 20)) (.cells #[Ix (x67.id), .slice v73a (x67.comps.length) (v73c)] 33) :: pt (blk (fa87 21)) (.cells #[Ix (x75.id), .slice v81a (x75.comps.length) (v81c)] 33) :: (compRows vs90 es)) (back _ _ hw') (List.Perm.cons _ List.perm_append_comm), ?_⟩
            clear hw hw1 hw' back kn sb
            replace hvs : vs90.length = es.length := hvs
            refine l_mv rfl rfl rfl (m_alloc tf49) ?_
            rintro _ _ ⟨b91, rfl, rfl⟩
            refine l_mu rfl rfl (m_store 0 tf46 (b := b91) (o := 0) (T := 24) (cs := #[.int .i64 (0), .slice none 0 0]) (cs' := #[Ix (x.tick), .slice p88 (es.length) c89]) (v := .agg #[Ix (x.tick), .slice p88 (es.length) c89]) rfl rfl rfl rfl rfl rfl rfl) ?_
            refine l_nil ?_
            refine f_then ?_
            refine c_seq ?_
            refine c_region ?_
            refine l_val (v := .pointer (some ⟨b91, 1, none⟩)) rfl rfl rfl (e_fieldPt (b := b91) (o := 0) rfl tf29) ?_
            refine l_val (v := .slice p88 (es.length) c89) rfl rfl rfl (e_load1 tf30 (v := .slice p88 (es.length) c89) rfl (k_pt 0 (cs := #[Ix (x.tick), .slice p88 (es.length) c89]) (vs := [.slice p88 (es.length) c89]) rfl rfl)) ?_
            refine l_val (v := Nx (kk)) rfl rfl rfl (e_move) ?_
            refine l_val (v := .agg #[Ix (x75.id), .slice v81a (x75.comps.length) (v81c)]) rfl rfl rfl (e_load tf24 (cs := [Ix (x75.id), .slice v81a (x75.comps.length) (v81c)]) rfl (k_pt 5 (cs := #[Ix (x75.id), .slice v81a (x75.comps.length) (v81c)]) (vs := [Ix (x75.id), .slice v81a (x75.comps.length) (v81c)]) rfl rfl) rfl) ?_
            refine l_val (v := .pointer (some ((ba p88).add (kk * 2)))) rfl rfl rfl (e_indexRow 1 (j := kk) (len := es.length) (cap := c89) (p := p88) rfl rfl tf32 (by omega) (by omega) rfl) ?_
            refine l_mu rfl rfl (m_storeRow 1 tf24 (o := kk * 2) (v := .agg #[Ix (x75.id), .slice v81a (x75.comps.length) (v81c)]) rfl rfl rfl rfl rfl (by omega) (by omega)) ?_
            refine l_nil ?_
            refine f_then ?_
            refine c_seq ?_
            refine c_perm (L' := (pt b91 (.cells #[Ix (x.tick), .slice p88 (es.length) c89] 24) :: pt b1 (.cells #[Ix (x.tick), .slice p2 (es.length) (c3)] 24) :: pt (blk (fa31 11)) (.cells #[Ix (x.tick), .slice (sla (fa31 60)) ((0 + zs7.length) + zs18.length) (slc (fa31 60))] 24) :: pt (blk (fa87 20)) (.cells #[Ix (x67.id), .slice v73a (x67.comps.length) (v73c)] 33) :: pt (blk (fa87 21)) (.cells #[Ix (x75.id), .slice v81a (x75.comps.length) (v81c)] 33) :: row (.slice p88 (es.length) c89) 33 2 (es.length) ((overL (entCells vs90 es) (kk * 2) [Ix (x75.id), .slice v81a (x75.comps.length) (v81c)])) :: (compRows vs90 es))) ((((((perm_front 1 rfl).trans (perm_front 5 rfl)).trans (perm_front 5 rfl)).trans (perm_front 5 rfl)).trans (perm_front 5 rfl)).trans (perm_front 5 rfl)) ?_
            refine c_freeze2 (M := [pt b91 (.cells #[Ix (x.tick), .slice p88 (es.length) c89] 24), pt b1 (.cells #[Ix (x.tick), .slice p2 (es.length) (c3)] 24), pt (blk (fa31 11)) (.cells #[Ix (x.tick), .slice (sla (fa31 60)) ((0 + zs7.length) + zs18.length) (slc (fa31 60))] 24), pt (blk (fa87 20)) (.cells #[Ix (x67.id), .slice v73a (x67.comps.length) (v73c)] 33), pt (blk (fa87 21)) (.cells #[Ix (x75.id), .slice v81a (x75.comps.length) (v81c)] 33)]) (K := (row (.slice p88 (es.length) c89) 33 2 (es.length) ((overL (entCells vs90 es) (kk * 2) [Ix (x75.id), .slice v81a (x75.comps.length) (v81c)])) :: (compRows vs90 es))) rfl (fun β₃ ext₃ kn₃ backkn₃ => ?_)
            have hC := comp_facts hvs (fun F hF => kn₃ F (fun h hs hr => hF h hs fun r hr' => hr r (List.mem_cons_of_mem _ hr')))
            obtain ⟨ra, hra, hrr⟩ := kn₃ (fun h => ∃ a, Sub a h ∧ row (.slice p88 (es.length) c89) 33 2 (es.length) ((overL (entCells vs90 es) (kk * 2) [Ix (x75.id), .slice v81a (x75.comps.length) (v81c)])) a) (fun h hs hr => hr _ List.mem_cons_self)
            replace p2e := Elems.mono EntR _ _ _ _ ext₃.sub p2e
            replace hT := Sl.mono EntR _ _ _ _ ext₃.sub hT
            replace v73e := Elems.mono CompR _ _ _ _ ext₃.sub v73e
            replace v81e := Elems.mono CompR _ _ _ _ ext₃.sub v81e
            have hlt := (List.getElem?_eq_some_iff.1 hx68).1
            have hR := row_ents hra (by have h := hrr; rw [over_ent (e' := x75) rfl (us := vs90) (List.getElem?_eq_getElem (by omega)) hx68] at h; exact h) (EGood.set ⟨hvs, hC⟩ _ (⟨⟨_, _, rfl, v81l, v81m, v81e⟩⟩ : Sl CompR _ _ x75.comps)) (by simp)
            refine c_quiet (by kernel_rfl) (by kernel_rfl) ?_
            refine q_val (v := Ux (entsU (tickU x.tick) (es.take j))) rfl rfl rfl (e_move) ?_
            refine q_val (v := Ux (worldU (⟨x.tick, es⟩ : KWorld))) rfl rfl rfl (e_move) ?_
            refine q_val (v := .bool (decide (((entsU (tickU x.tick) (es.take j)).toNat : Int) = ((worldU (⟨x.tick, es⟩ : KWorld)).toNat : Int)))) rfl rfl rfl (e_eql (a := ((entsU (tickU x.tick) (es.take j)).toNat : Int)) (b := ((worldU (⟨x.tick, es⟩ : KWorld)).toNat : Int)) rfl rfl) ?_
            refine q_val (v := .bool (decide (((entsU (tickU x.tick) (es.take j)).toNat : Int) = ((worldU (⟨x.tick, es⟩ : KWorld)).toNat : Int)))) rfl rfl rfl (e_move) ?_
            refine q_split (s := 166) (p := ((entsU (tickU x.tick) (es.take j)).toNat : Int) = ((worldU (⟨x.tick, es⟩ : KWorld)).toNat : Int)) rfl (fun h => ?_) (fun h => ?_)
            rotate_left; exact absurd (by rw [List.take_of_length_le (show es.length ≤ j by omega)]; rfl) h
            refine qg_val (v := .agg #[Ix (x.tick), .slice p88 (es.length) c89]) rfl rfl rfl rfl rfl (e_load tf46 (cs := [Ix (x.tick), .slice p88 (es.length) c89]) rfl (k_pt 0 (cs := #[Ix (x.tick), .slice p88 (es.length) c89]) (vs := [Ix (x.tick), .slice p88 (es.length) c89]) rfl rfl) rfl) ?_
            refine qg_call (v := Ux (worldU (⟨x.tick, es.set kk x75⟩ : KWorld))) rfl rfl rfl rfl rfl (cl_value (fst := []) (cap := []) (vs := [.agg #[Ix (x.tick), .slice p88 (es.length) c89]]) (all := [.agg #[Ix (x.tick), .slice p88 (es.length) c89]]) tf59 rfl rfl rfl) (fun w hw => ?_) ?_
            · obtain ⟨β1, sb, kn, hw1, back⟩ := St.frame_all hw
              exact (world_ok β1 w hw1 (⟨x.tick, es.set kk x75⟩ : KWorld) _ ((Sl.mono _ _ _ _ _ sb hR))).mono (fun e w' ⟨he, hw'⟩ => ⟨he, st_mask [true, true, true, true, true] rfl (back _ _ hw')⟩)
            refine qg_val (v := Ux (worldU (⟨x.tick, es⟩ : KWorld))) rfl rfl rfl rfl rfl (e_move) ?_
            refine qg_val (v := .agg #[Ix (x67.id), .slice v73a (x67.comps.length) (v73c)]) rfl rfl rfl rfl rfl (e_load tf24 (cs := [Ix (x67.id), .slice v73a (x67.comps.length) (v73c)]) rfl (k_pt 3 (cs := #[Ix (x67.id), .slice v73a (x67.comps.length) (v73c)]) (vs := [Ix (x67.id), .slice v73a (x67.comps.length) (v73c)]) rfl rfl) rfl) ?_
            refine qg_call (v := Ux ((worldU (⟨x.tick, es⟩ : KWorld)) - entU x67)) rfl rfl rfl rfl rfl (cl_value (fst := []) (cap := []) (vs := [Ux (worldU (⟨x.tick, es⟩ : KWorld)), .agg #[Ix (x67.id), .slice v73a (x67.comps.length) (v73c)]]) (all := [Ux (worldU (⟨x.tick, es⟩ : KWorld)), .agg #[Ix (x67.id), .slice v73a (x67.comps.length) (v73c)]]) tf60 rfl rfl rfl) (fun w hw => ?_) ?_
            · obtain ⟨β1, sb, kn, hw1, back⟩ := St.frame_all hw
              exact (without_ok β1 w hw1 (worldU (⟨x.tick, es⟩ : KWorld)) x67 _ (Sl.mono _ _ _ _ _ sb (⟨⟨_, _, rfl, v73l, v73m, v73e⟩⟩ : Sl CompR _ _ x67.comps))).mono (fun e w' ⟨he, hw'⟩ => ⟨he, st_mask [true, true, true, true, true] rfl (back _ _ hw')⟩)
            refine qg_val (v := .agg #[Ix (x75.id), .slice v81a (x75.comps.length) (v81c)]) rfl rfl rfl rfl rfl (e_load tf24 (cs := [Ix (x75.id), .slice v81a (x75.comps.length) (v81c)]) rfl (k_pt 4 (cs := #[Ix (x75.id), .slice v81a (x75.comps.length) (v81c)]) (vs := [Ix (x75.id), .slice v81a (x75.comps.length) (v81c)]) rfl rfl) rfl) ?_
            refine qg_call (v := Ux (((worldU (⟨x.tick, es⟩ : KWorld)) - entU x67) + entU x75)) rfl rfl rfl rfl rfl (cl_value (fst := []) (cap := []) (vs := [Ux ((worldU (⟨x.tick, es⟩ : KWorld)) - entU x67), .agg #[Ix (x75.id), .slice v81a (x75.comps.length) (v81c)]]) (all := [Ux ((worldU (⟨x.tick, es⟩ : KWorld)) - entU x67), .agg #[Ix (x75.id), .slice v81a (x75.comps.length) (v81c)]]) tf34 rfl rfl rfl) (fun w hw => ?_) ?_
            · obtain ⟨β1, sb, kn, hw1, back⟩ := St.frame_all hw
              exact (with_ok β1 w hw1 ((worldU (⟨x.tick, es⟩ : KWorld)) - entU x67) x75 _ (Sl.mono _ _ _ _ _ sb (⟨⟨_, _, rfl, v81l, v81m, v81e⟩⟩ : Sl CompR _ _ x75.comps))).mono (fun e w' ⟨he, hw'⟩ => ⟨he, st_mask [true, true, true, true, true] rfl (back _ _ hw')⟩)
            refine qg_val (v := .bool (decide (((worldU (⟨x.tick, es.set kk x75⟩ : KWorld)).toNat : Int) = ((((worldU (⟨x.tick, es⟩ : KWorld)) - entU x67) + entU x75).toNat : Int)))) rfl rfl rfl rfl rfl (e_eql (a := ((worldU (⟨x.tick, es.set kk x75⟩ : KWorld)).toNat : Int)) (b := ((((worldU (⟨x.tick, es⟩ : KWorld)) - entU x67) + entU x75).toNat : Int)) rfl rfl) ?_
            refine q_val (v := .bool (decide (((worldU (⟨x.tick, es.set kk x75⟩ : KWorld)).toNat : Int) = ((((worldU (⟨x.tick, es⟩ : KWorld)) - entU x67) + entU x75).toNat : Int)))) rfl rfl rfl (e_pick_t rfl) ?_
            refine q_val (v := .bool (decide (((worldU (⟨x.tick, es.set kk x75⟩ : KWorld)).toNat : Int) = ((((worldU (⟨x.tick, es⟩ : KWorld)) - entU x67) + entU x75).toNat : Int)))) rfl rfl rfl (e_move) ?_
            refine q_split (s := 176) (p := ((worldU (⟨x.tick, es.set kk x75⟩ : KWorld)).toNat : Int) = ((((worldU (⟨x.tick, es⟩ : KWorld)) - entU x67) + entU x75).toNat : Int)) rfl (fun h => ?_) (fun h => ?_)
            rotate_left; exact absurd (by rw [sums_set hx68]) h
            refine qg_call (v := .bool true) rfl rfl rfl rfl rfl (cl_value (fst := []) (cap := []) (vs := []) (all := []) tf63 rfl rfl rfl) (fun w hw => ?_) ?_
            · obtain ⟨β1, sb, kn, hw1, back⟩ := St.frame_all hw
              exact (awake_ok β1 w hw1).mono (fun e w' ⟨he, hw'⟩ => ⟨he, st_mask [true, true, true, true, true] rfl (back _ _ hw')⟩)
            refine q_val (v := .bool true) rfl rfl rfl (e_pick_t rfl) ?_
            refine q_val (v := .bool true) rfl rfl rfl (e_assign) ?_
            refine q_nil ?_
            refine f_then ?_
            refine c_ret ?_
            refine ret1 Try.results5 (v := .bool true) rfl ?_
            intro w hw
            exact ⟨rfl, St.weaken ext₁ (St.weaken ext₂ (St.weaken ext₃ (st_mask [false, false, false, false, false] rfl hw)))⟩
    ·
      refine l_skip rfl rfl rfl rfl rfl rfl ?_
      refine l_skip rfl rfl rfl rfl rfl rfl ?_
      refine l_skip rfl rfl rfl rfl rfl rfl ?_
      refine l_val (v := .bool false) rfl rfl rfl (e_pick_f rfl) ?_
      refine l_nil ?_
      refine f_then ?_
      refine c_no rfl ?_
      refine c_exit ?_
      refine f_then_exit ?_
      refine f_then_exit ?_
      refine f_exit ?_
      refine f_then ?_
      refine c_seq ?_
      refine c_perm (L' := [pt b1 (.cells #[Ix (x.tick), .slice p2 (es.length) (c3)] 24), pt (blk (fa31 11)) (.cells #[Ix (x.tick), .slice (sla (fa31 60)) ((0 + zs7.length) + zs18.length) (slc (fa31 60))] 24), row (.slice (sla (fa31 60)) ((0 + zs7.length) + zs18.length) (slc (fa31 60))) 33 2 ((0 + zs7.length) + zs18.length) ((entCells us zs))]) (((perm_front 1 rfl).trans (perm_front 2 rfl)).trans (perm_front 2 rfl)) ?_
      refine c_freeze (M := [pt b1 (.cells #[Ix (x.tick), .slice p2 (es.length) (c3)] 24), pt (blk (fa31 11)) (.cells #[Ix (x.tick), .slice (sla (fa31 60)) ((0 + zs7.length) + zs18.length) (slc (fa31 60))] 24)]) (K := [row (.slice (sla (fa31 60)) ((0 + zs7.length) + zs18.length) (slc (fa31 60))) 33 2 ((0 + zs7.length) + zs18.length) ((entCells us zs))]) rfl (fun β₂ ext₂ kn₂ => ?_)
      have hT := kn₂ _ (k_row_ents 0 rfl hp2 (by omega))
      replace p2e := Elems.mono EntR _ _ _ _ ext₂.sub p2e
      refine c_quiet (by kernel_rfl) (by kernel_rfl) ?_
      refine q_val (v := .pointer (some ⟨b1, 0, none⟩)) rfl rfl rfl (e_fieldPt (b := b1) (o := 0) rfl tf27) ?_
      refine q_val (v := Ix (x.tick)) rfl rfl rfl (e_load1 tf10 (v := Ix (x.tick)) rfl (k_pt 0 (cs := #[Ix (x.tick), .slice p2 (es.length) (c3)]) (vs := [Ix (x.tick)]) rfl rfl)) ?_
      refine q_val (v := .pointer (some ⟨b1, 1, none⟩)) rfl rfl rfl (e_fieldPt (b := b1) (o := 0) rfl tf29) ?_
      refine q_val (v := .slice p2 (es.length) (c3)) rfl rfl rfl (e_load1 tf30 (v := .slice p2 (es.length) (c3)) rfl (k_pt 0 (cs := #[Ix (x.tick), .slice p2 (es.length) (c3)]) (vs := [.slice p2 (es.length) (c3)]) rfl rfl)) ?_
      refine q_val (v := Nx (mm)) rfl rfl rfl (e_move) ?_
      obtain ⟨zs92, hz93⟩ : ∃ zs, zs = (es.take mm) := ⟨_, rfl⟩
      have zl94 : zs92.length = min mm (es).length - 0 := by rw [hz93]; simp; try omega
      have ze95 := (Elems.take mm p2e)
      rw [← hz93] at ze95
      refine q_val (v := .slice p2 (zs92.length) (c3)) rfl rfl rfl (ev_eq (by rw [show zs92.length = mm by omega]) (e_slice_hi (a := p2) (len := es.length) (cap := c3) (h := mm) tf32 rfl rfl (by omega))) ?_
      refine q_val (v := .agg #[Ix (x.tick), .slice p2 (zs92.length) (c3)]) rfl rfl rfl (e_build tf49 tf58 (vs := [(0, Ix (x.tick)), (1, .slice p2 (zs92.length) (c3))]) (cells := #[Ix (x.tick), .slice p2 (zs92.length) (c3)]) rfl rfl) ?_
      refine q_call (v := Ux (worldU (⟨(x.tick), zs92⟩ : KWorld))) rfl rfl rfl (cl_value (fst := []) (cap := []) (vs := [.agg #[Ix (x.tick), .slice p2 (zs92.length) (c3)]]) (all := [.agg #[Ix (x.tick), .slice p2 (zs92.length) (c3)]]) tf59 rfl rfl rfl) (fun w hw => ?_) ?_
      · obtain ⟨β1, sb, kn, hw1, back⟩ := St.frame_all hw
        exact (world_ok β1 w hw1 (⟨(x.tick), zs92⟩ : KWorld) _ ((Sl.mono _ _ _ _ _ sb (⟨⟨_, _, rfl, by omega, by omega, ze95⟩⟩ : Sl EntR _ _ zs92)))).mono (fun e w' ⟨he, hw'⟩ => ⟨he, st_mask [true, true] rfl (back _ _ hw')⟩)
      refine q_val (v := Ux (worldU (⟨(x.tick), zs92⟩ : KWorld))) rfl rfl rfl (e_assign) ?_
      refine q_nil ?_
      refine f_then ?_
      refine c_seq ?_
      refine c_region ?_
      refine l_val (v := .pointer (some ⟨b1, 1, none⟩)) rfl rfl rfl (e_fieldPt (b := b1) (o := 0) rfl tf29) ?_
      refine l_val (v := .slice p2 (es.length) (c3)) rfl rfl rfl (e_load1 tf30 (v := .slice p2 (es.length) (c3)) rfl (k_pt 0 (cs := #[Ix (x.tick), .slice p2 (es.length) (c3)]) (vs := [.slice p2 (es.length) (c3)]) rfl rfl)) ?_
      refine l_val (v := Nx (mm)) rfl rfl rfl (e_move) ?_
      obtain ⟨zs96, hz97⟩ : ∃ zs, zs = (es.drop mm) := ⟨_, rfl⟩
      have zl98 : zs96.length = (es).length - mm := by rw [hz97]; simp; try omega
      have ze99 := (Elems.drop (cap := c3) mm (by first | omega | (simp; omega)) p2e)
      rw [← hz97] at ze99
      refine l_val (v := .slice (adv p2 c3 mm 2) (zs96.length) ((c3 - mm))) rfl rfl rfl (ev_eq (by rw [show zs96.length = es.length - mm by omega]) (e_slice_lo (a := p2) (len := es.length) (cap := c3) (l := mm) tf32 rfl rfl (by omega))) ?_
      refine l_val (v := .agg #[.int .i64 (-1), .slice (adv p2 c3 mm 2) (zs96.length) ((c3 - mm))]) rfl rfl rfl (e_build tf49 tf58 (vs := [(0, .int .i64 (-1)), (1, .slice (adv p2 c3 mm 2) (zs96.length) ((c3 - mm)))]) (cells := #[.int .i64 (-1), .slice (adv p2 c3 mm 2) (zs96.length) ((c3 - mm))]) rfl rfl) ?_
      refine l_call rfl rfl rfl (cl_value (fst := []) (cap := []) (vs := [.agg #[.int .i64 (-1), .slice (adv p2 c3 mm 2) (zs96.length) ((c3 - mm))]]) (all := [.agg #[.int .i64 (-1), .slice (adv p2 c3 mm 2) (zs96.length) ((c3 - mm))]]) tf59 rfl rfl rfl) ?_
      intro w hw
      obtain ⟨β1, sb, kn, hw1, back⟩ := St.frame_all hw
      refine (world_ok β1 w hw1 (⟨(-1 : Int), zs96⟩ : KWorld) _ ((Sl.mono _ _ _ _ _ sb (⟨⟨_, _, rfl, by omega, by omega, ze99⟩⟩ : Sl EntR _ _ zs96)))).mono ?_
      rintro e w' ⟨rfl, hw'⟩
      refine ⟨_, rfl, _, back _ _ hw', ?_⟩
      clear hw hw1 hw' back kn sb
      refine l_val (v := Ux (worldU (⟨(-1 : Int), zs96⟩ : KWorld))) rfl rfl rfl (e_assign) ?_
      refine l_nil ?_
      refine f_then ?_
      refine c_seq ?_
      refine c_seq ?_
      refine c_region ?_
      refine l_val (v := .agg #[Ix (x.tick), .slice (sla (fa31 60)) ((0 + zs7.length) + zs18.length) (slc (fa31 60))]) rfl rfl rfl (e_load tf46 (cs := [Ix (x.tick), .slice (sla (fa31 60)) ((0 + zs7.length) + zs18.length) (slc (fa31 60))]) rfl (k_pt 1 (cs := #[Ix (x.tick), .slice (sla (fa31 60)) ((0 + zs7.length) + zs18.length) (slc (fa31 60))]) (vs := [Ix (x.tick), .slice (sla (fa31 60)) ((0 + zs7.length) + zs18.length) (slc (fa31 60))]) rfl rfl) rfl) ?_
      refine l_call rfl rfl rfl (cl_value (fst := []) (cap := []) (vs := [.agg #[Ix (x.tick), .slice (sla (fa31 60)) ((0 + zs7.length) + zs18.length) (slc (fa31 60))]]) (all := [.agg #[Ix (x.tick), .slice (sla (fa31 60)) ((0 + zs7.length) + zs18.length) (slc (fa31 60))]]) tf59 rfl rfl rfl) ?_
      intro w hw
      obtain ⟨β1, sb, kn, hw1, back⟩ := St.frame_all hw
      refine (world_ok β1 w hw1 (⟨x.tick, zs⟩ : KWorld) _ ((Sl.mono _ _ _ _ _ sb hT))).mono ?_
      rintro e w' ⟨rfl, hw'⟩
      refine ⟨_, rfl, _, back _ _ hw', ?_⟩
      clear hw hw1 hw' back kn sb
      refine l_val (v := Ux (worldU (⟨x.tick, es⟩ : KWorld))) rfl rfl rfl (e_move) ?_
      refine l_val (v := .bool (decide (((worldU (⟨x.tick, zs⟩ : KWorld)).toNat : Int) ≠ ((worldU (⟨x.tick, es⟩ : KWorld)).toNat : Int)))) rfl rfl rfl (e_neq (a := ((worldU (⟨x.tick, zs⟩ : KWorld)).toNat : Int)) (b := ((worldU (⟨x.tick, es⟩ : KWorld)).toNat : Int)) rfl rfl) ?_
      refine l_val (v := .bool (decide (((worldU (⟨x.tick, zs⟩ : KWorld)).toNat : Int) ≠ ((worldU (⟨x.tick, es⟩ : KWorld)).toNat : Int)))) rfl rfl rfl (e_move) ?_
      refine l_split (s := 112) (p := ((worldU (⟨x.tick, zs⟩ : KWorld)).toNat : Int) ≠ ((worldU (⟨x.tick, es⟩ : KWorld)).toNat : Int)) rfl (fun h => ?_) (fun h => ?_)
      exact absurd h (fun h => h (by rw [show worldU (⟨x.tick, zs⟩ : KWorld) = worldU (⟨x.tick, es⟩ : KWorld) from ents_turn hp3]))
      refine g_val (v := Ux (worldU (⟨(x.tick), zs92⟩ : KWorld))) rfl rfl rfl rfl rfl (e_move) ?_
      refine g_val (v := Ux (worldU (⟨(-1 : Int), zs96⟩ : KWorld))) rfl rfl rfl rfl rfl (e_move) ?_
      refine g_val (v := Ux ((worldU (⟨(x.tick), zs92⟩ : KWorld)) + (worldU (⟨(-1 : Int), zs96⟩ : KWorld)))) rfl rfl rfl rfl rfl (e_add (a := ((worldU (⟨(x.tick), zs92⟩ : KWorld)).toNat : Int)) (b := ((worldU (⟨(-1 : Int), zs96⟩ : KWorld)).toNat : Int)) rfl rfl (ux_add _ _)) ?_
      refine g_val (v := Ux (worldU (⟨x.tick, es⟩ : KWorld))) rfl rfl rfl rfl rfl (e_move) ?_
      refine g_val (v := .bool (decide ((((worldU (⟨(x.tick), zs92⟩ : KWorld)) + (worldU (⟨(-1 : Int), zs96⟩ : KWorld))).toNat : Int) ≠ ((worldU (⟨x.tick, es⟩ : KWorld)).toNat : Int)))) rfl rfl rfl rfl rfl (e_neq (a := (((worldU (⟨(x.tick), zs92⟩ : KWorld)) + (worldU (⟨(-1 : Int), zs96⟩ : KWorld))).toNat : Int)) (b := ((worldU (⟨x.tick, es⟩ : KWorld)).toNat : Int)) rfl rfl) ?_
      refine l_val (v := .bool (decide ((((worldU (⟨(x.tick), zs92⟩ : KWorld)) + (worldU (⟨(-1 : Int), zs96⟩ : KWorld))).toNat : Int) ≠ ((worldU (⟨x.tick, es⟩ : KWorld)).toNat : Int)))) rfl rfl rfl (e_pick_f rfl) ?_
      refine l_nil ?_
      refine f_then ?_
      refine c_if ((((worldU (⟨(x.tick), zs92⟩ : KWorld)) + (worldU (⟨(-1 : Int), zs96⟩ : KWorld))).toNat : Int) ≠ ((worldU (⟨x.tick, es⟩ : KWorld)).toNat : Int)) rfl (fun hc100 => ?_) (fun hc100 => ?_)
      ·
        exact absurd hc100 (fun h => h (by rw [sums_parts hz93 hz97]))
      ·
        refine c_skip ?_
        refine f_then ?_
        refine c_seq ?_
        refine c_region ?_
        refine l_val (v := .pointer (some ⟨b1, 0, none⟩)) rfl rfl rfl (e_fieldPt (b := b1) (o := 0) rfl tf27) ?_
        refine l_val (v := Ix (x.tick)) rfl rfl rfl (e_load1 tf10 (v := Ix (x.tick)) rfl (k_pt 0 (cs := #[Ix (x.tick), .slice p2 (es.length) (c3)]) (vs := [Ix (x.tick)]) rfl rfl)) ?_
        refine l_call rfl rfl rfl (cl_value (fst := []) (cap := []) (vs := [Ix (x.tick)]) (all := [Ix (x.tick)]) tf28 rfl rfl rfl) ?_
        intro w hw
        obtain ⟨β1, sb, kn, hw1, back⟩ := St.frame_all hw
        refine (tick_ok β1 w hw1 (x.tick)).mono ?_
        rintro e w' ⟨rfl, hw'⟩
        refine ⟨_, rfl, _, back _ _ hw', ?_⟩
        clear hw hw1 hw' back kn sb
        refine l_val (v := Ux (tickU (x.tick))) rfl rfl rfl (e_assign) ?_
        refine l_nil ?_
        refine f_then ?_
        refine c_seq ?_
        refine c_seq ?_
        refine c_region ?_
        refine l_val (v := .pointer (some ⟨b1, 1, none⟩)) rfl rfl rfl (e_fieldPt (b := b1) (o := 0) rfl tf29) ?_
        refine l_val (v := .slice p2 (es.length) (c3)) rfl rfl rfl (e_load1 tf30 (v := .slice p2 (es.length) (c3)) rfl (k_pt 0 (cs := #[Ix (x.tick), .slice p2 (es.length) (c3)]) (vs := [.slice p2 (es.length) (c3)]) rfl rfl)) ?_
        refine l_val (v := Nx (es.length)) rfl rfl rfl (e_len (a := p2) (n := es.length) (c := c3) rfl tf31) ?_
        refine l_val (v := .int .i64 (0)) rfl rfl rfl (e_move) ?_
        refine l_nil ?_
        refine f_then ?_
        refine c_block ?_
        refine c_loop (fun (j : Nat) (f : Fm) (L : List Res) => (f 3 = .pointer (some ⟨b1, 0, none⟩) ∧ f 7 = Ux (worldU (⟨x.tick, es⟩ : KWorld)) ∧ f 9 = Nx (kk) ∧ f 10 = Nx (mm) ∧ f 16 = Ux (entsU (tickU x.tick) (es.take j)) ∧ f 123 = .slice p2 (es.length) (c3) ∧ f 124 = Nx (es.length) ∧ f 125 = Nx (j)) ∧ L = [pt b1 (.cells #[Ix (x.tick), .slice p2 (es.length) (c3)] 24), pt (blk (fa31 11)) (.cells #[Ix (x.tick), .slice (sla (fa31 60)) ((0 + zs7.length) + zs18.length) (slc (fa31 60))] 24)] ∧ (j ≤ es.length)) (fun (j : Nat) => es.length - j) 0 ?_ ?_
        · exact ⟨⟨rfl, rfl, rfl, rfl, rfl, rfl, rfl, rfl⟩, rfl, (by omega)⟩
        rintro j f0 L0 ⟨⟨hs3, hs7, hs9, hs10, hs16, hs123, hs124, hs125⟩, hL, hj⟩
        subst L0
        refine rebase (d := 3) hs3 ?_
        refine rebase (d := 7) hs7 ?_
        refine rebase (d := 9) hs9 ?_
        refine rebase (d := 10) hs10 ?_
        refine rebase (d := 16) hs16 ?_
        refine rebase (d := 123) hs123 ?_
        refine rebase (d := 124) hs124 ?_
        refine rebase (d := 125) hs125 ?_
        clear hs3 hs7 hs9 hs10 hs16 hs123 hs124 hs125
        refine c_seq ?_
        refine c_region ?_
        refine l_val (v := .bool (decide (((j : Nat) : Int) < ((es.length : Nat) : Int)))) rfl rfl rfl (e_lss (a := ((j : Nat) : Int)) (b := ((es.length : Nat) : Int)) rfl rfl) ?_
        refine l_nil ?_
        refine f_then ?_
        refine c_seq ?_
        refine c_if (((j : Nat) : Int) < ((es.length : Nat) : Int)) rfl (fun hc101 => ?_) (fun hc101 => ?_)
        ·
          refine c_skip ?_
          refine f_then ?_
          refine c_seq ?_
          refine c_block ?_
          refine c_seq ?_
          refine c_region ?_
          obtain ⟨x102, hx103⟩ : ∃ x_, (es)[j]? = some x_ := ⟨_, List.getElem?_eq_getElem (by omega)⟩
          obtain ⟨ha104, cs105, hc106, hr107⟩ := p2e _ _ hx103
          obtain ⟨v108, rfl, hv109⟩ := hr107
          obtain ⟨v108a, v108c, rfl, v108l, v108m, v108e⟩ := hv109.get
          refine l_val (v := .pointer (some ((ba p2).add (j * 2)))) rfl rfl rfl (e_indexAddr (k := j) (len := es.length) (cap := c3) (a := p2) rfl rfl tf32 (by omega) ha104) ?_
          refine l_val (v := .agg #[Ix (x102.id), .slice v108a (x102.comps.length) (v108c)]) rfl rfl rfl (e_load tf24 (cs := [Ix (x102.id), .slice v108a (x102.comps.length) (v108c)]) rfl (Knows.of_base (Cs.mono _ _) hc106) rfl) ?_
          refine l_mv rfl rfl rfl (m_alloc tf33) ?_
          rintro _ _ ⟨b110, rfl, rfl⟩
          refine l_mu rfl rfl (m_store 0 tf24 (b := b110) (o := 0) (T := 33) (cs := #[.int .i64 (0), .slice none 0 0]) (cs' := #[Ix (x102.id), .slice v108a (x102.comps.length) (v108c)]) (v := .agg #[Ix (x102.id), .slice v108a (x102.comps.length) (v108c)]) rfl rfl rfl rfl rfl rfl rfl) ?_
          refine l_nil ?_
          refine f_then ?_
          refine c_seq ?_
          refine c_region ?_
          refine l_val (v := Ux (entsU (tickU x.tick) (es.take j))) rfl rfl rfl (e_move) ?_
          refine l_val (v := .agg #[Ix (x102.id), .slice v108a (x102.comps.length) (v108c)]) rfl rfl rfl (e_load tf24 (cs := [Ix (x102.id), .slice v108a (x102.comps.length) (v108c)]) rfl (k_pt 0 (cs := #[Ix (x102.id), .slice v108a (x102.comps.length) (v108c)]) (vs := [Ix (x102.id), .slice v108a (x102.comps.length) (v108c)]) rfl rfl) rfl) ?_
          refine l_call rfl rfl rfl (cl_value (fst := []) (cap := []) (vs := [Ux (entsU (tickU x.tick) (es.take j)), .agg #[Ix (x102.id), .slice v108a (x102.comps.length) (v108c)]]) (all := [Ux (entsU (tickU x.tick) (es.take j)), .agg #[Ix (x102.id), .slice v108a (x102.comps.length) (v108c)]]) tf34 rfl rfl rfl) ?_
          intro w hw
          obtain ⟨β1, sb, kn, hw1, back⟩ := St.frame_all hw
          refine (with_ok β1 w hw1 (entsU (tickU x.tick) (es.take j)) x102 _ (Sl.mono _ _ _ _ _ sb (⟨⟨_, _, rfl, v108l, v108m, v108e⟩⟩ : Sl CompR _ _ x102.comps))).mono ?_
          rintro e w' ⟨rfl, hw'⟩
          refine ⟨_, rfl, _, back _ _ hw', ?_⟩
          clear hw hw1 hw' back kn sb
          refine l_val (v := Ux ((entsU (tickU x.tick) (es.take j)) + entU x102)) rfl rfl rfl (e_assign) ?_
          refine l_nil ?_
          refine f_then ?_
          refine c_seq ?_
          refine c_seq ?_
          refine c_quiet (by kernel_rfl) (by kernel_rfl) ?_
          refine q_val (v := Ux ((entsU (tickU x.tick) (es.take j)) + entU x102)) rfl rfl rfl (e_move) ?_
          refine q_val (v := .agg #[Ix (x102.id), .slice v108a (x102.comps.length) (v108c)]) rfl rfl rfl (e_load tf24 (cs := [Ix (x102.id), .slice v108a (x102.comps.length) (v108c)]) rfl (k_pt 0 (cs := #[Ix (x102.id), .slice v108a (x102.comps.length) (v108c)]) (vs := [Ix (x102.id), .slice v108a (x102.comps.length) (v108c)]) rfl rfl) rfl) ?_
          refine q_call (v := Ux (((entsU (tickU x.tick) (es.take j)) + entU x102) - entU x102)) rfl rfl rfl (cl_value (fst := []) (cap := []) (vs := [Ux ((entsU (tickU x.tick) (es.take j)) + entU x102), .agg #[Ix (x102.id), .slice v108a (x102.comps.length) (v108c)]]) (all := [Ux ((entsU (tickU x.tick) (es.take j)) + entU x102), .agg #[Ix (x102.id), .slice v108a (x102.comps.length) (v108c)]]) tf60 rfl rfl rfl) (fun w hw => ?_) ?_
          · obtain ⟨β1, sb, kn, hw1, back⟩ := St.frame_all hw
            exact (without_ok β1 w hw1 ((entsU (tickU x.tick) (es.take j)) + entU x102) x102 _ (Sl.mono _ _ _ _ _ sb (⟨⟨_, _, rfl, v108l, v108m, v108e⟩⟩ : Sl CompR _ _ x102.comps))).mono (fun e w' ⟨he, hw'⟩ => ⟨he, st_mask [true, true, true] rfl (back _ _ hw')⟩)
          refine q_val (v := Ux (entsU (tickU x.tick) (es.take j))) rfl rfl rfl (e_move) ?_
          refine q_val (v := .bool (decide (((((entsU (tickU x.tick) (es.take j)) + entU x102) - entU x102).toNat : Int) ≠ ((entsU (tickU x.tick) (es.take j)).toNat : Int)))) rfl rfl rfl (e_neq (a := ((((entsU (tickU x.tick) (es.take j)) + entU x102) - entU x102).toNat : Int)) (b := ((entsU (tickU x.tick) (es.take j)).toNat : Int)) rfl rfl) ?_
          refine q_val (v := .bool (decide (((((entsU (tickU x.tick) (es.take j)) + entU x102) - entU x102).toNat : Int) ≠ ((entsU (tickU x.tick) (es.take j)).toNat : Int)))) rfl rfl rfl (e_move) ?_
          refine q_split (s := 137) (p := ((((entsU (tickU x.tick) (es.take j)) + entU x102) - entU x102).toNat : Int) ≠ ((entsU (tickU x.tick) (es.take j)).toNat : Int)) rfl (fun h => ?_) (fun h => ?_)
          exact absurd h (fun h => h (by rw [UInt64.add_sub_cancel]))
          refine qg_val (v := .agg #[Ix (x102.id), .slice v108a (x102.comps.length) (v108c)]) rfl rfl rfl rfl rfl (e_load tf24 (cs := [Ix (x102.id), .slice v108a (x102.comps.length) (v108c)]) rfl (k_pt 0 (cs := #[Ix (x102.id), .slice v108a (x102.comps.length) (v108c)]) (vs := [Ix (x102.id), .slice v108a (x102.comps.length) (v108c)]) rfl rfl) rfl) ?_
          refine qg_call (v := Ux ((0 : UInt64) + entU x102)) rfl rfl rfl rfl rfl (cl_value (fst := []) (cap := []) (vs := [.int .u64 (0), .agg #[Ix (x102.id), .slice v108a (x102.comps.length) (v108c)]]) (all := [.int .u64 (0), .agg #[Ix (x102.id), .slice v108a (x102.comps.length) (v108c)]]) tf34 rfl rfl rfl) (fun w hw => ?_) ?_
          · obtain ⟨β1, sb, kn, hw1, back⟩ := St.frame_all hw
            exact (with_ok β1 w hw1 (0 : UInt64) x102 _ (Sl.mono _ _ _ _ _ sb (⟨⟨_, _, rfl, v108l, v108m, v108e⟩⟩ : Sl CompR _ _ x102.comps))).mono (fun e w' ⟨he, hw'⟩ => ⟨he, st_mask [true, true, true] rfl (back _ _ hw')⟩)
          refine qg_val (v := .agg #[Ix (x102.id), .slice v108a (x102.comps.length) (v108c)]) rfl rfl rfl rfl rfl (e_load tf24 (cs := [Ix (x102.id), .slice v108a (x102.comps.length) (v108c)]) rfl (k_pt 0 (cs := #[Ix (x102.id), .slice v108a (x102.comps.length) (v108c)]) (vs := [Ix (x102.id), .slice v108a (x102.comps.length) (v108c)]) rfl rfl) rfl) ?_
          refine qg_call (v := Ux (entU x102)) rfl rfl rfl rfl rfl (cl_value (fst := []) (cap := []) (vs := [.agg #[Ix (x102.id), .slice v108a (x102.comps.length) (v108c)]]) (all := [.agg #[Ix (x102.id), .slice v108a (x102.comps.length) (v108c)]]) tf26 rfl rfl rfl) (fun w hw => ?_) ?_
          · obtain ⟨β1, sb, kn, hw1, back⟩ := St.frame_all hw
            exact (entity_ok β1 w hw1 x102 _ (Sl.mono _ _ _ _ _ sb (⟨⟨_, _, rfl, v108l, v108m, v108e⟩⟩ : Sl CompR _ _ x102.comps))).mono (fun e w' ⟨he, hw'⟩ => ⟨he, st_mask [true, true, true] rfl (back _ _ hw')⟩)
          refine qg_val (v := .bool (decide ((((0 : UInt64) + entU x102).toNat : Int) ≠ ((entU x102).toNat : Int)))) rfl rfl rfl rfl rfl (e_neq (a := (((0 : UInt64) + entU x102).toNat : Int)) (b := ((entU x102).toNat : Int)) rfl rfl) ?_
          refine q_val (v := .bool (decide ((((0 : UInt64) + entU x102).toNat : Int) ≠ ((entU x102).toNat : Int)))) rfl rfl rfl (e_pick_f rfl) ?_
          refine q_nil ?_
          refine f_then ?_
          refine c_if ((((0 : UInt64) + entU x102).toNat : Int) ≠ ((entU x102).toNat : Int)) rfl (fun hc111 => ?_) (fun hc111 => ?_)
          ·
            exact absurd hc111 (fun h => h (by rw [UInt64.zero_add]))
          ·
            refine c_skip ?_
            refine f_then ?_
            refine c_region ?_
            refine l_val (v := Ux ((entsU (tickU x.tick) (es.take j)) + entU x102)) rfl rfl rfl (e_move) ?_
            refine l_val (v := Ux ((entsU (tickU x.tick) (es.take j)) + entU x102)) rfl rfl rfl (e_assign) ?_
            refine l_nil ?_
            refine f_block ?_
            refine f_then ?_
            refine c_region ?_
            refine l_val (v := Nx (j + 1)) rfl rfl rfl (e_add (a := ((j : Nat) : Int)) (b := (1 : Int)) rfl rfl (i64n (by omega) (by omega))) ?_
            refine l_val (v := Nx (j + 1)) rfl rfl rfl (e_move) ?_
            refine l_nil ?_
            refine f_mask (L' := [pt b1 (.cells #[Ix (x.tick), .slice p2 (es.length) (c3)] 24), pt (blk (fa31 11)) (.cells #[Ix (x.tick), .slice (sla (fa31 60)) ((0 + zs7.length) + zs18.length) (slc (fa31 60))] 24)]) [false, true, true] rfl ?_
            exact f_cut ⟨j + 1, ⟨⟨rfl, rfl, rfl, rfl, congrArg (fun z => Ux z) (entsU_snoc hx103).symm, rfl, rfl, rfl⟩, rfl, (by omega)⟩, (show es.length - (j + 1) < es.length - j from by omega)⟩
        ·
          refine c_exit ?_
          refine f_then_exit ?_
          refine f_then_exit ?_
          refine f_exit ?_
          refine f_then ?_
          refine c_seq ?_
          obtain ⟨x112, hx113⟩ : ∃ x_, (es)[kk]? = some x_ := ⟨_, List.getElem?_eq_getElem (by omega)⟩
          obtain ⟨ha114, cs115, hc116, hr117⟩ := p2e _ _ hx113
          obtain ⟨v118, rfl, hv119⟩ := hr117
          obtain ⟨v118a, v118c, rfl, v118l, v118m, v118e⟩ := hv119.get
          obtain ⟨x120, hx121⟩ : ∃ x_, (es)[mm]? = some x_ := ⟨_, List.getElem?_eq_getElem (by omega)⟩
          obtain ⟨ha122, cs123, hc124, hr125⟩ := p2e _ _ hx121
          obtain ⟨v126, rfl, hv127⟩ := hr125
          obtain ⟨v126a, v126c, rfl, v126l, v126m, v126e⟩ := hv127.get
          refine c_any [⟨[], [], [0], [146], fun f => f 146 = .pointer (some ⟨b1, 1, none⟩)⟩, ⟨[0], [0], [], [147], fun f => f 147 = .slice p2 (es.length) (c3)⟩, ⟨[], [], [1], [148], fun f => f 148 = Nx (kk)⟩, ⟨[0, 1, 2], [1, 2], [], [149], fun f => f 149 = .pointer (some ((ba p2).add (kk * 2)))⟩, ⟨[0, 1, 2, 3], [3], [], [150], fun f => f 150 = .agg #[Ix (x112.id), .slice v118a (x112.comps.length) (v118c)]⟩, ⟨[], [], [0], [151], fun f => f 151 = .pointer (some ⟨b1, 1, none⟩)⟩, ⟨[5], [5], [], [152], fun f => f 152 = .slice p2 (es.length) (c3)⟩, ⟨[], [], [2], [153], fun f => f 153 = Nx (mm)⟩, ⟨[5, 6, 7], [6, 7], [], [154], fun f => f 154 = .pointer (some ((ba p2).add (mm * 2)))⟩, ⟨[5, 6, 7, 8], [8], [], [155], fun f => f 155 = .agg #[Ix (x120.id), .slice v126a (x120.comps.length) (v126c)]⟩, ⟨[], [], [], [20], fun f => f 20 = .pointer (some ⟨(blk (f 20)), 0, none⟩)⟩, ⟨[], [], [], [21], fun f => f 21 = .pointer (some ⟨(blk (f 21)), 0, none⟩)⟩, ⟨[0, 1, 2, 3, 4, 10, 11], [10, 4], [], [], fun _ => True⟩, ⟨[0, 1, 2, 3, 4, 5, 6, 7, 8, 9, 10, 11, 12], [11, 9], [], [], fun _ => True⟩] [⟨none, none, [1, 6], [], fun _ => pt b1 (.cells #[Ix (x.tick), .slice p2 (es.length) (c3)] 24)⟩, ⟨none, none, [], [], fun _ => pt (blk (fa31 11)) (.cells #[Ix (x.tick), .slice (sla (fa31 60)) ((0 + zs7.length) + zs18.length) (slc (fa31 60))] 24)⟩, ⟨(some 10), (some 12), [12], [20], fun f => pt (blk (f 20)) (.cells #[.int .i64 (0), .slice none 0 0] 33)⟩, ⟨(some 11), (some 13), [13], [21], fun f => pt (blk (f 21)) (.cells #[.int .i64 (0), .slice none 0 0] 33)⟩, ⟨(some 12), none, [], [20], fun f => pt (blk (f 20)) (.cells #[Ix (x112.id), .slice v118a (x112.comps.length) (v118c)] 33)⟩, ⟨(some 13), none, [], [21], fun f => pt (blk (f 21)) (.cells #[Ix (x120.id), .slice v126a (x120.comps.length) (v126c)] 33)⟩] [(3, .pointer (some ⟨b1, 0, none⟩)), (9, Nx (kk)), (10, Nx (mm)), (7, Ux (worldU (⟨x.tick, es⟩ : KWorld))), (16, Ux (entsU (tickU x.tick) (es.take j)))] [0, 3, 1, 4] [] (by kernel_rfl) (by kernel_rfl) (by kernel_rfl) (by kernel_rfl) rfl ⟨rfl, rfl, rfl, rfl, rfl, trivial⟩ ⟨?_, ?_, ?_, ?_, ?_, ?_, ?_, ?_, ?_, ?_, ?_, ?_, ?_, ?_, trivial⟩ ?_
          · rintro f M - ⟨i0, -⟩
            have hs3 : f 3 = .pointer (some ⟨b1, 0, none⟩) := i0
            refine ob_start (L' := M) (by rfl) (up_cons rfl hs3) ?_
            refine l_val (v := .pointer (some ⟨b1, 1, none⟩)) rfl rfl rfl (e_fieldPt (b := b1) (o := 0) rfl tf29) ?_
            refine l_nil ?_
            exact f_owes_d (up_cons rfl hs3) rfl (List.Perm.refl _)
          · rintro f M ⟨k0, -⟩ -
            have hs146 : f 146 = .pointer (some ⟨b1, 1, none⟩) := k0
            refine ob_start (L' := pt b1 (.cells #[Ix (x.tick), .slice p2 (es.length) (c3)] 24) :: M) (by rfl) (up_cons rfl hs146) ?_
            refine l_val (v := .slice p2 (es.length) (c3)) rfl rfl rfl (e_load1 tf30 (v := .slice p2 (es.length) (c3)) rfl (k_pt 0 (cs := #[Ix (x.tick), .slice p2 (es.length) (c3)]) (vs := [.slice p2 (es.length) (c3)]) rfl rfl)) ?_
            refine l_nil ?_
            exact f_owes_d (up_cons rfl hs146) rfl (perm_front 0 rfl)
          · rintro f M - ⟨i0, -⟩
            have hs9 : f 9 = Nx (kk) := i0
            refine ob_start (L' := M) (by rfl) (up_cons rfl hs9) ?_
            refine l_val (v := Nx (kk)) rfl rfl rfl (e_move) ?_
            refine l_nil ?_
            exact f_owes_d (up_cons rfl hs9) rfl (List.Perm.refl _)
          · rintro f M ⟨k0, k1, -⟩ -
            have hs147 : f 147 = .slice p2 (es.length) (c3) := k0
            have hs148 : f 148 = Nx (kk) := k1
            refine ob_start (L' := M) (by rfl) (up_cons (up_cons rfl hs147) hs148) ?_
            refine l_val (v := .pointer (some ((ba p2).add (kk * 2)))) rfl rfl rfl (e_indexAddr (k := kk) (len := es.length) (cap := c3) (a := p2) rfl rfl tf32 (by omega) ha114) ?_
            refine l_nil ?_
            exact f_owes_d (up_cons (up_cons rfl hs147) hs148) rfl (List.Perm.refl _)
          · rintro f M ⟨k0, -⟩ -
            have hs149 : f 149 = .pointer (some ((ba p2).add (kk * 2))) := k0
            refine ob_start (L' := M) (by rfl) (up_cons rfl hs149) ?_
            refine l_val (v := .agg #[Ix (x112.id), .slice v118a (x112.comps.length) (v118c)]) rfl rfl rfl (e_load tf24 (cs := [Ix (x112.id), .slice v118a (x112.comps.length) (v118c)]) rfl (Knows.of_base (Cs.mono _ _) hc116) rfl) ?_
            refine l_nil ?_
            exact f_owes_d (up_cons rfl hs149) rfl (List.Perm.refl _)
          · rintro f M - ⟨i0, -⟩
            have hs3 : f 3 = .pointer (some ⟨b1, 0, none⟩) := i0
            refine ob_start (L' := M) (by rfl) (up_cons rfl hs3) ?_
            refine l_val (v := .pointer (some ⟨b1, 1, none⟩)) rfl rfl rfl (e_fieldPt (b := b1) (o := 0) rfl tf29) ?_
            refine l_nil ?_
            exact f_owes_d (up_cons rfl hs3) rfl (List.Perm.refl _)
          · rintro f M ⟨k0, -⟩ -
            have hs151 : f 151 = .pointer (some ⟨b1, 1, none⟩) := k0
            refine ob_start (L' := pt b1 (.cells #[Ix (x.tick), .slice p2 (es.length) (c3)] 24) :: M) (by rfl) (up_cons rfl hs151) ?_
            refine l_val (v := .slice p2 (es.length) (c3)) rfl rfl rfl (e_load1 tf30 (v := .slice p2 (es.length) (c3)) rfl (k_pt 0 (cs := #[Ix (x.tick), .slice p2 (es.length) (c3)]) (vs := [.slice p2 (es.length) (c3)]) rfl rfl)) ?_
            refine l_nil ?_
            exact f_owes_d (up_cons rfl hs151) rfl (perm_front 0 rfl)
          · rintro f M - ⟨i0, -⟩
            have hs10 : f 10 = Nx (mm) := i0
            refine ob_start (L' := M) (by rfl) (up_cons rfl hs10) ?_
            refine l_val (v := Nx (mm)) rfl rfl rfl (e_move) ?_
            refine l_nil ?_
            exact f_owes_d (up_cons rfl hs10) rfl (List.Perm.refl _)
          · rintro f M ⟨k0, k1, -⟩ -
            have hs152 : f 152 = .slice p2 (es.length) (c3) := k0
            have hs153 : f 153 = Nx (mm) := k1
            refine ob_start (L' := M) (by rfl) (up_cons (up_cons rfl hs152) hs153) ?_
            refine l_val (v := .pointer (some ((ba p2).add (mm * 2)))) rfl rfl rfl (e_indexAddr (k := mm) (len := es.length) (cap := c3) (a := p2) rfl rfl tf32 (by omega) ha122) ?_
            refine l_nil ?_
            exact f_owes_d (up_cons (up_cons rfl hs152) hs153) rfl (List.Perm.refl _)
          · rintro f M ⟨k0, -⟩ -
            have hs154 : f 154 = .pointer (some ((ba p2).add (mm * 2))) := k0
            refine ob_start (L' := M) (by rfl) (up_cons rfl hs154) ?_
            refine l_val (v := .agg #[Ix (x120.id), .slice v126a (x120.comps.length) (v126c)]) rfl rfl rfl (e_load tf24 (cs := [Ix (x120.id), .slice v126a (x120.comps.length) (v126c)]) rfl (Knows.of_base (Cs.mono _ _) hc124) rfl) ?_
            refine l_nil ?_
            exact f_owes_d (up_cons rfl hs154) rfl (List.Perm.refl _)
          · rintro f M - -
            refine ob_start (L' := M) (by rfl) rfl ?_
            refine l_mv rfl rfl rfl (m_alloc tf33) ?_
            rintro _ _ ⟨b129, rfl, rfl⟩
            refine l_nil ?_
            exact f_owes_d rfl rfl (perm_front 0 rfl)
          · rintro f M - -
            refine ob_start (L' := M) (by rfl) rfl ?_
            refine l_mv rfl rfl rfl (m_alloc tf33) ?_
            rintro _ _ ⟨b131, rfl, rfl⟩
            refine l_nil ?_
            exact f_owes_d rfl rfl (perm_front 0 rfl)
          · rintro f M ⟨k0, k1, -⟩ -
            have hs20 : f 20 = .pointer (some ⟨(blk (f 20)), 0, none⟩) := k0
            have hs150 : f 150 = .agg #[Ix (x112.id), .slice v118a (x112.comps.length) (v118c)] := k1
            refine ob_start (L' := pt (blk (f 20)) (.cells #[.int .i64 (0), .slice none 0 0] 33) :: M) (by rfl) (up_cons (up_cons rfl hs20) hs150) ?_
            refine l_mu rfl rfl (m_store 0 tf24 (b := (blk (f 20))) (o := 0) (T := 33) (cs := #[.int .i64 (0), .slice none 0 0]) (cs' := #[Ix (x112.id), .slice v118a (x112.comps.length) (v118c)]) (v := .agg #[Ix (x112.id), .slice v118a (x112.comps.length) (v118c)]) rfl rfl rfl rfl rfl rfl rfl) ?_
            refine l_nil ?_
            exact f_owes_n (up_cons (up_cons rfl hs20) hs150) trivial (perm_front 0 rfl)
          · rintro f M ⟨k0, k1, -⟩ -
            have hs21 : f 21 = .pointer (some ⟨(blk (f 21)), 0, none⟩) := k0
            have hs155 : f 155 = .agg #[Ix (x120.id), .slice v126a (x120.comps.length) (v126c)] := k1
            refine ob_start (L' := pt (blk (f 21)) (.cells #[.int .i64 (0), .slice none 0 0] 33) :: M) (by rfl) (up_cons (up_cons rfl hs21) hs155) ?_
            refine l_mu rfl rfl (m_store 0 tf24 (b := (blk (f 21))) (o := 0) (T := 33) (cs := #[.int .i64 (0), .slice none 0 0]) (cs' := #[Ix (x120.id), .slice v126a (x120.comps.length) (v126c)]) (v := .agg #[Ix (x120.id), .slice v126a (x120.comps.length) (v126c)]) rfl rfl rfl rfl rfl rfl rfl) ?_
            refine l_nil ?_
            exact f_owes_n (up_cons (up_cons rfl hs21) hs155) trivial (perm_front 0 rfl)
          rintro fa132 ⟨-, -, -, -, -, -, -, -, -, -, k10, k11, -, -, -⟩ ⟨j0, j1, j2, j3, -⟩
          refine f_re (L' := [pt b1 (.cells #[Ix (x.tick), .slice p2 (es.length) (c3)] 24), pt (blk (fa31 11)) (.cells #[Ix (x.tick), .slice (sla (fa31 60)) ((0 + zs7.length) + zs18.length) (slc (fa31 60))] 24), pt (blk (fa132 20)) (.cells #[Ix (x112.id), .slice v118a (x112.comps.length) (v118c)] 33), pt (blk (fa132 21)) (.cells #[Ix (x120.id), .slice v126a (x120.comps.length) (v126c)] 33)]) (by rfl) ?_
          refine f_rebase (d := 3) (v := .pointer (some ⟨b1, 0, none⟩)) j0 ?_
          refine f_rebase (d := 7) (v := Ux (worldU (⟨x.tick, es⟩ : KWorld))) j1 ?_
          refine f_rebase (d := 9) (v := Nx (kk)) j2 ?_
          refine f_rebase (d := 16) (v := Ux (entsU (tickU x.tick) (es.take j))) j3 ?_
          refine f_rebase (d := 20) (v := .pointer (some ⟨(blk (fa132 20)), 0, none⟩)) k10 ?_
          refine f_rebase (d := 21) (v := .pointer (some ⟨(blk (fa132 21)), 0, none⟩)) k11 ?_
          refine f_then ?_
          refine c_seq ?_
          refine c_region ?_
          refine l_val (v := .agg #[Ix (x.tick), .slice p2 (es.length) (c3)]) rfl rfl rfl (e_load tf46 (cs := [Ix (x.tick), .slice p2 (es.length) (c3)]) rfl (k_pt 0 (cs := #[Ix (x.tick), .slice p2 (es.length) (c3)]) (vs := [Ix (x.tick), .slice p2 (es.length) (c3)]) rfl rfl) rfl) ?_
          refine l_call rfl rfl rfl (cl_value (fst := []) (cap := []) (vs := [.agg #[Ix (x.tick), .slice p2 (es.length) (c3)]]) (all := [.agg #[Ix (x.tick), .slice p2 (es.length) (c3)]]) tf74 rfl rfl rfl) ?_
          intro w hw
          obtain ⟨β1, sb, kn, hw1, back⟩ := St.frame_all hw
          refine (copyWorld_ok β1 w hw1 (⟨x.tick, es⟩ : KWorld) _ (Sl.mono _ _ _ _ _ sb (⟨⟨_, _, rfl, p2l, p2m, p2e⟩⟩ : Sl EntR _ _ es)) (show es.length * 32 ≤ 140737488355328 by omega) (fun i e he => by have := hesb i e he; omega)).mono ?_
          rintro e w' ⟨p133, c134, vs135, rfl, hvs, hw'⟩
          refine ⟨_, rfl, _, St.perm (L' := row (.slice p133 (es.length) c134) 33 2 (es.length) ((entCells vs135 es)) :: pt b1 (.cells #[Ix (x.tick), .slice p2 (es.length) (c3)] 24) :: pt (blk (fa31 11)) (.cells #[Ix (x.tick), .slice (sla (fa31 60)) ((0 + zs7.length) + zs18.length) (slc (fa31 60))] 24) :: pt (blk (fa132 20)) (.cells #[Ix (x112.id), .slice v118a (x112.comps.length) (v118c)] 33) :: pt (blk (fa132 21)) (.cells #[Ix (x120.id), .slice v126a (x120.comps.length) (v126c)] 33) :: (compRows vs135 es)) (back _ _ hw') (List.Perm.cons _ List.perm_append_comm), ?_⟩
          clear hw hw1 hw' back kn sb
          replace hvs : vs135.length = es.length := hvs
          refine l_mv rfl rfl rfl (m_alloc tf49) ?_
          rintro _ _ ⟨b136, rfl, rfl⟩
          refine l_mu rfl rfl (m_store 0 tf46 (b := b136) (o := 0) (T := 24) (cs := #[.int .i64 (0), .slice none 0 0]) (cs' := #[Ix (x.tick), .slice p133 (es.length) c134]) (v := .agg #[Ix (x.tick), .slice p133 (es.length) c134]) rfl rfl rfl rfl rfl rfl rfl) ?_
          refine l_nil ?_
          refine f_then ?_
          refine c_seq ?_
          refine c_region ?_
          refine l_val (v := .pointer (some ⟨b136, 1, none⟩)) rfl rfl rfl (e_fieldPt (b := b136) (o := 0) rfl tf29) ?_
          refine l_val (v := .slice p133 (es.length) c134) rfl rfl rfl (e_load1 tf30 (v := .slice p133 (es.length) c134) rfl (k_pt 0 (cs := #[Ix (x.tick), .slice p133 (es.length) c134]) (vs := [.slice p133 (es.length) c134]) rfl rfl)) ?_
          refine l_val (v := Nx (kk)) rfl rfl rfl (e_move) ?_
          refine l_val (v := .agg #[Ix (x120.id), .slice v126a (x120.comps.length) (v126c)]) rfl rfl rfl (e_load tf24 (cs := [Ix (x120.id), .slice v126a (x120.comps.length) (v126c)]) rfl (k_pt 5 (cs := #[Ix (x120.id), .slice v126a (x120.comps.length) (v126c)]) (vs := [Ix (x120.id), .slice v126a (x120.comps.length) (v126c)]) rfl rfl) rfl) ?_
          refine l_val (v := .pointer (some ((ba p133).add (kk * 2)))) rfl rfl rfl (e_indexRow 1 (j := kk) (len := es.length) (cap := c134) (p := p133) rfl rfl tf32 (by omega) (by omega) rfl) ?_
          refine l_mu rfl rfl (m_storeRow 1 tf24 (o := kk * 2) (v := .agg #[Ix (x120.id), .slice v126a (x120.comps.length) (v126c)]) rfl rfl rfl rfl rfl (by omega) (by omega)) ?_
          refine l_nil ?_
          refine f_then ?_
          refine c_seq ?_
          refine c_perm (L' := (pt b136 (.cells #[Ix (x.tick), .slice p133 (es.length) c134] 24) :: pt b1 (.cells #[Ix (x.tick), .slice p2 (es.length) (c3)] 24) :: pt (blk (fa31 11)) (.cells #[Ix (x.tick), .slice (sla (fa31 60)) ((0 + zs7.length) + zs18.length) (slc (fa31 60))] 24) :: pt (blk (fa132 20)) (.cells #[Ix (x112.id), .slice v118a (x112.comps.length) (v118c)] 33) :: pt (blk (fa132 21)) (.cells #[Ix (x120.id), .slice v126a (x120.comps.length) (v126c)] 33) :: row (.slice p133 (es.length) c134) 33 2 (es.length) ((overL (entCells vs135 es) (kk * 2) [Ix (x120.id), .slice v126a (x120.comps.length) (v126c)])) :: (compRows vs135 es))) ((((((perm_front 1 rfl).trans (perm_front 5 rfl)).trans (perm_front 5 rfl)).trans (perm_front 5 rfl)).trans (perm_front 5 rfl)).trans (perm_front 5 rfl)) ?_
          refine c_freeze2 (M := [pt b136 (.cells #[Ix (x.tick), .slice p133 (es.length) c134] 24), pt b1 (.cells #[Ix (x.tick), .slice p2 (es.length) (c3)] 24), pt (blk (fa31 11)) (.cells #[Ix (x.tick), .slice (sla (fa31 60)) ((0 + zs7.length) + zs18.length) (slc (fa31 60))] 24), pt (blk (fa132 20)) (.cells #[Ix (x112.id), .slice v118a (x112.comps.length) (v118c)] 33), pt (blk (fa132 21)) (.cells #[Ix (x120.id), .slice v126a (x120.comps.length) (v126c)] 33)]) (K := (row (.slice p133 (es.length) c134) 33 2 (es.length) ((overL (entCells vs135 es) (kk * 2) [Ix (x120.id), .slice v126a (x120.comps.length) (v126c)])) :: (compRows vs135 es))) rfl (fun β₃ ext₃ kn₃ backkn₃ => ?_)
          have hC := comp_facts hvs (fun F hF => kn₃ F (fun h hs hr => hF h hs fun r hr' => hr r (List.mem_cons_of_mem _ hr')))
          obtain ⟨ra, hra, hrr⟩ := kn₃ (fun h => ∃ a, Sub a h ∧ row (.slice p133 (es.length) c134) 33 2 (es.length) ((overL (entCells vs135 es) (kk * 2) [Ix (x120.id), .slice v126a (x120.comps.length) (v126c)])) a) (fun h hs hr => hr _ List.mem_cons_self)
          replace p2e := Elems.mono EntR _ _ _ _ ext₃.sub p2e
          replace hT := Sl.mono EntR _ _ _ _ ext₃.sub hT
          replace v118e := Elems.mono CompR _ _ _ _ ext₃.sub v118e
          replace v126e := Elems.mono CompR _ _ _ _ ext₃.sub v126e
          have hlt := (List.getElem?_eq_some_iff.1 hx113).1
          have hR := row_ents hra (by have h := hrr; rw [over_ent (e' := x120) rfl (us := vs135) (List.getElem?_eq_getElem (by omega)) hx113] at h; exact h) (EGood.set ⟨hvs, hC⟩ _ (⟨⟨_, _, rfl, v126l, v126m, v126e⟩⟩ : Sl CompR _ _ x120.comps)) (by simp)
          refine c_quiet (by kernel_rfl) (by kernel_rfl) ?_
          refine q_val (v := Ux (entsU (tickU x.tick) (es.take j))) rfl rfl rfl (e_move) ?_
          refine q_val (v := Ux (worldU (⟨x.tick, es⟩ : KWorld))) rfl rfl rfl (e_move) ?_
          refine q_val (v := .bool (decide (((entsU (tickU x.tick) (es.take j)).toNat : Int) = ((worldU (⟨x.tick, es⟩ : KWorld)).toNat : Int)))) rfl rfl rfl (e_eql (a := ((entsU (tickU x.tick) (es.take j)).toNat : Int)) (b := ((worldU (⟨x.tick, es⟩ : KWorld)).toNat : Int)) rfl rfl) ?_
          refine q_val (v := .bool (decide (((entsU (tickU x.tick) (es.take j)).toNat : Int) = ((worldU (⟨x.tick, es⟩ : KWorld)).toNat : Int)))) rfl rfl rfl (e_move) ?_
          refine q_split (s := 166) (p := ((entsU (tickU x.tick) (es.take j)).toNat : Int) = ((worldU (⟨x.tick, es⟩ : KWorld)).toNat : Int)) rfl (fun h => ?_) (fun h => ?_)
          rotate_left; exact absurd (by rw [List.take_of_length_le (show es.length ≤ j by omega)]; rfl) h
          refine qg_val (v := .agg #[Ix (x.tick), .slice p133 (es.length) c134]) rfl rfl rfl rfl rfl (e_load tf46 (cs := [Ix (x.tick), .slice p133 (es.length) c134]) rfl (k_pt 0 (cs := #[Ix (x.tick), .slice p133 (es.length) c134]) (vs := [Ix (x.tick), .slice p133 (es.length) c134]) rfl rfl) rfl) ?_
          refine qg_call (v := Ux (worldU (⟨x.tick, es.set kk x120⟩ : KWorld))) rfl rfl rfl rfl rfl (cl_value (fst := []) (cap := []) (vs := [.agg #[Ix (x.tick), .slice p133 (es.length) c134]]) (all := [.agg #[Ix (x.tick), .slice p133 (es.length) c134]]) tf59 rfl rfl rfl) (fun w hw => ?_) ?_
          · obtain ⟨β1, sb, kn, hw1, back⟩ := St.frame_all hw
            exact (world_ok β1 w hw1 (⟨x.tick, es.set kk x120⟩ : KWorld) _ ((Sl.mono _ _ _ _ _ sb hR))).mono (fun e w' ⟨he, hw'⟩ => ⟨he, st_mask [true, true, true, true, true] rfl (back _ _ hw')⟩)
          refine qg_val (v := Ux (worldU (⟨x.tick, es⟩ : KWorld))) rfl rfl rfl rfl rfl (e_move) ?_
          refine qg_val (v := .agg #[Ix (x112.id), .slice v118a (x112.comps.length) (v118c)]) rfl rfl rfl rfl rfl (e_load tf24 (cs := [Ix (x112.id), .slice v118a (x112.comps.length) (v118c)]) rfl (k_pt 3 (cs := #[Ix (x112.id), .slice v118a (x112.comps.length) (v118c)]) (vs := [Ix (x112.id), .slice v118a (x112.comps.length) (v118c)]) rfl rfl) rfl) ?_
          refine qg_call (v := Ux ((worldU (⟨x.tick, es⟩ : KWorld)) - entU x112)) rfl rfl rfl rfl rfl (cl_value (fst := []) (cap := []) (vs := [Ux (worldU (⟨x.tick, es⟩ : KWorld)), .agg #[Ix (x112.id), .slice v118a (x112.comps.length) (v118c)]]) (all := [Ux (worldU (⟨x.tick, es⟩ : KWorld)), .agg #[Ix (x112.id), .slice v118a (x112.comps.length) (v118c)]]) tf60 rfl rfl rfl) (fun w hw => ?_) ?_
          · obtain ⟨β1, sb, kn, hw1, back⟩ := St.frame_all hw
            exact (without_ok β1 w hw1 (worldU (⟨x.tick, es⟩ : KWorld)) x112 _ (Sl.mono _ _ _ _ _ sb (⟨⟨_, _, rfl, v118l, v118m, v118e⟩⟩ : Sl CompR _ _ x112.comps))).mono (fun e w' ⟨he, hw'⟩ => ⟨he, st_mask [true, true, true, true, true] rfl (back _ _ hw')⟩)
          refine qg_val (v := .agg #[Ix (x120.id), .slice v126a (x120.comps.length) (v126c)]) rfl rfl rfl rfl rfl (e_load tf24 (cs := [Ix (x120.id), .slice v126a (x120.comps.length) (v126c)]) rfl (k_pt 4 (cs := #[Ix (x120.id), .slice v126a (x120.comps.length) (v126c)]) (vs := [Ix (x120.id), .slice v126a (x120.comps.length) (v126c)]) rfl rfl) rfl) ?_
          refine qg_call (v := Ux (((worldU (⟨x.tick, es⟩ : KWorld)) - entU x112) + entU x120)) rfl rfl rfl rfl rfl (cl_value (fst := []) (cap := []) (vs := [Ux ((worldU (⟨x.tick, es⟩ : KWorld)) - entU x112), .agg #[Ix (x120.id), .slice v126a (x120.comps.length) (v126c)]]) (all := [Ux ((worldU (⟨x.tick, es⟩ : KWorld)) - entU x112), .agg #[Ix (x120.id), .slice v126a (x120.comps.length) (v126c)]]) tf34 rfl rfl rfl) (fun w hw => ?_) ?_
          · obtain ⟨β1, sb, kn, hw1, back⟩ := St.frame_all hw
            exact (with_ok β1 w hw1 ((worldU (⟨x.tick, es⟩ : KWorld)) - entU x112) x120 _ (Sl.mono _ _ _ _ _ sb (⟨⟨_, _, rfl, v126l, v126m, v126e⟩⟩ : Sl CompR _ _ x120.comps))).mono (fun e w' ⟨he, hw'⟩ => ⟨he, st_mask [true, true, true, true, true] rfl (back _ _ hw')⟩)
          refine qg_val (v := .bool (decide (((worldU (⟨x.tick, es.set kk x120⟩ : KWorld)).toNat : Int) = ((((worldU (⟨x.tick, es⟩ : KWorld)) - entU x112) + entU x120).toNat : Int)))) rfl rfl rfl rfl rfl (e_eql (a := ((worldU (⟨x.tick, es.set kk x120⟩ : KWorld)).toNat : Int)) (b := ((((worldU (⟨x.tick, es⟩ : KWorld)) - entU x112) + entU x120).toNat : Int)) rfl rfl) ?_
          refine q_val (v := .bool (decide (((worldU (⟨x.tick, es.set kk x120⟩ : KWorld)).toNat : Int) = ((((worldU (⟨x.tick, es⟩ : KWorld)) - entU x112) + entU x120).toNat : Int)))) rfl rfl rfl (e_pick_t rfl) ?_
          refine q_val (v := .bool (decide (((worldU (⟨x.tick, es.set kk x120⟩ : KWorld)).toNat : Int) = ((((worldU (⟨x.tick, es⟩ : KWorld)) - entU x112) + entU x120).toNat : Int)))) rfl rfl rfl (e_move) ?_
          refine q_split (s := 176) (p := ((worldU (⟨x.tick, es.set kk x120⟩ : KWorld)).toNat : Int) = ((((worldU (⟨x.tick, es⟩ : KWorld)) - entU x112) + entU x120).toNat : Int)) rfl (fun h => ?_) (fun h => ?_)
          rotate_left; exact absurd (by rw [sums_set hx113]) h
          refine qg_call (v := .bool true) rfl rfl rfl rfl rfl (cl_value (fst := []) (cap := []) (vs := []) (all := []) tf63 rfl rfl rfl) (fun w hw => ?_) ?_
          · obtain ⟨β1, sb, kn, hw1, back⟩ := St.frame_all hw
            exact (awake_ok β1 w hw1).mono (fun e w' ⟨he, hw'⟩ => ⟨he, st_mask [true, true, true, true, true] rfl (back _ _ hw')⟩)
          refine q_val (v := .bool true) rfl rfl rfl (e_pick_t rfl) ?_
          refine q_val (v := .bool true) rfl rfl rfl (e_assign) ?_
          refine q_nil ?_
          refine f_then ?_
          refine c_ret ?_
          refine ret1 Try.results5 (v := .bool true) rfl ?_
          intro w hw
          exact ⟨rfl, St.weaken ext₁ (St.weaken ext₂ (St.weaken ext₃ (st_mask [false, false, false, false, false] rfl hw)))⟩
end Go.Proofs
