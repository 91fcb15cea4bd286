/-
 Islands: walked. Printed by a program of my own.
-/
import Derived.Test.YtdkibofhppgbjaaGreatDoorIs3
namespace Go.Isl
open Go.Sl Go.Brd Go.Stp Go.Proofs
noncomputable instance (bs : List KB) (rs : List KR) (gx gy : Int) : Decidable (okS bs rs gx gy) := Classical.propDecidable _
/-- what Islands answers -/
noncomputable def islR (bs : List KB) (rs : List KR) (gx gy : Int) : List (List Int) := if okS bs rs gx gy then islX bs rs gx gy else []
noncomputable def errI (bs : List KB) (rs : List KR) (gx gy : Int) : Int := if okS bs rs gx gy then 0 else 2
theorem pairs_le {l : List KA} (h : l.length ≤ 64) : (pairsA l).length ≤ 4096 := by
 rw [pairsA_eq]
 have h1 := pairsT_len (things l 0)
 rw [things_len] at h1
 have h2 : l.length * l.length ≤ 64 * 64 := Nat.mul_le_mul h h
 omega
theorem zI_rep (n : Nat) : (List.replicate n (⟨none, 0, []⟩ : HI)).map (·.xs) = zI (joinAll (List.replicate n []) []) := by
 show _ = (List.replicate n []).map _
 rw [List.map_replicate, List.map_replicate]; rfl
theorem joinZ_eq (ns : List (List Nat)) (a b : Nat) : joinZ (zI ns) a b = zI (joinN ns a b) := (zI_join ns a b).symm
theorem zI_pair {ns0 : List (List Nat)} {P : List KP} {k : Nat} {q : KP} {i j : Nat} (hq : P[k]? = some q) (he : q = ⟨(i : Int), (j : Int)⟩) : joinZ (zI (joinAll ns0 ((P.take k).map pairN))) i j = zI (joinAll ns0 ((P.take (k + 1)).map pairN)) := by
 rw [joinZ_eq, List.take_add_one, hq, List.map_append]
 show _ = zI (joinAll ns0 (_ ++ [pairN q]))
 rw [joinAll_snoc, he]
 congr 1
theorem zI_rope {ns0 : List (List Nat)} {A : List (Nat × Nat)} {fb : List KB} {rs : List KR} {k : Nat} {r : KR} {i j : Nat} (hr : rs[k]? = some r) (he : ropeN fb r = some (i, j)) : joinZ (zI (joinAll ns0 (A ++ (rs.take k).filterMap (ropeN fb)))) i j = zI (joinAll ns0 (A ++ (rs.take (k + 1)).filterMap (ropeN fb))) := by
 rw [joinZ_eq, List.take_add_one, hr]
 simp only [Option.toList_some, List.filterMap_append, List.filterMap_cons, List.filterMap_nil, he]
 rw [← List.append_assoc, joinAll_snoc]
theorem rope_no {ns0 : List (List Nat)} {A : List (Nat × Nat)} {fb : List KB} {rs : List KR} {k : Nat} {r : KR} (hr : rs[k]? = some r) (he : ¬ ((findB fb r.a).isSome = true ∧ (findB fb r.b).isSome = true)) : zI (joinAll ns0 (A ++ (rs.take k).filterMap (ropeN fb))) = zI (joinAll ns0 (A ++ (rs.take (k + 1)).filterMap (ropeN fb))) := by
 have : ropeN fb r = none := if_neg he
 rw [List.take_add_one, hr]
 simp only [Option.toList_some, List.filterMap_append, List.filterMap_cons, List.filterMap_nil, this, List.append_nil]
theorem near_le (L : List (Nat × Nat)) : ∀ (ns : List (List Nat)) (m : Nat), (∀ l ∈ ns, l.length ≤ m) → ∀ l ∈ joinAll ns L, l.length ≤ m + L.length := by
 induction L with
 | nil => intro ns m h l hl; exact h l hl
 | cons p L ih =>
  intro ns m h l hl
  have hg : ∀ i, (ns.getD i []).length ≤ m := fun i => by
   rw [List.getD_eq_getElem?_getD]
   cases hi : ns[i]? with
   | none => exact Nat.zero_le _
   | some x => exact h x (List.mem_of_getElem? hi)
  have := ih (joinN ns p.1 p.2) (m + 1) (fun l hl => by
   unfold joinN at hl
   rcases List.mem_or_eq_of_mem_set hl with hl | rfl
   ·rcases List.mem_or_eq_of_mem_set hl with hl | rfl
    ·have := h l hl; omega
    ·have := hg p.1; rw [List.length_append, List.length_singleton]; omega
   ·have := hg p.2; rw [List.length_append, List.length_singleton]; omega) l hl
  rw [List.length_cons]; omega
theorem near_row {hs : List HI} {n i : Nat} {L : List (Nat × Nat)} {x : HI} (hz : hs.map (·.xs) = zI (joinAll (List.replicate n []) L)) (hx : hs[i]? = some x) (hL : L.length ≤ 1000000) : x.xs.length ≤ 1000000 := by
 have h1 : x.xs ∈ zI (joinAll (List.replicate n []) L) := by rw [← hz]; exact List.mem_map.2 ⟨x, List.mem_of_getElem? hx, rfl⟩
 obtain ⟨l, hl, e⟩ := List.mem_map.1 h1
 have h2 := near_le L (List.replicate n []) 0 (fun l hl => by rw [(List.mem_replicate.1 hl).2]; exact Nat.le_refl _) l hl
 rw [← e, List.length_map]; omega
theorem near_in {fb : List KB} {rs : List KR} {gx gy : Int} (ho : ordB fb) (hr : ∀ r ∈ rs, r.a < r.b) : inR (nearI fb rs gx gy) fb.length := fun i k hk => by
 have hl := links_in (gx := gx) (gy := gy) ho hr
 have h1 := (joinAll_mem (i := i) (k := k) (linksI fb rs gx gy) (List.replicate fb.length []) (fun p hp => by rw [List.length_replicate]; exact hl p hp)).1 hk
 rcases h1 with h | h | h
 ·rw [List.getD_eq_getElem?_getD, List.getElem?_replicate] at h
  split at h <;> simp at h
 ·exact (hl _ h).2.1
 ·exact (hl _ h).1
theorem k_ll {β : Base} {L : List Res} {p : Option Addr} {c : Nat} {hs : List HI} (i : Nat) (h1 : L[i]? = some (Sat (llL p c hs))) : Knows β L (fun h => Sl IntF.R.slice h (.slice p hs.length c) (hs.map (·.xs))) := Knows.of_res i h1 (Sl.mono _ _ _) fun _ h => rows_sl h
theorem c_merge {P : Program} {ro : Option Nat} {n : Nat} {ds : List Deferred} {β : Base} {Q : Exit → Act → World → Prop} {f : Fm} {L : List Res} {c : Code} {K M : List Res} (hL : L = K ++ M) (k : RunC P ro n ds β c Q f (Sat K :: M)) : RunC P ro n ds β c Q f L := fun a w ha hw => by
 subst hL; exact k a w ha (hw.merge fun _ q => q)
theorem sortI_len (l : List Int) : (sortI l).length = l.length := (sortI_perm l).length_eq
theorem len_zero {l : List Nat} {f : Nat → Int} (h : ¬ (0 : Int) < (((l.map f).length : Nat) : Int)) : l = [] := by
 rw [List.length_map] at h
 exact List.eq_nil_of_length_eq_zero (by omega)
theorem isl_yes {fb : List KB} {ns : List (List Nat)} {n i : Nat} (h : (visitF ns (n + 1) (islF ns n i).1 i).1 ≠ []) : (islF ns n i).2.map (fun l => sortI (l.map (idAt fb))) ++ [sortI ((visitF ns (n + 1) (islF ns n i).1 i).1.map (idAt fb))] = (islF ns n (i + 1)).2.map (fun l => sortI (l.map (idAt fb))) := by
 have e : (islF ns n (i + 1)).2 = if (visitF ns (n + 1) (islF ns n i).1 i).1 = [] then (islF ns n i).2 else (islF ns n i).2 ++ [(visitF ns (n + 1) (islF ns n i).1 i).1] := rfl
 rw [e, if_neg h, List.map_append]; rfl
theorem isl_no {fb : List KB} {ns : List (List Nat)} {n i : Nat} (h : (visitF ns (n + 1) (islF ns n i).1 i).1 = []) : (islF ns n i).2.map (fun l => sortI (l.map (idAt fb))) = (islF ns n (i + 1)).2.map (fun l => sortI (l.map (idAt fb))) := by
 have e : (islF ns n (i + 1)).2 = if (visitF ns (n + 1) (islF ns n i).1 i).1 = [] then (islF ns n i).2 else (islF ns n i).2 ++ [(visitF ns (n + 1) (islF ns n i).1 i).1] := rfl
 rw [e, if_pos h]
end Go.Isl
namespace Go.Proofs
open Go Go.Sl Go.Brd Go.Stp Go.Isl
theorem joinN_ok (β : Base) (w : World) (b0 : Nat) (p : Option Addr) (c : Nat) (hs : List HI) (a b : Nat) (x y : HI) (n : Nat) (hn : n = hs.length) (hx : hs[a]? = some x) (hy : hs[b]? = some y) (hab : a ≠ b) (hxl : x.xs.length ≤ 1000000) (hyl : y.xs.length ≤ 1000000) (hw : St β [pt b0 (.cells #[.slice p n c] 42), rowF HdIF 46 p c hs, Sat (hs.map ownI)] w) : Calls Tryz.prog 46 #[Nx a, Nx b, .pointer (some ⟨b0, 0, none⟩)] w fun r w' => r = .returned (.tuple #[]) ∧ ∃ hs', hs'.map (·.xs) = joinZ (hs.map (·.xs)) a b ∧ hs'.length = hs.length ∧ St β [pt b0 (.cells #[.slice p n c] 42), rowF HdIF 46 p c hs', Sat (hs'.map ownI)] w' := by
 subst hn; exact join_ok β w b0 p c hs a b x y hx hy hab hxl hyl hw
theorem uz31 : tyB Tryz.prog 30 true 4 = true := by kernel_rfl
theorem uz32 : cfB Tryz.prog 36 = true := by kernel_rfl
theorem uz33 : fldB Tryz.prog 30 0 0 1 false = true := by kernel_rfl
theorem uz34 : cfB Tryz.prog 37 = true := by kernel_rfl
theorem uz35 : cfB Tryz.prog 43 = true := by kernel_rfl
theorem uz36 : (Tryz.prog.info? 25).bind (·.zero) = some (.slice none 0 0) := by kernel_rfl
theorem uz37 : elB Tryz.prog 46 1 24 = true := by kernel_rfl
theorem uz38 : (Tryz.prog.info? 46).bind (·.zero) = some (.slice none 0 0) := by kernel_rfl
theorem uz39 : (Tryz.prog.info? 42).bind (·.zero) = some (.slice none 0 0) := by kernel_rfl
theorem uz40 : fldB Tryz.prog 30 2 2 2 true = true := by kernel_rfl
theorem uz41 : cfB Tryz.prog 45 = true := by kernel_rfl
theorem uz42 : slB Tryz.prog 94 96 4 = true := by kernel_rfl
theorem uz43 : elB Tryz.prog 96 4 32 = true := by kernel_rfl
theorem uz44 : cfB Tryz.prog 47 = true := by kernel_rfl
theorem uz45 : Tryz.prog.underlying 99 = some (.slice 103) := by kernel_rfl
theorem uz46 : slB Tryz.prog 99 103 2 = true := by kernel_rfl
theorem uz47 : tyB Tryz.prog 103 true 2 = true := by kernel_rfl
theorem uz48 : (Tryz.prog.info? 103).bind (·.zero) = some (.agg #[.int .i64 (0), .int .i64 (0)]) := by kernel_rfl
theorem uz49 : fldB Tryz.prog 103 0 0 1 false = true := by kernel_rfl
theorem uz50 : fldB Tryz.prog 103 1 1 1 false = true := by kernel_rfl
theorem uz51 : cfB Tryz.prog 46 = true := by kernel_rfl
theorem uz52 : fldB Tryz.prog 30 1 1 1 false = true := by kernel_rfl
theorem uz53 : tyB Tryz.prog 26 false 1 = true := by kernel_rfl
theorem uz54 : Tryz.prog.underlying 26 = some (.slice 78) := by kernel_rfl
theorem uz55 : slB Tryz.prog 26 78 3 = true := by kernel_rfl
theorem uz56 : tyB Tryz.prog 78 true 3 = true := by kernel_rfl
theorem uz57 : (Tryz.prog.info? 78).bind (·.zero) = some (.agg #[.int .i64 (0), .int .i64 (0), .int .i64 (0)]) := by kernel_rfl
theorem uz58 : fldB Tryz.prog 78 0 0 1 false = true := by kernel_rfl
theorem uz59 : cfB Tryz.prog 48 = true := by kernel_rfl
theorem uz60 : fldB Tryz.prog 78 1 1 1 false = true := by kernel_rfl
theorem uz61 : (Tryz.prog.info? 107).bind (·.zero) = some (.nilFunc) := by kernel_rfl
theorem uz62 : cfB Tryz.prog 51 = true := by kernel_rfl
set_option maxHeartbeats 4000000 in
theorem islands_ok (β : Base) (w : World) (hw : St β [] w) (v u : Value) (gx gy : Int) (bs : List KB) (rs : List KR) (hs_ : Sl KBR β.heap v bs) (hr_ : Sl KRR β.heap u rs) (hgx : -9223372036854775808 ≤ gx ∧ gx ≤ 9223372036854775807) (hgy : -9223372036854775808 ≤ gy ∧ gy ≤ 9223372036854775807) : Calls Tryz.prog 10 #[.agg #[v, u, Ix gx, Ix gy]] w fun r w' => ∃ p c hs, hs.map (·.xs) = islR bs rs gx gy ∧ r = .returned (.tuple #[.slice p hs.length c, Ix (errI bs rs gx gy)]) ∧ St β (llL p c hs) w' := by
 obtain ⟨va, vc, rfl, vl, vm, ve⟩ := hs_.get
 obtain ⟨ua, uc, rfl, ul, um, ue⟩ := hr_.get
 refine enter (n := 121) Tryz.func10 rfl Tryz.ntmps10 rfl ?_ hw
 refine c_seq ?_
 refine c_region ?_
 refine l_mv rfl rfl rfl (m_box (v := .agg #[.slice va (bs.length) (vc), .slice ua (rs.length) (uc), Ix (gx), Ix (gy)]) rfl) ?_
 rintro _ _ ⟨b1, rfl, rfl⟩
 refine l_val (v := .slice none 0 0) rfl rfl rfl (e_assign) ?_
 refine l_val (v := .int .i64 (0)) rfl rfl rfl (e_assign) ?_
 refine l_nil ?_
 refine f_then ?_
 refine c_seq ?_
 refine c_seq ?_
 refine c_region ?_
 refine l_val (v := .agg #[.slice va (bs.length) (vc), .slice ua (rs.length) (uc), Ix (gx), Ix (gy)]) rfl rfl rfl (e_load uz31 (cs := [.slice va (bs.length) (vc), .slice ua (rs.length) (uc), Ix (gx), Ix (gy)]) rfl (k_pt 0 (cs := #[.slice va (bs.length) (vc), .slice ua (rs.length) (uc), Ix (gx), Ix (gy)]) (vs := [.slice va (bs.length) (vc), .slice ua (rs.length) (uc), Ix (gx), Ix (gy)]) rfl rfl) rfl) ?_
 refine l_call rfl rfl rfl (cl_value (fst := []) (cap := []) (vs := [.agg #[.slice va (bs.length) (vc), .slice ua (rs.length) (uc), Ix (gx), Ix (gy)]]) (all := [.agg #[.slice va (bs.length) (vc), .slice ua (rs.length) (uc), Ix (gx), Ix (gy)]]) uz32 rfl rfl rfl) ?_
 intro w hw
 obtain ⟨β1, sb, kn, hw1, back⟩ := St.frame_all hw
 refine (ivalid_ok β1 w hw1 _ _ gx gy bs rs (Sl.mono _ _ _ _ _ sb (⟨⟨_, _, rfl, vl, vm, ve⟩⟩ : Sl KBR _ _ bs)) (Sl.mono _ _ _ _ _ sb (⟨⟨_, _, rfl, ul, um, ue⟩⟩ : Sl KRR _ _ rs)) (by omega) (by omega)).mono ?_
 rintro e w' ⟨rfl, hw'⟩
 refine ⟨_, rfl, _, back _ _ hw', ?_⟩
 clear hw hw1 hw' back kn sb
 refine l_val (v := .bool (decide (¬ (okS bs rs gx gy)))) rfl rfl rfl (e_not_p (p := okS bs rs gx gy) rfl) ?_
 refine l_nil ?_
 refine f_then ?_
 refine c_if (¬ (okS bs rs gx gy)) rfl (fun hc2 => ?_) (fun hc2 => ?_)
 ·
  refine c_seq ?_
  refine c_region ?_
  refine l_val (v := .slice none 0 0) rfl rfl rfl (e_assign) ?_
  refine l_val (v := .int .i64 (2)) rfl rfl rfl (e_assign) ?_
  refine l_nil ?_
  refine f_then ?_
  refine c_ret ?_
  refine f_then_ret ?_
  refine ret2 (v := .slice none 0 0) (v' := .int .i64 (2)) Tryz.results10 rfl rfl ?_
  intro w hw
  exact ⟨none, 0, [], by rw [islR, if_neg hc2]; rfl, by rw [errI, if_neg hc2]; rfl, ((st_mask [false] rfl hw).emp (r := Sat (([] : List HI).map ownI)) trivial).emp (row_nil _ _ _)⟩
 ·
  refine c_skip ?_
  refine f_then ?_
  refine c_seq ?_
  have hok : okS bs rs gx gy := (Decidable.not_not.1 hc2)
  obtain ⟨hk1, hk2, hk3, hk4, hk5, hk6⟩ := id hok
  have hfl := freeB_len bs
  have hfo := freeB_ord hk5
  have hfk := freeB_ok hk4
  have hra := reachL_ok hfk hk3
  have hrl := reachL_len (freeB bs) gx gy
  have hrr : ∀ r ∈ rs, r.a < r.b := fun r hr => (hk6 r hr).2.2.1
  refine c_region ?_
  refine l_val (v := .pointer (some ⟨b1, 0, none⟩)) rfl rfl rfl (e_fieldPt (b := b1) (o := 0) rfl uz33) ?_
  refine l_val (v := .slice va (bs.length) (vc)) rfl rfl rfl (e_load1 uz26 (v := .slice va (bs.length) (vc)) rfl (k_pt 0 (cs := #[.slice va (bs.length) (vc), .slice ua (rs.length) (uc), Ix (gx), Ix (gy)]) (vs := [.slice va (bs.length) (vc)]) rfl rfl)) ?_
  refine l_call rfl rfl rfl (cl_value (fst := []) (cap := []) (vs := [.slice va (bs.length) (vc)]) (all := [.slice va (bs.length) (vc)]) uz34 rfl rfl rfl) ?_
  intro w hw
  obtain ⟨β1, sb, kn, hw1, back⟩ := St.frame_all hw
  refine (cloneB_ok β1 w hw1 _ bs (Sl.mono _ _ _ _ _ sb (⟨⟨_, _, rfl, vl, vm, ve⟩⟩ : Sl KBR _ _ bs)) (by omega)).mono ?_
  rintro e w' ⟨p3, c4, rfl, hw'⟩
  refine ⟨_, rfl, _, back _ _ hw', ?_⟩
  clear hw hw1 hw' back kn sb
  refine l_call rfl rfl rfl (cl_value (fst := []) (cap := []) (vs := [.slice p3 (bs.length) c4, .func (.func 44) #[] #[]]) (all := [.slice p3 (bs.length) c4, .func (.func 44) #[] #[]]) uz35 rfl rfl rfl) ?_
  intro w hw
  replace hw := hw.perm (L' := _ :: _ :: []) (by exact ((perm_front 1 rfl).trans (perm_front 1 rfl)))
  obtain ⟨β1, sb, kn, hw1, back⟩ := St.frame (L := [_]) (M := _ :: []) hw
  refine (deleteB_ok β1 w _ _ bs hw1 (by omega) _ (fun z => z.fixed) (fixed_fn β1)).mono ?_
  rintro e w' ⟨rfl, hw'⟩
  refine ⟨_, rfl, _, back _ _ hw', ?_⟩
  clear hw hw1 hw' back kn sb
  refine l_mv rfl rfl rfl (m_alloc uz36) ?_
  rintro _ _ ⟨b5, rfl, rfl⟩
  refine l_mu rfl rfl (m_store 0 uz26 (b := b5) (o := 0) (T := 25) (cs := #[.slice none 0 0]) (cs' := #[.slice p3 ((freeB bs).length) c4]) (v := .slice p3 ((freeB bs).length) c4) rfl rfl rfl rfl rfl rfl rfl) ?_
  refine l_nil ?_
  refine f_then ?_
  refine c_seq ?_
  refine c_emp (r := rowF AreaF 96 none 0 []) (row_nil _ _ _) ?_
  refine c_region ?_
  refine l_val (v := .slice none 0 0) rfl rfl rfl (e_assign) ?_
  refine l_nil ?_
  refine f_then ?_
  refine c_seq ?_
  refine c_region ?_
  refine l_val (v := .slice p3 ((freeB bs).length) c4) rfl rfl rfl (e_load1 uz26 (v := .slice p3 ((freeB bs).length) c4) rfl (k_pt 1 (cs := #[.slice p3 ((freeB bs).length) c4]) (vs := [.slice p3 ((freeB bs).length) c4]) rfl rfl)) ?_
  refine l_val (v := Nx ((freeB bs).length)) rfl rfl rfl (e_len (a := p3) (n := (freeB bs).length) (c := c4) rfl uz15) ?_
  refine l_mv rfl rfl rfl (m_makeF (F := HdIF) (x0 := (⟨none, 0, []⟩ : HI)) (c := (freeB bs).length) uz21 uz37 uz38 rfl rfl rfl (by unfold maxLen; omega) (by omega)) ?_
  rintro _ _ ⟨b6, rfl, rfl⟩
  refine l_mv rfl rfl rfl (m_alloc uz39) ?_
  rintro _ _ ⟨b7, rfl, rfl⟩
  refine l_mu rfl rfl (m_store 0 uz20 (b := b7) (o := 0) (T := 42) (cs := #[.slice none 0 0]) (cs' := #[.slice (some ⟨b6, 0, none⟩) ((freeB bs).length) ((freeB bs).length)]) (v := .slice (some ⟨b6, 0, none⟩) ((freeB bs).length) ((freeB bs).length)) rfl rfl rfl rfl rfl rfl rfl) ?_
  refine l_nil ?_
  refine f_then ?_
  refine c_seq ?_
  refine c_seq ?_
  refine c_region ?_
  refine l_val (v := .slice p3 ((freeB bs).length) c4) rfl rfl rfl (e_load1 uz26 (v := .slice p3 ((freeB bs).length) c4) rfl (k_pt 3 (cs := #[.slice p3 ((freeB bs).length) c4]) (vs := [.slice p3 ((freeB bs).length) c4]) rfl rfl)) ?_
  refine l_val (v := Nx ((freeB bs).length)) rfl rfl rfl (e_len (a := p3) (n := (freeB bs).length) (c := c4) rfl uz15) ?_
  refine l_val (v := .int .i64 (0)) rfl rfl rfl (e_move) ?_
  refine l_nil ?_
  refine f_then ?_
  refine c_block ?_
  refine c_loop (fun (x_ : Nat × List KA × Option Addr × Nat) (f : Fm) (L : List Res) => match x_ with | (k, ys, tp, tc) => (f 1 = .pointer (some ⟨b1, 0, none⟩) ∧ f 4 = .pointer (some ⟨b5, 0, none⟩) ∧ f 5 = .slice tp (ys.length) tc ∧ f 6 = .pointer (some ⟨b7, 0, none⟩) ∧ f 35 = .slice p3 ((freeB bs).length) c4 ∧ f 36 = Nx ((freeB bs).length) ∧ f 37 = Nx (k)) ∧ L = [pt b7 (.cells #[.slice (some ⟨b6, 0, none⟩) ((freeB bs).length) ((freeB bs).length)] 42), rowF HdIF 46 (some ⟨b6, 0, none⟩) ((freeB bs).length) (List.replicate ((freeB bs).length) (⟨none, 0, []⟩ : HI)), rowF AreaF 96 tp tc ys, pt b5 (.cells #[.slice p3 ((freeB bs).length) c4] 25), rowF BodyF 52 p3 c4 (freeB bs), pt b1 (.cells #[.slice va (bs.length) (vc), .slice ua (rs.length) (uc), Ix (gx), Ix (gy)] 30)] ∧ (k ≤ (freeB bs).length ∧ ys = reachL ((freeB bs).take k) gx gy)) (fun (x_ : Nat × List KA × Option Addr × Nat) => match x_ with | (k, ys, tp, tc) => (freeB bs).length - k) (0, [], none, 0) ?_ ?_
  ·exact ⟨⟨rfl, rfl, rfl, rfl, rfl, rfl, rfl⟩, rfl, ⟨by omega, rfl⟩⟩
  rintro ⟨k, ys, tp, tc⟩ f0 L0 ⟨⟨hs1, hs4, hs5, hs6, hs35, hs36, hs37⟩, hL, ⟨hk, hys⟩⟩
  subst L0
  refine rebase (d := 1) hs1 ?_
  refine rebase (d := 4) hs4 ?_
  refine rebase (d := 5) hs5 ?_
  refine rebase (d := 6) hs6 ?_
  refine rebase (d := 35) hs35 ?_
  refine rebase (d := 36) hs36 ?_
  refine rebase (d := 37) hs37 ?_
  clear hs1 hs4 hs5 hs6 hs35 hs36 hs37
  have hyl : ys.length = k := by rw [hys, reachL_len, List.length_take]; omega
  refine c_seq ?_
  refine c_region ?_
  refine l_val (v := .bool (decide (((k : Nat) : Int) < (((freeB bs).length : Nat) : Int)))) rfl rfl rfl (e_lss (a := ((k : Nat) : Int)) (b := (((freeB bs).length : Nat) : Int)) rfl rfl) ?_
  refine l_nil ?_
  refine f_then ?_
  refine c_seq ?_
  refine c_if (((k : Nat) : Int) < (((freeB bs).length : Nat) : Int)) rfl (fun hc8 => ?_) (fun hc8 => ?_)
  ·
   refine c_skip ?_
   refine f_then ?_
   refine c_seq ?_
   refine c_block ?_
   refine c_seq ?_
   refine c_region ?_
   refine l_val (v := .pointer (some ((ba p3).add (k * 9)))) rfl rfl rfl (e_indexFlN 4 (F := BodyF) (j := k) (m := (freeB bs).length) (xs := (freeB bs)) rfl rfl rfl uz16 (by omega) rfl) ?_
   obtain ⟨x9, hx10⟩ : ∃ x_, (freeB bs)[k]? = some x_ := ⟨_, List.getElem?_eq_getElem (by omega)⟩
   refine l_val (v := .agg (bC x9)) rfl rfl rfl (e_load uz1 (cs := (bodyE x9)) rfl (k_flAt 4 (F := BodyF) rfl hx10) rfl) ?_
   refine l_mv rfl rfl rfl (m_alloc uz17) ?_
   rintro _ _ ⟨b11, rfl, rfl⟩
   refine l_mu rfl rfl (m_store 0 uz1 (b := b11) (o := 0) (T := 52) (cs := #[.int .i64 (0), .int .i64 (0), .int .i64 (0), .int .i64 (0), .int .i64 (0), .int .i64 (0), .int .i64 (0), .bool false, .bool false]) (cs' := (bC x9)) (v := .agg (bC x9)) rfl rfl rfl rfl rfl rfl rfl) ?_
   refine l_nil ?_
   refine f_then ?_
   refine c_region ?_
   refine l_val (v := .slice tp (ys.length) tc) rfl rfl rfl (e_move) ?_
   refine l_val (v := .agg (bC x9)) rfl rfl rfl (e_load uz1 (cs := (bodyE x9)) rfl (k_pt 0 (cs := (bC x9)) (vs := (bodyE x9)) rfl rfl) rfl) ?_
   refine l_val (v := .pointer (some ⟨b1, 2, none⟩)) rfl rfl rfl (e_fieldPt (b := b1) (o := 0) rfl uz40) ?_
   refine l_val (v := .agg #[Ix (gx), Ix (gy)]) rfl rfl rfl (e_load uz5 (cs := [Ix (gx), Ix (gy)]) rfl (k_pt 6 (cs := #[.slice va (bs.length) (vc), .slice ua (rs.length) (uc), Ix (gx), Ix (gy)]) (vs := [Ix (gx), Ix (gy)]) rfl rfl) rfl) ?_
   refine l_call rfl rfl rfl (cl_value (fst := []) (cap := []) (vs := [.agg (bC x9), .agg #[Ix (gx), Ix (gy)]]) (all := [.agg (bC x9), .agg #[Ix (gx), Ix (gy)]]) uz41 rfl rfl rfl) ?_
   intro w hw
   obtain ⟨β1, sb, kn, hw1, back⟩ := St.frame_all hw
   refine (reachA_ok β1 w hw1 x9 gx gy (by omega) (by omega)).mono ?_
   rintro e w' ⟨rfl, hw'⟩
   refine ⟨_, rfl, _, back _ _ hw', ?_⟩
   clear hw hw1 hw' back kn sb
   refine l_mv rfl rfl rfl (m_slices uz42 uz0 (vs := [(0, .agg (aC (reachA x9 gx gy)))]) (cells := (aC (reachA x9 gx gy))) rfl rfl rfl rfl) ?_
   rintro _ _ ⟨b12, rfl, rfl⟩
   refine l_mv rfl rfl rfl (m_appendFlN (F := AreaF) 4 uz42 uz43 (p := tp) (m := ys.length) (xs := ys) (ys := [(reachA x9 gx gy)]) (ao := (some ⟨b12, 0, none⟩)) (k := 1) (c := 1) rfl rfl rfl rfl rfl (k_ptFl (z := (reachA x9 gx gy)) 0 rfl rfl) (by first | omega | simp only [List.length_nil, List.length_cons, List.length_append, List.length_set]; omega) (by first | omega | simp only [List.length_nil, List.length_cons, List.length_append, List.length_set]; omega)) ?_
   rintro _ _ ⟨rp13, rc14, rfl, rfl⟩
   refine l_val (v := .slice rp13 ((ys ++ [(reachA x9 gx gy)]).length) rc14) rfl rfl rfl (e_assign) ?_
   refine l_nil ?_
   refine f_block ?_
   refine f_then ?_
   refine c_region ?_
   refine l_val (v := Nx (k + 1)) rfl rfl rfl (e_add (a := ((k : Nat) : Int)) (b := (1 : Int)) rfl rfl (i64n (by omega) (by omega))) ?_
   refine l_val (v := Nx (k + 1)) rfl rfl rfl (e_move) ?_
   refine l_nil ?_
   refine f_mask (L' := [pt b7 (.cells #[.slice (some ⟨b6, 0, none⟩) ((freeB bs).length) ((freeB bs).length)] 42), rowF HdIF 46 (some ⟨b6, 0, none⟩) ((freeB bs).length) (List.replicate ((freeB bs).length) (⟨none, 0, []⟩ : HI)), rowF AreaF 96 rp13 rc14 (ys ++ [(reachA x9 gx gy)]), pt b5 (.cells #[.slice p3 ((freeB bs).length) c4] 25), rowF BodyF 52 p3 c4 (freeB bs), pt b1 (.cells #[.slice va (bs.length) (vc), .slice ua (rs.length) (uc), Ix (gx), Ix (gy)] 30)]) [false, false, true, true, true, true, true, true] rfl ?_
   exact f_cut ⟨(k + 1, (ys ++ [(reachA x9 gx gy)]), rp13, rc14), ⟨⟨rfl, rfl, rfl, rfl, rfl, rfl, rfl⟩, rfl, ⟨by omega, by rw [hys]; exact reach_next hx10⟩⟩, (show (freeB bs).length - (k + 1) < (freeB bs).length - k from by omega)⟩
  ·
   refine c_exit ?_
   refine f_then_exit ?_
   refine f_then_exit ?_
   refine f_exit ?_
   refine f_then ?_
   refine c_seq ?_
   refine c_region ?_
   refine l_val (v := .func (.func 46) #[] #[.pointer (some ⟨b7, 0, none⟩)]) rfl rfl rfl (e_func (u := []) (v := [.pointer (some ⟨b7, 0, none⟩)]) rfl rfl) ?_
   refine l_val (v := .func (.func 46) #[] #[.pointer (some ⟨b7, 0, none⟩)]) rfl rfl rfl (e_assign) ?_
   refine l_nil ?_
   refine f_then ?_
   refine c_seq ?_
   have hyl : ys.length = (freeB bs).length := by rw [hys, reachL_len, List.length_take]; omega
   rw [List.take_of_length_le (by omega)] at hys
   subst hys
   refine c_region ?_
   refine l_val (v := .slice tp ((reachL (freeB bs) gx gy).length) tc) rfl rfl rfl (e_move) ?_
   refine l_call rfl rfl rfl (cl_value (fst := []) (cap := []) (vs := [.slice tp ((reachL (freeB bs) gx gy).length) tc]) (all := [.slice tp ((reachL (freeB bs) gx gy).length) tc]) uz44 rfl rfl rfl) ?_
   intro w hw
   obtain ⟨β1, sb, kn, hw1, back⟩ := St.frame_all hw
   refine (pairs_ok β1 w hw1 _ (reachL (freeB bs) gx gy) (kn _ (k_flN 2 (F := AreaF) (m := (reachL (freeB bs) gx gy).length) rfl rfl)) (by omega)).mono ?_
   rintro e w' ⟨p15, c16, rfl, hw'⟩
   refine ⟨_, rfl, _, back _ _ hw', ?_⟩
   clear hw hw1 hw' back kn sb
   refine l_val (v := .tuple #[.slice p15 ((pairsX (reachL (freeB bs) gx gy)).length) c16, Ix (errP (reachL (freeB bs) gx gy))]) rfl rfl rfl (e_move) ?_
   refine l_val (v := .slice p15 ((pairsX (reachL (freeB bs) gx gy)).length) c16) rfl rfl rfl (e_extract (vs := #[.slice p15 ((pairsX (reachL (freeB bs) gx gy)).length) c16, Ix (errP (reachL (freeB bs) gx gy))]) rfl rfl) ?_
   refine l_val (v := Ix (errP (reachL (freeB bs) gx gy))) rfl rfl rfl (e_extract (vs := #[.slice p15 ((pairsX (reachL (freeB bs) gx gy)).length) c16, Ix (errP (reachL (freeB bs) gx gy))]) rfl rfl) ?_
   refine l_val (v := .slice p15 ((pairsX (reachL (freeB bs) gx gy)).length) c16) rfl rfl rfl (e_assign) ?_
   refine l_val (v := Ix (errP (reachL (freeB bs) gx gy))) rfl rfl rfl (e_assign) ?_
   refine l_nil ?_
   refine f_then ?_
   refine c_seq ?_
   refine c_seq ?_
   rw [show pairsX (reachL (freeB bs) gx gy) = pairsA (reachL (freeB bs) gx gy) from pairsX_ok ⟨hra, by omega⟩]
   have hpl : (pairsA (reachL (freeB bs) gx gy)).length ≤ 4096 := pairs_le (by omega)
   obtain ⟨hs0, hs0E⟩ : ∃ z, z = List.replicate (freeB bs).length (⟨none, 0, []⟩ : HI) := ⟨_, rfl⟩
   have hz0 : hs0.map (·.xs) = zI (joinAll (List.replicate (freeB bs).length []) []) := by rw [hs0E]; exact zI_rep _
   have hs0l : hs0.length = (freeB bs).length := by rw [hs0E, List.length_replicate]
   refine c_emp (r := Sat (hs0.map ownI)) (by rw [hs0E]; exact empty_rows _ _) ?_
   rw [← hs0E]
   refine c_re (L' := [Sat (hs0.map ownI), rowF PairF 103 p15 c16 (pairsA (reachL (freeB bs) gx gy)), pt b7 (.cells #[.slice (some ⟨b6, 0, none⟩) ((freeB bs).length) ((freeB bs).length)] 42), rowF HdIF 46 (some ⟨b6, 0, none⟩) ((freeB bs).length) hs0, rowF AreaF 96 tp tc (reachL (freeB bs) gx gy), pt b5 (.cells #[.slice p3 ((freeB bs).length) c4] 25), rowF BodyF 52 p3 c4 (freeB bs), pt b1 (.cells #[.slice va (bs.length) (vc), .slice ua (rs.length) (uc), Ix (gx), Ix (gy)] 30)]) rfl ?_
   refine c_region ?_
   refine l_val (v := .slice p15 ((pairsA (reachL (freeB bs) gx gy)).length) c16) rfl rfl rfl (e_move) ?_
   refine l_val (v := Nx ((pairsA (reachL (freeB bs) gx gy)).length)) rfl rfl rfl (e_len (a := p15) (n := (pairsA (reachL (freeB bs) gx gy)).length) (c := c16) rfl uz45) ?_
   refine l_val (v := .int .i64 (0)) rfl rfl rfl (e_move) ?_
   refine l_nil ?_
   refine f_then ?_
   refine c_block ?_
   refine c_loop (fun (x_ : Nat × List HI) (f : Fm) (L : List Res) => match x_ with | (k, hs) => (f 1 = .pointer (some ⟨b1, 0, none⟩) ∧ f 4 = .pointer (some ⟨b5, 0, none⟩) ∧ f 6 = .pointer (some ⟨b7, 0, none⟩) ∧ f 9 = .func (.func 46) #[] #[.pointer (some ⟨b7, 0, none⟩)] ∧ f 55 = .slice p15 ((pairsA (reachL (freeB bs) gx gy)).length) c16 ∧ f 56 = Nx ((pairsA (reachL (freeB bs) gx gy)).length) ∧ f 57 = Nx (k)) ∧ L = [Sat (hs.map ownI), rowF PairF 103 p15 c16 (pairsA (reachL (freeB bs) gx gy)), pt b7 (.cells #[.slice (some ⟨b6, 0, none⟩) ((freeB bs).length) ((freeB bs).length)] 42), rowF HdIF 46 (some ⟨b6, 0, none⟩) ((freeB bs).length) hs, rowF AreaF 96 tp tc (reachL (freeB bs) gx gy), pt b5 (.cells #[.slice p3 ((freeB bs).length) c4] 25), rowF BodyF 52 p3 c4 (freeB bs), pt b1 (.cells #[.slice va (bs.length) (vc), .slice ua (rs.length) (uc), Ix (gx), Ix (gy)] 30)] ∧ (k ≤ (pairsA (reachL (freeB bs) gx gy)).length ∧ hs.map (·.xs) = zI (joinAll (List.replicate (freeB bs).length []) (((pairsA (reachL (freeB bs) gx gy)).take k).map pairN)) ∧ hs.length = (freeB bs).length)) (fun (x_ : Nat × List HI) => match x_ with | (k, hs) => (pairsA (reachL (freeB bs) gx gy)).length - k) (0, hs0) ?_ ?_
   ·exact ⟨⟨rfl, rfl, rfl, rfl, rfl, rfl, rfl⟩, rfl, ⟨by omega, hz0, hs0l⟩⟩
   rintro ⟨k, hs⟩ f0 L0 ⟨⟨hs1, hs4, hs6, hs9, hs55, hs56, hs57⟩, hL, ⟨hk, hz, hsl⟩⟩
   subst L0
   refine rebase (d := 1) hs1 ?_
   refine rebase (d := 4) hs4 ?_
   refine rebase (d := 6) hs6 ?_
   refine rebase (d := 9) hs9 ?_
   refine rebase (d := 55) hs55 ?_
   refine rebase (d := 56) hs56 ?_
   refine rebase (d := 57) hs57 ?_
   clear hs1 hs4 hs6 hs9 hs55 hs56 hs57
   refine c_seq ?_
   refine c_region ?_
   refine l_val (v := .bool (decide (((k : Nat) : Int) < (((pairsA (reachL (freeB bs) gx gy)).length : Nat) : Int)))) rfl rfl rfl (e_lss (a := ((k : Nat) : Int)) (b := (((pairsA (reachL (freeB bs) gx gy)).length : Nat) : Int)) rfl rfl) ?_
   refine l_nil ?_
   refine f_then ?_
   refine c_seq ?_
   refine c_if (((k : Nat) : Int) < (((pairsA (reachL (freeB bs) gx gy)).length : Nat) : Int)) rfl (fun hc17 => ?_) (fun hc17 => ?_)
   ·
    refine c_skip ?_
    refine f_then ?_
    refine c_seq ?_
    refine c_block ?_
    refine c_seq ?_
    refine c_region ?_
    refine l_val (v := .pointer (some ((ba p15).add (k * 2)))) rfl rfl rfl (e_indexFlN 1 (F := PairF) (j := k) (m := (pairsA (reachL (freeB bs) gx gy)).length) (xs := (pairsA (reachL (freeB bs) gx gy))) rfl rfl rfl uz46 (by omega) rfl) ?_
    obtain ⟨x18, hx19⟩ : ∃ x_, (pairsA (reachL (freeB bs) gx gy))[k]? = some x_ := ⟨_, List.getElem?_eq_getElem (by omega)⟩
    refine l_val (v := .agg #[Ix (x18.a), Ix (x18.b)]) rfl rfl rfl (e_load uz47 (cs := [Ix (x18.a), Ix (x18.b)]) rfl (k_flAt 1 (F := PairF) rfl hx19) rfl) ?_
    refine l_mv rfl rfl rfl (m_alloc uz48) ?_
    rintro _ _ ⟨b20, rfl, rfl⟩
    refine l_mu rfl rfl (m_store 0 uz47 (b := b20) (o := 0) (T := 103) (cs := #[.int .i64 (0), .int .i64 (0)]) (cs' := #[Ix (x18.a), Ix (x18.b)]) (v := .agg #[Ix (x18.a), Ix (x18.b)]) rfl rfl rfl rfl rfl rfl rfl) ?_
    refine l_nil ?_
    refine f_then ?_
    obtain ⟨ia, ib, hij, hib, hqE⟩ := pairs_mem (List.mem_of_getElem? hx19)
    have hjn : ia ≠ ib := by omega
    rw [hrl] at hib
    obtain ⟨x, hjx⟩ : ∃ x, hs[ia]? = some x := ⟨_, List.getElem?_eq_getElem (by omega)⟩
    obtain ⟨y, hjy⟩ : ∃ y, hs[ib]? = some y := ⟨_, List.getElem?_eq_getElem (by omega)⟩
    have hjxl : x.xs.length ≤ 1000000 := near_row hz hjx (by rw [List.length_map, List.length_take]; omega)
    have hjyl : y.xs.length ≤ 1000000 := near_row hz hjy (by rw [List.length_map, List.length_take]; omega)
    rw [hqE]
    refine c_re (L' := [pt b20 (.cells #[Nx (ia), Nx (ib)] 103), Sat (hs.map ownI), rowF PairF 103 p15 c16 (pairsA (reachL (freeB bs) gx gy)), pt b7 (.cells #[.slice (some ⟨b6, 0, none⟩) ((freeB bs).length) ((freeB bs).length)] 42), rowF HdIF 46 (some ⟨b6, 0, none⟩) ((freeB bs).length) hs, rowF AreaF 96 tp tc (reachL (freeB bs) gx gy), pt b5 (.cells #[.slice p3 ((freeB bs).length) c4] 25), rowF BodyF 52 p3 c4 (freeB bs), pt b1 (.cells #[.slice va (bs.length) (vc), .slice ua (rs.length) (uc), Ix (gx), Ix (gy)] 30)]) rfl ?_
    refine c_region ?_
    refine l_val (v := .func (.func 46) #[] #[.pointer (some ⟨b7, 0, none⟩)]) rfl rfl rfl (e_move) ?_
    refine l_val (v := .pointer (some ⟨b20, 0, none⟩)) rfl rfl rfl (e_fieldPt (b := b20) (o := 0) rfl uz49) ?_
    refine l_val (v := Nx (ia)) rfl rfl rfl (e_load1 uz11 (v := Nx (ia)) rfl (k_pt 0 (cs := #[Nx (ia), Nx (ib)]) (vs := [Nx (ia)]) rfl rfl)) ?_
    refine l_val (v := .pointer (some ⟨b20, 1, none⟩)) rfl rfl rfl (e_fieldPt (b := b20) (o := 0) rfl uz50) ?_
    refine l_val (v := Nx (ib)) rfl rfl rfl (e_load1 uz11 (v := Nx (ib)) rfl (k_pt 0 (cs := #[Nx (ia), Nx (ib)]) (vs := [Nx (ib)]) rfl rfl)) ?_
    refine l_call rfl rfl rfl (cl_value (fst := []) (cap := [.pointer (some ⟨b7, 0, none⟩)]) (vs := [Nx (ia), Nx (ib)]) (all := [Nx (ia), Nx (ib), .pointer (some ⟨b7, 0, none⟩)]) uz51 rfl rfl rfl) ?_
    intro w hw
    replace hw := hw.perm (L' := _ :: _ :: _ :: _ :: _ :: _ :: _ :: _ :: _ :: []) (by exact (((((((((perm_front 8 rfl).trans (perm_front 8 rfl)).trans (perm_front 8 rfl)).trans (perm_front 8 rfl)).trans (perm_front 6 rfl)).trans (perm_front 5 rfl)).trans (perm_front 6 rfl)).trans (perm_front 8 rfl)).trans (perm_front 8 rfl)))
    obtain ⟨β1, sb, kn, hw1, back⟩ := St.frame (L := [_, _, _]) (M := _ :: _ :: _ :: _ :: _ :: _ :: []) hw
    refine (joinN_ok β1 w b7 (some ⟨b6, 0, none⟩) ((freeB bs).length) hs ia ib _ _ ((freeB bs).length) (by omega) hjx hjy hjn hjxl hjyl hw1).mono ?_
    rintro e w' ⟨rfl, hs21, hxs22, hln23, hw'⟩
    refine ⟨_, rfl, _, back _ _ hw', ?_⟩
    clear hw hw1 hw' back kn sb
    refine l_nil ?_
    refine f_block ?_
    refine f_then ?_
    refine c_region ?_
    refine l_val (v := Nx (k + 1)) rfl rfl rfl (e_add (a := ((k : Nat) : Int)) (b := (1 : Int)) rfl rfl (i64n (by omega) (by omega))) ?_
    refine l_val (v := Nx (k + 1)) rfl rfl rfl (e_move) ?_
    refine l_nil ?_
    refine f_perm (L' := [Sat (hs21.map ownI), rowF PairF 103 p15 c16 (pairsA (reachL (freeB bs) gx gy)), pt b7 (.cells #[.slice (some ⟨b6, 0, none⟩) ((freeB bs).length) ((freeB bs).length)] 42), rowF HdIF 46 (some ⟨b6, 0, none⟩) ((freeB bs).length) hs21, rowF AreaF 96 tp tc (reachL (freeB bs) gx gy), pt b5 (.cells #[.slice p3 ((freeB bs).length) c4] 25), rowF BodyF 52 p3 c4 (freeB bs), pt b1 (.cells #[.slice va (bs.length) (vc), .slice ua (rs.length) (uc), Ix (gx), Ix (gy)] 30), pt b20 (.cells #[Nx (ia), Nx (ib)] 103)]) (perm_ix [2, 4, 0, 1, 5, 6, 7, 8, 3] 9 rfl (by kernel_rfl) (by kernel_rfl)) ?_
    refine f_mask (L' := [Sat (hs21.map ownI), rowF PairF 103 p15 c16 (pairsA (reachL (freeB bs) gx gy)), pt b7 (.cells #[.slice (some ⟨b6, 0, none⟩) ((freeB bs).length) ((freeB bs).length)] 42), rowF HdIF 46 (some ⟨b6, 0, none⟩) ((freeB bs).length) hs21, rowF AreaF 96 tp tc (reachL (freeB bs) gx gy), pt b5 (.cells #[.slice p3 ((freeB bs).length) c4] 25), rowF BodyF 52 p3 c4 (freeB bs), pt b1 (.cells #[.slice va (bs.length) (vc), .slice ua (rs.length) (uc), Ix (gx), Ix (gy)] 30)]) [true, true, true, true, true, true, true, true, false] rfl ?_
    exact f_cut ⟨(k + 1, hs21), ⟨⟨rfl, rfl, rfl, rfl, rfl, rfl, rfl⟩, rfl, ⟨by omega, by rw [hxs22, hz]; exact zI_pair hx19 hqE, by omega⟩⟩, (show (pairsA (reachL (freeB bs) gx gy)).length - (k + 1) < (pairsA (reachL (freeB bs) gx gy)).length - k from by omega)⟩
   ·
    refine c_exit ?_
    refine f_then_exit ?_
    refine f_then_exit ?_
    refine f_exit ?_
    refine f_then ?_
    refine c_seq ?_
    refine c_seq ?_
    rw [List.take_of_length_le (by omega)] at hz
    refine c_region ?_
    refine l_val (v := .pointer (some ⟨b1, 1, none⟩)) rfl rfl rfl (e_fieldPt (b := b1) (o := 0) rfl uz52) ?_
    refine l_val (v := .slice ua (rs.length) (uc)) rfl rfl rfl (e_load1 uz53 (v := .slice ua (rs.length) (uc)) rfl (k_pt 7 (cs := #[.slice va (bs.length) (vc), .slice ua (rs.length) (uc), Ix (gx), Ix (gy)]) (vs := [.slice ua (rs.length) (uc)]) rfl rfl)) ?_
    refine l_val (v := Nx (rs.length)) rfl rfl rfl (e_len (a := ua) (n := rs.length) (c := uc) rfl uz54) ?_
    refine l_val (v := .int .i64 (0)) rfl rfl rfl (e_move) ?_
    refine l_nil ?_
    refine f_then ?_
    refine c_block ?_
    refine c_loop (fun (x_ : Nat × List HI) (f : Fm) (L : List Res) => match x_ with | (k, hs) => (f 4 = .pointer (some ⟨b5, 0, none⟩) ∧ f 6 = .pointer (some ⟨b7, 0, none⟩) ∧ f 9 = .func (.func 46) #[] #[.pointer (some ⟨b7, 0, none⟩)] ∧ f 69 = .slice ua (rs.length) (uc) ∧ f 70 = Nx (rs.length) ∧ f 71 = Nx (k)) ∧ L = [Sat (hs.map ownI), rowF PairF 103 p15 c16 (pairsA (reachL (freeB bs) gx gy)), pt b7 (.cells #[.slice (some ⟨b6, 0, none⟩) ((freeB bs).length) ((freeB bs).length)] 42), rowF HdIF 46 (some ⟨b6, 0, none⟩) ((freeB bs).length) hs, rowF AreaF 96 tp tc (reachL (freeB bs) gx gy), pt b5 (.cells #[.slice p3 ((freeB bs).length) c4] 25), rowF BodyF 52 p3 c4 (freeB bs), pt b1 (.cells #[.slice va (bs.length) (vc), .slice ua (rs.length) (uc), Ix (gx), Ix (gy)] 30)] ∧ (k ≤ rs.length ∧ hs.map (·.xs) = zI (joinAll (List.replicate (freeB bs).length []) ((pairsA (reachL (freeB bs) gx gy)).map pairN ++ (rs.take k).filterMap (ropeN (freeB bs)))) ∧ hs.length = (freeB bs).length)) (fun (x_ : Nat × List HI) => match x_ with | (k, hs) => rs.length - k) (0, hs) ?_ ?_
    ·exact ⟨⟨rfl, rfl, rfl, rfl, rfl, rfl⟩, rfl, ⟨by omega, by rw [List.take_zero, List.filterMap_nil, List.append_nil]; exact hz, hsl⟩⟩
    rintro ⟨k, hs⟩ f0 L0 ⟨⟨hs4, hs6, hs9, hs69, hs70, hs71⟩, hL, ⟨hk, hz, hsl⟩⟩
    subst L0
    refine rebase (d := 4) hs4 ?_
    refine rebase (d := 6) hs6 ?_
    refine rebase (d := 9) hs9 ?_
    refine rebase (d := 69) hs69 ?_
    refine rebase (d := 70) hs70 ?_
    refine rebase (d := 71) hs71 ?_
    clear hs4 hs6 hs9 hs69 hs70 hs71
    refine c_seq ?_
    refine c_region ?_
    refine l_val (v := .bool (decide (((k : Nat) : Int) < ((rs.length : Nat) : Int)))) rfl rfl rfl (e_lss (a := ((k : Nat) : Int)) (b := ((rs.length : Nat) : Int)) rfl rfl) ?_
    refine l_nil ?_
    refine f_then ?_
    refine c_seq ?_
    refine c_if (((k : Nat) : Int) < ((rs.length : Nat) : Int)) rfl (fun hc24 => ?_) (fun hc24 => ?_)
    ·
     refine c_skip ?_
     refine f_then ?_
     refine c_seq ?_
     refine c_block ?_
     refine c_seq ?_
     refine c_region ?_
     obtain ⟨x25, hx26⟩ : ∃ x_, (rs)[k]? = some x_ := ⟨_, List.getElem?_eq_getElem (by omega)⟩
     obtain ⟨ha27, cs28, hc29, rfl⟩ := ue _ _ hx26
     refine l_val (v := .pointer (some ((ba ua).add (k * 3)))) rfl rfl rfl (e_indexAddr (k := k) (len := rs.length) (cap := uc) (a := ua) rfl rfl uz55 (by omega) ha27) ?_
     refine l_val (v := .agg #[Ix (x25.a), Ix (x25.b), Ix (x25.len)]) rfl rfl rfl (e_load uz56 (cs := [Ix (x25.a), Ix (x25.b), Ix (x25.len)]) rfl (Knows.of_base (Cs.mono _ _) hc29) rfl) ?_
     refine l_mv rfl rfl rfl (m_alloc uz57) ?_
     rintro _ _ ⟨b31, rfl, rfl⟩
     refine l_mu rfl rfl (m_store 0 uz56 (b := b31) (o := 0) (T := 78) (cs := #[.int .i64 (0), .int .i64 (0), .int .i64 (0)]) (cs' := #[Ix (x25.a), Ix (x25.b), Ix (x25.len)]) (v := .agg #[Ix (x25.a), Ix (x25.b), Ix (x25.len)]) rfl rfl rfl rfl rfl rfl rfl) ?_
     refine l_nil ?_
     refine f_then ?_
     refine c_seq ?_
     refine c_region ?_
     refine l_val (v := .slice p3 ((freeB bs).length) c4) rfl rfl rfl (e_load1 uz26 (v := .slice p3 ((freeB bs).length) c4) rfl (k_pt 6 (cs := #[.slice p3 ((freeB bs).length) c4]) (vs := [.slice p3 ((freeB bs).length) c4]) rfl rfl)) ?_
     refine l_val (v := .pointer (some ⟨b31, 0, none⟩)) rfl rfl rfl (e_fieldPt (b := b31) (o := 0) rfl uz58) ?_
     refine l_val (v := Ix (x25.a)) rfl rfl rfl (e_load1 uz11 (v := Ix (x25.a)) rfl (k_pt 0 (cs := #[Ix (x25.a), Ix (x25.b), Ix (x25.len)]) (vs := [Ix (x25.a)]) rfl rfl)) ?_
     refine l_call rfl rfl rfl (cl_value (fst := []) (cap := []) (vs := [.slice p3 ((freeB bs).length) c4, Ix (x25.a), .func (.func 49) #[] #[]]) (all := [.slice p3 ((freeB bs).length) c4, Ix (x25.a), .func (.func 49) #[] #[]]) uz59 rfl rfl rfl) ?_
     intro w hw
     obtain ⟨β1, sb, kn, hw1, back⟩ := St.frame_all hw
     refine (find_ok β1 w hw1 _ (freeB bs) (kn _ (k_flN 7 (F := BodyF) (m := (freeB bs).length) rfl rfl)) x25.a hfo (by omega)).mono ?_
     rintro e w' ⟨rfl, hw'⟩
     refine ⟨_, rfl, _, back _ _ hw', ?_⟩
     clear hw hw1 hw' back kn sb
     refine l_val (v := .tuple #[Nx (lbN (freeB bs) x25.a), .bool ((findB (freeB bs) x25.a).isSome)]) rfl rfl rfl (e_move) ?_
     refine l_val (v := Nx (lbN (freeB bs) x25.a)) rfl rfl rfl (e_extract (vs := #[Nx (lbN (freeB bs) x25.a), .bool ((findB (freeB bs) x25.a).isSome)]) rfl rfl) ?_
     refine l_val (v := .bool ((findB (freeB bs) x25.a).isSome)) rfl rfl rfl (e_extract (vs := #[Nx (lbN (freeB bs) x25.a), .bool ((findB (freeB bs) x25.a).isSome)]) rfl rfl) ?_
     refine l_val (v := Nx (lbN (freeB bs) x25.a)) rfl rfl rfl (e_assign) ?_
     refine l_val (v := .bool ((findB (freeB bs) x25.a).isSome)) rfl rfl rfl (e_assign) ?_
     refine l_nil ?_
     refine f_then ?_
     refine c_seq ?_
     refine c_region ?_
     refine l_val (v := .slice p3 ((freeB bs).length) c4) rfl rfl rfl (e_load1 uz26 (v := .slice p3 ((freeB bs).length) c4) rfl (k_pt 6 (cs := #[.slice p3 ((freeB bs).length) c4]) (vs := [.slice p3 ((freeB bs).length) c4]) rfl rfl)) ?_
     refine l_val (v := .pointer (some ⟨b31, 1, none⟩)) rfl rfl rfl (e_fieldPt (b := b31) (o := 0) rfl uz60) ?_
     refine l_val (v := Ix (x25.b)) rfl rfl rfl (e_load1 uz11 (v := Ix (x25.b)) rfl (k_pt 0 (cs := #[Ix (x25.a), Ix (x25.b), Ix (x25.len)]) (vs := [Ix (x25.b)]) rfl rfl)) ?_
     refine l_call rfl rfl rfl (cl_value (fst := []) (cap := []) (vs := [.slice p3 ((freeB bs).length) c4, Ix (x25.b), .func (.func 49) #[] #[]]) (all := [.slice p3 ((freeB bs).length) c4, Ix (x25.b), .func (.func 49) #[] #[]]) uz59 rfl rfl rfl) ?_
     intro w hw
     obtain ⟨β1, sb, kn, hw1, back⟩ := St.frame_all hw
     refine (find_ok β1 w hw1 _ (freeB bs) (kn _ (k_flN 7 (F := BodyF) (m := (freeB bs).length) rfl rfl)) x25.b hfo (by omega)).mono ?_
     rintro e w' ⟨rfl, hw'⟩
     refine ⟨_, rfl, _, back _ _ hw', ?_⟩
     clear hw hw1 hw' back kn sb
     refine l_val (v := .tuple #[Nx (lbN (freeB bs) x25.b), .bool ((findB (freeB bs) x25.b).isSome)]) rfl rfl rfl (e_move) ?_
     refine l_val (v := Nx (lbN (freeB bs) x25.b)) rfl rfl rfl (e_extract (vs := #[Nx (lbN (freeB bs) x25.b), .bool ((findB (freeB bs) x25.b).isSome)]) rfl rfl) ?_
     refine l_val (v := .bool ((findB (freeB bs) x25.b).isSome)) rfl rfl rfl (e_extract (vs := #[Nx (lbN (freeB bs) x25.b), .bool ((findB (freeB bs) x25.b).isSome)]) rfl rfl) ?_
     refine l_val (v := Nx (lbN (freeB bs) x25.b)) rfl rfl rfl (e_assign) ?_
     refine l_val (v := .bool ((findB (freeB bs) x25.b).isSome)) rfl rfl rfl (e_assign) ?_
     refine l_nil ?_
     refine f_then ?_
     refine c_seq ?_
     refine c_region ?_
     refine l_val (v := .bool ((findB (freeB bs) x25.a).isSome)) rfl rfl rfl (e_move) ?_
     refine l_val (v := .bool ((findB (freeB bs) x25.a).isSome)) rfl rfl rfl (e_move) ?_
     refine l_splitb (s := 90) (b := (findB (freeB bs) x25.a).isSome) rfl (fun hg32 => ?_) (fun hg32 => ?_)
     ·
      refine g_val (v := .bool ((findB (freeB bs) x25.b).isSome)) rfl rfl rfl rfl rfl (e_move) ?_
      refine l_val (v := .bool ((findB (freeB bs) x25.b).isSome)) rfl rfl rfl (e_pick_t rfl) ?_
      refine l_nil ?_
      refine f_then ?_
      refine c_ifb ((findB (freeB bs) x25.b).isSome) rfl (fun hc33 => ?_) (fun hc33 => ?_)
      ·
       have hrE : ropeN (freeB bs) x25 = some (lbN (freeB bs) x25.a, lbN (freeB bs) x25.b) := if_pos ⟨hg32, hc33⟩
       obtain ⟨hia, hib, hjn⟩ := rope_in hfo (hrr _ (List.mem_of_getElem? hx26)) hrE
       simp only at hia hib hjn
       obtain ⟨x, hjx⟩ : ∃ x, hs[lbN (freeB bs) x25.a]? = some x := ⟨_, List.getElem?_eq_getElem (by omega)⟩
       obtain ⟨y, hjy⟩ : ∃ y, hs[lbN (freeB bs) x25.b]? = some y := ⟨_, List.getElem?_eq_getElem (by omega)⟩
       have hjxl : x.xs.length ≤ 1000000 := near_row hz hjx (by rw [List.length_append, List.length_map]; have h1 := List.length_filterMap_le (ropeN (freeB bs)) (rs.take k); rw [List.length_take] at h1; omega)
       have hjyl : y.xs.length ≤ 1000000 := near_row hz hjy (by rw [List.length_append, List.length_map]; have h1 := List.length_filterMap_le (ropeN (freeB bs)) (rs.take k); rw [List.length_take] at h1; omega)
       refine c_region ?_
       refine l_val (v := .func (.func 46) #[] #[.pointer (some ⟨b7, 0, none⟩)]) rfl rfl rfl (e_move) ?_
       refine l_val (v := Nx (lbN (freeB bs) x25.a)) rfl rfl rfl (e_move) ?_
       refine l_val (v := Nx (lbN (freeB bs) x25.b)) rfl rfl rfl (e_move) ?_
       refine l_call rfl rfl rfl (cl_value (fst := []) (cap := [.pointer (some ⟨b7, 0, none⟩)]) (vs := [Nx (lbN (freeB bs) x25.a), Nx (lbN (freeB bs) x25.b)]) (all := [Nx (lbN (freeB bs) x25.a), Nx (lbN (freeB bs) x25.b), .pointer (some ⟨b7, 0, none⟩)]) uz51 rfl rfl rfl) ?_
       intro w hw
       replace hw := hw.perm (L' := _ :: _ :: _ :: _ :: _ :: _ :: _ :: _ :: _ :: []) (by exact (((((((((perm_front 8 rfl).trans (perm_front 8 rfl)).trans (perm_front 8 rfl)).trans (perm_front 8 rfl)).trans (perm_front 6 rfl)).trans (perm_front 5 rfl)).trans (perm_front 6 rfl)).trans (perm_front 8 rfl)).trans (perm_front 8 rfl)))
       obtain ⟨β1, sb, kn, hw1, back⟩ := St.frame (L := [_, _, _]) (M := _ :: _ :: _ :: _ :: _ :: _ :: []) hw
       refine (joinN_ok β1 w b7 (some ⟨b6, 0, none⟩) ((freeB bs).length) hs (lbN (freeB bs) x25.a) (lbN (freeB bs) x25.b) _ _ ((freeB bs).length) (by omega) hjx hjy hjn hjxl hjyl hw1).mono ?_
       rintro e w' ⟨rfl, hs34, hxs35, hln36, hw'⟩
       refine ⟨_, rfl, _, back _ _ hw', ?_⟩
       clear hw hw1 hw' back kn sb
       refine l_nil ?_
       refine f_block ?_
       refine f_then ?_
       refine c_region ?_
       refine l_val (v := Nx (k + 1)) rfl rfl rfl (e_add (a := ((k : Nat) : Int)) (b := (1 : Int)) rfl rfl (i64n (by omega) (by omega))) ?_
       refine l_val (v := Nx (k + 1)) rfl rfl rfl (e_move) ?_
       refine l_nil ?_
       refine f_perm (L' := [Sat (hs34.map ownI), rowF PairF 103 p15 c16 (pairsA (reachL (freeB bs) gx gy)), pt b7 (.cells #[.slice (some ⟨b6, 0, none⟩) ((freeB bs).length) ((freeB bs).length)] 42), rowF HdIF 46 (some ⟨b6, 0, none⟩) ((freeB bs).length) hs34, rowF AreaF 96 tp tc (reachL (freeB bs) gx gy), pt b5 (.cells #[.slice p3 ((freeB bs).length) c4] 25), rowF BodyF 52 p3 c4 (freeB bs), pt b1 (.cells #[.slice va (bs.length) (vc), .slice ua (rs.length) (uc), Ix (gx), Ix (gy)] 30), pt b31 (.cells #[Ix (x25.a), Ix (x25.b), Ix (x25.len)] 78)]) (perm_ix [2, 4, 0, 1, 5, 6, 7, 8, 3] 9 rfl (by kernel_rfl) (by kernel_rfl)) ?_
       refine f_mask (L' := [Sat (hs34.map ownI), rowF PairF 103 p15 c16 (pairsA (reachL (freeB bs) gx gy)), pt b7 (.cells #[.slice (some ⟨b6, 0, none⟩) ((freeB bs).length) ((freeB bs).length)] 42), rowF HdIF 46 (some ⟨b6, 0, none⟩) ((freeB bs).length) hs34, rowF AreaF 96 tp tc (reachL (freeB bs) gx gy), pt b5 (.cells #[.slice p3 ((freeB bs).length) c4] 25), rowF BodyF 52 p3 c4 (freeB bs), pt b1 (.cells #[.slice va (bs.length) (vc), .slice ua (rs.length) (uc), Ix (gx), Ix (gy)] 30)]) [true, true, true, true, true, true, true, true, false] rfl ?_
       exact f_cut ⟨(k + 1, hs34), ⟨⟨rfl, rfl, rfl, rfl, rfl, rfl⟩, rfl, ⟨by omega, by rw [hxs35, hz]; exact zI_rope hx26 hrE, by omega⟩⟩, (show rs.length - (k + 1) < rs.length - k from by omega)⟩
      ·
       refine c_skip ?_
       refine f_block ?_
       refine f_then ?_
       refine c_region ?_
       refine l_val (v := Nx (k + 1)) rfl rfl rfl (e_add (a := ((k : Nat) : Int)) (b := (1 : Int)) rfl rfl (i64n (by omega) (by omega))) ?_
       refine l_val (v := Nx (k + 1)) rfl rfl rfl (e_move) ?_
       refine l_nil ?_
       refine f_mask (L' := [Sat (hs.map ownI), rowF PairF 103 p15 c16 (pairsA (reachL (freeB bs) gx gy)), pt b7 (.cells #[.slice (some ⟨b6, 0, none⟩) ((freeB bs).length) ((freeB bs).length)] 42), rowF HdIF 46 (some ⟨b6, 0, none⟩) ((freeB bs).length) hs, rowF AreaF 96 tp tc (reachL (freeB bs) gx gy), pt b5 (.cells #[.slice p3 ((freeB bs).length) c4] 25), rowF BodyF 52 p3 c4 (freeB bs), pt b1 (.cells #[.slice va (bs.length) (vc), .slice ua (rs.length) (uc), Ix (gx), Ix (gy)] 30)]) [false, true, true, true, true, true, true, true, true] rfl ?_
       exact f_cut ⟨(k + 1, hs), ⟨⟨rfl, rfl, rfl, rfl, rfl, rfl⟩, rfl, ⟨by omega, by rw [hz, rope_no hx26 (fun q => by rw [hc33] at q; exact absurd q.2 (by decide))], by omega⟩⟩, (show rs.length - (k + 1) < rs.length - k from by omega)⟩
     ·
      refine l_skip rfl rfl rfl rfl rfl rfl ?_
      refine l_val (v := .bool false) rfl rfl rfl (e_pick_f rfl) ?_
      refine l_nil ?_
      refine f_then ?_
      refine c_no rfl ?_
      refine c_skip ?_
      refine f_block ?_
      refine f_then ?_
      refine c_region ?_
      refine l_val (v := Nx (k + 1)) rfl rfl rfl (e_add (a := ((k : Nat) : Int)) (b := (1 : Int)) rfl rfl (i64n (by omega) (by omega))) ?_
      refine l_val (v := Nx (k + 1)) rfl rfl rfl (e_move) ?_
      refine l_nil ?_
      refine f_mask (L' := [Sat (hs.map ownI), rowF PairF 103 p15 c16 (pairsA (reachL (freeB bs) gx gy)), pt b7 (.cells #[.slice (some ⟨b6, 0, none⟩) ((freeB bs).length) ((freeB bs).length)] 42), rowF HdIF 46 (some ⟨b6, 0, none⟩) ((freeB bs).length) hs, rowF AreaF 96 tp tc (reachL (freeB bs) gx gy), pt b5 (.cells #[.slice p3 ((freeB bs).length) c4] 25), rowF BodyF 52 p3 c4 (freeB bs), pt b1 (.cells #[.slice va (bs.length) (vc), .slice ua (rs.length) (uc), Ix (gx), Ix (gy)] 30)]) [false, true, true, true, true, true, true, true, true] rfl ?_
      exact f_cut ⟨(k + 1, hs), ⟨⟨rfl, rfl, rfl, rfl, rfl, rfl⟩, rfl, ⟨by omega, by rw [hz, rope_no hx26 (fun q => by rw [hg32] at q; exact absurd q.1 (by decide))], by omega⟩⟩, (show rs.length - (k + 1) < rs.length - k from by omega)⟩
    ·
     refine c_exit ?_
     refine f_then_exit ?_
     refine f_then_exit ?_
     refine f_exit ?_
     refine f_then ?_
     refine c_seq ?_
     rw [List.take_of_length_le (by omega)] at hz
     have hz : hs.map (·.xs) = zI (nearI (freeB bs) rs gx gy) := hz
     have hnl : (nearI (freeB bs) rs gx gy).length = (freeB bs).length := by show (joinAll _ _).length = _; rw [joinAll_len, List.length_replicate]
     have hin := near_in (gx := gx) (gy := gy) hfo hrr
     refine c_region ?_
     refine l_val (v := .slice none 0 0) rfl rfl rfl (e_assign) ?_
     refine l_nil ?_
     refine f_then ?_
     refine c_seq ?_
     refine c_region ?_
     refine l_val (v := .slice p3 ((freeB bs).length) c4) rfl rfl rfl (e_load1 uz26 (v := .slice p3 ((freeB bs).length) c4) rfl (k_pt 5 (cs := #[.slice p3 ((freeB bs).length) c4]) (vs := [.slice p3 ((freeB bs).length) c4]) rfl rfl)) ?_
     refine l_val (v := Nx ((freeB bs).length)) rfl rfl rfl (e_len (a := p3) (n := (freeB bs).length) (c := c4) rfl uz15) ?_
     refine l_mv rfl rfl rfl (m_makeF (F := IntF) (x0 := 0) (c := (freeB bs).length) uz23 uz25 uz24 rfl rfl rfl (by unfold maxLen; omega) (by omega)) ?_
     rintro _ _ ⟨b37, rfl, rfl⟩
     refine l_mv rfl rfl rfl (m_alloc uz38) ?_
     rintro _ _ ⟨b38, rfl, rfl⟩
     refine l_mu rfl rfl (m_store 0 uz22 (b := b38) (o := 0) (T := 46) (cs := #[.slice none 0 0]) (cs' := #[.slice (some ⟨b37, 0, none⟩) ((freeB bs).length) ((freeB bs).length)]) (v := .slice (some ⟨b37, 0, none⟩) ((freeB bs).length) ((freeB bs).length)) rfl rfl rfl rfl rfl rfl rfl) ?_
     refine l_nil ?_
     refine f_then ?_
     refine c_seq ?_
     refine c_region ?_
     refine l_mv rfl rfl rfl (m_alloc uz61) ?_
     rintro _ _ ⟨b39, rfl, rfl⟩
     refine l_nil ?_
     refine f_then ?_
     refine c_seq ?_
     refine c_region ?_
     refine l_val (v := .func (.func 50) #[] #[.pointer (some ⟨b38, 0, none⟩), .pointer (some ⟨b5, 0, none⟩), .pointer (some ⟨b7, 0, none⟩), .pointer (some ⟨b39, 0, none⟩)]) rfl rfl rfl (e_func (u := []) (v := [.pointer (some ⟨b38, 0, none⟩), .pointer (some ⟨b5, 0, none⟩), .pointer (some ⟨b7, 0, none⟩), .pointer (some ⟨b39, 0, none⟩)]) rfl rfl) ?_
     refine l_mu rfl rfl (m_store 0 uz29 (b := b39) (o := 0) (T := 107) (cs := #[.nilFunc]) (cs' := #[.func (.func 50) #[] #[.pointer (some ⟨b38, 0, none⟩), .pointer (some ⟨b5, 0, none⟩), .pointer (some ⟨b7, 0, none⟩), .pointer (some ⟨b39, 0, none⟩)]]) (v := .func (.func 50) #[] #[.pointer (some ⟨b38, 0, none⟩), .pointer (some ⟨b5, 0, none⟩), .pointer (some ⟨b7, 0, none⟩), .pointer (some ⟨b39, 0, none⟩)]) rfl rfl rfl rfl rfl rfl rfl) ?_
     refine l_nil ?_
     refine f_then ?_
     refine c_seq ?_
     refine c_seq ?_
     refine c_perm (L' := [rowF HdIF 46 (some ⟨b6, 0, none⟩) ((freeB bs).length) hs, Sat (hs.map ownI), pt b39 (.cells #[.func (.func 50) #[] #[.pointer (some ⟨b38, 0, none⟩), .pointer (some ⟨b5, 0, none⟩), .pointer (some ⟨b7, 0, none⟩), .pointer (some ⟨b39, 0, none⟩)]] 107), pt b38 (.cells #[.slice (some ⟨b37, 0, none⟩) ((freeB bs).length) ((freeB bs).length)] 46), rowF IntF 3 (some ⟨b37, 0, none⟩) ((freeB bs).length) (List.replicate ((freeB bs).length) 0), rowF PairF 103 p15 c16 (pairsA (reachL (freeB bs) gx gy)), pt b7 (.cells #[.slice (some ⟨b6, 0, none⟩) ((freeB bs).length) ((freeB bs).length)] 42), rowF AreaF 96 tp tc (reachL (freeB bs) gx gy), pt b5 (.cells #[.slice p3 ((freeB bs).length) c4] 25), rowF BodyF 52 p3 c4 (freeB bs), pt b1 (.cells #[.slice va (bs.length) (vc), .slice ua (rs.length) (uc), Ix (gx), Ix (gy)] 30)]) (perm_ix [6, 3, 0, 1, 2, 4, 5, 7, 8, 9, 10] 11 rfl (by kernel_rfl) (by kernel_rfl)) ?_
     refine c_merge (K := llL (some ⟨b6, 0, none⟩) ((freeB bs).length) hs) (M := [pt b39 (.cells #[.func (.func 50) #[] #[.pointer (some ⟨b38, 0, none⟩), .pointer (some ⟨b5, 0, none⟩), .pointer (some ⟨b7, 0, none⟩), .pointer (some ⟨b39, 0, none⟩)]] 107), pt b38 (.cells #[.slice (some ⟨b37, 0, none⟩) ((freeB bs).length) ((freeB bs).length)] 46), rowF IntF 3 (some ⟨b37, 0, none⟩) ((freeB bs).length) (List.replicate ((freeB bs).length) 0), rowF PairF 103 p15 c16 (pairsA (reachL (freeB bs) gx gy)), pt b7 (.cells #[.slice (some ⟨b6, 0, none⟩) ((freeB bs).length) ((freeB bs).length)] 42), rowF AreaF 96 tp tc (reachL (freeB bs) gx gy), pt b5 (.cells #[.slice p3 ((freeB bs).length) c4] 25), rowF BodyF 52 p3 c4 (freeB bs), pt b1 (.cells #[.slice va (bs.length) (vc), .slice ua (rs.length) (uc), Ix (gx), Ix (gy)] 30)]) rfl ?_
     refine c_mask [true, true, true, true, false, true, false, true, true, false] rfl ?_
     refine c_perm (L' := [rowF IntF 3 (some ⟨b37, 0, none⟩) ((freeB bs).length) (List.replicate ((freeB bs).length) 0), pt b38 (.cells #[.slice (some ⟨b37, 0, none⟩) ((freeB bs).length) ((freeB bs).length)] 46), pt b5 (.cells #[.slice p3 ((freeB bs).length) c4] 25), pt b7 (.cells #[.slice (some ⟨b6, 0, none⟩) ((freeB bs).length) ((freeB bs).length)] 42), pt b39 (.cells #[.func (.func 50) #[] #[.pointer (some ⟨b38, 0, none⟩), .pointer (some ⟨b5, 0, none⟩), .pointer (some ⟨b7, 0, none⟩), .pointer (some ⟨b39, 0, none⟩)]] 107), rowF BodyF 52 p3 c4 (freeB bs), Sat (llL (some ⟨b6, 0, none⟩) ((freeB bs).length) hs)]) (perm_ix [3, 2, 5, 4, 1, 6, 0] 7 rfl (by kernel_rfl) (by kernel_rfl)) ?_
     refine c_freeze2 (M := [rowF IntF 3 (some ⟨b37, 0, none⟩) ((freeB bs).length) (List.replicate ((freeB bs).length) 0)]) (K := [pt b38 (.cells #[.slice (some ⟨b37, 0, none⟩) ((freeB bs).length) ((freeB bs).length)] 46), pt b5 (.cells #[.slice p3 ((freeB bs).length) c4] 25), pt b7 (.cells #[.slice (some ⟨b6, 0, none⟩) ((freeB bs).length) ((freeB bs).length)] 42), pt b39 (.cells #[.func (.func 50) #[] #[.pointer (some ⟨b38, 0, none⟩), .pointer (some ⟨b5, 0, none⟩), .pointer (some ⟨b7, 0, none⟩), .pointer (some ⟨b39, 0, none⟩)]] 107), rowF BodyF 52 p3 c4 (freeB bs), Sat (llL (some ⟨b6, 0, none⟩) ((freeB bs).length) hs)]) rfl (fun βf ext1 kn1 bk1 => ?_)
     have hC : VisC βf (freeB bs) (nearI (freeB bs) rs gx gy) b38 b5 b7 b39 (some ⟨b37, 0, none⟩) ((freeB bs).length) := ⟨kn1 _ (k_pt 0 (o := 0) (cs := #[.slice (some ⟨b37, 0, none⟩) ((freeB bs).length) ((freeB bs).length)]) (vs := [.slice (some ⟨b37, 0, none⟩) ((freeB bs).length) ((freeB bs).length)]) rfl rfl), ⟨_, kn1 _ (k_pt 1 (o := 0) (cs := #[.slice p3 ((freeB bs).length) c4]) (vs := [.slice p3 ((freeB bs).length) c4]) rfl rfl), kn1 _ (Knows.of_res 4 rfl (Sl.mono KBR _ _) fun _ h => rowF_sl h)⟩, ⟨_, kn1 _ (k_pt 2 (o := 0) (cs := #[.slice (some ⟨b6, 0, none⟩) ((freeB bs).length) ((freeB bs).length)]) (vs := [.slice (some ⟨b6, 0, none⟩) ((freeB bs).length) ((freeB bs).length)]) rfl rfl), by have h := kn1 _ (k_ll 5 rfl); rw [hz, hsl] at h; exact h⟩, kn1 _ (k_pt 3 (o := 0) (cs := #[.func (.func 50) #[] #[.pointer (some ⟨b38, 0, none⟩), .pointer (some ⟨b5, 0, none⟩), .pointer (some ⟨b7, 0, none⟩), .pointer (some ⟨b39, 0, none⟩)]]) (vs := [.func (.func 50) #[] #[.pointer (some ⟨b38, 0, none⟩), .pointer (some ⟨b5, 0, none⟩), .pointer (some ⟨b7, 0, none⟩), .pointer (some ⟨b39, 0, none⟩)]]) rfl rfl)⟩
     have hcf : Cs βf.heap ⟨b5, 0, none⟩ [.slice p3 ((freeB bs).length) c4] := kn1 _ (k_pt 1 (o := 0) (cs := #[.slice p3 ((freeB bs).length) c4]) (vs := [.slice p3 ((freeB bs).length) c4]) rfl rfl)
     refine c_emp (r := rowF HdIF 46 none 0 []) (row_nil _ _ _) ?_
     refine c_emp (r := Sat (([] : List HI).map ownI)) trivial ?_
     refine c_region ?_
     refine l_val (v := .slice p3 ((freeB bs).length) (c4)) rfl rfl rfl (e_load1 uz26 (v := .slice p3 ((freeB bs).length) (c4)) rfl (Knows.of_base (Cs.mono _ _) hcf)) ?_
     refine l_val (v := Nx ((freeB bs).length)) rfl rfl rfl (e_len (a := p3) (n := (freeB bs).length) (c := c4) rfl uz15) ?_
     refine l_val (v := .int .i64 (0)) rfl rfl rfl (e_move) ?_
     refine l_nil ?_
     refine f_then ?_
     refine c_block ?_
     refine c_loop (fun (x_ : Nat × List HI × Option Addr × Nat) (f : Fm) (L : List Res) => match x_ with | (i, ho, op, oc) => (f 20 = .slice op (ho.length) oc ∧ f 22 = .pointer (some (⟨b39, 0, none⟩)) ∧ f 103 = Nx ((freeB bs).length) ∧ f 104 = Nx (i)) ∧ L = [Sat (ho.map ownI), rowF HdIF 46 op oc ho, rowF IntF 3 (some ⟨b37, 0, none⟩) ((freeB bs).length) ((islF (nearI (freeB bs) rs gx gy) (freeB bs).length i).1)] ∧ (i ≤ (freeB bs).length ∧ ho.map (·.xs) = (islF (nearI (freeB bs) rs gx gy) (freeB bs).length i).2.map (fun l => sortI (l.map (idAt (freeB bs)))) ∧ ho.length ≤ i)) (fun (x_ : Nat × List HI × Option Addr × Nat) => match x_ with | (i, ho, op, oc) => (freeB bs).length - i) (0, [], none, 0) ?_ ?_
     ·exact ⟨⟨rfl, rfl, rfl, rfl⟩, rfl, ⟨by omega, rfl, Nat.le_refl _⟩⟩
     rintro ⟨i, ho, op, oc⟩ f0 L0 ⟨⟨hs20, hs22, hs103, hs104⟩, hL, ⟨hi, hho, hhl⟩⟩
     subst L0
     refine rebase (d := 20) hs20 ?_
     refine rebase (d := 22) hs22 ?_
     refine rebase (d := 103) hs103 ?_
     refine rebase (d := 104) hs104 ?_
     clear hs20 hs22 hs103 hs104
     have hip := isl_spec hin i (by omega)
     have hil := hip.len
     refine c_seq ?_
     refine c_region ?_
     refine l_val (v := .bool (decide (((i : Nat) : Int) < (((freeB bs).length : Nat) : Int)))) rfl rfl rfl (e_lss (a := ((i : Nat) : Int)) (b := (((freeB bs).length : Nat) : Int)) rfl rfl) ?_
     refine l_nil ?_
     refine f_then ?_
     refine c_seq ?_
     refine c_if (((i : Nat) : Int) < (((freeB bs).length : Nat) : Int)) rfl (fun hc40 => ?_) (fun hc40 => ?_)
     ·
      refine c_skip ?_
      refine f_then ?_
      refine c_seq ?_
      refine c_block ?_
      refine c_seq ?_
      refine c_region ?_
      refine l_val (v := Nx (i)) rfl rfl rfl (e_move) ?_
      refine l_val (v := Nx (i)) rfl rfl rfl (e_assign) ?_
      refine l_nil ?_
      refine f_then ?_
      refine c_seq ?_
      refine c_region ?_
      refine l_val (v := .func (.func 50) #[] #[.pointer (some ⟨b38, 0, none⟩), .pointer (some ⟨b5, 0, none⟩), .pointer (some ⟨b7, 0, none⟩), .pointer (some ⟨b39, 0, none⟩)]) rfl rfl rfl (e_load1 uz29 (v := .func (.func 50) #[] #[.pointer (some ⟨b38, 0, none⟩), .pointer (some ⟨b5, 0, none⟩), .pointer (some ⟨b7, 0, none⟩), .pointer (some ⟨b39, 0, none⟩)]) rfl (Knows.of_base (Cs.mono _ _) hC.cv)) ?_
      refine l_val (v := Nx (i)) rfl rfl rfl (e_move) ?_
      refine l_call rfl rfl rfl (cl_value (fst := []) (cap := [.pointer (some ⟨b38, 0, none⟩), .pointer (some ⟨b5, 0, none⟩), .pointer (some ⟨b7, 0, none⟩), .pointer (some ⟨b39, 0, none⟩)]) (vs := [Nx (i)]) (all := [Nx (i), .pointer (some ⟨b38, 0, none⟩), .pointer (some ⟨b5, 0, none⟩), .pointer (some ⟨b7, 0, none⟩), .pointer (some ⟨b39, 0, none⟩)]) uz30 rfl rfl rfl) ?_
      intro w hw
      replace hw := hw.perm (L' := _ :: _ :: _ :: []) (by exact (((perm_front 1 rfl).trans (perm_front 1 rfl)).trans (perm_front 2 rfl)))
      obtain ⟨β1, sb, kn, hw1, back⟩ := St.frame (L := [_]) (M := _ :: _ :: []) hw
      refine (visit_ok (freeB bs) (nearI (freeB bs) rs gx gy) b38 b5 b7 b39 (some ⟨b37, 0, none⟩) ((freeB bs).length) (freeB bs).length β1 w ((islF (nearI (freeB bs) rs gx gy) (freeB bs).length i).1) i (hC.mono sb) hin hil hnl (by omega) (by omega) (by have := left_le ((islF (nearI (freeB bs) rs gx gy) (freeB bs).length i).1); omega) hw1).mono ?_
      rintro e w' ⟨p41, c42, rfl, hw'⟩
      refine ⟨_, rfl, _, back _ _ hw', ?_⟩
      clear hw hw1 hw' back kn sb
      refine l_val (v := .slice p41 (((visitF (nearI (freeB bs) rs gx gy) ((freeB bs).length + 1) (islF (nearI (freeB bs) rs gx gy) (freeB bs).length i).1 i).1.map (idAt (freeB bs))).length) c42) rfl rfl rfl (e_assign) ?_
      refine l_nil ?_
      refine f_then ?_
      refine c_seq ?_
      have hvs := visit_spec (freeB bs).length (islF (nearI (freeB bs) rs gx gy) (freeB bs).length i).1 i (by rw [hil]; exact hin) (by omega) (by have := left_le (islF (nearI (freeB bs) rs gx gy) (freeB bs).length i).1; omega)
      have hvl : ((visitF (nearI (freeB bs) rs gx gy) ((freeB bs).length + 1) (islF (nearI (freeB bs) rs gx gy) (freeB bs).length i).1 i).1.map (idAt (freeB bs))).length ≤ 1000 := by rw [List.length_map]; exact nodup_le hvs.once (fun z hz => (hvs.new z hz).2) (by omega)
      refine c_region ?_
      refine l_val (v := .slice p41 (((visitF (nearI (freeB bs) rs gx gy) ((freeB bs).length + 1) (islF (nearI (freeB bs) rs gx gy) (freeB bs).length i).1 i).1.map (idAt (freeB bs))).length) c42) rfl rfl rfl (e_move) ?_
      refine l_val (v := Nx (((visitF (nearI (freeB bs) rs gx gy) ((freeB bs).length + 1) (islF (nearI (freeB bs) rs gx gy) (freeB bs).length i).1 i).1.map (idAt (freeB bs))).length)) rfl rfl rfl (e_len (a := p41) (n := ((visitF (nearI (freeB bs) rs gx gy) ((freeB bs).length + 1) (islF (nearI (freeB bs) rs gx gy) (freeB bs).length i).1 i).1.map (idAt (freeB bs))).length) (c := c42) rfl uz28) ?_
      refine l_val (v := .bool (decide ((0 : Int) < ((((visitF (nearI (freeB bs) rs gx gy) ((freeB bs).length + 1) (islF (nearI (freeB bs) rs gx gy) (freeB bs).length i).1 i).1.map (idAt (freeB bs))).length : Nat) : Int)))) rfl rfl rfl (e_gtr (a := ((((visitF (nearI (freeB bs) rs gx gy) ((freeB bs).length + 1) (islF (nearI (freeB bs) rs gx gy) (freeB bs).length i).1 i).1.map (idAt (freeB bs))).length : Nat) : Int)) (b := (0 : Int)) rfl rfl) ?_
      refine l_nil ?_
      refine f_then ?_
      refine c_if ((0 : Int) < ((((visitF (nearI (freeB bs) rs gx gy) ((freeB bs).length + 1) (islF (nearI (freeB bs) rs gx gy) (freeB bs).length i).1 i).1.map (idAt (freeB bs))).length : Nat) : Int)) rfl (fun hc43 => ?_) (fun hc43 => ?_)
      ·
       refine c_seq ?_
       refine c_region ?_
       refine l_val (v := .slice p41 (((visitF (nearI (freeB bs) rs gx gy) ((freeB bs).length + 1) (islF (nearI (freeB bs) rs gx gy) (freeB bs).length i).1 i).1.map (idAt (freeB bs))).length) c42) rfl rfl rfl (e_move) ?_
       refine l_call rfl rfl rfl (cl_value (fst := []) (cap := []) (vs := [.slice p41 (((visitF (nearI (freeB bs) rs gx gy) ((freeB bs).length + 1) (islF (nearI (freeB bs) rs gx gy) (freeB bs).length i).1 i).1.map (idAt (freeB bs))).length) c42]) (all := [.slice p41 (((visitF (nearI (freeB bs) rs gx gy) ((freeB bs).length + 1) (islF (nearI (freeB bs) rs gx gy) (freeB bs).length i).1 i).1.map (idAt (freeB bs))).length) c42]) uz62 rfl rfl rfl) ?_
       intro w hw
       replace hw := hw.perm (L' := _ :: _ :: _ :: _ :: []) (by exact ((((perm_front 3 rfl).trans (perm_front 3 rfl)).trans (perm_front 3 rfl)).trans (perm_front 3 rfl)))
       obtain ⟨β1, sb, kn, hw1, back⟩ := St.frame (L := [_]) (M := _ :: _ :: _ :: []) hw
       refine (sortI_ok β1 w _ _ ((visitF (nearI (freeB bs) rs gx gy) ((freeB bs).length + 1) (islF (nearI (freeB bs) rs gx gy) (freeB bs).length i).1 i).1.map (idAt (freeB bs))) hw1 (by omega)).mono ?_
       rintro e w' ⟨rfl, hw'⟩
       refine ⟨_, rfl, _, back _ _ hw', ?_⟩
       clear hw hw1 hw' back kn sb
       refine l_nil ?_
       refine f_then ?_
       refine rebase (d := 24) (v := .slice p41 (sortI ((visitF (nearI (freeB bs) rs gx gy) ((freeB bs).length + 1) (islF (nearI (freeB bs) rs gx gy) (freeB bs).length i).1 i).1.map (idAt (freeB bs)))).length c42) (by show Value.slice _ _ _ = Value.slice _ _ _; rw [sortI_len]) ?_
       refine c_region ?_
       refine l_val (v := .slice op (ho.length) oc) rfl rfl rfl (e_move) ?_
       refine l_val (v := .slice p41 ((sortI ((visitF (nearI (freeB bs) rs gx gy) ((freeB bs).length + 1) (islF (nearI (freeB bs) rs gx gy) (freeB bs).length i).1 i).1.map (idAt (freeB bs)))).length) c42) rfl rfl rfl (e_move) ?_
       refine l_mv rfl rfl rfl (m_slices uz21 uz38 (vs := [(0, .slice p41 ((sortI ((visitF (nearI (freeB bs) rs gx gy) ((freeB bs).length + 1) (islF (nearI (freeB bs) rs gx gy) (freeB bs).length i).1 i).1.map (idAt (freeB bs)))).length) c42)]) (cells := #[.slice p41 ((sortI ((visitF (nearI (freeB bs) rs gx gy) ((freeB bs).length + 1) (islF (nearI (freeB bs) rs gx gy) (freeB bs).length i).1 i).1.map (idAt (freeB bs)))).length) c42]) rfl rfl rfl rfl) ?_
       rintro _ _ ⟨b44, rfl, rfl⟩
       refine l_mv rfl rfl rfl (m_appendFlN (F := HdIF) 4 uz21 uz37 (p := op) (m := ho.length) (xs := ho) (ys := [(⟨p41, c42, (sortI ((visitF (nearI (freeB bs) rs gx gy) ((freeB bs).length + 1) (islF (nearI (freeB bs) rs gx gy) (freeB bs).length i).1 i).1.map (idAt (freeB bs))))⟩ : HI)]) (ao := (some ⟨b44, 0, none⟩)) (k := 1) (c := 1) rfl rfl rfl rfl rfl (k_ptFl (z := (⟨p41, c42, (sortI ((visitF (nearI (freeB bs) rs gx gy) ((freeB bs).length + 1) (islF (nearI (freeB bs) rs gx gy) (freeB bs).length i).1 i).1.map (idAt (freeB bs))))⟩ : HI)) 0 rfl rfl) (by first | omega | simp only [List.length_nil, List.length_cons, List.length_append, List.length_set]; omega) (by first | omega | simp only [List.length_nil, List.length_cons, List.length_append, List.length_set]; omega)) ?_
       rintro _ _ ⟨rp45, rc46, rfl, rfl⟩
       refine l_val (v := .slice rp45 ((ho ++ [(⟨p41, c42, (sortI ((visitF (nearI (freeB bs) rs gx gy) ((freeB bs).length + 1) (islF (nearI (freeB bs) rs gx gy) (freeB bs).length i).1 i).1.map (idAt (freeB bs))))⟩ : HI)]).length) rc46) rfl rfl rfl (e_assign) ?_
       refine l_nil ?_
       refine f_block ?_
       refine f_then ?_
       refine c_region ?_
       refine l_val (v := Nx (i + 1)) rfl rfl rfl (e_add (a := ((i : Nat) : Int)) (b := (1 : Int)) rfl rfl (i64n (by omega) (by omega))) ?_
       refine l_val (v := Nx (i + 1)) rfl rfl rfl (e_move) ?_
       refine l_nil ?_
       refine f_perm (L' := [Sat (ho.map ownI), rowF IntF 3 p41 c42 (sortI ((visitF (nearI (freeB bs) rs gx gy) ((freeB bs).length + 1) (islF (nearI (freeB bs) rs gx gy) (freeB bs).length i).1 i).1.map (idAt (freeB bs)))), pt b44 (.cells #[.slice p41 ((sortI ((visitF (nearI (freeB bs) rs gx gy) ((freeB bs).length + 1) (islF (nearI (freeB bs) rs gx gy) (freeB bs).length i).1 i).1.map (idAt (freeB bs)))).length) c42] 46), rowF IntF 3 (some ⟨b37, 0, none⟩) ((freeB bs).length) ((visitF (nearI (freeB bs) rs gx gy) ((freeB bs).length + 1) (islF (nearI (freeB bs) rs gx gy) (freeB bs).length i).1 i).2), rowF HdIF 46 rp45 rc46 (ho ++ [(⟨p41, c42, (sortI ((visitF (nearI (freeB bs) rs gx gy) ((freeB bs).length + 1) (islF (nearI (freeB bs) rs gx gy) (freeB bs).length i).1 i).1.map (idAt (freeB bs))))⟩ : HI)])]) (perm_ix [3, 1, 0, 2, 4] 5 rfl (by kernel_rfl) (by kernel_rfl)) ?_
       refine f_snocI (x := (⟨p41, c42, (sortI ((visitF (nearI (freeB bs) rs gx gy) ((freeB bs).length + 1) (islF (nearI (freeB bs) rs gx gy) (freeB bs).length i).1 i).1.map (idAt (freeB bs))))⟩ : HI)) rfl ?_
       refine f_perm (L' := [Sat ((ho ++ [(⟨p41, c42, (sortI ((visitF (nearI (freeB bs) rs gx gy) ((freeB bs).length + 1) (islF (nearI (freeB bs) rs gx gy) (freeB bs).length i).1 i).1.map (idAt (freeB bs))))⟩ : HI)]).map ownI), rowF HdIF 46 rp45 rc46 (ho ++ [(⟨p41, c42, (sortI ((visitF (nearI (freeB bs) rs gx gy) ((freeB bs).length + 1) (islF (nearI (freeB bs) rs gx gy) (freeB bs).length i).1 i).1.map (idAt (freeB bs))))⟩ : HI)]), rowF IntF 3 (some ⟨b37, 0, none⟩) ((freeB bs).length) ((visitF (nearI (freeB bs) rs gx gy) ((freeB bs).length + 1) (islF (nearI (freeB bs) rs gx gy) (freeB bs).length i).1 i).2), pt b44 (.cells #[.slice p41 ((sortI ((visitF (nearI (freeB bs) rs gx gy) ((freeB bs).length + 1) (islF (nearI (freeB bs) rs gx gy) (freeB bs).length i).1 i).1.map (idAt (freeB bs)))).length) c42] 46)]) (perm_ix [0, 3, 2, 1] 4 rfl (by kernel_rfl) (by kernel_rfl)) ?_
       refine f_mask (L' := [Sat ((ho ++ [(⟨p41, c42, (sortI ((visitF (nearI (freeB bs) rs gx gy) ((freeB bs).length + 1) (islF (nearI (freeB bs) rs gx gy) (freeB bs).length i).1 i).1.map (idAt (freeB bs))))⟩ : HI)]).map ownI), rowF HdIF 46 rp45 rc46 (ho ++ [(⟨p41, c42, (sortI ((visitF (nearI (freeB bs) rs gx gy) ((freeB bs).length + 1) (islF (nearI (freeB bs) rs gx gy) (freeB bs).length i).1 i).1.map (idAt (freeB bs))))⟩ : HI)]), rowF IntF 3 (some ⟨b37, 0, none⟩) ((freeB bs).length) ((visitF (nearI (freeB bs) rs gx gy) ((freeB bs).length + 1) (islF (nearI (freeB bs) rs gx gy) (freeB bs).length i).1 i).2)]) [true, true, true, false] rfl ?_
       exact f_cut ⟨(i + 1, (ho ++ [(⟨p41, c42, (sortI ((visitF (nearI (freeB bs) rs gx gy) ((freeB bs).length + 1) (islF (nearI (freeB bs) rs gx gy) (freeB bs).length i).1 i).1.map (idAt (freeB bs))))⟩ : HI)]), rp45, rc46), ⟨⟨rfl, rfl, rfl, rfl⟩, rfl, ⟨by omega, by rw [List.map_append, hho]; exact isl_yes (fun q => by rw [q] at hc43; exact absurd hc43 (by simp)), by first | omega | (rw [List.length_append]; simp only [List.length_singleton]; omega)⟩⟩, (show (freeB bs).length - (i + 1) < (freeB bs).length - i from by omega)⟩
      ·
       refine c_skip ?_
       refine f_block ?_
       refine f_then ?_
       refine c_region ?_
       refine l_val (v := Nx (i + 1)) rfl rfl rfl (e_add (a := ((i : Nat) : Int)) (b := (1 : Int)) rfl rfl (i64n (by omega) (by omega))) ?_
       refine l_val (v := Nx (i + 1)) rfl rfl rfl (e_move) ?_
       refine l_nil ?_
       refine f_perm (L' := [Sat (ho.map ownI), rowF HdIF 46 op oc ho, rowF IntF 3 (some ⟨b37, 0, none⟩) ((freeB bs).length) ((visitF (nearI (freeB bs) rs gx gy) ((freeB bs).length + 1) (islF (nearI (freeB bs) rs gx gy) (freeB bs).length i).1 i).2), rowF IntF 3 p41 c42 ((visitF (nearI (freeB bs) rs gx gy) ((freeB bs).length + 1) (islF (nearI (freeB bs) rs gx gy) (freeB bs).length i).1 i).1.map (idAt (freeB bs)))]) (perm_ix [2, 3, 1, 0] 4 rfl (by kernel_rfl) (by kernel_rfl)) ?_
       refine f_mask (L' := [Sat (ho.map ownI), rowF HdIF 46 op oc ho, rowF IntF 3 (some ⟨b37, 0, none⟩) ((freeB bs).length) ((visitF (nearI (freeB bs) rs gx gy) ((freeB bs).length + 1) (islF (nearI (freeB bs) rs gx gy) (freeB bs).length i).1 i).2)]) [true, true, true, false] rfl ?_
       exact f_cut ⟨(i + 1, ho, op, oc), ⟨⟨rfl, rfl, rfl, rfl⟩, rfl, ⟨by omega, by rw [hho]; exact isl_no (len_zero hc43), by first | omega | (rw [List.length_append]; simp only [List.length_singleton]; omega)⟩⟩, (show (freeB bs).length - (i + 1) < (freeB bs).length - i from by omega)⟩
     ·
      refine c_exit ?_
      refine f_then_exit ?_
      refine f_then_exit ?_
      refine f_exit ?_
      refine f_then ?_
      refine c_seq ?_
      refine c_region ?_
      refine l_val (v := .slice op (ho.length) oc) rfl rfl rfl (e_move) ?_
      refine l_val (v := .slice op (ho.length) oc) rfl rfl rfl (e_assign) ?_
      refine l_val (v := .int .i64 (0)) rfl rfl rfl (e_assign) ?_
      refine l_nil ?_
      refine f_then ?_
      refine c_ret ?_
      refine ret2 (v := .slice op (ho.length) oc) (v' := .int .i64 (0)) Tryz.results10 rfl rfl ?_
      intro w hw
      replace hw := hw.perm (L' := [rowF HdIF 46 op oc ho, Sat (ho.map ownI), rowF IntF 3 (some ⟨b37, 0, none⟩) ((freeB bs).length) ((islF (nearI (freeB bs) rs gx gy) (freeB bs).length i).1)]) (by exact (perm_ix [1, 0, 2] 3 rfl (by kernel_rfl) (by kernel_rfl)))
      exact ⟨op, oc, ho, by rw [islR, if_pos hok, hho, show i = (freeB bs).length by omega]; rfl, by rw [errI, if_pos hok], st_mask (true :: true :: List.replicate 6 false) rfl (bk1 _ _ (st_mask [true, true, false] rfl hw))⟩
end Go.Proofs
