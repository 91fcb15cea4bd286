/-
 Scenes: what island.Valid answers. Printed by a program of my own.
-/
import Derived.Test.YtdkibofhppgbjaaGreatDoorSt2
namespace Go.Proofs
open Go Go.Sl Go.Stp
theorem fnv_all {P : Program} {α : Type} {β : Base} {fn : Value} {enc : α → List Value} {S : α → Prop} {res : α → Value} (h : FnV P β fn enc (fun _ => True) res) : FnV P β fn enc S res := by
 obtain ⟨g, fst, cap, e, hc, hk⟩ := h
 exact ⟨g, fst, cap, e, hc, fun β₁ h1 x _ => hk β₁ h1 x trivial⟩
noncomputable instance (bs : List KB) (rs : List KR) (gx gy : Int) : Decidable (okS bs rs gx gy) := Classical.propDecidable _
theorem valid_end {bs : List KB} {rs : List KR} {gx gy : Int} (h1 : bs.length ≤ 64) (h2 : rs.length ≤ 32) (h3 : okV gx gy) (h4 : ∀ b ∈ bs, okB b) (h5 : ordB bs) : (!(rs.any fun z => decide (¬ okR bs z))) = decide (okS bs rs gx gy) := by
 rw [Bool.eq_iff_iff, decide_eq_true_iff]
 simp only [Bool.not_eq_true', List.any_eq_false, decide_eq_true_eq, Decidable.not_not]
 exact ⟨fun h => ⟨h1, h2, h3, h4, h5, h⟩, fun h => h.2.2.2.2.2⟩
theorem tf45 : Tryz.prog.underlying 26 = some (.slice 78) := by kernel_rfl
theorem tf46 : slB Tryz.prog 26 78 3 = true := by kernel_rfl
theorem tf47 : tyB Tryz.prog 78 true 3 = true := by kernel_rfl
theorem tf48 : cfB Tryz.prog 143 = true := by kernel_rfl
theorem tf49 : fldB Tryz.prog 30 0 0 1 false = true := by kernel_rfl
theorem tf50 : tyB Tryz.prog 25 false 1 = true := by kernel_rfl
theorem tf51 : fldB Tryz.prog 78 0 0 1 false = true := by kernel_rfl
theorem tf52 : cfB Tryz.prog 48 = true := by kernel_rfl
theorem tf53 : fldB Tryz.prog 78 1 1 1 false = true := by kernel_rfl
theorem tf54 : fldB Tryz.prog 78 2 2 1 false = true := by kernel_rfl
theorem tf55 : fldB Tryz.prog 30 1 1 1 false = true := by kernel_rfl
theorem tf56 : tyB Tryz.prog 26 false 1 = true := by kernel_rfl
theorem tf57 : fldB Tryz.prog 30 2 2 2 true = true := by kernel_rfl
theorem tf58 : (Tryz.prog.info? 52).bind (·.zero) = some (.agg #[.int .i64 (0), .int .i64 (0), .int .i64 (0), .int .i64 (0), .int .i64 (0), .int .i64 (0), .int .i64 (0), .bool false, .bool false]) := by kernel_rfl
theorem tf59 : cfB Tryz.prog 86 = true := by kernel_rfl
set_option maxHeartbeats 4000000 in
theorem indexR_ok (β : Base) (w : World) (hw : St β [] w) (v fn : Value) (xs : List KR) (hs : Sl KRR β.heap v xs) (p : KR → Bool) (hfn : FnV Tryz.prog β fn (fun z : KR => [.agg #[Ix (z.a), Ix (z.b), Ix (z.len)]]) (· ∈ xs) (fun z => .bool (p z))) : Calls Tryz.prog 143 #[v, fn] w fun r w' => r = .returned (Ix (idxI p xs)) ∧ St β [] w' := by
 obtain ⟨va, vc, rfl, vl, vm, ve⟩ := hs.get
 obtain ⟨gg, fst, cap, rfl, hcf, hf⟩ := hfn
 refine enter (n := 19) Tryz.func143 rfl Tryz.ntmps143 rfl ?_ hw
 refine c_seq ?_
 refine c_region ?_
 refine l_val (v := .int .i64 (0)) rfl rfl rfl (e_assign) ?_
 refine l_nil ?_
 refine f_then ?_
 refine c_seq ?_
 refine c_seq ?_
 refine c_region ?_
 refine l_val (v := .slice va (xs.length) (vc)) rfl rfl rfl (e_move) ?_
 refine l_val (v := Nx (xs.length)) rfl rfl rfl (e_len (a := va) (n := xs.length) (c := vc) rfl tf45) ?_
 refine l_val (v := .int .i64 (0)) rfl rfl rfl (e_move) ?_
 refine l_nil ?_
 refine f_then ?_
 refine c_block ?_
 refine c_loop (fun (k : Nat) (f : Fm) (L : List Res) => (f 0 = .slice va (xs.length) (vc) ∧ f 1 = .func (.func gg) fst.toArray cap.toArray ∧ f 7 = Nx (xs.length) ∧ f 8 = Nx (k)) ∧ L = [] ∧ (k ≤ xs.length ∧ ∀ y ∈ xs.take k, p y = false)) (fun (k : Nat) => xs.length - k) 0 ?_ ?_
 ·exact ⟨⟨rfl, rfl, rfl, rfl⟩, rfl, ⟨by omega, fun y hy => by simp at hy⟩⟩
 rintro k f0 L0 ⟨⟨hs0, hs1, hs7, hs8⟩, hL, ⟨hk, hp⟩⟩
 subst L0
 refine rebase (d := 0) hs0 ?_
 refine rebase (d := 1) hs1 ?_
 refine rebase (d := 7) hs7 ?_
 refine rebase (d := 8) hs8 ?_
 clear hs0 hs1 hs7 hs8
 refine c_seq ?_
 refine c_region ?_
 refine l_val (v := .bool (decide (((k : Nat) : Int) < ((xs.length : Nat) : Int)))) rfl rfl rfl (e_lss (a := ((k : Nat) : Int)) (b := ((xs.length : Nat) : Int)) rfl rfl) ?_
 refine l_nil ?_
 refine f_then ?_
 refine c_seq ?_
 refine c_if (((k : Nat) : Int) < ((xs.length : Nat) : Int)) rfl (fun hc1 => ?_) (fun hc1 => ?_)
 ·
  refine c_skip ?_
  refine f_then ?_
  refine c_seq ?_
  refine c_block ?_
  refine c_seq ?_
  refine c_region ?_
  refine l_val (v := Nx (k)) rfl rfl rfl (e_move) ?_
  refine l_val (v := Nx (k)) rfl rfl rfl (e_assign) ?_
  refine l_nil ?_
  refine f_then ?_
  refine c_seq ?_
  refine c_region ?_
  refine l_val (v := .func (.func gg) fst.toArray cap.toArray) rfl rfl rfl (e_move) ?_
  refine l_val (v := .slice va (xs.length) (vc)) rfl rfl rfl (e_move) ?_
  refine l_val (v := Nx (k)) rfl rfl rfl (e_move) ?_
  obtain ⟨x2, hx2⟩ : ∃ x_, (xs)[k]? = some x_ := ⟨_, List.getElem?_eq_getElem (by omega)⟩
  obtain ⟨ha4, cs5, hc6, rfl⟩ := ve _ _ hx2
  refine l_val (v := .pointer (some ((ba va).add (k * 3)))) rfl rfl rfl (e_indexAddr (k := k) (len := xs.length) (cap := vc) (a := va) rfl rfl tf46 (by omega) ha4) ?_
  refine l_val (v := .agg #[Ix (x2.a), Ix (x2.b), Ix (x2.len)]) rfl rfl rfl (e_load tf47 (cs := [Ix (x2.a), Ix (x2.b), Ix (x2.len)]) rfl (Knows.of_base (Cs.mono _ _) hc6) rfl) ?_
  refine l_call rfl rfl rfl (cl_value (fst := fst) (cap := cap) (vs := [.agg #[Ix (x2.a), Ix (x2.b), Ix (x2.len)]]) (all := fst ++ [.agg #[Ix (x2.a), Ix (x2.b), Ix (x2.len)]] ++ cap) hcf rfl rfl rfl) ?_
  intro w hw
  obtain ⟨β1, sb, kn, hw1, back⟩ := St.frame_all hw
  refine (hf β1 sb x2 (List.mem_of_getElem? hx2) w hw1).mono ?_
  rintro e w' ⟨rfl, hw'⟩
  refine ⟨_, rfl, _, back _ _ hw', ?_⟩
  clear hw hw1 hw' back kn sb
  refine l_nil ?_
  refine f_then ?_
  refine c_ifb (p x2) rfl (fun hc8 => ?_) (fun hc8 => ?_)
  ·
   refine c_seq ?_
   refine c_region ?_
   refine l_val (v := Nx (k)) rfl rfl rfl (e_move) ?_
   refine l_val (v := Nx (k)) rfl rfl rfl (e_assign) ?_
   refine l_nil ?_
   refine f_then ?_
   refine c_ret ?_
   refine f_block_ret ?_
   refine f_then_ret ?_
   refine f_then_ret ?_
   refine f_block_ret ?_
   refine f_then_ret ?_
   refine ret1 Tryz.results143 (v := Nx (k)) rfl ?_
   intro w hw
   exact ⟨congrArg (fun z : Int => Ending.returned (Ix z)) (idx_found hx2 hc8 hp).symm, st_mask [] rfl hw⟩
  ·
   refine c_skip ?_
   refine f_block ?_
   refine f_then ?_
   refine c_region ?_
   refine l_val (v := Nx (k + 1)) rfl rfl rfl (e_add (a := ((k : Nat) : Int)) (b := (1 : Int)) rfl rfl (i64n (by omega) (by omega))) ?_
   refine l_val (v := Nx (k + 1)) rfl rfl rfl (e_move) ?_
   refine l_nil ?_
   exact f_cut ⟨k + 1, ⟨⟨rfl, rfl, rfl, rfl⟩, rfl, ⟨by omega, idx_next hx2 hc8 hp⟩⟩, (show xs.length - (k + 1) < xs.length - k from by omega)⟩
 ·
  refine c_exit ?_
  refine f_then_exit ?_
  refine f_then_exit ?_
  refine f_exit ?_
  refine f_then ?_
  refine c_seq ?_
  refine c_region ?_
  refine l_val (v := .int .i64 (-1)) rfl rfl rfl (e_assign) ?_
  refine l_nil ?_
  refine f_then ?_
  refine c_ret ?_
  refine ret1 Tryz.results143 (v := .int .i64 (-1)) rfl ?_
  intro w hw
  exact ⟨congrArg (fun z : Int => Ending.returned (Ix z)) (idx_none (by omega) hp).symm, st_mask [] rfl hw⟩
set_option maxHeartbeats 4000000 in
theorem indexB_ok (β : Base) (w : World) (hw : St β [] w) (v fn : Value) (xs : List KB) (hs : Sl KBR β.heap v xs) (p : KB → Bool) (hfn : FnV Tryz.prog β fn (fun z : KB => [.agg (bC z)]) (· ∈ xs) (fun z => .bool (p z))) : Calls Tryz.prog 67 #[v, fn] w fun r w' => r = .returned (Ix (idxI p xs)) ∧ St β [] w' := by
 obtain ⟨va, vc, rfl, vl, vm, ve⟩ := hs.get
 obtain ⟨gg, fst, cap, rfl, hcf, hf⟩ := hfn
 refine enter (n := 19) Tryz.func67 rfl Tryz.ntmps67 rfl ?_ hw
 refine c_seq ?_
 refine c_region ?_
 refine l_val (v := .int .i64 (0)) rfl rfl rfl (e_assign) ?_
 refine l_nil ?_
 refine f_then ?_
 refine c_seq ?_
 refine c_seq ?_
 refine c_region ?_
 refine l_val (v := .slice va (xs.length) (vc)) rfl rfl rfl (e_move) ?_
 refine l_val (v := Nx (xs.length)) rfl rfl rfl (e_len (a := va) (n := xs.length) (c := vc) rfl tf40) ?_
 refine l_val (v := .int .i64 (0)) rfl rfl rfl (e_move) ?_
 refine l_nil ?_
 refine f_then ?_
 refine c_block ?_
 refine c_loop (fun (k : Nat) (f : Fm) (L : List Res) => (f 0 = .slice va (xs.length) (vc) ∧ f 1 = .func (.func gg) fst.toArray cap.toArray ∧ f 7 = Nx (xs.length) ∧ f 8 = Nx (k)) ∧ L = [] ∧ (k ≤ xs.length ∧ ∀ y ∈ xs.take k, p y = false)) (fun (k : Nat) => xs.length - k) 0 ?_ ?_
 ·exact ⟨⟨rfl, rfl, rfl, rfl⟩, rfl, ⟨by omega, fun y hy => by simp at hy⟩⟩
 rintro k f0 L0 ⟨⟨hs0, hs1, hs7, hs8⟩, hL, ⟨hk, hp⟩⟩
 subst L0
 refine rebase (d := 0) hs0 ?_
 refine rebase (d := 1) hs1 ?_
 refine rebase (d := 7) hs7 ?_
 refine rebase (d := 8) hs8 ?_
 clear hs0 hs1 hs7 hs8
 refine c_seq ?_
 refine c_region ?_
 refine l_val (v := .bool (decide (((k : Nat) : Int) < ((xs.length : Nat) : Int)))) rfl rfl rfl (e_lss (a := ((k : Nat) : Int)) (b := ((xs.length : Nat) : Int)) rfl rfl) ?_
 refine l_nil ?_
 refine f_then ?_
 refine c_seq ?_
 refine c_if (((k : Nat) : Int) < ((xs.length : Nat) : Int)) rfl (fun hc1 => ?_) (fun hc1 => ?_)
 ·
  refine c_skip ?_
  refine f_then ?_
  refine c_seq ?_
  refine c_block ?_
  refine c_seq ?_
  refine c_region ?_
  refine l_val (v := Nx (k)) rfl rfl rfl (e_move) ?_
  refine l_val (v := Nx (k)) rfl rfl rfl (e_assign) ?_
  refine l_nil ?_
  refine f_then ?_
  refine c_seq ?_
  refine c_region ?_
  refine l_val (v := .func (.func gg) fst.toArray cap.toArray) rfl rfl rfl (e_move) ?_
  refine l_val (v := .slice va (xs.length) (vc)) rfl rfl rfl (e_move) ?_
  refine l_val (v := Nx (k)) rfl rfl rfl (e_move) ?_
  obtain ⟨x2, hx2⟩ : ∃ x_, (xs)[k]? = some x_ := ⟨_, List.getElem?_eq_getElem (by omega)⟩
  obtain ⟨ha4, cs5, hc6, rfl⟩ := ve _ _ hx2
  refine l_val (v := .pointer (some ((ba va).add (k * 9)))) rfl rfl rfl (e_indexAddr (k := k) (len := xs.length) (cap := vc) (a := va) rfl rfl tf43 (by omega) ha4) ?_
  refine l_val (v := .agg (bC x2)) rfl rfl rfl (e_load tf22 (cs := (bodyE x2)) rfl (Knows.of_base (Cs.mono _ _) hc6) rfl) ?_
  refine l_call rfl rfl rfl (cl_value (fst := fst) (cap := cap) (vs := [.agg (bC x2)]) (all := fst ++ [.agg (bC x2)] ++ cap) hcf rfl rfl rfl) ?_
  intro w hw
  obtain ⟨β1, sb, kn, hw1, back⟩ := St.frame_all hw
  refine (hf β1 sb x2 (List.mem_of_getElem? hx2) w hw1).mono ?_
  rintro e w' ⟨rfl, hw'⟩
  refine ⟨_, rfl, _, back _ _ hw', ?_⟩
  clear hw hw1 hw' back kn sb
  refine l_nil ?_
  refine f_then ?_
  refine c_ifb (p x2) rfl (fun hc8 => ?_) (fun hc8 => ?_)
  ·
   refine c_seq ?_
   refine c_region ?_
   refine l_val (v := Nx (k)) rfl rfl rfl (e_move) ?_
   refine l_val (v := Nx (k)) rfl rfl rfl (e_assign) ?_
   refine l_nil ?_
   refine f_then ?_
   refine c_ret ?_
   refine f_block_ret ?_
   refine f_then_ret ?_
   refine f_then_ret ?_
   refine f_block_ret ?_
   refine f_then_ret ?_
   refine ret1 Tryz.results67 (v := Nx (k)) rfl ?_
   intro w hw
   exact ⟨congrArg (fun z : Int => Ending.returned (Ix z)) (idx_found hx2 hc8 hp).symm, st_mask [] rfl hw⟩
  ·
   refine c_skip ?_
   refine f_block ?_
   refine f_then ?_
   refine c_region ?_
   refine l_val (v := Nx (k + 1)) rfl rfl rfl (e_add (a := ((k : Nat) : Int)) (b := (1 : Int)) rfl rfl (i64n (by omega) (by omega))) ?_
   refine l_val (v := Nx (k + 1)) rfl rfl rfl (e_move) ?_
   refine l_nil ?_
   exact f_cut ⟨k + 1, ⟨⟨rfl, rfl, rfl, rfl⟩, rfl, ⟨by omega, idx_next hx2 hc8 hp⟩⟩, (show xs.length - (k + 1) < xs.length - k from by omega)⟩
 ·
  refine c_exit ?_
  refine f_then_exit ?_
  refine f_then_exit ?_
  refine f_exit ?_
  refine f_then ?_
  refine c_seq ?_
  refine c_region ?_
  refine l_val (v := .int .i64 (-1)) rfl rfl rfl (e_assign) ?_
  refine l_nil ?_
  refine f_then ?_
  refine c_ret ?_
  refine ret1 Tryz.results67 (v := .int .i64 (-1)) rfl ?_
  intro w hw
  exact ⟨congrArg (fun z : Int => Ending.returned (Ix z)) (idx_none (by omega) hp).symm, st_mask [] rfl hw⟩
theorem containsR_ok (β : Base) (w : World) (hw : St β [] w) (v fn : Value) (xs : List KR) (hs : Sl KRR β.heap v xs) (p : KR → Bool) (hfn : FnV Tryz.prog β fn (fun z : KR => [.agg #[Ix (z.a), Ix (z.b), Ix (z.len)]]) (· ∈ xs) (fun z => .bool (p z))) : Calls Tryz.prog 86 #[v, fn] w fun r w' => r = .returned (.bool (xs.any p)) ∧ St β [] w' := by
 refine enter (n := 9) Tryz.func86 rfl Tryz.ntmps86 rfl ?_ hw
 refine c_seq ?_
 refine c_region ?_
 refine l_val (v := .bool false) rfl rfl rfl (e_assign) ?_
 refine l_nil ?_
 refine f_then ?_
 refine c_seq ?_
 refine c_region ?_
 refine l_val (v := v) rfl rfl rfl (e_move) ?_
 refine l_val (v := fn) rfl rfl rfl (e_move) ?_
 refine l_call rfl rfl rfl (cl_value (fst := []) (cap := []) (vs := [v, fn]) (all := [v, fn]) tf48 rfl rfl rfl) ?_
 intro w hw
 obtain ⟨β1, sb, kn, hw1, back⟩ := St.frame_all hw
 refine (indexR_ok β1 w hw1 _ _ xs (Sl.mono _ _ _ _ _ sb hs) p (hfn.mono sb)).mono ?_
 rintro e w' ⟨rfl, hw'⟩
 refine ⟨_, rfl, _, back _ _ hw', ?_⟩
 clear hw hw1 hw' back kn sb
 refine l_val (v := .bool (decide ((0 : Int) ≤ (idxI p xs)))) rfl rfl rfl (e_geq (a := (idxI p xs)) (b := (0 : Int)) rfl rfl) ?_
 refine l_val (v := .bool (decide ((0 : Int) ≤ (idxI p xs)))) rfl rfl rfl (e_assign) ?_
 refine l_nil ?_
 refine f_then ?_
 refine c_ret ?_
 refine ret1 Tryz.results86 (v := .bool (decide ((0 : Int) ≤ (idxI p xs)))) rfl ?_
 intro w hw
 exact ⟨congrArg Ending.returned (congrArg Value.bool (idx_any p xs)), st_mask [] rfl hw⟩
theorem valid1_fn (β : Base) (c : Nat) (v rv : Value) (gx gy : Int) (bs : List KB) (hc : Cs β.heap ⟨c, 0, none⟩ [v, rv, Ix gx, Ix gy]) (hs : Sl KBR β.heap v bs) (ho : ordB bs) (hn : bs.length ≤ 1048576) : FnV Tryz.prog β (.func (.func 87) #[] #[.pointer (some ⟨c, 0, none⟩)]) (fun z : KR => [.agg #[Ix (z.a), Ix (z.b), Ix (z.len)]]) (fun _ => True) (fun z => .bool (decide (¬ okR bs z))) := by
 refine ⟨87, [], [.pointer (some (⟨c, 0, none⟩))], rfl, by kernel_rfl, fun β₁ sb0 z_ hz_ w hw => ?_⟩
 have hc1 := Cs.mono _ _ _ _ sb0 hc
 have hs1 := Sl.mono _ _ _ _ _ sb0 hs
 obtain ⟨r, hr⟩ : ∃ r, r = z_ := ⟨_, rfl⟩
 subst hr
 refine enter (n := 47) Tryz.func87 rfl Tryz.ntmps87 rfl ?_ hw
 refine c_seq ?_
 refine c_region ?_
 refine l_mv rfl rfl rfl (m_box (v := .agg #[Ix (r.a), Ix (r.b), Ix (r.len)]) rfl) ?_
 rintro _ _ ⟨b1, rfl, rfl⟩
 refine l_val (v := .bool false) rfl rfl rfl (e_assign) ?_
 refine l_nil ?_
 refine f_then ?_
 refine c_seq ?_
 refine c_region ?_
 refine l_val (v := .pointer (some ((⟨c, 0, none⟩ : Addr).add 0))) rfl rfl rfl (e_fieldAddr (a := ⟨c, 0, none⟩) rfl tf49) ?_
 refine l_val (v := v) rfl rfl rfl (e_load1 tf50 (v := v) rfl (Knows.imp (Knows.of_base (Cs.mono _ _) hc1) (fun _ h => Cs.sub (vs := [v]) 0 h rfl))) ?_
 refine l_val (v := .pointer (some ⟨b1, 0, none⟩)) rfl rfl rfl (e_fieldPt (b := b1) (o := 0) rfl tf51) ?_
 refine l_val (v := Ix (r.a)) rfl rfl rfl (e_load1 tf2 (v := Ix (r.a)) rfl (k_pt 0 (cs := #[Ix (r.a), Ix (r.b), Ix (r.len)]) (vs := [Ix (r.a)]) rfl rfl)) ?_
 refine l_call rfl rfl rfl (cl_value (fst := []) (cap := []) (vs := [v, Ix (r.a), .func (.func 49) #[] #[]]) (all := [v, Ix (r.a), .func (.func 49) #[] #[]]) tf52 rfl rfl rfl) ?_
 intro w hw
 obtain ⟨β1, sb, kn, hw1, back⟩ := St.frame_all hw
 refine (find_ok β1 w hw1 _ bs (Sl.mono _ _ _ _ _ sb hs1) (r.a) ho (by omega)).mono ?_
 rintro e w' ⟨rfl, hw'⟩
 refine ⟨_, rfl, _, back _ _ hw', ?_⟩
 clear hw hw1 hw' back kn sb
 refine l_val (v := .tuple #[Nx (lbN bs (r.a)), .bool ((findB bs (r.a)).isSome)]) rfl rfl rfl (e_move) ?_
 refine l_val (v := Nx (lbN bs (r.a))) rfl rfl rfl (e_extract (vs := #[Nx (lbN bs (r.a)), .bool ((findB bs (r.a)).isSome)]) rfl rfl) ?_
 refine l_val (v := .bool ((findB bs (r.a)).isSome)) rfl rfl rfl (e_extract (vs := #[Nx (lbN bs (r.a)), .bool ((findB bs (r.a)).isSome)]) rfl rfl) ?_
 refine l_val (v := Nx (lbN bs (r.a))) rfl rfl rfl (e_assign) ?_
 refine l_val (v := .bool ((findB bs (r.a)).isSome)) rfl rfl rfl (e_assign) ?_
 refine l_nil ?_
 refine f_then ?_
 refine c_seq ?_
 refine c_region ?_
 refine l_val (v := .pointer (some ((⟨c, 0, none⟩ : Addr).add 0))) rfl rfl rfl (e_fieldAddr (a := ⟨c, 0, none⟩) rfl tf49) ?_
 refine l_val (v := v) rfl rfl rfl (e_load1 tf50 (v := v) rfl (Knows.imp (Knows.of_base (Cs.mono _ _) hc1) (fun _ h => Cs.sub (vs := [v]) 0 h rfl))) ?_
 refine l_val (v := .pointer (some ⟨b1, 1, none⟩)) rfl rfl rfl (e_fieldPt (b := b1) (o := 0) rfl tf53) ?_
 refine l_val (v := Ix (r.b)) rfl rfl rfl (e_load1 tf2 (v := Ix (r.b)) rfl (k_pt 0 (cs := #[Ix (r.a), Ix (r.b), Ix (r.len)]) (vs := [Ix (r.b)]) rfl rfl)) ?_
 refine l_call rfl rfl rfl (cl_value (fst := []) (cap := []) (vs := [v, Ix (r.b), .func (.func 49) #[] #[]]) (all := [v, Ix (r.b), .func (.func 49) #[] #[]]) tf52 rfl rfl rfl) ?_
 intro w hw
 obtain ⟨β1, sb, kn, hw1, back⟩ := St.frame_all hw
 refine (find_ok β1 w hw1 _ bs (Sl.mono _ _ _ _ _ sb hs1) (r.b) ho (by omega)).mono ?_
 rintro e w' ⟨rfl, hw'⟩
 refine ⟨_, rfl, _, back _ _ hw', ?_⟩
 clear hw hw1 hw' back kn sb
 refine l_val (v := .tuple #[Nx (lbN bs (r.b)), .bool ((findB bs (r.b)).isSome)]) rfl rfl rfl (e_move) ?_
 refine l_val (v := Nx (lbN bs (r.b))) rfl rfl rfl (e_extract (vs := #[Nx (lbN bs (r.b)), .bool ((findB bs (r.b)).isSome)]) rfl rfl) ?_
 refine l_val (v := .bool ((findB bs (r.b)).isSome)) rfl rfl rfl (e_extract (vs := #[Nx (lbN bs (r.b)), .bool ((findB bs (r.b)).isSome)]) rfl rfl) ?_
 refine l_val (v := Nx (lbN bs (r.b))) rfl rfl rfl (e_assign) ?_
 refine l_val (v := .bool ((findB bs (r.b)).isSome)) rfl rfl rfl (e_assign) ?_
 refine l_nil ?_
 refine f_then ?_
 refine c_seq ?_
 refine c_region ?_
 refine l_val (v := .bool ((findB bs (r.a)).isSome)) rfl rfl rfl (e_move) ?_
 refine l_val (v := .bool (!((findB bs (r.a)).isSome))) rfl rfl rfl (e_not rfl) ?_
 refine l_val (v := .bool (!((findB bs (r.a)).isSome))) rfl rfl rfl (e_move) ?_
 refine l_splitb (s := 26) (b := !((findB bs (r.a)).isSome)) rfl (fun hg2 => ?_) (fun hg2 => ?_)
 ·
  refine l_skip rfl rfl rfl rfl rfl rfl ?_
  refine l_skip rfl rfl rfl rfl rfl rfl ?_
  refine l_val (v := .bool true) rfl rfl rfl (e_pick_t rfl) ?_
  refine l_val (v := .bool true) rfl rfl rfl (e_move) ?_
  refine l_skip rfl rfl rfl rfl rfl rfl ?_
  refine l_skip rfl rfl rfl rfl rfl rfl ?_
  refine l_skip rfl rfl rfl rfl rfl rfl ?_
  refine l_skip rfl rfl rfl rfl rfl rfl ?_
  refine l_skip rfl rfl rfl rfl rfl rfl ?_
  refine l_val (v := .bool true) rfl rfl rfl (e_pick_t rfl) ?_
  refine l_val (v := .bool true) rfl rfl rfl (e_move) ?_
  refine l_skip rfl rfl rfl rfl rfl rfl ?_
  refine l_skip rfl rfl rfl rfl rfl rfl ?_
  refine l_skip rfl rfl rfl rfl rfl rfl ?_
  refine l_val (v := .bool true) rfl rfl rfl (e_pick_t rfl) ?_
  refine l_val (v := .bool true) rfl rfl rfl (e_move) ?_
  refine l_skip rfl rfl rfl rfl rfl rfl ?_
  refine l_skip rfl rfl rfl rfl rfl rfl ?_
  refine l_skip rfl rfl rfl rfl rfl rfl ?_
  refine l_val (v := .bool true) rfl rfl rfl (e_pick_t rfl) ?_
  refine l_val (v := .bool true) rfl rfl rfl (e_assign) ?_
  refine l_nil ?_
  refine f_then ?_
  refine c_ret ?_
  refine ret1 Tryz.results87 (v := .bool true) rfl ?_
  intro w hw
  exact ⟨congrArg (fun b : Bool => Ending.returned (.bool b)) (show true = decide (¬ okR bs r) by unfold okR; simp_all <;> omega), st_mask [false] rfl hw⟩
 ·
  refine g_val (v := .bool ((findB bs (r.b)).isSome)) rfl rfl rfl rfl rfl (e_move) ?_
  refine g_val (v := .bool (!((findB bs (r.b)).isSome))) rfl rfl rfl rfl rfl (e_not rfl) ?_
  refine l_val (v := .bool (!((findB bs (r.b)).isSome))) rfl rfl rfl (e_pick_f rfl) ?_
  refine l_val (v := .bool (!((findB bs (r.b)).isSome))) rfl rfl rfl (e_move) ?_
  refine l_splitb (s := 30) (b := !((findB bs (r.b)).isSome)) rfl (fun hg3 => ?_) (fun hg3 => ?_)
  ·
   refine l_skip rfl rfl rfl rfl rfl rfl ?_
   refine l_skip rfl rfl rfl rfl rfl rfl ?_
   refine l_skip rfl rfl rfl rfl rfl rfl ?_
   refine l_skip rfl rfl rfl rfl rfl rfl ?_
   refine l_skip rfl rfl rfl rfl rfl rfl ?_
   refine l_val (v := .bool true) rfl rfl rfl (e_pick_t rfl) ?_
   refine l_val (v := .bool true) rfl rfl rfl (e_move) ?_
   refine l_skip rfl rfl rfl rfl rfl rfl ?_
   refine l_skip rfl rfl rfl rfl rfl rfl ?_
   refine l_skip rfl rfl rfl rfl rfl rfl ?_
   refine l_val (v := .bool true) rfl rfl rfl (e_pick_t rfl) ?_
   refine l_val (v := .bool true) rfl rfl rfl (e_move) ?_
   refine l_skip rfl rfl rfl rfl rfl rfl ?_
   refine l_skip rfl rfl rfl rfl rfl rfl ?_
   refine l_skip rfl rfl rfl rfl rfl rfl ?_
   refine l_val (v := .bool true) rfl rfl rfl (e_pick_t rfl) ?_
   refine l_val (v := .bool true) rfl rfl rfl (e_assign) ?_
   refine l_nil ?_
   refine f_then ?_
   refine c_ret ?_
   refine ret1 Tryz.results87 (v := .bool true) rfl ?_
   intro w hw
   exact ⟨congrArg (fun b : Bool => Ending.returned (.bool b)) (show true = decide (¬ okR bs r) by unfold okR; simp_all <;> omega), st_mask [false] rfl hw⟩
  ·
   refine g_val (v := .pointer (some ⟨b1, 0, none⟩)) rfl rfl rfl rfl rfl (e_fieldPt (b := b1) (o := 0) rfl tf51) ?_
   refine g_val (v := Ix (r.a)) rfl rfl rfl rfl rfl (e_load1 tf2 (v := Ix (r.a)) rfl (k_pt 0 (cs := #[Ix (r.a), Ix (r.b), Ix (r.len)]) (vs := [Ix (r.a)]) rfl rfl)) ?_
   refine g_val (v := .pointer (some ⟨b1, 1, none⟩)) rfl rfl rfl rfl rfl (e_fieldPt (b := b1) (o := 0) rfl tf53) ?_
   refine g_val (v := Ix (r.b)) rfl rfl rfl rfl rfl (e_load1 tf2 (v := Ix (r.b)) rfl (k_pt 0 (cs := #[Ix (r.a), Ix (r.b), Ix (r.len)]) (vs := [Ix (r.b)]) rfl rfl)) ?_
   refine g_val (v := .bool (decide ((r.b) ≤ (r.a)))) rfl rfl rfl rfl rfl (e_geq (a := (r.a)) (b := (r.b)) rfl rfl) ?_
   refine l_val (v := .bool (decide ((r.b) ≤ (r.a)))) rfl rfl rfl (e_pick_f rfl) ?_
   refine l_val (v := .bool (decide ((r.b) ≤ (r.a)))) rfl rfl rfl (e_move) ?_
   refine l_split (s := 37) (p := (r.b) ≤ (r.a)) rfl (fun hg4 => ?_) (fun hg4 => ?_)
   ·
    refine l_skip rfl rfl rfl rfl rfl rfl ?_
    refine l_skip rfl rfl rfl rfl rfl rfl ?_
    refine l_skip rfl rfl rfl rfl rfl rfl ?_
    refine l_val (v := .bool true) rfl rfl rfl (e_pick_t rfl) ?_
    refine l_val (v := .bool true) rfl rfl rfl (e_move) ?_
    refine l_skip rfl rfl rfl rfl rfl rfl ?_
    refine l_skip rfl rfl rfl rfl rfl rfl ?_
    refine l_skip rfl rfl rfl rfl rfl rfl ?_
    refine l_val (v := .bool true) rfl rfl rfl (e_pick_t rfl) ?_
    refine l_val (v := .bool true) rfl rfl rfl (e_assign) ?_
    refine l_nil ?_
    refine f_then ?_
    refine c_ret ?_
    refine ret1 Tryz.results87 (v := .bool true) rfl ?_
    intro w hw
    exact ⟨congrArg (fun b : Bool => Ending.returned (.bool b)) (show true = decide (¬ okR bs r) by unfold okR; simp_all <;> omega), st_mask [false] rfl hw⟩
   ·
    refine g_val (v := .pointer (some ⟨b1, 2, none⟩)) rfl rfl rfl rfl rfl (e_fieldPt (b := b1) (o := 0) rfl tf54) ?_
    refine g_val (v := Ix (r.len)) rfl rfl rfl rfl rfl (e_load1 tf2 (v := Ix (r.len)) rfl (k_pt 0 (cs := #[Ix (r.a), Ix (r.b), Ix (r.len)]) (vs := [Ix (r.len)]) rfl rfl)) ?_
    refine g_val (v := .bool (decide ((r.len) < (0 : Int)))) rfl rfl rfl rfl rfl (e_lss (a := (r.len)) (b := (0 : Int)) rfl rfl) ?_
    refine l_val (v := .bool (decide ((r.len) < (0 : Int)))) rfl rfl rfl (e_pick_f rfl) ?_
    refine l_val (v := .bool (decide ((r.len) < (0 : Int)))) rfl rfl rfl (e_move) ?_
    refine l_split (s := 42) (p := (r.len) < (0 : Int)) rfl (fun hg5 => ?_) (fun hg5 => ?_)
    ·
     refine l_skip rfl rfl rfl rfl rfl rfl ?_
     refine l_skip rfl rfl rfl rfl rfl rfl ?_
     refine l_skip rfl rfl rfl rfl rfl rfl ?_
     refine l_val (v := .bool true) rfl rfl rfl (e_pick_t rfl) ?_
     refine l_val (v := .bool true) rfl rfl rfl (e_assign) ?_
     refine l_nil ?_
     refine f_then ?_
     refine c_ret ?_
     refine ret1 Tryz.results87 (v := .bool true) rfl ?_
     intro w hw
     exact ⟨congrArg (fun b : Bool => Ending.returned (.bool b)) (show true = decide (¬ okR bs r) by unfold okR; simp_all <;> omega), st_mask [false] rfl hw⟩
    ·
     refine g_val (v := .pointer (some ⟨b1, 2, none⟩)) rfl rfl rfl rfl rfl (e_fieldPt (b := b1) (o := 0) rfl tf54) ?_
     refine g_val (v := Ix (r.len)) rfl rfl rfl rfl rfl (e_load1 tf2 (v := Ix (r.len)) rfl (k_pt 0 (cs := #[Ix (r.a), Ix (r.b), Ix (r.len)]) (vs := [Ix (r.len)]) rfl rfl)) ?_
     refine g_val (v := .bool (decide ((2097152 : Int) < (r.len)))) rfl rfl rfl rfl rfl (e_gtr (a := (r.len)) (b := (2097152 : Int)) rfl rfl) ?_
     refine l_val (v := .bool (decide ((2097152 : Int) < (r.len)))) rfl rfl rfl (e_pick_f rfl) ?_
     refine l_val (v := .bool (decide ((2097152 : Int) < (r.len)))) rfl rfl rfl (e_assign) ?_
     refine l_nil ?_
     refine f_then ?_
     refine c_ret ?_
     refine ret1 Tryz.results87 (v := .bool (decide ((2097152 : Int) < (r.len)))) rfl ?_
     intro w hw
     exact ⟨congrArg (fun b : Bool => Ending.returned (.bool b)) (show decide ((2097152 : Int) < (r.len)) = decide (¬ okR bs r) by unfold okR; simp_all <;> omega), st_mask [false] rfl hw⟩
set_option maxHeartbeats 4000000 in
theorem ivalid_ok (β : Base) (w : World) (hw : St β [] w) (v rv : Value) (gx gy : Int) (bs : List KB) (rs : List KR) (hs : Sl KBR β.heap v bs) (hr : Sl KRR β.heap rv rs) (hgx : -9223372036854775808 ≤ gx ∧ gx ≤ 9223372036854775807) (hgy : -9223372036854775808 ≤ gy ∧ gy ≤ 9223372036854775807) : Calls Tryz.prog 36 #[.agg #[v, rv, Ix gx, Ix gy]] w fun r w' => r = .returned (.bool (decide (okS bs rs gx gy))) ∧ St β [] w' := by
 obtain ⟨va, vc, rfl, vl, vm, ve⟩ := hs.get
 obtain ⟨rva, rvc, rfl, rvl, rvm, rve⟩ := hr.get
 refine enter (n := 54) Tryz.func36 rfl Tryz.ntmps36 rfl ?_ hw
 refine c_seq ?_
 refine c_region ?_
 refine l_mv rfl rfl rfl (m_box (v := .agg #[.slice va (bs.length) (vc), .slice rva (rs.length) (rvc), Ix (gx), Ix (gy)]) rfl) ?_
 rintro _ _ ⟨b1, rfl, rfl⟩
 refine l_val (v := .bool false) rfl rfl rfl (e_assign) ?_
 refine l_nil ?_
 refine f_then ?_
 refine c_seq ?_
 refine c_seq ?_
 refine c_region ?_
 refine l_val (v := .pointer (some ⟨b1, 0, none⟩)) rfl rfl rfl (e_fieldPt (b := b1) (o := 0) rfl tf49) ?_
 refine l_val (v := .slice va (bs.length) (vc)) rfl rfl rfl (e_load1 tf50 (v := .slice va (bs.length) (vc)) rfl (k_pt 0 (cs := #[.slice va (bs.length) (vc), .slice rva (rs.length) (rvc), Ix (gx), Ix (gy)]) (vs := [.slice va (bs.length) (vc)]) rfl rfl)) ?_
 refine l_val (v := Nx (bs.length)) rfl rfl rfl (e_len (a := va) (n := bs.length) (c := vc) rfl tf40) ?_
 refine l_val (v := .bool (decide ((64 : Int) < ((bs.length : Nat) : Int)))) rfl rfl rfl (e_gtr (a := ((bs.length : Nat) : Int)) (b := (64 : Int)) rfl rfl) ?_
 refine l_val (v := .bool (decide ((64 : Int) < ((bs.length : Nat) : Int)))) rfl rfl rfl (e_move) ?_
 refine l_split (s := 9) (p := (64 : Int) < ((bs.length : Nat) : Int)) rfl (fun hg2 => ?_) (fun hg2 => ?_)
 ·
  refine l_skip rfl rfl rfl rfl rfl rfl ?_
  refine l_skip rfl rfl rfl rfl rfl rfl ?_
  refine l_skip rfl rfl rfl rfl rfl rfl ?_
  refine l_skip rfl rfl rfl rfl rfl rfl ?_
  refine l_val (v := .bool true) rfl rfl rfl (e_pick_t rfl) ?_
  refine l_val (v := .bool true) rfl rfl rfl (e_move) ?_
  refine l_skip rfl rfl rfl rfl rfl rfl ?_
  refine l_skip rfl rfl rfl rfl rfl rfl ?_
  refine l_skip rfl rfl rfl rfl rfl rfl ?_
  refine l_skip rfl rfl rfl rfl rfl rfl ?_
  refine l_val (v := .bool true) rfl rfl rfl (e_pick_t rfl) ?_
  refine l_nil ?_
  refine f_then ?_
  refine c_yes rfl ?_
  refine c_seq ?_
  refine c_region ?_
  refine l_val (v := .bool false) rfl rfl rfl (e_assign) ?_
  refine l_nil ?_
  refine f_then ?_
  refine c_ret ?_
  refine f_then_ret ?_
  refine ret1 Tryz.results36 (v := .bool false) rfl ?_
  intro w hw
  exact ⟨congrArg (fun b : Bool => Ending.returned (.bool b)) (decide_eq_false fun h => by have q1 := h.1; have q2 := h.2.1; omega).symm, st_mask [false] rfl hw⟩
 ·
  refine g_val (v := .pointer (some ⟨b1, 1, none⟩)) rfl rfl rfl rfl rfl (e_fieldPt (b := b1) (o := 0) rfl tf55) ?_
  refine g_val (v := .slice rva (rs.length) (rvc)) rfl rfl rfl rfl rfl (e_load1 tf56 (v := .slice rva (rs.length) (rvc)) rfl (k_pt 0 (cs := #[.slice va (bs.length) (vc), .slice rva (rs.length) (rvc), Ix (gx), Ix (gy)]) (vs := [.slice rva (rs.length) (rvc)]) rfl rfl)) ?_
  refine g_val (v := Nx (rs.length)) rfl rfl rfl rfl rfl (e_len (a := rva) (n := rs.length) (c := rvc) rfl tf45) ?_
  refine g_val (v := .bool (decide ((32 : Int) < ((rs.length : Nat) : Int)))) rfl rfl rfl rfl rfl (e_gtr (a := ((rs.length : Nat) : Int)) (b := (32 : Int)) rfl rfl) ?_
  refine l_val (v := .bool (decide ((32 : Int) < ((rs.length : Nat) : Int)))) rfl rfl rfl (e_pick_f rfl) ?_
  refine l_val (v := .bool (decide ((32 : Int) < ((rs.length : Nat) : Int)))) rfl rfl rfl (e_move) ?_
  refine l_split (s := 15) (p := (32 : Int) < ((rs.length : Nat) : Int)) rfl (fun hg3 => ?_) (fun hg3 => ?_)
  ·
   refine l_skip rfl rfl rfl rfl rfl rfl ?_
   refine l_skip rfl rfl rfl rfl rfl rfl ?_
   refine l_skip rfl rfl rfl rfl rfl rfl ?_
   refine l_skip rfl rfl rfl rfl rfl rfl ?_
   refine l_val (v := .bool true) rfl rfl rfl (e_pick_t rfl) ?_
   refine l_nil ?_
   refine f_then ?_
   refine c_yes rfl ?_
   refine c_seq ?_
   refine c_region ?_
   refine l_val (v := .bool false) rfl rfl rfl (e_assign) ?_
   refine l_nil ?_
   refine f_then ?_
   refine c_ret ?_
   refine f_then_ret ?_
   refine ret1 Tryz.results36 (v := .bool false) rfl ?_
   intro w hw
   exact ⟨congrArg (fun b : Bool => Ending.returned (.bool b)) (decide_eq_false fun h => by have q1 := h.1; have q2 := h.2.1; omega).symm, st_mask [false] rfl hw⟩
  ·
   refine g_val (v := .pointer (some ⟨b1, 2, none⟩)) rfl rfl rfl rfl rfl (e_fieldPt (b := b1) (o := 0) rfl tf57) ?_
   refine g_val (v := .agg #[Ix (gx), Ix (gy)]) rfl rfl rfl rfl rfl (e_load tf15 (cs := [Ix (gx), Ix (gy)]) rfl (k_pt 0 (cs := #[.slice va (bs.length) (vc), .slice rva (rs.length) (rvc), Ix (gx), Ix (gy)]) (vs := [Ix (gx), Ix (gy)]) rfl rfl) rfl) ?_
   refine g_call rfl rfl rfl rfl rfl (cl_value (fst := []) (cap := []) (vs := [.agg #[Ix (gx), Ix (gy)]]) (all := [.agg #[Ix (gx), Ix (gy)]]) tf34 rfl rfl rfl) ?_
   intro w hw
   obtain ⟨β1, sb, kn, hw1, back⟩ := St.frame_all hw
   refine (pull_ok β1 w hw1 (gx) (gy) (by omega) (by omega)).mono ?_
   rintro e w' ⟨rfl, hw'⟩
   refine ⟨_, rfl, _, back _ _ hw', ?_⟩
   clear hw hw1 hw' back kn sb
   refine g_val (v := .bool (decide (¬ (okV (gx) (gy))))) rfl rfl rfl rfl rfl (e_not_p (p := okV (gx) (gy)) rfl) ?_
   refine l_val (v := .bool (decide (¬ (okV (gx) (gy))))) rfl rfl rfl (e_pick_f rfl) ?_
   refine l_nil ?_
   refine f_then ?_
   refine c_if (¬ (okV (gx) (gy))) rfl (fun hc4 => ?_) (fun hc4 => ?_)
   ·
    refine c_seq ?_
    refine c_region ?_
    refine l_val (v := .bool false) rfl rfl rfl (e_assign) ?_
    refine l_nil ?_
    refine f_then ?_
    refine c_ret ?_
    refine f_then_ret ?_
    refine ret1 Tryz.results36 (v := .bool false) rfl ?_
    intro w hw
    exact ⟨congrArg (fun b : Bool => Ending.returned (.bool b)) (decide_eq_false fun h => by have q1 := h.1; have q2 := h.2.1; exact hc4 h.2.2.1).symm, st_mask [false] rfl hw⟩
   ·
    refine c_skip ?_
    refine f_then ?_
    refine c_seq ?_
    refine c_seq ?_
    have hov := Decidable.not_not.1 hc4
    refine c_region ?_
    refine l_val (v := .pointer (some ⟨b1, 0, none⟩)) rfl rfl rfl (e_fieldPt (b := b1) (o := 0) rfl tf49) ?_
    refine l_val (v := .slice va (bs.length) (vc)) rfl rfl rfl (e_load1 tf50 (v := .slice va (bs.length) (vc)) rfl (k_pt 0 (cs := #[.slice va (bs.length) (vc), .slice rva (rs.length) (rvc), Ix (gx), Ix (gy)]) (vs := [.slice va (bs.length) (vc)]) rfl rfl)) ?_
    refine l_val (v := Nx (bs.length)) rfl rfl rfl (e_len (a := va) (n := bs.length) (c := vc) rfl tf40) ?_
    refine l_val (v := .int .i64 (0)) rfl rfl rfl (e_move) ?_
    refine l_nil ?_
    refine f_then ?_
    refine c_block ?_
    refine c_mask [true] rfl ?_
    refine c_loop (fun (k : Nat) (f : Fm) (L : List Res) => (f 1 = .pointer (some ⟨b1, 0, none⟩) ∧ f 22 = .slice va (bs.length) (vc) ∧ f 23 = Nx (bs.length) ∧ f 24 = Nx (k)) ∧ L = [pt b1 (.cells #[.slice va (bs.length) (vc), .slice rva (rs.length) (rvc), Ix (gx), Ix (gy)] 30)] ∧ (k ≤ bs.length ∧ (∀ b ∈ bs.take k, okB b) ∧ ∀ i a b, i + 1 < k → bs[i]? = some a → bs[i + 1]? = some b → a.id < b.id)) (fun (k : Nat) => bs.length - k) 0 ?_ ?_
    ·exact ⟨⟨rfl, rfl, rfl, rfl⟩, rfl, ⟨by omega, fun y hy => by simp at hy, fun i a b h => by omega⟩⟩
    rintro k f0 L0 ⟨⟨hs1, hs22, hs23, hs24⟩, hL, ⟨hk, hp1, hp2⟩⟩
    subst L0
    refine rebase (d := 1) hs1 ?_
    refine rebase (d := 22) hs22 ?_
    refine rebase (d := 23) hs23 ?_
    refine rebase (d := 24) hs24 ?_
    clear hs1 hs22 hs23 hs24
    refine c_seq ?_
    refine c_region ?_
    refine l_val (v := .bool (decide (((k : Nat) : Int) < ((bs.length : Nat) : Int)))) rfl rfl rfl (e_lss (a := ((k : Nat) : Int)) (b := ((bs.length : Nat) : Int)) rfl rfl) ?_
    refine l_nil ?_
    refine f_then ?_
    refine c_seq ?_
    refine c_if (((k : Nat) : Int) < ((bs.length : Nat) : Int)) rfl (fun hc5 => ?_) (fun hc5 => ?_)
    ·
     refine c_skip ?_
     refine f_then ?_
     refine c_seq ?_
     refine c_block ?_
     refine c_seq ?_
     refine c_region ?_
     refine l_val (v := Nx (k)) rfl rfl rfl (e_move) ?_
     obtain ⟨x6, hx7⟩ : ∃ x_, (bs)[k]? = some x_ := ⟨_, List.getElem?_eq_getElem (by omega)⟩
     obtain ⟨ha8, cs9, hc10, rfl⟩ := ve _ _ hx7
     refine l_val (v := .pointer (some ((ba va).add (k * 9)))) rfl rfl rfl (e_indexAddr (k := k) (len := bs.length) (cap := vc) (a := va) rfl rfl tf43 (by omega) ha8) ?_
     refine l_val (v := .agg (bC x6)) rfl rfl rfl (e_load tf22 (cs := (bodyE x6)) rfl (Knows.of_base (Cs.mono _ _) hc10) rfl) ?_
     refine l_mv rfl rfl rfl (m_alloc tf58) ?_
     rintro _ _ ⟨b12, rfl, rfl⟩
     refine l_val (v := Nx (k)) rfl rfl rfl (e_assign) ?_
     refine l_mu rfl rfl (m_store 0 tf22 (b := b12) (o := 0) (T := 52) (cs := #[.int .i64 (0), .int .i64 (0), .int .i64 (0), .int .i64 (0), .int .i64 (0), .int .i64 (0), .int .i64 (0), .bool false, .bool false]) (cs' := (bC x6)) (v := .agg (bC x6)) rfl rfl rfl rfl rfl rfl rfl) ?_
     refine l_nil ?_
     refine f_then ?_
     refine c_seq ?_
     refine c_quiet (by kernel_rfl) (by kernel_rfl) ?_
     refine q_val (v := .agg (bC x6)) rfl rfl rfl (e_load tf22 (cs := (bodyE x6)) rfl (k_pt 0 (cs := (bC x6)) (vs := (bodyE x6)) rfl rfl) rfl) ?_
     refine q_call (v := .bool (decide (okB x6))) rfl rfl rfl (cl_value (fst := []) (cap := []) (vs := [.agg (bC x6)]) (all := [.agg (bC x6)]) tf24 rfl rfl rfl) (fun w hw => ?_) ?_
     ·obtain ⟨β1, sb, kn, hw1, back⟩ := St.frame_all hw
      exact (valid_ok β1 w hw1 x6).mono (fun e w' ⟨he, hw'⟩ => ⟨he, st_mask [true, true] rfl (back _ _ hw')⟩)
     refine q_val (v := .bool (decide (¬ (okB x6)))) rfl rfl rfl (e_not_p (p := okB x6) rfl) ?_
     refine q_val (v := .bool (decide (¬ (okB x6)))) rfl rfl rfl (e_move) ?_
     refine q_split (s := 32) (p := ¬ (okB x6)) rfl (fun hg13 => ?_) (fun hg13 => ?_)
     ·
      refine q_skip rfl rfl rfl rfl rfl rfl ?_
      refine q_skip rfl rfl rfl rfl rfl rfl ?_
      refine q_skip rfl rfl rfl rfl rfl rfl ?_
      refine q_skip_u rfl rfl rfl rfl rfl ?_
      refine q_skip_u rfl rfl rfl rfl rfl ?_
      refine q_skip_u rfl rfl rfl rfl rfl ?_
      refine q_skip_u rfl rfl rfl rfl rfl ?_
      refine q_skip_u rfl rfl rfl rfl rfl ?_
      refine q_skip_u rfl rfl rfl rfl rfl ?_
      refine q_skip_u rfl rfl rfl rfl rfl ?_
      refine q_skip_u rfl rfl rfl rfl rfl ?_
      refine q_skip_u rfl rfl rfl rfl rfl ?_
      refine q_skip_u rfl rfl rfl rfl rfl ?_
      refine q_skip rfl rfl rfl rfl rfl rfl ?_
      refine q_val (v := .bool true) rfl rfl rfl (e_pick_t rfl) ?_
      refine q_nil ?_
      refine f_then ?_
      refine c_yes rfl ?_
      refine c_seq ?_
      refine c_region ?_
      refine l_val (v := .bool false) rfl rfl rfl (e_assign) ?_
      refine l_nil ?_
      refine f_then ?_
      refine c_ret ?_
      refine f_block_ret ?_
      refine f_then_ret ?_
      refine f_then_ret ?_
      refine f_block_ret ?_
      refine f_then_ret ?_
      refine ret1 Tryz.results36 (v := .bool false) rfl ?_
      intro w hw
      exact ⟨congrArg (fun b : Bool => Ending.returned (.bool b)) (decide_eq_false fun h => hg13 (h.2.2.2.1 _ (List.mem_of_getElem? hx7))).symm, st_mask [false, false] rfl hw⟩
     ·
      have hok := Decidable.not_not.1 hg13
      refine qg_val (v := Nx (k)) rfl rfl rfl rfl rfl (e_move) ?_
      refine qg_val (v := .bool (decide ((0 : Int) < ((k : Nat) : Int)))) rfl rfl rfl rfl rfl (e_gtr (a := ((k : Nat) : Int)) (b := (0 : Int)) rfl rfl) ?_
      refine qg_val (v := .bool (decide ((0 : Int) < ((k : Nat) : Int)))) rfl rfl rfl rfl rfl (e_move) ?_
      refine q_split (s := 35) (p := (0 : Int) < ((k : Nat) : Int)) rfl (fun hg14 => ?_) (fun hg14 => ?_)
      ·
       have hk0 : 0 < k := by omega
       refine qg_val (v := .pointer (some ⟨b12, 0, none⟩)) rfl rfl rfl rfl rfl (e_fieldPt (b := b12) (o := 0) rfl tf3) ?_
       refine qg_val (v := Ix (x6.id)) rfl rfl rfl rfl rfl (e_load1 tf2 (v := Ix (x6.id)) rfl (k_pt 0 (cs := (bC x6)) (vs := [Ix (x6.id)]) rfl rfl)) ?_
       refine qg_val (v := .pointer (some ⟨b1, 0, none⟩)) rfl rfl rfl rfl rfl (e_fieldPt (b := b1) (o := 0) rfl tf49) ?_
       refine qg_val (v := .slice va (bs.length) (vc)) rfl rfl rfl rfl rfl (e_load1 tf50 (v := .slice va (bs.length) (vc)) rfl (k_pt 1 (cs := #[.slice va (bs.length) (vc), .slice rva (rs.length) (rvc), Ix (gx), Ix (gy)]) (vs := [.slice va (bs.length) (vc)]) rfl rfl)) ?_
       refine qg_val (v := Nx (k)) rfl rfl rfl rfl rfl (e_move) ?_
       refine qg_val (v := Nx (k - 1)) rfl rfl rfl rfl rfl (ev_eq (congrArg (Value.int .i64) (by omega)) (e_sub (a := ((k : Nat) : Int)) (b := (1 : Int)) rfl rfl (i64w (by omega)))) ?_
       obtain ⟨x15, hx16⟩ : ∃ x_, (bs)[k - 1]? = some x_ := ⟨_, List.getElem?_eq_getElem (by omega)⟩
       obtain ⟨ha17, cs18, hc19, rfl⟩ := ve _ _ hx16
       refine qg_val (v := .pointer (some ((ba va).add ((k - 1) * 9)))) rfl rfl rfl rfl rfl (e_indexAddr (k := k - 1) (len := bs.length) (cap := vc) (a := va) rfl rfl tf43 (by omega) ha17) ?_
       refine qg_val (v := .pointer (some (((ba va).add ((k - 1) * 9) : Addr).add 0))) rfl rfl rfl rfl rfl (e_fieldAddr (a := (ba va).add ((k - 1) * 9)) rfl tf3) ?_
       refine qg_val (v := Ix (x15.id)) rfl rfl rfl rfl rfl (e_load1 tf2 (v := Ix (x15.id)) rfl (Knows.imp (Knows.of_base (Cs.mono _ _) hc19) (fun _ h => Cs.sub (vs := [Ix (x15.id)]) 0 h rfl))) ?_
       refine qg_val (v := .bool (decide ((x6.id) ≤ (x15.id)))) rfl rfl rfl rfl rfl (e_leq (a := (x6.id)) (b := (x15.id)) rfl rfl) ?_
       refine qg_val (v := .bool (decide ((x6.id) ≤ (x15.id)))) rfl rfl rfl rfl rfl (e_pick_t rfl) ?_
       refine q_val (v := .bool (decide ((x6.id) ≤ (x15.id)))) rfl rfl rfl (e_pick_f rfl) ?_
       refine q_nil ?_
       refine f_then ?_
       refine c_if ((x6.id) ≤ (x15.id)) rfl (fun hc21 => ?_) (fun hc21 => ?_)
       ·
        refine c_seq ?_
        refine c_region ?_
        refine l_val (v := .bool false) rfl rfl rfl (e_assign) ?_
        refine l_nil ?_
        refine f_then ?_
        refine c_ret ?_
        refine f_block_ret ?_
        refine f_then_ret ?_
        refine f_then_ret ?_
        refine f_block_ret ?_
        refine f_then_ret ?_
        refine ret1 Tryz.results36 (v := .bool false) rfl ?_
        intro w hw
        exact ⟨congrArg (fun b : Bool => Ending.returned (.bool b)) (decide_eq_false fun h => absurd (h.2.2.2.2.1 (k - 1) x15 x6 hx16 (by rw [show k - 1 + 1 = k by omega]; exact hx7)) (by omega)).symm, st_mask [false, false] rfl hw⟩
       ·
        refine c_skip ?_
        refine f_block ?_
        refine f_then ?_
        refine c_region ?_
        refine l_val (v := Nx (k + 1)) rfl rfl rfl (e_add (a := ((k : Nat) : Int)) (b := (1 : Int)) rfl rfl (i64n (by omega) (by omega))) ?_
        refine l_val (v := Nx (k + 1)) rfl rfl rfl (e_move) ?_
        refine l_nil ?_
        refine f_mask (L' := [pt b1 (.cells #[.slice va (bs.length) (vc), .slice rva (rs.length) (rvc), Ix (gx), Ix (gy)] 30)]) [false, true] rfl ?_
        exact f_cut ⟨k + 1, ⟨⟨rfl, rfl, rfl, rfl⟩, rfl, ⟨by omega, okS_next hx7 hp1 hok, ord_next hx7 hp2 (fun _ z hz => by rw [hx16] at hz; injection hz with hz; rw [← hz]; omega)⟩⟩, (show bs.length - (k + 1) < bs.length - k from by omega)⟩
      ·
       refine q_skip rfl rfl rfl rfl rfl rfl ?_
       refine q_skip rfl rfl rfl rfl rfl rfl ?_
       refine q_skip rfl rfl rfl rfl rfl rfl ?_
       refine q_skip rfl rfl rfl rfl rfl rfl ?_
       refine q_skip rfl rfl rfl rfl rfl rfl ?_
       refine q_skip rfl rfl rfl rfl rfl rfl ?_
       refine q_skip rfl rfl rfl rfl rfl rfl ?_
       refine q_skip rfl rfl rfl rfl rfl rfl ?_
       refine q_skip rfl rfl rfl rfl rfl rfl ?_
       refine q_skip rfl rfl rfl rfl rfl rfl ?_
       refine qg_val (v := .bool false) rfl rfl rfl rfl rfl (e_pick_f rfl) ?_
       refine q_val (v := .bool false) rfl rfl rfl (e_pick_f rfl) ?_
       refine q_nil ?_
       refine f_then ?_
       refine c_no rfl ?_
       refine c_skip ?_
       refine f_block ?_
       refine f_then ?_
       refine c_region ?_
       refine l_val (v := Nx (k + 1)) rfl rfl rfl (e_add (a := ((k : Nat) : Int)) (b := (1 : Int)) rfl rfl (i64n (by omega) (by omega))) ?_
       refine l_val (v := Nx (k + 1)) rfl rfl rfl (e_move) ?_
       refine l_nil ?_
       refine f_mask (L' := [pt b1 (.cells #[.slice va (bs.length) (vc), .slice rva (rs.length) (rvc), Ix (gx), Ix (gy)] 30)]) [false, true] rfl ?_
       exact f_cut ⟨k + 1, ⟨⟨rfl, rfl, rfl, rfl⟩, rfl, ⟨by omega, okS_next hx7 hp1 hok, ord_next hx7 hp2 (fun hk' => absurd hk' (by omega))⟩⟩, (show bs.length - (k + 1) < bs.length - k from by omega)⟩
    ·
     refine c_exit ?_
     refine f_then_exit ?_
     refine f_then_exit ?_
     refine f_exit ?_
     refine f_then ?_
     refine c_seq ?_
     refine c_region ?_
     refine l_val (v := .pointer (some ⟨b1, 1, none⟩)) rfl rfl rfl (e_fieldPt (b := b1) (o := 0) rfl tf55) ?_
     refine l_val (v := .slice rva (rs.length) (rvc)) rfl rfl rfl (e_load1 tf56 (v := .slice rva (rs.length) (rvc)) rfl (k_pt 0 (cs := #[.slice va (bs.length) (vc), .slice rva (rs.length) (rvc), Ix (gx), Ix (gy)]) (vs := [.slice rva (rs.length) (rvc)]) rfl rfl)) ?_
     refine l_val (v := .func (.func 87) #[] #[.pointer (some ⟨b1, 0, none⟩)]) rfl rfl rfl (e_func (u := []) (v := [.pointer (some ⟨b1, 0, none⟩)]) rfl rfl) ?_
     refine l_call rfl rfl rfl (cl_value (fst := []) (cap := []) (vs := [.slice rva (rs.length) (rvc), .func (.func 87) #[] #[.pointer (some ⟨b1, 0, none⟩)]]) (all := [.slice rva (rs.length) (rvc), .func (.func 87) #[] #[.pointer (some ⟨b1, 0, none⟩)]]) tf59 rfl rfl rfl) ?_
     intro w hw
     obtain ⟨β1, sb, kn, hw1, back⟩ := St.frame_all hw
     refine (containsR_ok β1 w hw1 _ _ rs (Sl.mono _ _ _ _ _ sb (⟨⟨_, _, rfl, rvl, rvm, rve⟩⟩ : Sl KRR _ _ rs)) (fun z => decide (¬ okR bs z)) (fnv_all (valid1_fn β1 b1 _ _ gx gy bs (kn _ (k_pt 0 (o := 0) (cs := #[.slice va (bs.length) (vc), .slice rva (rs.length) (rvc), Ix (gx), Ix (gy)]) (vs := [.slice va (bs.length) (vc), .slice rva (rs.length) (rvc), Ix (gx), Ix (gy)]) rfl rfl)) (Sl.mono _ _ _ _ _ sb (⟨⟨_, _, rfl, vl, vm, ve⟩⟩ : Sl KBR _ _ bs)) (ord_all (by omega) hp2) (by omega)))).mono ?_
     rintro e w' ⟨rfl, hw'⟩
     refine ⟨_, rfl, _, back _ _ hw', ?_⟩
     clear hw hw1 hw' back kn sb
     refine l_val (v := .bool (!(rs.any fun z => decide (¬ okR bs z)))) rfl rfl rfl (e_not rfl) ?_
     refine l_val (v := .bool (!(rs.any fun z => decide (¬ okR bs z)))) rfl rfl rfl (e_assign) ?_
     refine l_nil ?_
     refine f_then ?_
     refine c_ret ?_
     refine ret1 Tryz.results36 (v := .bool (!(rs.any fun z => decide (¬ okR bs z)))) rfl ?_
     intro w hw
     exact ⟨congrArg (fun b : Bool => Ending.returned (.bool b)) (valid_end (by omega) (by omega) hov (ok_all (by omega) hp1) (ord_all (by omega) hp2)), st_mask [false] rfl hw⟩
end Go.Proofs
