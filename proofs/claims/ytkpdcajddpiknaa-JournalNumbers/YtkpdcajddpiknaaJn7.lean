/-
  What the laws look at, walked. Printed by a program of my own.
-/
import Derived.Test.YtkpdcajddpiknaaJn6
import Derived.Test.YtkpdcajddpiknaaJnOp
namespace Go.Proofs
open Go Go.Sl Go.Jn
theorem take_min {xs : Bs} {n : Nat} : xs.take (min xs.length n) = xs.take n := by
  rcases Nat.le_total xs.length n with h | h
  · rw [Nat.min_eq_left h, List.take_of_length_le (Nat.le_refl _), List.take_of_length_le h]
  · rw [Nat.min_eq_right h]
theorem tf82 : fldB Try.prog 47 2 2 1 false = true := by kernel_rfl
theorem tf83 : fldB Try.prog 47 1 1 1 false = true := by kernel_rfl
theorem tf84 : (Try.prog.info? 47).bind (·.zero) = some (.agg #[.int .u8 (0), .int .u8 (0), .slice none 0 0]) := by kernel_rfl
theorem tf85 : fldB Try.prog 47 0 0 1 false = true := by kernel_rfl
theorem tf87 : tyB Try.prog 47 true 3 = true := by kernel_rfl
theorem next_ok (β : Base) (w : World) (hw : St β [] w) (J S : Nat) (i : KI) (dn : Bool) (hj : JF J S i dn β.heap) : Calls Try.prog 19 #[.pointer (some ⟨J, 0, none⟩)] w fun r w' => r = .returned (Nx i.next) ∧ St β [] w' := by
  obtain ⟨ps, pr, cs, cr, hJ, hst, hrc⟩ := hj
  obtain ⟨_, hsl, hsm, hse⟩ := Sl.parts hst
  obtain ⟨_, hrl, hrm, hre⟩ := Sl.parts hrc
  refine enter (n := 11) Try.func19 rfl Try.ntmps19 rfl ?_ hw
  refine c_seq ?_
  refine c_region ?_
  refine l_val (v := .int .i64 (0)) rfl rfl rfl (e_assign) ?_
  refine l_nil ?_
  refine f_then ?_
  refine c_seq ?_
  refine c_seq ?_
  refine c_region ?_
  refine l_val (v := .pointer (some (⟨J, 0, none⟩))) rfl rfl rfl (e_move) ?_
  refine l_call rfl rfl rfl (cl_value (fst := []) (cap := []) (vs := [.pointer (some (⟨J, 0, none⟩))]) (all := [.pointer (some (⟨J, 0, none⟩))]) tf38 rfl rfl rfl) ?_
  intro w hw
  obtain ⟨β1, sb, kn, hw1, back⟩ := St.frame_all hw
  refine (there_ok β1 w hw1 J S (by have h0 := Cs.sub (vs := [.pointer (some ⟨S, 0, none⟩)]) 0 (Cs.mono _ _ _ _ sb hJ) rfl; rwa [Addr.add_zero'] at h0)).mono ?_
  rintro e w' ⟨rfl, hw'⟩
  refine ⟨_, rfl, _, back _ _ hw', ?_⟩
  clear hw hw1 hw' back kn sb
  refine l_val (v := .bool false) rfl rfl rfl (e_not (a := true) rfl) ?_
  refine l_nil ?_
  refine f_then ?_
  refine c_no rfl ?_
  refine c_skip ?_
  refine f_then ?_
  refine c_seq ?_
  refine c_region ?_
  refine l_val (v := .pointer (some (⟨J, 0, none⟩))) rfl rfl rfl (e_move) ?_
  refine l_val (v := .pointer (some (⟨J, 0, none⟩))) rfl rfl rfl (e_nil (a := ⟨J, 0, none⟩) rfl) ?_
  refine l_val (v := .pointer (some ((⟨J, 0, none⟩ : Addr).add 1))) rfl rfl rfl (e_fieldAddr (a := ⟨J, 0, none⟩) rfl tf75) ?_
  refine l_val (v := .pointer (some (((⟨J, 0, none⟩ : Addr).add 1 : Addr).add 1))) rfl rfl rfl (e_fieldAddr (a := (⟨J, 0, none⟩ : Addr).add 1) rfl tf53) ?_
  refine l_val (v := Nx (i.next)) rfl rfl rfl (e_load1 tf25 (v := Nx (i.next)) rfl (Knows.imp (Knows.imp (Knows.of_base (Cs.mono _ _) hJ) (fun _ h => Cs.sub (vs := [Nx (i.epoch), Nx (i.next), .slice ps (i.state.length) (cs), .slice pr (i.recs.length) (cr), Nx (i.size)]) 1 h rfl)) (fun _ h => Cs.sub (vs := [Nx (i.next)]) 1 h rfl))) ?_
  refine l_val (v := Nx (i.next)) rfl rfl rfl (e_assign) ?_
  refine l_nil ?_
  refine f_then ?_
  refine c_ret ?_
  refine ret1 Try.results19 (v := Nx (i.next)) rfl ?_
  intro w hw
  exact ⟨rfl, st_mask [] rfl hw⟩
theorem epochm_ok (β : Base) (w : World) (hw : St β [] w) (J S : Nat) (i : KI) (dn : Bool) (hj : JF J S i dn β.heap) : Calls Try.prog 41 #[.pointer (some ⟨J, 0, none⟩)] w fun r w' => r = .returned (Nx i.epoch) ∧ St β [] w' := by
  obtain ⟨ps, pr, cs, cr, hJ, hst, hrc⟩ := hj
  obtain ⟨_, hsl, hsm, hse⟩ := Sl.parts hst
  obtain ⟨_, hrl, hrm, hre⟩ := Sl.parts hrc
  refine enter (n := 11) Try.func41 rfl Try.ntmps41 rfl ?_ hw
  refine c_seq ?_
  refine c_region ?_
  refine l_val (v := .int .i64 (0)) rfl rfl rfl (e_assign) ?_
  refine l_nil ?_
  refine f_then ?_
  refine c_seq ?_
  refine c_seq ?_
  refine c_region ?_
  refine l_val (v := .pointer (some (⟨J, 0, none⟩))) rfl rfl rfl (e_move) ?_
  refine l_call rfl rfl rfl (cl_value (fst := []) (cap := []) (vs := [.pointer (some (⟨J, 0, none⟩))]) (all := [.pointer (some (⟨J, 0, none⟩))]) tf38 rfl rfl rfl) ?_
  intro w hw
  obtain ⟨β1, sb, kn, hw1, back⟩ := St.frame_all hw
  refine (there_ok β1 w hw1 J S (by have h0 := Cs.sub (vs := [.pointer (some ⟨S, 0, none⟩)]) 0 (Cs.mono _ _ _ _ sb hJ) rfl; rwa [Addr.add_zero'] at h0)).mono ?_
  rintro e w' ⟨rfl, hw'⟩
  refine ⟨_, rfl, _, back _ _ hw', ?_⟩
  clear hw hw1 hw' back kn sb
  refine l_val (v := .bool false) rfl rfl rfl (e_not (a := true) rfl) ?_
  refine l_nil ?_
  refine f_then ?_
  refine c_no rfl ?_
  refine c_skip ?_
  refine f_then ?_
  refine c_seq ?_
  refine c_region ?_
  refine l_val (v := .pointer (some (⟨J, 0, none⟩))) rfl rfl rfl (e_move) ?_
  refine l_val (v := .pointer (some (⟨J, 0, none⟩))) rfl rfl rfl (e_nil (a := ⟨J, 0, none⟩) rfl) ?_
  refine l_val (v := .pointer (some ((⟨J, 0, none⟩ : Addr).add 1))) rfl rfl rfl (e_fieldAddr (a := ⟨J, 0, none⟩) rfl tf75) ?_
  refine l_val (v := .pointer (some (((⟨J, 0, none⟩ : Addr).add 1 : Addr).add 0))) rfl rfl rfl (e_fieldAddr (a := (⟨J, 0, none⟩ : Addr).add 1) rfl tf48) ?_
  refine l_val (v := Nx (i.epoch)) rfl rfl rfl (e_load1 tf25 (v := Nx (i.epoch)) rfl (Knows.imp (Knows.imp (Knows.of_base (Cs.mono _ _) hJ) (fun _ h => Cs.sub (vs := [Nx (i.epoch), Nx (i.next), .slice ps (i.state.length) (cs), .slice pr (i.recs.length) (cr), Nx (i.size)]) 1 h rfl)) (fun _ h => Cs.sub (vs := [Nx (i.epoch)]) 0 h rfl))) ?_
  refine l_val (v := Nx (i.epoch)) rfl rfl rfl (e_assign) ?_
  refine l_nil ?_
  refine f_then ?_
  refine c_ret ?_
  refine ret1 Try.results41 (v := Nx (i.epoch)) rfl ?_
  intro w hw
  exact ⟨rfl, st_mask [] rfl hw⟩
theorem body_ok (β : Base) (w : World) (hw : St β [] w) (o : KOp) (oa : Option Addr) (oc : Nat) (ol : o.body.length ≤ oc) (om : oc ≤ 9223372036854775807) (oe : Elems U8R β.heap oa o.body) : Calls Try.prog 18 #[.agg #[Bx o.kind, Bx o.power, .slice oa o.body.length oc]] w fun r w' => r = .returned (.slice oa (o.body.take 300).length oc) ∧ St β [] w' := by
  refine enter (n := 10) Try.func18 rfl Try.ntmps18 rfl ?_ hw
  refine c_seq ?_
  refine c_region ?_
  refine l_mv rfl rfl rfl (m_box (v := .agg #[Bx (o.kind), Bx (o.power), .slice oa (o.body.length) (oc)]) rfl) ?_
  rintro _ _ ⟨b1, rfl, rfl⟩
  refine l_val (v := .slice none 0 0) rfl rfl rfl (e_assign) ?_
  refine l_nil ?_
  refine f_then ?_
  refine c_seq ?_
  refine c_region ?_
  refine l_val (v := .pointer (some ⟨b1, 2, none⟩)) rfl rfl rfl (e_fieldPt (b := b1) (o := 0) rfl tf82) ?_
  refine l_val (v := .slice oa (o.body.length) (oc)) rfl rfl rfl (e_load1 tf21 (v := .slice oa (o.body.length) (oc)) rfl (k_pt 0 (cs := #[Bx (o.kind), Bx (o.power), .slice oa (o.body.length) (oc)]) (vs := [.slice oa (o.body.length) (oc)]) rfl rfl)) ?_
  refine l_val (v := .pointer (some ⟨b1, 2, none⟩)) rfl rfl rfl (e_fieldPt (b := b1) (o := 0) rfl tf82) ?_
  refine l_val (v := .slice oa (o.body.length) (oc)) rfl rfl rfl (e_load1 tf21 (v := .slice oa (o.body.length) (oc)) rfl (k_pt 0 (cs := #[Bx (o.kind), Bx (o.power), .slice oa (o.body.length) (oc)]) (vs := [.slice oa (o.body.length) (oc)]) rfl rfl)) ?_
  refine l_val (v := Nx (o.body.length)) rfl rfl rfl (e_len (a := oa) (n := o.body.length) (c := oc) rfl tf11) ?_
  refine l_val (v := Nx (min o.body.length 300)) rfl rfl rfl (ev_eq (congrArg (Value.int .i64) (by omega)) (e_min (a := ((o.body.length : Nat) : Int)) (b := (300 : Int)) rfl rfl)) ?_
  obtain ⟨zs2, hz3⟩ : ∃ zs, zs = (o.body.take (min o.body.length 300)) := ⟨_, rfl⟩
  have zl4 : zs2.length = min (min o.body.length 300) (o.body).length - 0 := by rw [hz3]; simp; try omega
  have ze5 := (Elems.take (min o.body.length 300) oe)
  rw [← hz3] at ze5
  refine l_val (v := .slice oa (zs2.length) (oc)) rfl rfl rfl (ev_eq (by rw [show zs2.length = min o.body.length 300 by omega]) (e_slice_hi (a := oa) (len := o.body.length) (cap := oc) (h := min o.body.length 300) tf12 rfl rfl (by omega))) ?_
  refine l_val (v := .slice oa (zs2.length) (oc)) rfl rfl rfl (e_assign) ?_
  refine l_nil ?_
  refine f_then ?_
  refine c_ret ?_
  refine ret1 Try.results18 (v := .slice oa (zs2.length) (oc)) rfl ?_
  intro w hw
  subst hz3
  exact ⟨by rw [take_min], st_mask [false] rfl hw⟩
theorem power_ok (β : Base) (w : World) (hw : St β [] w) (o : KOp) (oa : Option Addr) (oc : Nat) (ol : o.body.length ≤ oc) (om : oc ≤ 9223372036854775807) (oe : Elems U8R β.heap oa o.body) : Calls Try.prog 21 #[.agg #[Bx o.kind, Bx o.power, .slice oa o.body.length oc]] w fun r w' => r = .returned (Ix (powerF o)) ∧ St β [] w' := by
  refine enter (n := 11) Try.func21 rfl Try.ntmps21 rfl ?_ hw
  refine c_seq ?_
  refine c_region ?_
  refine l_mv rfl rfl rfl (m_box (v := .agg #[Bx (o.kind), Bx (o.power), .slice oa (o.body.length) (oc)]) rfl) ?_
  rintro _ _ ⟨b1, rfl, rfl⟩
  refine l_val (v := .int .i64 (0)) rfl rfl rfl (e_assign) ?_
  refine l_nil ?_
  refine f_then ?_
  refine c_seq ?_
  refine c_seq ?_
  refine c_region ?_
  refine l_val (v := .pointer (some ⟨b1, 1, none⟩)) rfl rfl rfl (e_fieldPt (b := b1) (o := 0) rfl tf83) ?_
  refine l_val (v := Bx (o.power)) rfl rfl rfl (e_load1 tf13 (v := Bx (o.power)) rfl (k_pt 0 (cs := #[Bx (o.kind), Bx (o.power), .slice oa (o.body.length) (oc)]) (vs := [Bx (o.power)]) rfl rfl)) ?_
  refine l_val (v := .int .u8 (((o.power.toNat % 200 : Nat)) : Int)) rfl rfl rfl (e_rem (a := ((o.power).toNat : Int)) (b := ((200 : Nat) : Int)) rfl rfl (by decide) (nat_tmod _ _)) ?_
  refine l_val (v := .bool (decide (((o.power.toNat % 200 : Nat) : Int) = (199 : Int)))) rfl rfl rfl (e_eql (a := ((o.power.toNat % 200 : Nat) : Int)) (b := (199 : Int)) rfl rfl) ?_
  refine l_nil ?_
  refine f_then ?_
  refine c_if (((o.power.toNat % 200 : Nat) : Int) = (199 : Int)) rfl (fun hc2 => ?_) (fun hc2 => ?_)
  ·
    refine c_seq ?_
    refine c_region ?_
    refine l_val (v := .int .i64 (-1)) rfl rfl rfl (e_assign) ?_
    refine l_nil ?_
    refine f_then ?_
    refine c_ret ?_
    refine f_then_ret ?_
    refine ret1 Try.results21 (v := .int .i64 (-1)) rfl ?_
    intro w hw
    exact ⟨by rw [powerF, if_pos (by omega)], st_mask [false] rfl hw⟩
  ·
    refine c_skip ?_
    refine f_then ?_
    refine c_seq ?_
    refine c_region ?_
    refine l_val (v := .pointer (some ⟨b1, 1, none⟩)) rfl rfl rfl (e_fieldPt (b := b1) (o := 0) rfl tf83) ?_
    refine l_val (v := Bx (o.power)) rfl rfl rfl (e_load1 tf13 (v := Bx (o.power)) rfl (k_pt 0 (cs := #[Bx (o.kind), Bx (o.power), .slice oa (o.body.length) (oc)]) (vs := [Bx (o.power)]) rfl rfl)) ?_
    refine l_val (v := .int .u8 (((o.power.toNat % 200 : Nat)) : Int)) rfl rfl rfl (e_rem (a := ((o.power).toNat : Int)) (b := ((200 : Nat) : Int)) rfl rfl (by decide) (nat_tmod _ _)) ?_
    refine l_val (v := Nx (o.power.toNat % 200)) rfl rfl rfl (e_conv (a := ((o.power.toNat % 200 : Nat) : Int)) rfl ⟨_, tf8⟩ tf1 (i64n rfl (by omega))) ?_
    refine l_val (v := Nx (o.power.toNat % 200)) rfl rfl rfl (e_assign) ?_
    refine l_nil ?_
    refine f_then ?_
    refine c_ret ?_
    refine ret1 Try.results21 (v := Nx (o.power.toNat % 200)) rfl ?_
    intro w hw
    exact ⟨by rw [powerF, if_neg (by omega)], st_mask [false] rfl hw⟩
end Go.Proofs
