/-
 What the laws look at, walked. Printed by a program of my own.
-/
import Derived.Test.YtkpdcajddpiknaaJn6
import Derived.Test.YtkpdcajddpiknaaJnOp
namespace Go.Proofs
open Go Go.Sl Go.Jn
theorem tf77 : Try.prog.underlying 34 = some (.slice 30) := by kernel_rfl
theorem next_ok (β : Base) (w : World) (hw : St β [] w) (J S : Nat) (i : KI) (dn : Bool) (hj : JF J S i dn β.heap) : Calls Try.prog 19 #[.pointer (some ⟨J, 0, none⟩)] w fun r w' => r = .returned (Nx i.next) ∧ St β [] w' := by
 obtain ⟨ps, pr, cs, cr, hJ, hst, hrc⟩ := hj
 obtain ⟨_, hsl, hsm, hse⟩ := Sl.parts hst
 obtain ⟨_, hrl, hrm, hre⟩ := Sl.parts hrc
 refine enter (n := 11) Try.func19 rfl Try.ntmps19 rfl ?_ hw
 refine c_seq ?_
 refine c_region ?_
 refine l_val (v := .int .i64 (0)) rfl rfl rfl (e_assign) ?_
 refine l_nil ?_
 refine f_then ?_
 refine c_seq ?_
 refine c_seq ?_
 refine c_region ?_
 refine l_val (v := .pointer (some (⟨J, 0, none⟩))) rfl rfl rfl (e_move) ?_
 refine l_call rfl rfl rfl (cl_value (fst := []) (cap := []) (vs := [.pointer (some (⟨J, 0, none⟩))]) (all := [.pointer (some (⟨J, 0, none⟩))]) tf38 rfl rfl rfl) ?_
 intro w hw
 obtain ⟨β1, sb, kn, hw1, back⟩ := St.frame_all hw
 refine (there_ok β1 w hw1 J S (by have h0 := Cs.sub (vs := [.pointer (some ⟨S, 0, none⟩)]) 0 (Cs.mono _ _ _ _ sb hJ) rfl; rwa [Addr.add_zero'] at h0)).mono ?_
 rintro e w' ⟨rfl, hw'⟩
 refine ⟨_, rfl, _, back _ _ hw', ?_⟩
 clear hw hw1 hw' back kn sb
 refine l_val (v := .bool false) rfl rfl rfl (e_not (a := true) rfl) ?_
 refine l_nil ?_
 refine f_then ?_
 refine c_no rfl ?_
 refine c_skip ?_
 refine f_then ?_
 refine c_seq ?_
 refine c_region ?_
 refine l_val (v := .pointer (some (⟨J, 0, none⟩))) rfl rfl rfl (e_move) ?_
 refine l_val (v := .pointer (some (⟨J, 0, none⟩))) rfl rfl rfl (e_nil (a := ⟨J, 0, none⟩) rfl) ?_
 refine l_val (v := .pointer (some ((⟨J, 0, none⟩ : Addr).add 1))) rfl rfl rfl (e_fieldAddr (a := ⟨J, 0, none⟩) rfl tf75) ?_
 refine l_val (v := .pointer (some (((⟨J, 0, none⟩ : Addr).add 1 : Addr).add 1))) rfl rfl rfl (e_fieldAddr (a := (⟨J, 0, none⟩ : Addr).add 1) rfl tf53) ?_
 refine l_val (v := Nx (i.next)) rfl rfl rfl (e_load1 tf25 (v := Nx (i.next)) rfl (Knows.imp (Knows.imp (Knows.of_base (Cs.mono _ _) hJ) (fun _ h => Cs.sub (vs := [Nx (i.epoch), Nx (i.next), .slice ps (i.state.length) (cs), .slice pr (i.recs.length) (cr), Nx (i.size)]) 1 h rfl)) (fun _ h => Cs.sub (vs := [Nx (i.next)]) 1 h rfl))) ?_
 refine l_val (v := Nx (i.next)) rfl rfl rfl (e_assign) ?_
 refine l_nil ?_
 refine f_then ?_
 refine c_ret ?_
 refine ret1 Try.results19 (v := Nx (i.next)) rfl ?_
 intro w hw
 exact ⟨rfl, st_mask [] rfl hw⟩
theorem epochm_ok (β : Base) (w : World) (hw : St β [] w) (J S : Nat) (i : KI) (dn : Bool) (hj : JF J S i dn β.heap) : Calls Try.prog 41 #[.pointer (some ⟨J, 0, none⟩)] w fun r w' => r = .returned (Nx i.epoch) ∧ St β [] w' := by
 obtain ⟨ps, pr, cs, cr, hJ, hst, hrc⟩ := hj
 obtain ⟨_, hsl, hsm, hse⟩ := Sl.parts hst
 obtain ⟨_, hrl, hrm, hre⟩ := Sl.parts hrc
 refine enter (n := 11) Try.func41 rfl Try.ntmps41 rfl ?_ hw
 refine c_seq ?_
 refine c_region ?_
 refine l_val (v := .int .i64 (0)) rfl rfl rfl (e_assign) ?_
 refine l_nil ?_
 refine f_then ?_
 refine c_seq ?_
 refine c_seq ?_
 refine c_region ?_
 refine l_val (v := .pointer (some (⟨J, 0, none⟩))) rfl rfl rfl (e_move) ?_
 refine l_call rfl rfl rfl (cl_value (fst := []) (cap := []) (vs := [.pointer (some (⟨J, 0, none⟩))]) (all := [.pointer (some (⟨J, 0, none⟩))]) tf38 rfl rfl rfl) ?_
 intro w hw
 obtain ⟨β1, sb, kn, hw1, back⟩ := St.frame_all hw
 refine (there_ok β1 w hw1 J S (by have h0 := Cs.sub (vs := [.pointer (some ⟨S, 0, none⟩)]) 0 (Cs.mono _ _ _ _ sb hJ) rfl; rwa [Addr.add_zero'] at h0)).mono ?_
 rintro e w' ⟨rfl, hw'⟩
 refine ⟨_, rfl, _, back _ _ hw', ?_⟩
 clear hw hw1 hw' back kn sb
 refine l_val (v := .bool false) rfl rfl rfl (e_not (a := true) rfl) ?_
 refine l_nil ?_
 refine f_then ?_
 refine c_no rfl ?_
 refine c_skip ?_
 refine f_then ?_
 refine c_seq ?_
 refine c_region ?_
 refine l_val (v := .pointer (some (⟨J, 0, none⟩))) rfl rfl rfl (e_move) ?_
 refine l_val (v := .pointer (some (⟨J, 0, none⟩))) rfl rfl rfl (e_nil (a := ⟨J, 0, none⟩) rfl) ?_
 refine l_val (v := .pointer (some ((⟨J, 0, none⟩ : Addr).add 1))) rfl rfl rfl (e_fieldAddr (a := ⟨J, 0, none⟩) rfl tf75) ?_
 refine l_val (v := .pointer (some (((⟨J, 0, none⟩ : Addr).add 1 : Addr).add 0))) rfl rfl rfl (e_fieldAddr (a := (⟨J, 0, none⟩ : Addr).add 1) rfl tf48) ?_
 refine l_val (v := Nx (i.epoch)) rfl rfl rfl (e_load1 tf25 (v := Nx (i.epoch)) rfl (Knows.imp (Knows.imp (Knows.of_base (Cs.mono _ _) hJ) (fun _ h => Cs.sub (vs := [Nx (i.epoch), Nx (i.next), .slice ps (i.state.length) (cs), .slice pr (i.recs.length) (cr), Nx (i.size)]) 1 h rfl)) (fun _ h => Cs.sub (vs := [Nx (i.epoch)]) 0 h rfl))) ?_
 refine l_val (v := Nx (i.epoch)) rfl rfl rfl (e_assign) ?_
 refine l_nil ?_
 refine f_then ?_
 refine c_ret ?_
 refine ret1 Try.results41 (v := Nx (i.epoch)) rfl ?_
 intro w hw
 exact ⟨rfl, st_mask [] rfl hw⟩
theorem next_nil (β : Base) (w : World) (hw : St β [] w) : Calls Try.prog 19 #[.pointer none] w fun r w' => r = .returned (.int .i64 0) ∧ St β [] w' := by
 refine enter (n := 11) Try.func19 rfl Try.ntmps19 rfl ?_ hw
 refine c_seq ?_
 refine c_region ?_
 refine l_val (v := .int .i64 (0)) rfl rfl rfl (e_assign) ?_
 refine l_nil ?_
 refine f_then ?_
 refine c_seq ?_
 refine c_seq ?_
 refine c_region ?_
 refine l_val (v := .pointer none) rfl rfl rfl (e_move) ?_
 refine l_call rfl rfl rfl (cl_value (fst := []) (cap := []) (vs := [.pointer none]) (all := [.pointer none]) tf38 rfl rfl rfl) ?_
 intro w hw
 obtain ⟨β1, sb, kn, hw1, back⟩ := St.frame_all hw
 refine (there_nil β1 w hw1).mono ?_
 rintro e w' ⟨rfl, hw'⟩
 refine ⟨_, rfl, _, back _ _ hw', ?_⟩
 clear hw hw1 hw' back kn sb
 refine l_val (v := .bool true) rfl rfl rfl (e_not (a := false) rfl) ?_
 refine l_nil ?_
 refine f_then ?_
 refine c_yes rfl ?_
 refine c_seq ?_
 refine c_region ?_
 refine l_val (v := .int .i64 (0)) rfl rfl rfl (e_assign) ?_
 refine l_nil ?_
 refine f_then ?_
 refine c_ret ?_
 refine f_then_ret ?_
 refine ret1 Try.results19 (v := .int .i64 (0)) rfl ?_
 intro w hw
 exact ⟨rfl, st_mask [] rfl hw⟩
theorem next_zero (β : Base) (w : World) (hw : St β [] w) (J : Nat) (hJ : Cs β.heap ⟨J, 0, none⟩ [.pointer none]) : Calls Try.prog 19 #[.pointer (some ⟨J, 0, none⟩)] w fun r w' => r = .returned (.int .i64 0) ∧ St β [] w' := by
 refine enter (n := 11) Try.func19 rfl Try.ntmps19 rfl ?_ hw
 refine c_seq ?_
 refine c_region ?_
 refine l_val (v := .int .i64 (0)) rfl rfl rfl (e_assign) ?_
 refine l_nil ?_
 refine f_then ?_
 refine c_seq ?_
 refine c_seq ?_
 refine c_region ?_
 refine l_val (v := .pointer (some (⟨J, 0, none⟩))) rfl rfl rfl (e_move) ?_
 refine l_call rfl rfl rfl (cl_value (fst := []) (cap := []) (vs := [.pointer (some (⟨J, 0, none⟩))]) (all := [.pointer (some (⟨J, 0, none⟩))]) tf38 rfl rfl rfl) ?_
 intro w hw
 obtain ⟨β1, sb, kn, hw1, back⟩ := St.frame_all hw
 refine (there_zero β1 w hw1 J (Cs.mono _ _ _ _ sb hJ)).mono ?_
 rintro e w' ⟨rfl, hw'⟩
 refine ⟨_, rfl, _, back _ _ hw', ?_⟩
 clear hw hw1 hw' back kn sb
 refine l_val (v := .bool true) rfl rfl rfl (e_not (a := false) rfl) ?_
 refine l_nil ?_
 refine f_then ?_
 refine c_yes rfl ?_
 refine c_seq ?_
 refine c_region ?_
 refine l_val (v := .int .i64 (0)) rfl rfl rfl (e_assign) ?_
 refine l_nil ?_
 refine f_then ?_
 refine c_ret ?_
 refine f_then_ret ?_
 refine ret1 Try.results19 (v := .int .i64 (0)) rfl ?_
 intro w hw
 exact ⟨rfl, st_mask [] rfl hw⟩
theorem epochm_nil (β : Base) (w : World) (hw : St β [] w) : Calls Try.prog 41 #[.pointer none] w fun r w' => r = .returned (.int .i64 0) ∧ St β [] w' := by
 refine enter (n := 11) Try.func41 rfl Try.ntmps41 rfl ?_ hw
 refine c_seq ?_
 refine c_region ?_
 refine l_val (v := .int .i64 (0)) rfl rfl rfl (e_assign) ?_
 refine l_nil ?_
 refine f_then ?_
 refine c_seq ?_
 refine c_seq ?_
 refine c_region ?_
 refine l_val (v := .pointer none) rfl rfl rfl (e_move) ?_
 refine l_call rfl rfl rfl (cl_value (fst := []) (cap := []) (vs := [.pointer none]) (all := [.pointer none]) tf38 rfl rfl rfl) ?_
 intro w hw
 obtain ⟨β1, sb, kn, hw1, back⟩ := St.frame_all hw
 refine (there_nil β1 w hw1).mono ?_
 rintro e w' ⟨rfl, hw'⟩
 refine ⟨_, rfl, _, back _ _ hw', ?_⟩
 clear hw hw1 hw' back kn sb
 refine l_val (v := .bool true) rfl rfl rfl (e_not (a := false) rfl) ?_
 refine l_nil ?_
 refine f_then ?_
 refine c_yes rfl ?_
 refine c_seq ?_
 refine c_region ?_
 refine l_val (v := .int .i64 (0)) rfl rfl rfl (e_assign) ?_
 refine l_nil ?_
 refine f_then ?_
 refine c_ret ?_
 refine f_then_ret ?_
 refine ret1 Try.results41 (v := .int .i64 (0)) rfl ?_
 intro w hw
 exact ⟨rfl, st_mask [] rfl hw⟩
theorem epochm_zero (β : Base) (w : World) (hw : St β [] w) (J : Nat) (hJ : Cs β.heap ⟨J, 0, none⟩ [.pointer none]) : Calls Try.prog 41 #[.pointer (some ⟨J, 0, none⟩)] w fun r w' => r = .returned (.int .i64 0) ∧ St β [] w' := by
 refine enter (n := 11) Try.func41 rfl Try.ntmps41 rfl ?_ hw
 refine c_seq ?_
 refine c_region ?_
 refine l_val (v := .int .i64 (0)) rfl rfl rfl (e_assign) ?_
 refine l_nil ?_
 refine f_then ?_
 refine c_seq ?_
 refine c_seq ?_
 refine c_region ?_
 refine l_val (v := .pointer (some (⟨J, 0, none⟩))) rfl rfl rfl (e_move) ?_
 refine l_call rfl rfl rfl (cl_value (fst := []) (cap := []) (vs := [.pointer (some (⟨J, 0, none⟩))]) (all := [.pointer (some (⟨J, 0, none⟩))]) tf38 rfl rfl rfl) ?_
 intro w hw
 obtain ⟨β1, sb, kn, hw1, back⟩ := St.frame_all hw
 refine (there_zero β1 w hw1 J (Cs.mono _ _ _ _ sb hJ)).mono ?_
 rintro e w' ⟨rfl, hw'⟩
 refine ⟨_, rfl, _, back _ _ hw', ?_⟩
 clear hw hw1 hw' back kn sb
 refine l_val (v := .bool true) rfl rfl rfl (e_not (a := false) rfl) ?_
 refine l_nil ?_
 refine f_then ?_
 refine c_yes rfl ?_
 refine c_seq ?_
 refine c_region ?_
 refine l_val (v := .int .i64 (0)) rfl rfl rfl (e_assign) ?_
 refine l_nil ?_
 refine f_then ?_
 refine c_ret ?_
 refine f_then_ret ?_
 refine ret1 Try.results41 (v := .int .i64 (0)) rfl ?_
 intro w hw
 exact ⟨rfl, st_mask [] rfl hw⟩
theorem state_nil (β : Base) (w : World) (hw : St β [] w) : Calls Try.prog 42 #[.pointer none] w fun r w' => r = .returned (.slice none 0 0) ∧ St β [] w' := by
 refine enter (n := 12) Try.func42 rfl Try.ntmps42 rfl ?_ hw
 refine c_seq ?_
 refine c_region ?_
 refine l_val (v := .slice none 0 0) rfl rfl rfl (e_assign) ?_
 refine l_nil ?_
 refine f_then ?_
 refine c_seq ?_
 refine c_seq ?_
 refine c_region ?_
 refine l_val (v := .pointer none) rfl rfl rfl (e_move) ?_
 refine l_call rfl rfl rfl (cl_value (fst := []) (cap := []) (vs := [.pointer none]) (all := [.pointer none]) tf38 rfl rfl rfl) ?_
 intro w hw
 obtain ⟨β1, sb, kn, hw1, back⟩ := St.frame_all hw
 refine (there_nil β1 w hw1).mono ?_
 rintro e w' ⟨rfl, hw'⟩
 refine ⟨_, rfl, _, back _ _ hw', ?_⟩
 clear hw hw1 hw' back kn sb
 refine l_val (v := .bool true) rfl rfl rfl (e_not (a := false) rfl) ?_
 refine l_nil ?_
 refine f_then ?_
 refine c_yes rfl ?_
 refine c_seq ?_
 refine c_region ?_
 refine l_val (v := .slice none 0 0) rfl rfl rfl (e_assign) ?_
 refine l_nil ?_
 refine f_then ?_
 refine c_ret ?_
 refine f_then_ret ?_
 refine ret1 Try.results42 (v := .slice none 0 0) rfl ?_
 intro w hw
 exact ⟨rfl, st_mask [] rfl hw⟩
theorem state_zero (β : Base) (w : World) (hw : St β [] w) (J : Nat) (hJ : Cs β.heap ⟨J, 0, none⟩ [.pointer none]) : Calls Try.prog 42 #[.pointer (some ⟨J, 0, none⟩)] w fun r w' => r = .returned (.slice none 0 0) ∧ St β [] w' := by
 refine enter (n := 12) Try.func42 rfl Try.ntmps42 rfl ?_ hw
 refine c_seq ?_
 refine c_region ?_
 refine l_val (v := .slice none 0 0) rfl rfl rfl (e_assign) ?_
 refine l_nil ?_
 refine f_then ?_
 refine c_seq ?_
 refine c_seq ?_
 refine c_region ?_
 refine l_val (v := .pointer (some (⟨J, 0, none⟩))) rfl rfl rfl (e_move) ?_
 refine l_call rfl rfl rfl (cl_value (fst := []) (cap := []) (vs := [.pointer (some (⟨J, 0, none⟩))]) (all := [.pointer (some (⟨J, 0, none⟩))]) tf38 rfl rfl rfl) ?_
 intro w hw
 obtain ⟨β1, sb, kn, hw1, back⟩ := St.frame_all hw
 refine (there_zero β1 w hw1 J (Cs.mono _ _ _ _ sb hJ)).mono ?_
 rintro e w' ⟨rfl, hw'⟩
 refine ⟨_, rfl, _, back _ _ hw', ?_⟩
 clear hw hw1 hw' back kn sb
 refine l_val (v := .bool true) rfl rfl rfl (e_not (a := false) rfl) ?_
 refine l_nil ?_
 refine f_then ?_
 refine c_yes rfl ?_
 refine c_seq ?_
 refine c_region ?_
 refine l_val (v := .slice none 0 0) rfl rfl rfl (e_assign) ?_
 refine l_nil ?_
 refine f_then ?_
 refine c_ret ?_
 refine f_then_ret ?_
 refine ret1 Try.results42 (v := .slice none 0 0) rfl ?_
 intro w hw
 exact ⟨rfl, st_mask [] rfl hw⟩
theorem records_nil (β : Base) (w : World) (hw : St β [] w) : Calls Try.prog 43 #[.pointer none] w fun r w' => r = .returned (.slice none 0 0) ∧ St β [] w' := by
 refine enter (n := 26) Try.func43 rfl Try.ntmps43 rfl ?_ hw
 refine c_seq ?_
 refine c_region ?_
 refine l_val (v := .slice none 0 0) rfl rfl rfl (e_assign) ?_
 refine l_nil ?_
 refine f_then ?_
 refine c_seq ?_
 refine c_seq ?_
 refine c_region ?_
 refine l_val (v := .pointer none) rfl rfl rfl (e_move) ?_
 refine l_call rfl rfl rfl (cl_value (fst := []) (cap := []) (vs := [.pointer none]) (all := [.pointer none]) tf38 rfl rfl rfl) ?_
 intro w hw
 obtain ⟨β1, sb, kn, hw1, back⟩ := St.frame_all hw
 refine (there_nil β1 w hw1).mono ?_
 rintro e w' ⟨rfl, hw'⟩
 refine ⟨_, rfl, _, back _ _ hw', ?_⟩
 clear hw hw1 hw' back kn sb
 refine l_val (v := .bool true) rfl rfl rfl (e_not (a := false) rfl) ?_
 refine l_nil ?_
 refine f_then ?_
 refine c_yes rfl ?_
 refine c_seq ?_
 refine c_region ?_
 refine l_val (v := .slice none 0 0) rfl rfl rfl (e_assign) ?_
 refine l_nil ?_
 refine f_then ?_
 refine c_ret ?_
 refine f_then_ret ?_
 refine ret1 Try.results43 (v := .slice none 0 0) rfl ?_
 intro w hw
 exact ⟨rfl, st_mask [] rfl hw⟩
theorem records_zero (β : Base) (w : World) (hw : St β [] w) (J : Nat) (hJ : Cs β.heap ⟨J, 0, none⟩ [.pointer none]) : Calls Try.prog 43 #[.pointer (some ⟨J, 0, none⟩)] w fun r w' => r = .returned (.slice none 0 0) ∧ St β [] w' := by
 refine enter (n := 26) Try.func43 rfl Try.ntmps43 rfl ?_ hw
 refine c_seq ?_
 refine c_region ?_
 refine l_val (v := .slice none 0 0) rfl rfl rfl (e_assign) ?_
 refine l_nil ?_
 refine f_then ?_
 refine c_seq ?_
 refine c_seq ?_
 refine c_region ?_
 refine l_val (v := .pointer (some (⟨J, 0, none⟩))) rfl rfl rfl (e_move) ?_
 refine l_call rfl rfl rfl (cl_value (fst := []) (cap := []) (vs := [.pointer (some (⟨J, 0, none⟩))]) (all := [.pointer (some (⟨J, 0, none⟩))]) tf38 rfl rfl rfl) ?_
 intro w hw
 obtain ⟨β1, sb, kn, hw1, back⟩ := St.frame_all hw
 refine (there_zero β1 w hw1 J (Cs.mono _ _ _ _ sb hJ)).mono ?_
 rintro e w' ⟨rfl, hw'⟩
 refine ⟨_, rfl, _, back _ _ hw', ?_⟩
 clear hw hw1 hw' back kn sb
 refine l_val (v := .bool true) rfl rfl rfl (e_not (a := false) rfl) ?_
 refine l_nil ?_
 refine f_then ?_
 refine c_yes rfl ?_
 refine c_seq ?_
 refine c_region ?_
 refine l_val (v := .slice none 0 0) rfl rfl rfl (e_assign) ?_
 refine l_nil ?_
 refine f_then ?_
 refine c_ret ?_
 refine f_then_ret ?_
 refine ret1 Try.results43 (v := .slice none 0 0) rfl ?_
 intro w hw
 exact ⟨rfl, st_mask [] rfl hw⟩
end Go.Proofs
