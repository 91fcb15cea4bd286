/-
  Proved: StepBack returns true at every input, and its input reads as it did; the package variable that it reads is tied to the program's text. No condition.
-/
import Derived.Test.YtbhkgodiencdlaaDoorRows
import Derived.Test.YtbhkgodiencdlaaDoorCards
import Derived.Test.YtbhkgodiencdlaaDoorTie
import Derived.Test.YtbhkgodiencdlaaDoorSt25
import Derived.Test.YtbhkgodiencdlaaDoorStOpenF
import Derived.Test.YtbhkgodiencdlaaDoorStOpen
import Derived.Test.YtbhkgodiencdlaaDoorStDoor
import Derived.WalkKit
import Derived.ProofKit
import Derived.OpenShut
import Derived.ChangeOld
import Derived.Below
import Derived.SizedLaws
import Derived.LaidMore
import Derived.Stop.Joined
import Derived.SevenTiedAt
namespace Go.Proofs.YtbhkgodiencdlaaDoor.stepBack
open Go.ChangeShapes Go.WideShapes Go.ChangeAt Go.RowKit
open Go.Sl Go.Stp
set_option linter.unusedVariables false

theorem own : ownKnob Tryd.prog.godebug = none := by kernel_rfl
theorem laidOut : laidOutB Tryd.prog = true := by kernel_rfl
abbrev laid : List (String × DataW Unit) := [("marches/shape.rooms", Rows.laid_marches_shape_rooms)]

set_option maxRecDepth 100000 in
theorem lifted (os : Os) (started : os.Started) (H : Type) (enc : TypeId × Value → H) :
    ReturnsInHanded {} Tryd.checked os 10 .any (fun w args => (Rows.stepBackSpec.pre enc Tryd.prog Tryd.f10 [] false w args ∧ laidMetH Tryd.prog laid w) ∧ sizedMet enc Tryd.prog Tryd.f10 (OpenSpec.ofChange Rows.stepBackSpec) false w args)
      (Rows.stepBackSpec.post enc Tryd.prog Tryd.f10 false true false false) := by
  refine returnsInHanded_of_change_and (C := Tryd.checked) (X := fun w _ => laidMetH Tryd.prog laid w) (fun _ _ _ hh h => h.of_heap hh) own started (by kernel_rfl) Tryd.func10
    (ChangeSpec.witness_shaped (enc := enc) (C := Tryd.checked) (os := os) (X := fun w _ => laidMetH Tryd.prog laid w) false (World.doorLaid Tryd.prog 600 os) #[.slice none 0 0, .slice none 0 0, .int .i8 0, .int .i8 0, .int .i16 0, .int .i16 0, .int .i16 0, .int .i16 0] 8 rfl (World.shaped_of_RefB (by kernel_rfl) (by kernel_rfl)) (by kernel_rfl) (by kernel_rfl) (by kernel_rfl) (door_met os _)) ?_
  intro W base args ds gs before hval0 hW hcnd hsz hL _
  have hval : ∀ (j : Nat) t v, Tryd.f10.params[j]? = some t → args[j]? = some v → Value.okWide Tryd.prog W .any base t v := hval0
  have hW' := hW
  obtain ⟨p, q, hA0, hV, rfl, hfz, hnd⟩ := hW
  have hA : DataW.TrodAll enc Tryd.prog W 0 (fun _ => true) true Tryd.f10.params.toList args.toList ds p := hA0
  rw [Tryd.params10] at hA hval hsz
  obtain ⟨v0, vs0, d0, ds0, p0, q0, hargs, rfl, rfl, h0, r0⟩ := trodAll_cons hA
  obtain ⟨v1, vs1, d1, ds1, p1, q1, rfl, rfl, rfl, h1, r1⟩ := trodAll_cons r0
  obtain ⟨v2, vs2, d2, ds2, p2, q2, rfl, rfl, rfl, h2, r2⟩ := trodAll_cons r1
  obtain ⟨v3, vs3, d3, ds3, p3, q3, rfl, rfl, rfl, h3, r3⟩ := trodAll_cons r2
  obtain ⟨v4, vs4, d4, ds4, p4, q4, rfl, rfl, rfl, h4, r4⟩ := trodAll_cons r3
  obtain ⟨v5, vs5, d5, ds5, p5, q5, rfl, rfl, rfl, h5, r5⟩ := trodAll_cons r4
  obtain ⟨v6, vs6, d6, ds6, p6, q6, rfl, rfl, rfl, h6, r6⟩ := trodAll_cons r5
  obtain ⟨v7, vs7, d7, ds7, p7, q7, rfl, rfl, rfl, h7, r7⟩ := trodAll_cons r6
  obtain ⟨rfl, rfl, rfl⟩ := trodAll_nil r7
  obtain rfl : args = #[v0, v1, v2, v3, v4, v5, v6, v7] := by cases args; simp_all
  obtain ⟨rfl, rfl⟩ := trodVars_none hV
  have k0 := h0
  have lt0 : ∀ x ∈ p0, x.block < W.heap.size := by obtain ⟨m, hm⟩ := k0; exact DataW.trod_lt m _ _ _ hm
  obtain ⟨ya0, yl0, yc0, rfl⟩ := okWide_slice Tryd.underlying47 (hval 0 47 v0 rfl rfl)
  obtain ⟨z0, hz0⟩ := open_forms h0
  have k1 := h1
  have lt1 : ∀ x ∈ p1, x.block < W.heap.size := by obtain ⟨m, hm⟩ := k1; exact DataW.trod_lt m _ _ _ hm
  obtain ⟨ya1, yl1, yc1, rfl⟩ := okWide_slice Tryd.underlying41 (hval 1 41 v1 rfl rfl)
  obtain ⟨z1, hz1⟩ := open_bytes h1
  obtain ⟨a2, rfl, rfl, rfl, w2⟩ := open_int Tryd.underlying48 (hval 2 48 v2 rfl rfl) h2
  obtain ⟨a3, rfl, rfl, rfl, w3⟩ := open_int Tryd.underlying48 (hval 3 48 v3 rfl rfl) h3
  obtain ⟨a4, rfl, rfl, rfl, w4⟩ := open_int Tryd.underlying55 (hval 4 55 v4 rfl rfl) h4
  obtain ⟨a5, rfl, rfl, rfl, w5⟩ := open_int Tryd.underlying55 (hval 5 55 v5 rfl rfl) h5
  obtain ⟨a6, rfl, rfl, rfl, w6⟩ := open_int Tryd.underlying55 (hval 6 55 v6 rfl rfl) h6
  obtain ⟨a7, rfl, rfl, rfl, w7⟩ := open_int Tryd.underlying55 (hval 7 55 v7 rfl rfl) h7
  have hG := of_laid hL
  clear hA0 hval0
  have g2 := i8_bd w2
  have g3 := i8_bd w3
  have g4 : -32768 ≤ a4 ∧ a4 ≤ 32767 := show IntKind.i16.min ≤ a4 ∧ a4 ≤ IntKind.i16.max by simpa only [Lit.wf, Bool.and_eq_true, decide_eq_true_eq] using w4
  have g5 : -32768 ≤ a5 ∧ a5 ≤ 32767 := show IntKind.i16.min ≤ a5 ∧ a5 ≤ IntKind.i16.max by simpa only [Lit.wf, Bool.and_eq_true, decide_eq_true_eq] using w5
  have g6 : -32768 ≤ a6 ∧ a6 ≤ 32767 := show IntKind.i16.min ≤ a6 ∧ a6 ≤ IntKind.i16.max by simpa only [Lit.wf, Bool.and_eq_true, decide_eq_true_eq] using w6
  have g7 : -32768 ≤ a7 ∧ a7 ≤ 32767 := show IntKind.i16.min ≤ a7 ∧ a7 ≤ IntKind.i16.max by simpa only [Lit.wf, Bool.and_eq_true, decide_eq_true_eq] using w7
  have hcall : Calls Tryd.prog 10 #[.slice ya0 yl0 yc0, .slice ya1 yl1 yc1, .int .i8 a2, .int .i8 a3, .int .i16 a4, .int .i16 a5, .int .i16 a6, .int .i16 a7] W fun e W' => e = .returned (.bool true) ∧ Below W.heap.size W W' := by
    have h := back8_ok (World.base W) W (St.base W) _ _ _ _ hz0 hz1 a2 a3 g2 g3 a4 g4 a5 g5 a6 g6 a7 g7 hG
    exact h.mono fun e w' ⟨h1, h2⟩ => ⟨h1, h2.below⟩
  refine hcall.mono fun e W' ⟨he, bel⟩ => ?_
  subst he
  exact ⟨_, rfl, _, _, _, [], _, [], hW', trodAll_mk1 (shut_bool Tryd.underlying4 _), (trodAll_cons_mk (Below.trod laidOut (by kernel_rfl) (of_decide_eq_true (by kernel_rfl)) k0 bel lt0) (trodAll_cons_mk (Below.trod laidOut (by kernel_rfl) (of_decide_eq_true (by kernel_rfl)) k1 bel lt1) (trodAll_cons_mk (shut_int Tryd.underlying48 w2) (trodAll_cons_mk (shut_int Tryd.underlying48 w3) (trodAll_cons_mk (shut_int Tryd.underlying55 w4) (trodAll_cons_mk (shut_int Tryd.underlying55 w5) (trodAll_cons_mk (shut_int Tryd.underlying55 w6) (trodAll_cons_mk (shut_int Tryd.underlying55 w7) trodAll_mk0)))))))), rfl, bel.frame _, fun h => by cases h⟩

theorem over_ : Rows.StepBackSaid :=
  OpenClaim.holds_of_wide 10 Tryd.f10 rfl rfl rfl rfl rfl rfl rfl ⟨rfl, rfl, rfl, rfl, rfl⟩ rfl rfl rfl rfl rfl (by kernel_rfl) Tryd.func10 (by kernel_rfl)
    (of_decide_eq_true (by kernel_rfl)) (by unfold Func.isWrapper; first | (rw [if_pos (by decide +kernel)]; kernel_rfl) | (rw [if_neg (by decide +kernel)]; exact ⟨rfl, rfl⟩))
    (fun os started H enc _ => lifted os started H enc)

/-- The statement: the tied card. -/
theorem proved : Rows.StepBackCardSaid :=
  Claim7.holds_tied_plain_at .later [] [.funcs] true (true, "5324a8d977458f4d5620533aad542eeb84029718c32f5b57931217e422a72534") false
    over_ (fun _ h => by cases h) (by kernel_rfl) (fun _ h => by cases h) stepBack_row_tie rfl ⟨rfl, rfl⟩ (by kernel_rfl) rfl
    (fun f fn hf hfn => by
      obtain rfl : f = 10 := Option.some.inj ((show Tryd.prog.funcNamed "marches/marcheslaw08.StepBack" = some 10 by kernel_rfl).symm.trans hf) |>.symm
      obtain rfl : fn = Tryd.f10 := (Option.some.inj (Tryd.func10.symm.trans hfn)).symm
      exact ⟨by kernel_rfl, fun j t ht => by
        rw [Tryd.params10] at ht
        have hm : t ∈ ([47, 41, 48, 48, 55, 55, 55, 55] : List Nat) := by simpa using Array.mem_of_getElem? ht
        have hall : (([47, 41, 48, 48, 55, 55, 55, 55] : List Nat).all fun u => !Tryd.prog.wantsStandIn u) = true := by kernel_rfl
        exact (show Tryd.prog.wantsStandIn t = false by simpa using List.all_eq_true.1 hall t hm)⟩)
    (by kernel_rfl)
end Go.Proofs.YtbhkgodiencdlaaDoor.stepBack
namespace Go.Proofs.YtbhkgodiencdlaaDoor
theorem stepBack_proved : Rows.StepBackCardSaid := stepBack.proved
#print axioms stepBack_proved
end Go.Proofs.YtbhkgodiencdlaaDoor
