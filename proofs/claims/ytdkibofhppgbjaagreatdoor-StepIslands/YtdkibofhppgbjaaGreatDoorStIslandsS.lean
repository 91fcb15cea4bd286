/-
  Proved: StepIslands returns true at every input, and its input reads as it did; the package variable that it reads is tied to the program's text. No condition.
-/
import Derived.Test.YtdkibofhppgbjaaGreatDoorRows
import Derived.Test.YtdkibofhppgbjaaGreatDoorCards
import Derived.Test.YtdkibofhppgbjaaGreatDoorTie
import Derived.Test.YtdkibofhppgbjaaGreatDoorSx1
import Derived.Test.YtdkibofhppgbjaaGreatDoorStOpenF
import Derived.Test.YtdkibofhppgbjaaGreatDoorStOpen
import Derived.Test.YtdkibofhppgbjaaGreatDoorStDoor
import Derived.WalkKit
import Derived.ProofKit
import Derived.OpenShut
import Derived.ChangeOld
import Derived.Below
import Derived.SizedLaws
import Derived.LaidMore
import Derived.Stop.Joined
import Derived.SevenTiedAt
namespace Go.Proofs.YtdkibofhppgbjaaGreatDoor.stepIslands
open Go.ChangeShapes Go.WideShapes Go.ChangeAt Go.RowKit
open Go.Sl Go.Stp
set_option linter.unusedVariables false

theorem own : ownKnob Tryz.prog.godebug = none := by kernel_rfl
theorem laidOut : laidOutB Tryz.prog = true := by kernel_rfl
abbrev laid : List (String × DataW Unit) := [("marches/shape.rooms", Rows.laid_marches_shape_rooms)]

set_option maxRecDepth 100000 in
theorem lifted (os : Os) (started : os.Started) (H : Type) (enc : TypeId × Value → H) :
    ReturnsInHanded {} Tryz.checked os 4 .any (fun w args => (Rows.stepIslandsSpec.pre enc Tryz.prog Tryz.f4 [] false w args ∧ laidMetH Tryz.prog laid w) ∧ sizedMet enc Tryz.prog Tryz.f4 (OpenSpec.ofChange Rows.stepIslandsSpec) false w args)
      (Rows.stepIslandsSpec.post enc Tryz.prog Tryz.f4 false true false false) := by
  refine returnsInHanded_of_change_and (C := Tryz.checked) (X := fun w _ => laidMetH Tryz.prog laid w) (fun _ _ _ hh h => h.of_heap hh) own started (by kernel_rfl) Tryz.func4
    (ChangeSpec.witness_shaped (enc := enc) (C := Tryz.checked) (os := os) (X := fun w _ => laidMetH Tryz.prog laid w) false (World.doorLaid Tryz.prog 600 os) #[.slice none 0 0, .slice none 0 0, .int .i8 0, .int .i8 0, .int .u8 0] 8 rfl (World.shaped_of_RefB (by kernel_rfl) (by kernel_rfl)) (by kernel_rfl) (by kernel_rfl) (by kernel_rfl) (door_met os _)) ?_
  intro W base args ds gs before hval0 hW hcnd hsz hL _
  have hval : ∀ (j : Nat) t v, Tryz.f4.params[j]? = some t → args[j]? = some v → Value.okWide Tryz.prog W .any base t v := hval0
  have hW' := hW
  obtain ⟨p, q, hA0, hV, rfl, hfz, hnd⟩ := hW
  have hA : DataW.TrodAll enc Tryz.prog W 0 (fun _ => true) true Tryz.f4.params.toList args.toList ds p := hA0
  rw [Tryz.params4] at hA hval hsz
  obtain ⟨v0, vs0, d0, ds0, p0, q0, hargs, rfl, rfl, h0, r0⟩ := trodAll_cons hA
  obtain ⟨v1, vs1, d1, ds1, p1, q1, rfl, rfl, rfl, h1, r1⟩ := trodAll_cons r0
  obtain ⟨v2, vs2, d2, ds2, p2, q2, rfl, rfl, rfl, h2, r2⟩ := trodAll_cons r1
  obtain ⟨v3, vs3, d3, ds3, p3, q3, rfl, rfl, rfl, h3, r3⟩ := trodAll_cons r2
  obtain ⟨v4, vs4, d4, ds4, p4, q4, rfl, rfl, rfl, h4, r4⟩ := trodAll_cons r3
  obtain ⟨rfl, rfl, rfl⟩ := trodAll_nil r4
  obtain rfl : args = #[v0, v1, v2, v3, v4] := by cases args; simp_all
  obtain ⟨rfl, rfl⟩ := trodVars_none hV
  have k0 := h0
  have lt0 : ∀ x ∈ p0, x.block < W.heap.size := by obtain ⟨m, hm⟩ := k0; exact DataW.trod_lt m _ _ _ hm
  obtain ⟨ya0, yl0, yc0, rfl⟩ := okWide_slice Tryz.underlying34 (hval 0 34 v0 rfl rfl)
  obtain ⟨z0, hz0⟩ := open_forms h0
  have k1 := h1
  have lt1 : ∀ x ∈ p1, x.block < W.heap.size := by obtain ⟨m, hm⟩ := k1; exact DataW.trod_lt m _ _ _ hm
  obtain ⟨ya1, yl1, yc1, rfl⟩ := okWide_slice Tryz.underlying35 (hval 1 35 v1 rfl rfl)
  obtain ⟨z1, hz1⟩ := open_bytes h1
  obtain ⟨a2, rfl, rfl, rfl, w2⟩ := open_int Tryz.underlying36 (hval 2 36 v2 rfl rfl) h2
  obtain ⟨a3, rfl, rfl, rfl, w3⟩ := open_int Tryz.underlying36 (hval 3 36 v3 rfl rfl) h3
  obtain ⟨a4, rfl, rfl, rfl, w4⟩ := open_int Tryz.underlying5 (hval 4 5 v4 rfl rfl) h4
  have hG := of_laid hL
  clear hA0 hval0
  have g2 := i8_bd w2
  have g3 := i8_bd w3
  have hb4 : IntKind.u8.min ≤ a4 ∧ a4 ≤ IntKind.u8.max := by simpa only [Lit.wf, Bool.and_eq_true, decide_eq_true_eq] using w4
  have g4 : (0 : Int) ≤ a4 := hb4.1
  have g5 : a4 ≤ 255 := hb4.2
  have e4 : ((a4.toNat.toUInt8.toNat : Nat) : Int) = a4 := by rw [show a4.toNat.toUInt8.toNat = a4.toNat % 256 from UInt8.toNat_ofNat']; omega
  have hcall : Calls Tryz.prog 4 #[.slice ya0 yl0 yc0, .slice ya1 yl1 yc1, .int .i8 a2, .int .i8 a3, .int .u8 a4] W fun e W' => e = .returned (.bool true) ∧ Below W.heap.size W W' := by
    have h := islands8_ok (World.base W) W (St.base W) _ _ _ _ hz0 hz1 a2 a3 g2 g3 a4.toNat.toUInt8 hG
    rw [show Bx a4.toNat.toUInt8 = .int .u8 a4 from congrArg (Value.int .u8) e4] at h
    exact h.mono fun e w' ⟨h1, h2⟩ => ⟨h1, h2.below⟩
  refine hcall.mono fun e W' ⟨he, bel⟩ => ?_
  subst he
  exact ⟨_, rfl, _, _, _, [], _, [], hW', trodAll_mk1 (shut_bool Tryz.underlying4 _), (trodAll_cons_mk (Below.trod laidOut (by kernel_rfl) (of_decide_eq_true (by kernel_rfl)) k0 bel lt0) (trodAll_cons_mk (Below.trod laidOut (by kernel_rfl) (of_decide_eq_true (by kernel_rfl)) k1 bel lt1) (trodAll_cons_mk (shut_int Tryz.underlying36 w2) (trodAll_cons_mk (shut_int Tryz.underlying36 w3) (trodAll_cons_mk (shut_int Tryz.underlying5 w4) trodAll_mk0))))), rfl, bel.frame _, fun h => by cases h⟩

theorem over_ : Rows.StepIslandsSaid :=
  OpenClaim.holds_of_wide 4 Tryz.f4 rfl rfl rfl rfl rfl rfl rfl ⟨rfl, rfl, rfl, rfl, rfl⟩ rfl rfl rfl rfl rfl (by kernel_rfl) Tryz.func4 (by kernel_rfl)
    (of_decide_eq_true (by kernel_rfl)) (by unfold Func.isWrapper; first | (rw [if_pos (by decide +kernel)]; kernel_rfl) | (rw [if_neg (by decide +kernel)]; exact ⟨rfl, rfl⟩))
    (fun os started H enc _ => lifted os started H enc)

/-- The statement: the tied card. -/
theorem proved : Rows.StepIslandsCardSaid :=
  Claim7.holds_tied_plain_at .later [] [.funcs] true (true, "5cf18f2c409939a9ce16f42f1a84ad1f68daf1a286d41e57a7f372726dde4895") false
    over_ (fun _ h => by cases h) (by kernel_rfl) (fun _ h => by cases h) stepIslands_row_tie rfl ⟨rfl, rfl⟩ (by kernel_rfl) rfl
    (fun f fn hf hfn => by
      obtain rfl : f = 4 := Option.some.inj ((show Tryz.prog.funcNamed "marches/marcheslaw08.StepIslands" = some 4 by kernel_rfl).symm.trans hf) |>.symm
      obtain rfl : fn = Tryz.f4 := (Option.some.inj (Tryz.func4.symm.trans hfn)).symm
      exact ⟨by kernel_rfl, fun j t ht => by
        rw [Tryz.params4] at ht
        have hm : t ∈ ([34, 35, 36, 36, 5] : List Nat) := by simpa using Array.mem_of_getElem? ht
        have hall : (([34, 35, 36, 36, 5] : List Nat).all fun u => !Tryz.prog.wantsStandIn u) = true := by kernel_rfl
        exact (show Tryz.prog.wantsStandIn t = false by simpa using List.all_eq_true.1 hall t hm)⟩)
    (by kernel_rfl)
end Go.Proofs.YtdkibofhppgbjaaGreatDoor.stepIslands
namespace Go.Proofs.YtdkibofhppgbjaaGreatDoor
theorem stepIslands_proved : Rows.StepIslandsCardSaid := stepIslands.proved
#print axioms stepIslands_proved
end Go.Proofs.YtdkibofhppgbjaaGreatDoor
