/-
  Proved: HandoverTorn returns true at every input, and its input reads as it did; the package variable that it reads is tied to the program's text. No condition.
-/
import Derived.Test.YtmhlglginimmnaaGreatDoorRows
import Derived.Test.YtmhlglginimmnaaGreatDoorCards
import Derived.Test.YtmhlglginimmnaaGreatDoorTie
import Derived.Test.YtmhlglginimmnaaGreatDoorHv31
import Derived.Test.YtmhlglginimmnaaGreatDoorHvOpn
import Derived.Test.YtmhlglginimmnaaGreatDoorHvDoor
import Derived.WalkKit
import Derived.ProofKit
import Derived.OpenShut
import Derived.ChangeOld
import Derived.Below
import Derived.SizedLaws
import Derived.LaidMore
import Derived.Stop.Joined
import Derived.SevenTiedAt
set_option linter.unusedVariables false
set_option linter.unusedSimpArgs false
namespace Go.Proofs.YtmhlglginimmnaaGreatDoor.handoverTorn
open Go.ChangeShapes Go.WideShapes Go.ChangeAt Go.RowKit
open Go.Sl Go.Hv
set_option linter.unusedVariables false

theorem own : ownKnob Tryz.prog.godebug = none := by kernel_rfl
theorem laidOut : laidOutB Tryz.prog = true := by kernel_rfl
abbrev laid : List (String × DataW Unit) := [("marches/store.ranges", Rows.laid_marches_store_ranges)]

set_option maxRecDepth 100000 in
theorem lifted (os : Os) (started : os.Started) (H : Type) (enc : TypeId × Value → H) :
    ReturnsInHanded {} Tryz.checked os 7 .any (fun w args => (Rows.handoverTornSpec.pre enc Tryz.prog Tryz.f7 [] false w args ∧ laidMetH Tryz.prog laid w) ∧ sizedMet enc Tryz.prog Tryz.f7 (OpenSpec.ofChange Rows.handoverTornSpec) false w args)
      (Rows.handoverTornSpec.post enc Tryz.prog Tryz.f7 false true false false) := by
  refine returnsInHanded_of_change_and (C := Tryz.checked) (X := fun w _ => laidMetH Tryz.prog laid w) (fun _ _ _ hh h => h.of_heap hh) own started (by kernel_rfl) Tryz.func7
    (ChangeSpec.witness_shaped (enc := enc) (C := Tryz.checked) (os := os) (X := fun w _ => laidMetH Tryz.prog laid w) false (World.doorLaid Tryz.prog 600 os) #[.int .u8 0, .int .u8 0, .int .u16 0] 8 rfl (World.shaped_of_RefB (by kernel_rfl) (by kernel_rfl)) (by kernel_rfl) (by kernel_rfl) (by kernel_rfl) (door_met os _)) ?_
  intro W base args ds gs before hval0 hW hcnd hsz hL _
  have hval : ∀ (j : Nat) t v, Tryz.f7.params[j]? = some t → args[j]? = some v → Value.okWide Tryz.prog W .any base t v := hval0
  have hW' := hW
  obtain ⟨p, q, hA0, hV, rfl, hfz, hnd⟩ := hW
  have hA : DataW.TrodAll enc Tryz.prog W 0 (fun _ => true) true Tryz.f7.params.toList args.toList ds p := hA0
  rw [Tryz.params7] at hA hval hsz
  obtain ⟨v0, vs0, d0, ds0, p0, q0, hargs, rfl, rfl, h0, r0⟩ := trodAll_cons hA
  obtain ⟨v1, vs1, d1, ds1, p1, q1, rfl, rfl, rfl, h1, r1⟩ := trodAll_cons r0
  obtain ⟨v2, vs2, d2, ds2, p2, q2, rfl, rfl, rfl, h2, r2⟩ := trodAll_cons r1
  obtain ⟨rfl, rfl, rfl⟩ := trodAll_nil r2
  obtain rfl : args = #[v0, v1, v2] := by cases args; simp_all
  obtain ⟨rfl, rfl⟩ := trodVars_none hV
  obtain ⟨a0, rfl, rfl, rfl, w0⟩ := open_int Tryz.underlying5 (hval 0 5 v0 rfl rfl) h0
  obtain ⟨a1, rfl, rfl, rfl, w1⟩ := open_int Tryz.underlying5 (hval 1 5 v1 rfl rfl) h1
  obtain ⟨a2, rfl, rfl, rfl, w2⟩ := open_int Tryz.underlying51 (hval 2 51 v2 rfl rfl) h2
  have hG := of_laid hL
  clear hA0 hval0
  simp only [List.append_nil] at hW'
  have hb0 : IntKind.u8.min ≤ a0 ∧ a0 ≤ IntKind.u8.max := by simpa only [Lit.wf, Bool.and_eq_true, decide_eq_true_eq] using w0
  have g0 : (0 : Int) ≤ a0 := hb0.1
  have g0' : a0 ≤ 255 := hb0.2
  have e0 : ((a0.toNat.toUInt8.toNat : Nat) : Int) = a0 := by rw [show a0.toNat.toUInt8.toNat = a0.toNat % 256 from UInt8.toNat_ofNat']; omega
  have hb1 : IntKind.u8.min ≤ a1 ∧ a1 ≤ IntKind.u8.max := by simpa only [Lit.wf, Bool.and_eq_true, decide_eq_true_eq] using w1
  have g1 : (0 : Int) ≤ a1 := hb1.1
  have g1' : a1 ≤ 255 := hb1.2
  have e1 : ((a1.toNat.toUInt8.toNat : Nat) : Int) = a1 := by rw [show a1.toNat.toUInt8.toNat = a1.toNat % 256 from UInt8.toNat_ofNat']; omega
  have hb2 : IntKind.u16.min ≤ a2 ∧ a2 ≤ IntKind.u16.max := by simpa only [Lit.wf, Bool.and_eq_true, decide_eq_true_eq] using w2
  have g2 : (0 : Int) ≤ a2 := hb2.1
  have g2' : a2 ≤ 65535 := hb2.2
  have hcall : Calls Tryz.prog 7 #[.int .u8 a0, .int .u8 a1, .int .u16 a2] W fun e W' => e = .returned (.bool true) ∧ Below W.heap.size W W' := by
    have h := torn_ok (World.base W) W (St.base W) hG a0.toNat.toUInt8 a1.toNat.toUInt8 a2.toNat (by omega)
    rw [show Bx a0.toNat.toUInt8 = .int .u8 a0 from congrArg (Value.int .u8) e0] at h
    rw [show Bx a1.toNat.toUInt8 = .int .u8 a1 from congrArg (Value.int .u8) e1] at h
    rw [Int.toNat_of_nonneg g2] at h
    exact h.mono fun e w' ⟨h1, h2⟩ => ⟨h1, h2.below⟩
  refine hcall.mono fun e W' ⟨he, bel⟩ => ?_
  subst he
  exact ⟨_, rfl, _, _, _, [], _, [], hW', trodAll_mk1 (shut_bool Tryz.underlying4 _), (trodAll_cons_mk (shut_int Tryz.underlying5 w0) (trodAll_cons_mk (shut_int Tryz.underlying5 w1) (trodAll_cons_mk (shut_int Tryz.underlying51 w2) trodAll_mk0))), rfl, bel.frame _, fun h => by cases h⟩

theorem over_ : Rows.HandoverTornSaid :=
  OpenClaim.holds_of_wide 7 Tryz.f7 rfl rfl rfl rfl rfl rfl rfl ⟨rfl, rfl, rfl, rfl, rfl⟩ rfl rfl rfl rfl rfl (by kernel_rfl) Tryz.func7 (by kernel_rfl)
    (of_decide_eq_true (by kernel_rfl)) (by unfold Func.isWrapper; first | (rw [if_pos (by decide +kernel)]; kernel_rfl) | (rw [if_neg (by decide +kernel)]; exact ⟨rfl, rfl⟩))
    (fun os started H enc _ => lifted os started H enc)

/-- The statement: the tied card. -/
theorem proved : Rows.HandoverTornCardSaid :=
  Claim7.holds_tied_plain_at .later [] [.data] true (true, "a95b29eb92862aba7274b3b5e8fd660cb65288b5b4fb99be0158ff9633b046e4") true
    over_ (fun _ h => by cases h) (by kernel_rfl) (fun _ h => by cases h) handoverTorn_row_tie rfl ⟨rfl, rfl⟩ (by kernel_rfl) rfl
    (fun f fn hf hfn => by
      obtain rfl : f = 7 := Option.some.inj ((show Tryz.prog.funcNamed "marches/marcheslaw32.HandoverTorn" = some 7 by kernel_rfl).symm.trans hf) |>.symm
      obtain rfl : fn = Tryz.f7 := (Option.some.inj (Tryz.func7.symm.trans hfn)).symm
      exact ⟨by kernel_rfl, fun j t ht => by
        rw [Tryz.params7] at ht
        have hm : t ∈ ([5, 5, 51] : List Nat) := by simpa using Array.mem_of_getElem? ht
        have hall : (([5, 5, 51] : List Nat).all fun u => !Tryz.prog.wantsStandIn u) = true := by kernel_rfl
        exact (show Tryz.prog.wantsStandIn t = false by simpa using List.all_eq_true.1 hall t hm)⟩)
    (by kernel_rfl)
end Go.Proofs.YtmhlglginimmnaaGreatDoor.handoverTorn
namespace Go.Proofs.YtmhlglginimmnaaGreatDoor
theorem handoverTorn_proved : Rows.HandoverTornCardSaid := handoverTorn.proved
#print axioms handoverTorn_proved
end Go.Proofs.YtmhlglginimmnaaGreatDoor
