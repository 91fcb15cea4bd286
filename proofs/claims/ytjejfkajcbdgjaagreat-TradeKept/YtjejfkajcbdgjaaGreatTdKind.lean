/-
 The map of the kinds of acts. Own work; plain Lean.
-/
import Derived.Test.YtjejfkajcbdgjaaGreatSlA
import Derived.Test.YtjejfkajcbdgjaaGreatTd3
namespace Go.Proofs
open Go Go.Sl Go.Td
theorem clone110 : isClone Tryz.prog 110 := ⟨Tryz.f110, Tryz.func110, by decide, by decide, by kernel_rfl, by kernel_rfl⟩
def fnV : Option Nat → Value | none => .nilFunc | some n => .func (.func n) #[] #[]
noncomputable def KiM : MapK Tryz.prog Int (Option Nat) where
 t := 153
 kt := 5
 et := 150
 dec := inferInstance
 enc := fun x => .int .u8 x
 encv := fnV
 zv := none
 ht := by kernel_rfl
 hz := by kernel_rfl
 chk := fun e a w => by
  unfold Instr.checkKey
  simp only [Sem.run_bind, run_underlying (show Tryz.prog.underlying 5 = some (.int .u8) by kernel_rfl), Result.andThen_ok]
  rfl
 find := find_plain (d := .int .u8) (by kernel_rfl) fun a b => congrArg some (show (a == b) = decide (a = b) by by_cases h : a = b <;> simp [h])
 bits := fun a => by unfold Instr.sameBits; simp
def kindsL : List (Int × Option Nat) := [(1, some 67), (2, some 68), (3, some 69), (4, some 70), (5, some 71), (6, some 72), (7, some 73)]
def mpb : Value → Nat | .map (some b) => b | _ => 0
theorem kinds_put : KiM.put (KiM.put (KiM.put (KiM.put (KiM.put (KiM.put (KiM.put [] 1 (some 67)) 2 (some 68)) 3 (some 69)) 4 (some 70)) 5 (some 71)) 6 (some 72)) 7 (some 73) = kindsL := by rfl
theorem formed_kind {x : KAct} (h : x.formed = true) : (x.kind.toNat : Int) = 1 ∨ (x.kind.toNat : Int) = 2 ∨ (x.kind.toNat : Int) = 3 ∨ (x.kind.toNat : Int) = 4 ∨ (x.kind.toNat : Int) = 5 ∨ (x.kind.toNat : Int) = 6 ∨ (x.kind.toNat : Int) = 7 := by
 unfold KAct.formed KAct.plain at h
 by_cases h1 : (x.kind.toNat : Int) = 1
 ·exact .inl h1
 by_cases h2 : (x.kind.toNat : Int) = 2
 ·exact .inr (.inl h2)
 by_cases h3 : (x.kind.toNat : Int) = 3
 ·exact .inr (.inr (.inl h3))
 by_cases h4 : (x.kind.toNat : Int) = 4
 ·exact .inr (.inr (.inr (.inl h4)))
 by_cases h5 : (x.kind.toNat : Int) = 5
 ·exact .inr (.inr (.inr (.inr (.inl h5))))
 by_cases h6 : (x.kind.toNat : Int) = 6
 ·exact .inr (.inr (.inr (.inr (.inr (.inl h6)))))
 by_cases h7 : (x.kind.toNat : Int) = 7
 ·exact .inr (.inr (.inr (.inr (.inr (.inr h7)))))
 ·simp [h1, h2, h3, h4, h5, h6, h7] at h
theorem formed_within {x : KAct} (h : x.formed = true) : x.a.within = true := by
 unfold KAct.formed at h
 split at h
 ·simp at h; exact h.2
 ·split at h
  ·simp at h; exact h.2
  ·split at h
   ·simp at h; rw [h.2]; exact within_zero
   ·split at h
    ·simp at h; rw [h.2]; exact within_zero
    ·cases h
theorem formed_bd {x : KAct} (h : x.formed = true) : x.a.bd 4611686018427387903 := bd_le (within_bd (formed_within h)) (by decide)
abbrev stL (zb mp mh mm : Nat) (s : KSt) : List Res := [pt zb (.cells (stC mp mh mm s.last s.su) 88), mpR PuM mp s.ps, mpR HoM mh s.hs]
theorem act_call (x : KAct) (hx : x.formed = true) : ∃ gg, (KiM.look kindsL (x.kind.toNat : Int)).getD none = some gg ∧ cfB Tryz.prog gg = true ∧ ∀ (β : Base) (w : World) (zb mp mh mm : Nat) (s : KSt), St β (stL zb mp mh mm s) w → okP s.ps → okH s.hs → s.su.bd 4611686018427387903 → -4611686018427387903 ≤ s.last ∧ s.last ≤ 4611686018427387903 →
  Calls Tryz.prog gg #[.pointer (some ⟨zb, 0, none⟩), .agg (actE x).toArray] w fun r w' => r = .returned (.tuple #[Ix (actS s x).2.1, Ix (actS s x).2.2]) ∧ St β (stL zb mp mh mm (actS s x).1) w' := by
 have hb := formed_bd hx
 rcases formed_kind hx with h | h | h | h | h | h | h
 ·exact ⟨67, by rw [h]; rfl, by kernel_rfl, fun β w zb mp mh mm s hw hP hH hs hl => by rw [show actS s x = mintS s x by unfold actS; rw [h]; rfl]; exact mint_ok β w zb mp mh mm s hw hP hH hs hl x hb⟩
 ·exact ⟨68, by rw [h]; rfl, by kernel_rfl, fun β w zb mp mh mm s hw hP hH hs hl => by rw [show actS s x = burnS s x by unfold actS; rw [h]; rfl]; exact burn_ok β w zb mp mh mm s hw hP hH hs hl x hb⟩
 ·exact ⟨69, by rw [h]; rfl, by kernel_rfl, fun β w zb mp mh mm s hw hP hH hs hl => by rw [show actS s x = moveS s x by unfold actS; rw [h]; rfl]; exact move_ok β w zb mp mh mm s hw hP hH hs hl x hb⟩
 ·exact ⟨70, by rw [h]; rfl, by kernel_rfl, fun β w zb mp mh mm s hw hP hH hs hl => by rw [show actS s x = holdS s x by unfold actS; rw [h]; rfl]; exact hold_ok β w zb mp mh mm s hw hP hH hs hl x hb⟩
 ·exact ⟨71, by rw [h]; rfl, by kernel_rfl, fun β w zb mp mh mm s hw hP hH hs hl => by rw [show actS s x = payS s x.hold (hoA s.hs x.hold).owner by unfold actS; rw [h]; rfl]; exact free_ok β w zb mp mh mm s hw hP hH hs hl x hb⟩
 ·exact ⟨72, by rw [h]; rfl, by kernel_rfl, fun β w zb mp mh mm s hw hP hH hs hl => by rw [show actS s x = payS s x.hold x.other by unfold actS; rw [h]; rfl]; exact pay_ok β w zb mp mh mm s hw hP hH hs hl x hb⟩
 ·exact ⟨73, by rw [h]; rfl, by kernel_rfl, fun β w zb mp mh mm s hw hP hH hs hl => by rw [show actS s x = needS s x by unfold actS; rw [h]; rfl]; exact need_ok β w zb mp mh mm s hw hP hH hs hl x hb⟩
end Go.Proofs
