/-
  What a gate shows, up or down. Own work; plain Lean.
-/
import Derived.Test.YtmhlglginimmnaaGreatDoorHv25
set_option linter.unusedVariables false
set_option linter.unusedSimpArgs false
namespace Go.Hv
open Go Go.Sl Go.Proofs Go.Jn
theorem h3r {G J S : Nat} {X : KG} {i : KI} {k : KS} {β : Base} {a : Res} {w : World} (h : St β (a :: gvR G J X false :: [jourR J S i false, storeR S k]) w) : St β (gvR G J X false :: jourR J S i false :: storeR S k :: [a]) w :=
  h.perm (perm_ix (L := [a, gvR G J X false, jourR J S i false, storeR S k]) (L' := [gvR G J X false, jourR J S i false, storeR S k, a]) [1, 2, 3, 0] 4 rfl (by kernel_rfl) (by kernel_rfl))
theorem swp {a b : Res} {β : Base} {w : World} (h : St β [a, b] w) : St β [b, a] w := h.perm (List.Perm.swap _ _ _)
end Go.Hv
namespace Go.Proofs
open Go Go.Sl Go.Hv Go.Jn
section
variable (β : Base) (w : World) (G S N : Nat) (X : KG) (m : Bool) (hw : St β [gateR G S X N m] w)
include hw
theorem hereG_ok : Calls Tryz.prog 16 #[.pointer (some ⟨G, 0, none⟩)] w fun r w' => ∃ p c, r = .returned (.slice p X.here.length c) ∧ St β [entsR p c X.here, gateR G S X N m] w' := by
  obtain ⟨J, i, k, hso, hpw, hw⟩ := St.openGate hw
  obtain ⟨β1, sb, kn, hw1, back⟩ := St.frame (L := [gvR G J X false]) (M := [jourR J S i false, storeR S k]) hw
  refine (hereV_ok β1 w G J X N hso.ok hw1).mono ?_
  rintro r w' ⟨p, c, h1, h2⟩
  exact ⟨p, c, h1, swp (St.closeGate hso hpw (h3r (back _ _ h2)))⟩
theorem outG_ok : Calls Tryz.prog 20 #[.pointer (some ⟨G, 0, none⟩)] w fun r w' => ∃ p c, r = .returned (.slice p X.out.length c) ∧ St β [msgsR p c X.out, gateR G S X N m] w' := by
  obtain ⟨J, i, k, hso, hpw, hw⟩ := St.openGate hw
  obtain ⟨β1, sb, kn, hw1, back⟩ := St.frame (L := [gvR G J X false]) (M := [jourR J S i false, storeR S k]) hw
  refine (outV_ok β1 w G J X N hso.ok hw1).mono ?_
  rintro r w' ⟨p, c, h1, h2⟩
  exact ⟨p, c, h1, swp (St.closeGate hso hpw (h3r (back _ _ h2)))⟩
theorem msgsG_ok : Calls Tryz.prog 14 #[.pointer (some ⟨G, 0, none⟩)] w fun r w' => ∃ p c, r = .returned (.slice p (msgsX X).length c) ∧ St β [msgsR p c (msgsX X), gateR G S X N m] w' := by
  obtain ⟨J, i, k, hso, hpw, hw⟩ := St.openGate hw
  obtain ⟨β1, sb, kn, hw1, back⟩ := St.frame (L := [gvR G J X false]) (M := [jourR J S i false, storeR S k]) hw
  refine (msgsV_ok β1 w G J X N hso.ok hw1).mono ?_
  rintro r w' ⟨p, c, h1, h2⟩
  exact ⟨p, c, h1, swp (St.closeGate hso hpw (h3r (back _ _ h2)))⟩
theorem lastG_ok (k0 : Int) : Calls Tryz.prog 17 #[.pointer (some ⟨G, 0, none⟩), Ix k0] w fun r w' => r = .returned (Ix (lastX X k0)) ∧ St β [gateR G S X N m] w' := by
  obtain ⟨J, i, k, hso, hpw, hw⟩ := St.openGate hw
  obtain ⟨β1, sb, kn, hw1, back⟩ := St.frame (L := [gvR G J X false]) (M := [jourR J S i false, storeR S k]) hw
  refine (lastV_ok β1 w G J X hw1 k0).mono ?_
  rintro r w' ⟨h1, h2⟩
  exact ⟨h1, St.closeGate hso hpw (back _ _ h2)⟩
end
end Go.Proofs
