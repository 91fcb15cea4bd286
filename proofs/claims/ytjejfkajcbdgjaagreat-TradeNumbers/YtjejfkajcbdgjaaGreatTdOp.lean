/-
 A house that is opened, in plain terms. Own work; plain Lean.
-/
import Derived.Test.YtjejfkajcbdgjaaGreatTdRs
namespace Go.Td
open Go Go.Sl Go.Proofs Go.Jn
theorem cut_neg1 {k : KS} {e n : Nat} (h : k.power = -1) : (cutS k e n).power = -1 := by
 show cutP _ k.power _ = -1
 unfold cutP spendP
 rw [h]; split <;> rfl
theorem SOk.cut {X : KHs} {i : KI} {k : KS} {N W : Nat} {x : Bool} (h : SOk X i k N W x) (hp : k.power = -1) : SOk X i (cutS k i.epoch i.size) N W true := ⟨h.inv.cut (by rw [hp]; decide), h.ep, h.img, h.ok, h.last⟩
theorem SOk.pow {X : KHs} {i : KI} {k : KS} {N W : Nat} {x : Bool} (h : SOk X i k N W x) {p : Int} (h1 : -1 ≤ p) (h2 : p ≤ 1000) : SOk X i { k with power := p } N W x := ⟨h.inv.pow h1 h2, h.ep, h.img, h.ok, h.last⟩
theorem SOk.lasts {X X0 : KHs} {i : KI} {k : KS} {N W : Nat} {x : Bool} (h : SOk X i k N W x) (hN : N ≤ 1000000) {ds : List KDeal} (hi : Img i X X0 ds) : X0.s.last ≤ 16000000 ∧ (replay X0 ds).s.last ≤ 16000000 := by
 have h1 := h.last
 have h2 := hi.x.s.l
 have h3 := (replay_ok hi.x0 hi.ok).2
 constructor <;> omega
/-- a new store -/
theorem sok_fresh {p : Int} (h : -1 ≤ p ∧ p ≤ 1000) : SOk freshX ⟨0, 0, [], [], 0⟩ ⟨[], [], [], p⟩ 0 0 false :=
 ⟨(inv_empty h).any, by decide, ⟨freshX, [], .inl ⟨rfl, rfl⟩, freshX_ok, rfl, fun d hd => (by cases hd), freshX_ok.refl⟩, freshX_ok, by decide⟩
section
variable {P : Program} {ro : Option Nat} {n : Nat} {ds : List Deferred} {β : Base} {Q : Exit → Act → World → Prop} {f : Fm} {L : List Res}
theorem c_openShelf {c : Code} {S N W : Nat} {p : Int} {X : KHs} {M : List Res} (hL : L = shelfR S X N W p :: M) (K : ∀ i k, SOk X i k N W false → k.power = p → RunC P ro n ds β c Q f (storeR S k :: M)) : RunC P ro n ds β c Q f L := fun a w ha hw => by
 subst hL
 obtain ⟨i, k, h1, h2, h⟩ := St.openShelf hw
 exact K i k h1 h2 a w ha h
theorem c_closeShelf {c : Code} {S N W : Nat} {p : Int} {X : KHs} {i : KI} {k : KS} {M : List Res} (hL : L = storeR S k :: M) (h1 : SOk X i k N W false) (h2 : k.power = p) (K : RunC P ro n ds β c Q f (shelfR S X N W p :: M)) : RunC P ro n ds β c Q f L := fun a w ha hw => by
 subst hL
 exact K a w ha (St.closeShelf h1 h2 hw)
end
end Go.Td
