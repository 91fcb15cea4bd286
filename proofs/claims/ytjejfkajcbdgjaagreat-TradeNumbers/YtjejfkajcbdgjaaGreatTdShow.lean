/-
 What a house shows, in plain terms. Own work; plain Lean.
-/
import Derived.Test.YtjejfkajcbdgjaaGreatTdLk
import Derived.Test.YtjejfkajcbdgjaaGreatTdSortI
namespace Go.Td
open Go Go.Sl Go.Proofs Go.Jn
theorem sortI_same {l m : List Int} (h : l.Perm m) : sortI l = sortI m := sortI_eq (h.trans (sortI_perm m).symm) (sortI_sorted m)
noncomputable def ownersX (X : KHs) : List Int := sortI (X.s.ps.map (·.1))
noncomputable def holdsX (X : KHs) : List KHo := (sortI (X.s.hs.map (·.1))).map (hoA X.s.hs)
def lastX (X : KHs) (au : Int) : Int × KRes × Bool := match X.done au with | none => (0, zeroRes, false) | some m => (m.d.number, m.r, true)
section
variable {X : KHs} {s : KSt} {ms : List (Int × KMh)} {zs : List (KMh × KMem)} {i : KI} {k : KS} {N W : Nat} (h : HOk X s ms zs i k N W)
include h
theorem HOk.purse (n : Int) : puA s.ps n = puA X.s.ps n := puA_perm h.eq.p h.eq.np n
theorem HOk.supply : s.su = X.s.su := h.eq.u
theorem HOk.owners : sortI (s.ps.map (·.1)) = ownersX X := sortI_same (h.eq.p.map _)
theorem HOk.holds : (sortI (s.hs.map (·.1))).map (hoA s.hs) = holdsX X := by
 unfold holdsX
 rw [sortI_same (h.eq.h.map _)]
 exact List.map_congr_left fun n _ => hoA_perm h.eq.h h.eq.nh n
theorem HOk.hfew : (s.hs.map (·.1)).length ≤ 128 := by rw [List.length_map, h.eq.h.length_eq]; exact h.so.ok.g.h.hn
end
theorem LkOk.last {X : KHs} {ms : List (Int × KMh)} {zs : List (KMh × KMem)} {au : Int} {hd : KMh} {mal : List KAct} {mhl : List Int} (h : LkOk X ms zs au hd mal mhl) : lastX X au = (hd.number, ⟨hd.done, hd.at_, hd.e, mhl⟩, (MeM.look ms au).isSome) := by
 unfold lastX
 cases e : (MeM.look ms au).isSome with
 | true =>
  obtain ⟨m, h2, _, h4, h5, h6⟩ := h.yes e
  rw [h2]
  show (m.d.number, m.r, true) = _
  have a := h4.dn; have b := h4.at_; have c := h4.e
  have d : hd.number = m.d.number := h4.nu
  cases hr : m.r
  rw [hr] at a b c h6
  simp only at a b c h6
  rw [a, b, c, d, ← h6]
 | false =>
  obtain ⟨h1, rfl, _, rfl⟩ := h.no e
  rw [h1]; rfl
end Go.Td
