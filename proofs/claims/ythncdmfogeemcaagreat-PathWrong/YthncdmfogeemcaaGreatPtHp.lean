/-
  The heap by what it holds, in whatever order. Own work; plain Lean.
-/
import Derived.Test.YthncdmfogeemcaaGreatPt2
namespace Go.Proofs
open Go Go.Sl Go.Brd Go.Pth
abbrev qL (b : Nat) (p : Option Addr) (c : Nat) (ys : List KM) : List Res := [pt b (.cells #[.slice p ys.length c, .func (.func 41) #[] #[]] 98), rowF MarkF 70 p c ys]
/-- a heap in block b -/
def heapR (b : Nat) (hp : List KM) : Res := fun h => ∃ p c ys, ys.Perm hp ∧ Hp ys ys.length ∧ Sat (qL b p c ys) h
theorem St.openH {β : Base} {b : Nat} {hp : List KM} {M : List Res} {w : World} (h : St β (heapR b hp :: M) w) : ∃ p c ys, ys.Perm hp ∧ Hp ys ys.length ∧ St β (qL b p c ys ++ M) w := by
  obtain ⟨ho, ht, hq, a, hd, hs, hs', p, q, h1, h2, h3, ⟨p', c', ys, h6, h7, hx⟩, h5⟩ := h
  exact ⟨p', c', ys, h6, h7, St.unbun ⟨ho, ht, hq, a, hd, hs, hs', p, q, h1, h2, h3, hx, h5⟩⟩
theorem St.closeH {β : Base} {b c : Nat} {p : Option Addr} {ys hp : List KM} {M : List Res} {w : World} (h : St β (qL b p c ys ++ M) w) (hy : ys.Perm hp) (hh : Hp ys ys.length) : St β (heapR b hp :: M) w :=
  h.merge fun _ h => ⟨p, c, ys, hy, hh, h⟩
theorem hlen_ok (β : Base) (w : World) (b : Nat) (hp : List KM) (hw : St β [heapR b hp] w) : Calls Tryz.prog 123 #[.pointer (some ⟨b, 0, none⟩)] w fun r w' => r = .returned (Nx hp.length) ∧ St β [heapR b hp] w' := by
  obtain ⟨p, c, ys, h1, h2, h3⟩ := St.openH hw
  obtain ⟨β1, sb, kn, hw1, back⟩ := St.frame (L := [pt b (.cells #[.slice p ys.length c, .func (.func 41) #[] #[]] 98)]) (M := [rowF MarkF 70 p c ys]) h3
  refine (qlen_ok β1 w b _ p c hw1).mono ?_
  rintro r w' ⟨rfl, hw'⟩
  exact ⟨by rw [h1.length_eq], St.closeH (M := []) (back _ _ hw') h1 h2⟩
theorem hpush_ok (β : Base) (w : World) (b : Nat) (hp : List KM) (hb : hp.length < 1099511627776) (x : KM) (hw : St β [heapR b hp] w) : Calls Tryz.prog 43 #[.iface 95 (.pointer (some ⟨b, 0, none⟩)), .iface 70 (.agg #[Nx (x.node), Nx (x.len), Nx (x.pts)])] w fun r w' => r = .returned (.tuple #[]) ∧ St β [heapR b (hp ++ [x])] w' := by
  obtain ⟨p, c, ys, h1, h2, h3⟩ := St.openH hw
  have hl := h1.length_eq
  refine (push_ok β w b _ p c ys rfl (by omega) h2 x h3).mono ?_
  rintro r w' ⟨rfl, p', c', zs, e1, e2, e3, hw'⟩
  rw [← e1] at hw' e3
  exact ⟨rfl, St.closeH (M := []) hw' (e2.trans (h1.append_right _)) e3⟩
theorem hpop_ok (β : Base) (w : World) (b : Nat) (hp : List KM) (h0 : 0 < hp.length) (hb : hp.length < 1099511627776) (hw : St β [heapR b hp] w) : Calls Tryz.prog 42 #[.iface 95 (.pointer (some ⟨b, 0, none⟩))] w fun r w' => ∃ (x : KM) (rest : List KM), r = .returned (.iface 70 (.agg #[Nx (x.node), Nx (x.len), Nx (x.pts)])) ∧ hp.Perm (x :: rest) ∧ (∀ y ∈ hp, leM x y) ∧ St β [heapR b rest] w' := by
  obtain ⟨p, c, ys, h1, h2, h3⟩ := St.openH hw
  have hl := h1.length_eq
  obtain ⟨m, hm⟩ : ∃ m, ys.length = m + 1 := ⟨ys.length - 1, by omega⟩
  simp only [qL, hm, List.append_nil] at h3
  rw [hm] at h2
  refine (pop_ok β w b m p c ys hm (by omega) h2 h3).mono ?_
  rintro r w' ⟨x, zs, rfl, e1, e2, e3, e4, hw'⟩
  rw [← e1] at hw' e4
  exact ⟨x, zs, rfl, h1.symm.trans e2, fun y hy => e3 y (h1.mem_iff.2 hy), St.closeH (M := []) hw' (List.Perm.refl _) e4⟩
section
variable {P : Program} {ro : Option Nat} {n : Nat} {ds : List Deferred} {β : Base} {Q : Exit → Act → World → Prop} {f : Fm} {L : List Res}
theorem c_heap {c : Code} {b k : Nat} {p : Option Addr} {x : KM} {M : List Res} (hL : L = pt b (.cells #[.slice p 1 k, .func (.func 41) #[] #[]] 98) :: rowF MarkF 70 p k [x] :: M) (K : RunC P ro n ds β c Q f (heapR b [x] :: M)) : RunC P ro n ds β c Q f L := fun a w h hw => by
  subst hL
  exact K a w h (St.closeH (ys := [x]) hw (List.Perm.refl _) (fun k h1 h2 => by simp at h2; omega))
end
end Go.Proofs
