/-
 The chapter's examples, in plain terms; what Do makes of a transaction that is new, that is sent again, that is late. Own work; plain Lean.
-/
import Derived.Test.YtjejfkajcbdgjaaGreatTdOp
namespace Go.Td
open Go Go.Sl Go.Proofs Go.Jn
theorem doF_new {X : KHs} {au nu : Int} {al : List KAct} (hf : dformed au nu al = true) (hn : ∀ m, X.done au = some m → m.d.number < nu) : doF X au nu al = (carryX X au nu al, (carryF X.s al).2, 0) := by
 unfold doF
 rw [if_neg (by rw [hf]; decide)]
 cases e : X.done au with
 | none => rfl
 | some m =>
  have := hn m e
  show (if m.d.number = nu then _ else if nu < m.d.number then _ else _) = _
  rw [if_neg (by omega), if_neg (by omega)]; rfl
theorem doF_again {X : KHs} {au nu : Int} {al : List KAct} {r : KRes} (hf : dformed au nu al = true) (hd : X.done au = some ⟨⟨au, nu, al⟩, r⟩) : doF X au nu al = (X, r, 0) := by
 unfold doF
 rw [if_neg (by rw [hf]; decide), hd]
 show (if nu = nu then (if al = al then (X, r, (0 : Int)) else _) else _) = _
 rw [if_pos rfl, if_pos rfl]
theorem doF_other {X : KHs} {au nu : Int} {al bl : List KAct} {r : KRes} (hf : dformed au nu al = true) (hd : X.done au = some ⟨⟨au, nu, bl⟩, r⟩) (hne : bl ≠ al) : doF X au nu al = (X, zeroRes, 331) := by
 unfold doF
 rw [if_neg (by rw [hf]; decide), hd]
 show (if nu = nu then (if bl = al then _ else (X, zeroRes, (331 : Int))) else _) = _
 rw [if_pos rfl, if_neg hne]
theorem doF_late {X : KHs} {au nu : Int} {al : List KAct} {m : KMem} (hf : dformed au nu al = true) (hd : X.done au = some m) (hlt : nu < m.d.number) : doF X au nu al = (X, zeroRes, 332) := by
 unfold doF
 rw [if_neg (by rw [hf]; decide), hd]
 show (if m.d.number = nu then _ else if nu < m.d.number then (X, zeroRes, (332 : Int)) else _) = _
 rw [if_neg (by omega), if_pos hlt]
theorem carryX_done (X : KHs) (au nu : Int) (al : List KAct) : (carryX X au nu al).done au = some ⟨⟨au, nu, al⟩, (carryF X.s al).2⟩ := if_pos rfl
theorem carryX_ne (X : KHs) {au a : Int} (nu : Int) (al : List KAct) (h : a ≠ au) : (carryX X au nu al).done a = X.done a := if_neg h
def awM : List KAct := [⟨1, 1, 0, 0, ⟨100, 0, 0, 0⟩⟩]
def awB : List KAct := [⟨3, 1, 2, 0, ⟨30, 0, 0, 0⟩⟩, ⟨4, 1, 0, 0, ⟨50, 0, 0, 0⟩⟩]
def awP : List KAct := [⟨6, 0, 2, 1, zeroA⟩, ⟨3, 1, 2, 0, ⟨100, 0, 0, 0⟩⟩]
def awF : List KAct := [⟨5, 0, 0, 1, zeroA⟩]
noncomputable def aX1 : KHs := carryX freshX 1 1 awM
noncomputable def aX2 : KHs := carryX aX1 5 1 awB
noncomputable def aX3 : KHs := carryX aX2 5 2 awP
noncomputable def aX4 : KHs := carryX aX3 5 3 awF
theorem aw_r1 : (carryF freshX.s awM).2 = ⟨true, 0, 0, []⟩ := by kernel_rfl
theorem aw_r2 : (carryF aX1.s awB).2 = ⟨true, 0, 0, [1]⟩ := by kernel_rfl
theorem aw_r3 : (carryF aX2.s awP).2 = ⟨false, 1, 330, []⟩ := by kernel_rfl
theorem aw_r4 : (carryF aX3.s awF).2 = ⟨true, 0, 0, []⟩ := by kernel_rfl
theorem aw_d1 : doF freshX 1 1 awM = (aX1, ⟨true, 0, 0, []⟩, 0) := by rw [← aw_r1]; exact doF_new (by decide) (fun m h => by cases h)
theorem aw_n2 : aX1.done 5 = none := by rw [aX1, carryX_ne _ _ _ (by decide)]; rfl
theorem aw_d2 : doF aX1 5 1 awB = (aX2, ⟨true, 0, 0, [1]⟩, 0) := by rw [← aw_r2]; exact doF_new (by decide) (fun m h => by rw [aw_n2] at h; cases h)
theorem aw_m2 : aX2.done 5 = some ⟨⟨5, 1, awB⟩, ⟨true, 0, 0, [1]⟩⟩ := by rw [← aw_r2]; exact carryX_done _ _ _ _
theorem aw_d3 : doF aX2 5 1 awB = (aX2, ⟨true, 0, 0, [1]⟩, 0) := doF_again (by decide) aw_m2
theorem aw_d4 : doF aX2 5 2 awP = (aX3, ⟨false, 1, 330, []⟩, 0) := by rw [← aw_r3]; exact doF_new (by decide) (fun m h => by rw [aw_m2] at h; injection h with h; subst h; decide)
theorem aw_m3 : aX3.done 5 = some ⟨⟨5, 2, awP⟩, ⟨false, 1, 330, []⟩⟩ := by rw [← aw_r3]; exact carryX_done _ _ _ _
theorem aw_d5 : doF aX3 5 1 awB = (aX3, zeroRes, 332) := doF_late (by decide) aw_m3 (by decide)
theorem aw_d6 : doF aX3 5 2 awB = (aX3, zeroRes, 331) := doF_other (by decide) aw_m3 (by decide)
theorem aw_d7 : doF aX3 5 3 awF = (aX4, ⟨true, 0, 0, []⟩, 0) := by rw [← aw_r4]; exact doF_new (by decide) (fun m h => by rw [aw_m3] at h; injection h with h; subst h; decide)
theorem aw_p1 : puA aX1.s.ps 1 = ⟨100, 0, 0, 0⟩ := by kernel_rfl
theorem aw_s1 : aX1.s.su = ⟨100, 0, 0, 0⟩ := by kernel_rfl
theorem aw_p2 : puA aX2.s.ps 1 = ⟨20, 0, 0, 0⟩ := by kernel_rfl
theorem aw_q2 : puA aX2.s.ps 2 = ⟨30, 0, 0, 0⟩ := by kernel_rfl
theorem aw_p4 : puA aX4.s.ps 1 = ⟨70, 0, 0, 0⟩ := by kernel_rfl
theorem sortI_nil : sortI [] = [] := sortI_eq (.refl _) List.Pairwise.nil
theorem sortI_one1 (a : Int) : sortI [a] = [a] := sortI_eq (.refl _) (List.pairwise_singleton _ _)
theorem aw_h2 : holdsX aX2 = [⟨1, 1, ⟨50, 0, 0, 0⟩⟩] := by
 have h : aX2.s.hs = [(1, ⟨1, 1, ⟨50, 0, 0, 0⟩⟩)] := by kernel_rfl
 unfold holdsX
 rw [h]
 show (sortI [1]).map _ = _
 rw [sortI_one1]; rfl
theorem aw_h3 : holdsX aX3 = [⟨1, 1, ⟨50, 0, 0, 0⟩⟩] := by
 have h : aX3.s.hs = [(1, ⟨1, 1, ⟨50, 0, 0, 0⟩⟩)] := by kernel_rfl
 unfold holdsX
 rw [h]
 show (sortI [1]).map _ = _
 rw [sortI_one1]; rfl
theorem aw_h4 : holdsX aX4 = [] := by
 have h : aX4.s.hs = [] := by kernel_rfl
 unfold holdsX
 rw [h]
 show (sortI []).map _ = _
 rw [sortI_nil]; rfl
end Go.Td
