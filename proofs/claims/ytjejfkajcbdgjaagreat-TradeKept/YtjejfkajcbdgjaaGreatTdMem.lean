/-
 What a house remembers of its authors: headers, and the rows that they point to. Own work; plain Lean.
-/
import Derived.Test.YtjejfkajcbdgjaaGreatTdSt
import Derived.Test.YtjejfkajcbdgjaaGreatSlA
namespace Go.Td
open Go Go.Sl
/-- a header tells the memory, and its slices hold the memory's lists -/
structure MOk (h : PHeap) (z : KMh × KMem) : Prop where
 au : z.1.author = z.2.d.author
 nu : z.1.number = z.2.d.number
 dn : z.1.done = z.2.r.done
 at_ : z.1.at_ = z.2.r.at_
 e : z.1.e = z.2.r.e
 acts : Sl ActF.R h (.slice z.1.p z.1.n z.1.c) z.2.d.acts
 holds : Sl IntF.R h (.slice z.1.q z.1.m z.1.k) z.2.r.holds
theorem MOk.mono {h h' : PHeap} {z : KMh × KMem} (s : Sub h h') (m : MOk h z) : MOk h' z := ⟨m.au, m.nu, m.dn, m.at_, m.e, Sl.mono _ _ _ _ _ s m.acts, Sl.mono _ _ _ _ _ s m.holds⟩
def memR (zs : List (KMh × KMem)) : Res := fun h => ∀ z ∈ zs, MOk h z
theorem memR.mono (zs : List (KMh × KMem)) : Mono (memR zs) := fun _ _ s h z hz => (h z hz).mono s
theorem memR_nil : memR [] fun _ => none := fun z hz => by cases hz
theorem memR_add {T T2 c k : Nat} {p q : Option Addr} {zs : List (KMh × KMem)} {au nu at_ e : Int} {dn : Bool} {acts : List KAct} {holds : List Int} :
  ∀ a, Sat [rowF ActF T p c acts, rowF IntF T2 q k holds, memR zs] a → memR (zs ++ [(⟨au, nu, p, acts.length, c, dn, at_, e, q, holds.length, k⟩, ⟨⟨au, nu, acts⟩, ⟨dn, at_, e, holds⟩⟩)]) a := fun a ha => by
 obtain ⟨a1, b1, d1, s1, s2, h1, a2, b2, d2, s3, s4, h2, a3, b3, d3, s5, s6, h3, _⟩ := ha
 intro z hz
 rcases List.mem_append.1 hz with hz | hz
 ·exact (h3 z hz).mono (fun b o hb => s2 b o (s4 b o (s5 b o hb)))
 ·rw [List.mem_singleton.1 hz]
  exact ⟨rfl, rfl, rfl, rfl, rfl, Sl.mono _ _ _ _ _ s1 (rowF_sl h1), Sl.mono _ _ _ _ _ (fun b o hb => s2 b o (s3 b o hb)) (rowF_sl h2)⟩
section
variable {β : Base} {L : List Res} {zs : List (KMh × KMem)} {z : KMh × KMem}
theorem k_memA (i : Nat) (hi : L[i]? = some (memR zs)) (hz : z ∈ zs) : Knows β L (fun h => Sl ActF.R h (.slice z.1.p z.1.n z.1.c) z.2.d.acts) := Knows.of_res i hi (Sl.mono _ _ _) fun _ h => (h z hz).acts
theorem k_memH (i : Nat) (hi : L[i]? = some (memR zs)) (hz : z ∈ zs) : Knows β L (fun h => Sl IntF.R h (.slice z.1.q z.1.m z.1.k) z.2.r.holds) := Knows.of_res i hi (Sl.mono _ _ _) fun _ h => (h z hz).holds
end
end Go.Td
