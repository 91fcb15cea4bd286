/-
 Steps of a load, in plain terms. Own work; plain Lean.
-/
import Derived.Test.YtjejfkajcbdgjaaGreatTdLd
namespace Go.Td
open Go Go.Sl Go.Proofs Go.Jn
theorem new_key {α : Type} {ks : List (Int × α)} (hn : (ks.map (·.1)).Nodup) {k : Nat} {p : Int × α} (h : ks[k]? = some p) : ¬ p.1 ∈ (ks.take k).map (·.1) := by
 intro hm
 have h1 : (ks.take k ++ [p]).map (·.1) = (ks.map (·.1)).take (k + 1) := by rw [tk_next h, List.map_take]
 have h2 : ((ks.take k ++ [p]).map (·.1)).Nodup := by rw [h1]; exact hn.sublist (List.take_sublist _ _)
 rw [List.map_append, List.nodup_append] at h2
 exact h2.2.2 _ hm _ (by simp) rfl
theorem ho_num {x : Int × KHo} (h : x.2.number = x.1) : (⟨x.1, x.2.owner, x.2.a⟩ : KHo) = x.2 := by rw [← h]
theorem mem_eta {m : KMem} {hl : List Int} (hd : m.r.done = decide (m.r.e = 0)) (hh : hl = m.r.holds) : (⟨⟨m.d.author, m.d.number, m.d.acts⟩, ⟨decide (m.r.e = (0 : Int)), m.r.at_, m.r.e, hl⟩⟩ : KMem) = m := by
 subst hh; rw [← hd]
theorem mml_next {ms : List (Int × KMem)} {k : Nat} {x : Int × KMem} {L : List (KMh × KMem)} {H : KMh} {last : Int} (hx : ms[k]? = some x) (h : mml L = ms.take k) (hm : MemOk x.1 x.2 last) : mml (L ++ [(H, x.2)]) = ms.take (k + 1) := by
 rw [mml_snoc, h, ← tk_next hx]
 show ms.take k ++ [(x.2.d.author, x.2)] = _
 rw [hm.au]
theorem hdl_next {ms : List (Int × KMem)} {k : Nat} {x : Int × KMem} {L : List (KMh × KMem)} {H : KMh} {last : Int} (hd : (ms.map (·.1)).Nodup) (hx : ms[k]? = some x) (h : mml L = ms.take k) (hm : MemOk x.1 x.2 last) : MeM.put (hdl L) x.2.d.author H = hdl (L ++ [(H, x.2)]) := by
 have := hdl_snoc (L := L) (z := (H, x.2)) (by show ¬ x.2.d.author ∈ _; rw [h, hm.au]; exact new_key hd hx)
 exact this
theorem hd_all {L : List (KMh × KMem)} {z : KMh × KMem} (h : ∀ z ∈ L, HdOf z) (hz : HdOf z) : ∀ y ∈ L ++ [z], HdOf y := fun y hy => by
 rcases List.mem_append.1 hy with hy | hy
 ·exact h y hy
 ·rw [List.mem_singleton.1 hy]; exact hz
end Go.Td
