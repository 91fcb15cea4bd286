/-
 Steps of a restore, in plain terms. Own work; plain Lean.
-/
import Derived.Test.YtjejfkajcbdgjaaGreatTdLd2
namespace Go.Td
open Go Go.Sl Go.Proofs Go.Jn
def freshS : KSt := ⟨[], [], 0, zeroA⟩
theorem fresh_mm : MmOk freshX [] [] := ⟨fun _ _ => rfl, fun a h q => (by simp [MapK.look] at q), fun z hz => by cases hz⟩
theorem fresh_eq : EqS freshS freshX.s := freshX_ok.g.refl
theorem recs_at {recs : List Bs} {ds : List KDeal} (h : recs = ds.map recD) {k : Nat} {x : Bs} (hx : recs[k]? = some x) : ∃ d, ds[k]? = some d ∧ x = recD d := by
 rw [h, List.getElem?_map] at hx
 cases e : ds[k]? with
 | none => rw [e] at hx; cases hx
 | some d => rw [e] at hx; injection hx with hx; exact ⟨d, rfl, hx.symm⟩
theorem rec_wr (d : KDeal) : Wr (recD d) (0 + (57 + 225 * d.acts.length)) (dealK d.author d.number d.acts []) := by
 have := dealB_wr (au := d.author) (nu := d.number) (al := d.acts) wr_nil
 rwa [List.nil_append, ← List.append_nil (dealL _ _ _), dealK_eq] at this
theorem rec_len {d : KDeal} (h : dformed d.author d.number d.acts = true) : (recD d).length ≤ 65536 := Nat.le_trans (recD_len h) (by decide)
theorem MmOk.eqX {X Y : KHs} {ms : List (Int × KMh)} {zs : List (KMh × KMem)} (h : MmOk Y ms zs) (e : X.done = Y.done) : MmOk X ms zs := ⟨fun a ha => by rw [e]; exact h.none_ a ha, fun a g ha => by rw [e]; exact h.some_ a g ha, h.hdr⟩
/-- what holds of a state on the way -/
structure RsOk (X0 : KHs) (ds : List KDeal) (k : Nat) (s : KSt) (ms : List (Int × KMh)) (zs : List (KMh × KMem)) : Prop where
 e : EqS s (replay X0 (ds.take k)).s
 m : MmOk (replay X0 (ds.take k)) ms zs
theorem RsOk.zero {X0 : KHs} {ds : List KDeal} {s : KSt} {ms : List (Int × KMh)} {zs : List (KMh × KMem)} (h : EqS s X0.s) (g : MmOk X0 ms zs) : RsOk X0 ds 0 s ms zs := ⟨h, g⟩
theorem RsOk.good {X0 : KHs} {ds : List KDeal} {k : Nat} {s : KSt} {ms : List (Int × KMh)} {zs : List (KMh × KMem)} (h : RsOk X0 ds k s ms zs) (hx : XOk X0) (hd : okD ds) (hl : (replay X0 ds).s.last ≤ 16000000) : GoodS s 1152921504606846976 := by
 have h1 := replay_ok hx (ds := ds.take k) fun e he => hd e (List.mem_of_mem_take he)
 have h2 := replay_mono hx hd k
 have h3 := h.e.l
 exact (h.e.good2 h1.1.g).good (by omega) (by decide)
theorem RsOk.next {X0 : KHs} {ds : List KDeal} {k : Nat} {s : KSt} {ms : List (Int × KMh)} {zs : List (KMh × KMem)} (h : RsOk X0 ds k s ms zs) {d : KDeal} (hd : ds[k]? = some d) {H : KMh} (hh : HdOf (H, ⟨⟨d.author, d.number, d.acts⟩, (carryF s d.acts).2⟩)) :
  RsOk X0 ds (k + 1) (carryF s d.acts).1 (MeM.put ms d.author H) (zs ++ [(H, ⟨⟨d.author, d.number, d.acts⟩, (carryF s d.acts).2⟩)]) := by
 obtain ⟨h1, h2⟩ := carry_mm h.e h.m d.author d.number d.acts hh
 exact ⟨by rw [replay_take hd]; exact h1, by rw [replay_take hd]; exact h2⟩
theorem RsOk.all {X0 X : KHs} {ds : List KDeal} {k : Nat} {s : KSt} {ms : List (Int × KMh)} {zs : List (KMh × KMem)} (h : RsOk X0 ds k s ms zs) (hk : ds.length ≤ k) (hx : EqX X (replay X0 ds)) : EqS s X.s ∧ MmOk X ms zs := by
 obtain ⟨h1, h2⟩ := h
 rw [List.take_of_length_le hk] at h1 h2
 exact ⟨h1.trans hx.s.symm, h2.eqX hx.d⟩
end Go.Td
