/-
 What a load and a restore need to know, in plain terms. Own work; plain Lean.
-/
import Derived.Test.YtjejfkajcbdgjaaGreatTdRd
import Derived.Test.YtjejfkajcbdgjaaGreatTdShow
namespace Go.Td
open Go Go.Sl Go.Proofs Go.Jn
section
variable {P : Program} {ro : Option Nat} {n : Nat} {ds : List Deferred} {β : Base} {Q : Exit → Act → World → Prop} {f : Fm}
theorem f_merge {e : Exit} {L M : List Res} {r : Res} (hr : ∀ a, Sat L a → r a) (k : Fin n ds β Q e f (r :: M)) : Fin n ds β Q e f (L ++ M) := fun a w ha hw => k a w ha (St.merge hw hr)
end
theorem tk_next {α : Type} {l : List α} {k : Nat} {x : α} (h : l[k]? = some x) : l.take k ++ [x] = l.take (k + 1) := (take_succ h).symm
section
variable {P : Program} {ν : Type} {K : MapK P Int ν}
theorem put_take {ks : List (Int × ν)} (hn : (ks.map (·.1)).Nodup) {k : Nat} {p : Int × ν} {v : ν} (h : ks[k]? = some p) (hv : v = p.2) : K.put (ks.take k) p.1 v = ks.take (k + 1) := by
 subst hv
 have hnone : K.look (ks.take k) p.1 = none := by
  rw [look_none]
  intro hm
  have h1 : (ks.take k ++ [p]).map (·.1) = (ks.map (·.1)).take (k + 1) := by rw [tk_next h, List.map_take]
  have h2 : ((ks.take k ++ [p]).map (·.1)).Nodup := by rw [h1]; exact hn.sublist (List.take_sublist _ _)
  rw [List.map_append, List.nodup_append] at h2
  exact h2.2.2 _ hm _ (by simp) rfl
 rw [put_new hnone, ← tk_next h]
end
theorem nodup_few : ∀ (n : Nat) (l : List Int), l.Nodup → (∀ x ∈ l, 1 ≤ x ∧ x ≤ (n : Int)) → l.length ≤ n
 | 0, l, _, h => by
  cases l with
  | nil => exact Nat.le_refl _
  | cons x l => have := h x (by simp); omega
 | n + 1, l, hd, h => by
  by_cases hm : ((n + 1 : Nat) : Int) ∈ l
  ·have hp := List.perm_cons_erase hm
   have hd2 := hp.nodup_iff.1 hd
   rw [List.nodup_cons] at hd2
   have := nodup_few n (l.erase ((n + 1 : Nat) : Int)) hd2.2 fun x hx => by
    have h1 := h x (List.mem_of_mem_erase hx)
    have h2 : x ≠ ((n + 1 : Nat) : Int) := fun e => hd2.1 (e ▸ hx)
    omega
   rw [hp.length_eq, List.length_cons]; omega
  ·have := nodup_few n l hd fun x hx => by
    have h1 := h x hx
    have h2 : x ≠ ((n + 1 : Nat) : Int) := fun e => hm (e ▸ hx)
    omega
   omega
/-! what fits -/
theorem win_fits {a : KAm} (h : a.within = true) : Fits a.a0 31 ∧ Fits a.a1 31 ∧ Fits a.a2 31 ∧ Fits a.a3 31 := by
 have := win_iff.1 h
 exact ⟨fits_of (by decide) (by omega) (by omega), fits_of (by decide) (by omega) (by omega), fits_of (by decide) (by omega) (by omega), fits_of (by decide) (by omega) (by omega)⟩
theorem own_iff {n : Int} : ownB n = true ↔ 1 ≤ n ∧ n ≤ 65536 := by unfold ownB; simp
structure ActFit (x : KAct) : Prop where
 k : Fits ((x.kind.toNat : Nat) : Int) 3
 o : Fits x.owner 17
 p : Fits x.other 17
 h : Fits x.hold 64
 a : Fits x.a.a0 31 ∧ Fits x.a.a1 31 ∧ Fits x.a.a2 31 ∧ Fits x.a.a3 31
theorem formed_hold {x : KAct} (h : x.formed = true) : 0 ≤ x.hold := by
 unfold KAct.formed at h
 split at h
 ·simp only [Bool.and_eq_true, decide_eq_true_eq] at h; omega
 ·split at h
  ·simp only [Bool.and_eq_true, decide_eq_true_eq] at h; omega
  ·split at h
   ·simp only [Bool.and_eq_true, decide_eq_true_eq] at h; omega
   ·split at h
    ·simp only [Bool.and_eq_true, decide_eq_true_eq] at h; omega
    ·cases h
theorem formed_fit {x : KAct} (h : x.formed = true) (hh : x.hold ≤ 9223372036854775807) : ActFit x := by
 obtain ⟨h1, h2, h3, _⟩ := formed_fits h
 have h4 := formed_hold h
 have f : ∀ {v : Int} {k : Nat}, k < 64 → (k = 64 ∨ (0 ≤ v ∧ v < 2 ^ k ∧ k < 64)) → Fits v k := fun hk h => by
  rcases h with h | h
  ·omega
  ·exact fits_of h.2.2 h.1 h.2.1
 exact ⟨f (by decide) h1, f (by decide) h2, f (by decide) h3, ⟨.inl rfl, h4, hh⟩, win_fits (formed_within h)⟩
structure DealFit (au nu : Int) (al : List KAct) : Prop where
 a : Fits au 7
 n : Fits nu 41
 l : Fits ((al.length : Nat) : Int) 9
 x : ∀ x ∈ al, ActFit x
 few : al.length ≤ 16
theorem deal_fit {au nu : Int} {al : List KAct} (hf : dformed au nu al = true) (hh : hb63 al) : DealFit au nu al := by
 obtain ⟨h1, h2, h3, h4⟩ := dformed_iff.1 hf
 exact ⟨fits_of (by decide) (by omega) (by omega), fits_of (by decide) (by omega) (by omega), fits_of (by decide) (by omega) (by omega), fun x hx => formed_fit (h4 x hx) (hh x hx), h3.2⟩
/-! lists of headers and memories -/
def hdl (L : List (KMh × KMem)) : List (Int × KMh) := L.map fun z => (z.2.d.author, z.1)
def mml (L : List (KMh × KMem)) : List (Int × KMem) := L.map fun z => (z.2.d.author, z.2)
theorem hdl_keys (L : List (KMh × KMem)) : (hdl L).map (·.1) = (mml L).map (·.1) := by simp [hdl, mml]
theorem hdl_snoc {L : List (KMh × KMem)} {z : KMh × KMem} (h : ¬ z.2.d.author ∈ (mml L).map (·.1)) : MeM.put (hdl L) z.2.d.author z.1 = hdl (L ++ [z]) := by
 rw [put_new (look_none.2 (by rw [hdl_keys]; exact h))]
 unfold hdl; rw [List.map_append]; rfl
theorem mml_snoc (L : List (KMh × KMem)) (z : KMh × KMem) : mml (L ++ [z]) = mml L ++ [(z.2.d.author, z.2)] := by unfold mml; rw [List.map_append]; rfl
theorem mm_of {X : KHs} {ms : List (Int × KMem)} {L : List (KMh × KMem)} (h : MsOf X ms) (he : mml L = ms) (hh : ∀ z ∈ L, HdOf z) : MmOk X (hdl L) L where
 none_ := fun a ha => by
  cases e : X.done a with
  | none => rfl
  | some m =>
   exfalso
   have := (h.mem a m).1 e
   rw [look_none, hdl_keys, he] at ha
   exact ha (List.mem_map.2 ⟨_, this, rfl⟩)
 some_ := fun a hd ha => by
  have hm := look_mem ha
  unfold hdl at hm
  obtain ⟨z, hz, e⟩ := List.mem_map.1 hm
  injection e with e1 e2
  subst e2
  refine ⟨z.2, hz, (h.mem a z.2).2 ?_⟩
  rw [← he]
  exact List.mem_map.2 ⟨z, hz, by rw [e1]⟩
 hdr := hh
/-- what fits of a state -/
structure StFit (X : KHs) (ps : List (Int × KAm)) (hs : List (Int × KHo)) (ms : List (Int × KMem)) : Prop where
 su : Fits X.s.su.a0 63 ∧ Fits X.s.su.a1 63 ∧ Fits X.s.su.a2 63 ∧ Fits X.s.su.a3 63
 la : Fits X.s.last 48
 pl : Fits ((ps.length : Nat) : Int) 9
 pp : ∀ p ∈ ps, Fits p.1 17 ∧ Fits p.2.a0 31 ∧ Fits p.2.a1 31 ∧ Fits p.2.a2 31 ∧ Fits p.2.a3 31
 pd : (ps.map (·.1)).Nodup
 pn : ps.length ≤ 256
 hl : Fits ((hs.length : Nat) : Int) 9
 hh : ∀ p ∈ hs, Fits p.1 48 ∧ Fits p.2.owner 17 ∧ (Fits p.2.a.a0 31 ∧ Fits p.2.a.a1 31 ∧ Fits p.2.a.a2 31 ∧ Fits p.2.a.a3 31) ∧ p.2.number = p.1
 hd : (hs.map (·.1)).Nodup
 hn : hs.length ≤ 128
 ml : Fits ((ms.length : Nat) : Int) 9
 mn : ms.length ≤ 64
 mm : ∀ p ∈ ms, MemOk p.1 p.2 X.s.last
 md : (ms.map (·.1)).Nodup
theorem st_fit {X : KHs} {ps : List (Int × KAm)} {hs : List (Int × KHo)} {ms : List (Int × KMem)} (hx : XOk X) (hl : X.s.last ≤ 16000000) (hp : X.s.ps.Perm ps) (hh : X.s.hs.Perm hs) (hm : MsOf X ms) : StFit X ps hs ms := by
 have hg := hx.g
 have hsu := hg.sup
 have pn : ps.length ≤ 256 := by rw [← hp.length_eq]; exact hg.p.pn
 have hn : hs.length ≤ 128 := by rw [← hh.length_eq]; exact hg.h.hn
 have hmm : ∀ p ∈ ms, MemOk p.1 p.2 X.s.last := fun p hp => hx.m _ _ ((hm.mem p.1 p.2).2 hp)
 have mn : ms.length ≤ 64 := by
  have := nodup_few 64 (ms.map (·.1)) hm.nd fun a ha => by
   obtain ⟨p, hp, rfl⟩ := List.mem_map.1 ha
   exact (dformed_iff.1 (hmm p hp).fm).1
  rwa [List.length_map] at this
 have l0 := hg.l0
 refine ⟨⟨fits_of (by decide) (by omega) (by omega), fits_of (by decide) (by omega) (by omega), fits_of (by decide) (by omega) (by omega), fits_of (by decide) (by omega) (by omega)⟩, fits_of (by decide) (by omega) (by omega), fits_of (by decide) (by omega) (by omega), fun p h => ?_, perm_nodup hp hg.p.np, pn, fits_of (by decide) (by omega) (by omega), fun p h => ?_, perm_nodup hh hg.h.nh, hn, fits_of (by decide) (by omega) (by omega), mn, hmm, hm.nd⟩
 ·obtain ⟨h1, h2, _⟩ := hg.p.pk p (hp.mem_iff.2 h)
  have := own_iff.1 h1
  exact ⟨fits_of (by decide) (by omega) (by omega), win_fits h2⟩
 ·obtain ⟨h0, h1, h2, h3, h4⟩ := hg.h.hk p (hh.mem_iff.2 h)
  have := own_iff.1 h3
  exact ⟨fits_of (by decide) (by omega) (by omega), fits_of (by decide) (by omega) (by omega), win_fits h4, h0⟩
structure MemFit (m : KMem) : Prop where
 d : DealFit m.d.author m.d.number m.d.acts
 l : Fits ((m.r.holds.length : Nat) : Int) 9
 h : ∀ n ∈ m.r.holds, Fits n 48
 at_ : Fits m.r.at_ 9
 e : Fits m.r.e 16
 fm : dformed m.d.author m.d.number m.d.acts = true
 dn : m.r.done = decide (m.r.e = 0)
 few : m.r.holds.length ≤ 16
theorem mem_fit {a : Int} {m : KMem} {last : Int} (h : MemOk a m last) (hl : last ≤ 16000000) : MemFit m := by
 have hf : dformed m.d.author m.d.number m.d.acts = true := by rw [h.au]; exact h.fm
 have h1 := h.r.hn; have h2 := h.r.at0; have h3 := h.r.e
 exact ⟨deal_fit hf h.hb, fits_of (by decide) (by omega) (by omega), fun n hn => by have := h.r.hk n hn; exact fits_of (by decide) (by omega) (by omega), fits_of (by decide) (by omega) (by omega), fits_of (by decide) (by omega) (by omega), hf, h.r.dn, h1⟩
/-! replays -/
theorem replay_take {X : KHs} {ds : List KDeal} {k : Nat} {d : KDeal} (h : ds[k]? = some d) : replay X (ds.take (k + 1)) = carryX (replay X (ds.take k)) d.author d.number d.acts := by rw [← tk_next h, replay_snoc]
theorem replay_ok {X : KHs} (h : XOk X) : ∀ {ds : List KDeal}, okD ds → XOk (replay X ds) ∧ X.s.last ≤ (replay X ds).s.last
 | [], _ => ⟨h, Int.le_refl _⟩
 | d :: ds, hd => by
  obtain ⟨h1, _, h3, _⟩ := carryX_ok h (hd d (by simp)).1 (hd d (by simp)).2
  obtain ⟨g1, g2⟩ := replay_ok h1 (ds := ds) fun e he => hd e (by simp [he])
  exact ⟨g1, Int.le_trans h3 g2⟩
theorem replay_mono {X : KHs} (h : XOk X) {ds : List KDeal} (hd : okD ds) (k : Nat) : (replay X (ds.take k)).s.last ≤ (replay X ds).s.last := by
 have h1 := replay_ok h (ds := ds.take k) fun e he => hd e (List.mem_of_mem_take he)
 have h2 := replay_ok h1.1 (ds := ds.drop k) fun e he => hd e (List.mem_of_mem_drop he)
 have : replay (replay X (ds.take k)) (ds.drop k) = replay X ds := by
  unfold replay; rw [← List.foldl_append, List.take_append_drop]
 rw [this] at h2
 exact h2.2
/-- a transaction is read and carried out -/
theorem carry_mm {X : KHs} {s : KSt} {ms : List (Int × KMh)} {zs : List (KMh × KMem)} (he : EqS s X.s) (hm : MmOk X ms zs) (au nu : Int) (al : List KAct) {hd : KMh} (hh : HdOf (hd, ⟨⟨au, nu, al⟩, (carryF s al).2⟩)) :
  EqS (carryF s al).1 (carryX X au nu al).s ∧ MmOk (carryX X au nu al) (MeM.put ms au hd) (zs ++ [(hd, ⟨⟨au, nu, al⟩, (carryF s al).2⟩)]) := by
 obtain ⟨h1, h2⟩ := carry_eq he al
 refine ⟨h1, ?_⟩
 rw [h2] at hh ⊢
 exact hm.add hh
end Go.Td
