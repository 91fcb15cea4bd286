/-
 A writer of bits as one resource; a state as bytes. Own work; plain Lean.
-/
import Derived.Test.YtjejfkajcbdgjaaGreatTdHouE
namespace Go.Td
open Go Go.Sl Go.Proofs Go.Jn
theorem amL_len (a : KAm) (k : Nat) : (amL a k).length = k + k + k + k := by simp [amL, bitsV_len]; omega
theorem actL_len (x : KAct) : (actL x).length = 225 := by simp [actL, bitsV_len, amL_len]
theorem actsL_len : ∀ l : List KAct, (actsL l).length = 225 * l.length
 | [] => rfl
 | x :: l => by show (actL x ++ actsL l).length = _; rw [List.length_append, actL_len, actsL_len l, List.length_cons]; omega
theorem dealL_len (au nu : Int) (al : List KAct) : (dealL au nu al).length = 57 + 225 * al.length := by simp [dealL, bitsV_len, actsL_len]; omega
theorem psL_len : ∀ l : List (Int × KAm), (psL l).length = 141 * l.length
 | [] => rfl
 | p :: l => by show (bitsV (U p.1) 17 ++ (amL p.2 31 ++ psL l)).length = _; simp only [List.length_append, bitsV_len, amL_len, psL_len l, List.length_cons]; omega
theorem hsL_len : ∀ l : List (Int × KHo), (hsL l).length = 189 * l.length
 | [] => rfl
 | p :: l => by show (bitsV (U p.1) 48 ++ (bitsV (U p.2.owner) 17 ++ (amL p.2.a 31 ++ hsL l))).length = _; simp only [List.length_append, bitsV_len, amL_len, hsL_len l, List.length_cons]; omega
theorem nsL_len : ∀ l : List Int, (nsL l).length = 48 * l.length
 | [] => rfl
 | n :: l => by show (bitsV (U n) 48 ++ nsL l).length = _; simp only [List.length_append, bitsV_len, nsL_len l, List.length_cons]; omega
theorem memL_len {m : KMem} (h : MemFit m) : (memL m).length ≤ 4459 := by
 have h1 := h.d.few; have h2 := h.few
 simp only [memL, List.length_append, bitsV_len, nsL_len, dealL_len]; omega
theorem msL_len : ∀ l : List (Int × KMem), (∀ p ∈ l, MemFit p.2) → (msL l).length ≤ 4459 * l.length
 | [], _ => Nat.le_refl _
 | p :: l, h => by
  have h1 := memL_len (h p (by simp))
  have h2 := msL_len l fun q hq => h q (by simp [hq])
  show (memL p.2 ++ msL l).length ≤ _
  rw [List.length_append, List.length_cons]; omega
theorem psL_app : ∀ (l : List (Int × KAm)) (p : Int × KAm), psL (l ++ [p]) = psL l ++ (bitsV (U p.1) 17 ++ amL p.2 31)
 | [], p => by show bitsV (U p.1) 17 ++ (amL p.2 31 ++ []) = _; rw [List.append_nil]; rfl
 | q :: l, p => by show bitsV (U q.1) 17 ++ (amL q.2 31 ++ psL (l ++ [p])) = bitsV (U q.1) 17 ++ (amL q.2 31 ++ psL l) ++ _; rw [psL_app l p]; simp only [List.append_assoc]
theorem hsL_app : ∀ (l : List (Int × KHo)) (p : Int × KHo), hsL (l ++ [p]) = hsL l ++ (bitsV (U p.1) 48 ++ (bitsV (U p.2.owner) 17 ++ amL p.2.a 31))
 | [], p => by show bitsV (U p.1) 48 ++ (bitsV (U p.2.owner) 17 ++ (amL p.2.a 31 ++ [])) = _; rw [List.append_nil]; rfl
 | q :: l, p => by show bitsV (U q.1) 48 ++ (bitsV (U q.2.owner) 17 ++ (amL q.2.a 31 ++ hsL (l ++ [p]))) = bitsV (U q.1) 48 ++ (bitsV (U q.2.owner) 17 ++ (amL q.2.a 31 ++ hsL l)) ++ _; rw [hsL_app l p]; simp only [List.append_assoc]
theorem nsL_app : ∀ (l : List Int) (n : Int), nsL (l ++ [n]) = nsL l ++ bitsV (U n) 48
 | [], n => by show bitsV (U n) 48 ++ [] = _; rw [List.append_nil]; rfl
 | m :: l, n => by show bitsV (U m) 48 ++ nsL (l ++ [n]) = bitsV (U m) 48 ++ nsL l ++ _; rw [nsL_app l n, List.append_assoc]
theorem msL_app : ∀ (l : List (Int × KMem)) (p : Int × KMem), msL (l ++ [p]) = msL l ++ memL p.2
 | [], p => by show memL p.2 ++ [] = _; rw [List.append_nil]; rfl
 | q :: l, p => by show memL q.2 ++ msL (l ++ [p]) = memL q.2 ++ msL l ++ _; rw [msL_app l p, List.append_assoc]
/-! the lists that are written -/
noncomputable def plO (s : KSt) : List (Int × KAm) := (sortI (s.ps.map (·.1))).map fun n => (n, puA s.ps n)
noncomputable def glO (s : KSt) : List (Int × KHo) := (sortI (s.hs.map (·.1))).map fun n => (n, hoA s.hs n)
def memO (X : KHs) (n : Int) : KMem := (X.done n).getD ⟨⟨0, 0, []⟩, zeroRes⟩
noncomputable def mlO (X : KHs) (ms : List (Int × KMh)) : List (Int × KMem) := (sortI (ms.map (·.1))).map fun n => (n, memO X n)
theorem map_look {ν : Type} {ks : List (Int × ν)} {f : Int → ν} (h : ∀ p ∈ ks, f p.1 = p.2) : (ks.map (·.1)).map (fun n => (n, f n)) = ks := by
 rw [List.map_map]
 conv => rhs; rw [← List.map_id ks]
 refine List.map_congr_left fun p hp => ?_
 show (p.1, f p.1) = p
 rw [h p hp]
theorem plO_perm {s : KSt} (hn : (s.ps.map (·.1)).Nodup) : s.ps.Perm (plO s) := by
 have h1 := ((sortI_perm (s.ps.map (·.1))).map fun n => (n, puA s.ps n)).symm
 rwa [map_look (f := puA s.ps) fun p hp => by unfold puA; rw [look_of_mem (v := p.2) hn hp]; rfl] at h1
theorem glO_perm {s : KSt} (hn : (s.hs.map (·.1)).Nodup) : s.hs.Perm (glO s) := by
 have h1 := ((sortI_perm (s.hs.map (·.1))).map fun n => (n, hoA s.hs n)).symm
 rwa [map_look (f := hoA s.hs) fun p hp => by unfold hoA; rw [look_of_mem (v := p.2) hn hp]; rfl] at h1
theorem mlO_of {X : KHs} {ms : List (Int × KMh)} {zs : List (KMh × KMem)} (h : MmOk X ms zs) (hn : (ms.map (·.1)).Nodup) : MsOf X (mlO X ms) where
 nd := by
  unfold mlO
  rw [List.map_map]
  show ((sortI (ms.map (·.1))).map id).Nodup
  rw [List.map_id]
  exact (sortI_perm _).nodup_iff.2 hn
 mem := fun a m => by
  unfold mlO
  rw [List.mem_map]
  constructor
  ·intro hm
   obtain ⟨hd, h1, _, _⟩ := h.found hm
   refine ⟨a, (sortI_perm _).mem_iff.2 (List.mem_map.2 ⟨_, look_mem h1, rfl⟩), ?_⟩
   unfold memO; rw [hm]; rfl
  ·rintro ⟨n, hn', e⟩
   injection e with e1 e2
   subst e1
   have hk := (sortI_perm _).mem_iff.1 hn'
   obtain ⟨p, hp, hpn⟩ := List.mem_map.1 hk
   have hl := look_of_mem (K := MeM) hn (k := p.1) (v := p.2) hp
   obtain ⟨m', h3, h4⟩ := h.some_ p.1 p.2 hl
   rw [← hpn] at e2 ⊢
   unfold memO at e2
   rw [h4] at e2 ⊢
   exact congrArg some e2
/-- a key of the map of what is remembered -/
theorem ml_at {X : KHs} {ms : List (Int × KMh)} {zs : List (KMh × KMem)} (h : MmOk X ms zs) (hn : (ms.map (·.1)).Nodup) {k : Nat} {n : Int} (hk : (sortI (ms.map (·.1)))[k]? = some n) : ∃ hd mal mhl, (MeM.look ms n).getD zeroM = hd ∧ LkOk X ms zs n hd mal mhl ∧ hd.n = mal.length ∧ hd.m = mhl.length ∧
  X.done n = some ⟨⟨hd.author, hd.number, mal⟩, ⟨hd.done, hd.at_, hd.e, mhl⟩⟩ := by
 obtain ⟨hd, mal, mhl, h1, h2, h3, h4⟩ := h.lk n
 have hk := (sortI_perm _).mem_iff.1 (List.mem_of_getElem? hk)
 obtain ⟨p, hp, hpn⟩ := List.mem_map.1 hk
 have hl := look_of_mem (K := MeM) hn (k := p.1) (v := p.2) hp
 rw [hpn] at hl
 obtain ⟨m, g1, g2, g3, g4, g5⟩ := h2.yes (by rw [hl]; rfl)
 refine ⟨hd, mal, mhl, h1, h2, h3, h4, ?_⟩
 have a := g3.dn; have b := g3.at_; have c := g3.e; have d := g3.au; have e := g3.nu
 rw [g1]
 obtain ⟨⟨au, nu, al⟩, ⟨dn, at_, e_, hl_⟩⟩ := m
 simp only at a b c d e g4 g5
 rw [a, b, c, d, e, g4, g5]
theorem ml_take {X : KHs} {ms : List (Int × KMh)} {k : Nat} {n : Int} {m : KMem} (hk : (sortI (ms.map (·.1)))[k]? = some n) (hm : X.done n = some m) : msL ((mlO X ms).take (k + 1)) = msL ((mlO X ms).take k) ++ memL m := by
 have h1 : (mlO X ms)[k]? = some (n, m) := by
  unfold mlO
  rw [List.getElem?_map, hk]
  show some (n, memO X n) = _
  unfold memO; rw [hm]; rfl
 rw [← tk_next h1, msL_app]
theorem pl_take {s : KSt} {k : Nat} {n : Int} (hk : (sortI (s.ps.map (·.1)))[k]? = some n) : psL ((plO s).take (k + 1)) = psL ((plO s).take k) ++ (bitsV (U n) 17 ++ amL (puA s.ps n) 31) ∧ (n, puA s.ps n) ∈ plO s := by
 have h1 : (plO s)[k]? = some (n, puA s.ps n) := by
  unfold plO
  rw [List.getElem?_map, hk]; rfl
 exact ⟨by rw [← tk_next h1, psL_app], List.mem_of_getElem? h1⟩
theorem gl_take {s : KSt} {k : Nat} {n : Int} (hk : (sortI (s.hs.map (·.1)))[k]? = some n) : hsL ((glO s).take (k + 1)) = hsL ((glO s).take k) ++ (bitsV (U n) 48 ++ (bitsV (U (hoA s.hs n).owner) 17 ++ amL (hoA s.hs n).a 31)) ∧ (n, hoA s.hs n) ∈ glO s := by
 have h1 : (glO s)[k]? = some (n, hoA s.hs n) := by
  unfold glO
  rw [List.getElem?_map, hk]; rfl
 exact ⟨by rw [← tk_next h1, hsL_app], List.mem_of_getElem? h1⟩
theorem plO_len (s : KSt) : (plO s).length = s.ps.length := by unfold plO; rw [List.length_map, (sortI_perm _).length_eq, List.length_map]
theorem glO_len (s : KSt) : (glO s).length = s.hs.length := by unfold glO; rw [List.length_map, (sortI_perm _).length_eq, List.length_map]
theorem mlO_len (X : KHs) (ms : List (Int × KMh)) : (mlO X ms).length = ms.length := by unfold mlO; rw [List.length_map, (sortI_perm _).length_eq, List.length_map]
/-! the writer -/
abbrev wrL (wb : Nat) (p : Option Addr) (c : Nat) (xs : List UInt8) (n : Nat) : List Res := [pt wb (.cells #[.slice p xs.length c, Nx n] 139), rowF BytF 5 p c xs]
def wrR (wb : Nat) (l : List Bool) : Res := fun h => ∃ p c xs, Wr xs l.length l ∧ Sat (wrL wb p c xs l.length) h
theorem St.openWr {β : Base} {wb : Nat} {l : List Bool} {M : List Res} {w : World} (h : St β (wrR wb l :: M) w) : ∃ p c xs, Wr xs l.length l ∧ St β (wrL wb p c xs l.length ++ M) w := by
 obtain ⟨ho, ht, hp, a, hd, hs, hs', q, r, h1, h2, h3, ⟨p, c, xs, hk, hx⟩, h5⟩ := h
 exact ⟨p, c, xs, hk, St.unbun ⟨ho, ht, hp, a, hd, hs, hs', q, r, h1, h2, h3, hx, h5⟩⟩
theorem St.closeWr {β : Base} {wb : Nat} {p : Option Addr} {c n : Nat} {xs : List UInt8} {l : List Bool} {M : List Res} {w : World} (hr : Wr xs n l) (hn : n = l.length) (h : St β (wrL wb p c xs n ++ M) w) : St β (wrR wb l :: M) w := by
 subst hn
 exact h.merge fun _ h => ⟨p, c, xs, hr, h⟩
theorem wrR_start {wb : Nat} (a : PHeap) (h : Sat (wrL wb none 0 [] 0) a) : wrR wb [] a := ⟨none, 0, [], wr_nil, h⟩
end Go.Td
