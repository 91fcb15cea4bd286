/-
 The chapter's examples in plain terms. Own work; plain Lean.
-/
import Derived.Test.YtoijanalppaplaaGreatIs6
namespace Go.Isl
open Go.Sl Go.Brd Go.Stp Go.Proofs
theorem ex_ok {rs : List KR} {gx gy : Int} (hr : rs.length ≤ 32) (hv : okV gx gy) (h : ∀ r ∈ rs, okR exB r) : okS exB rs gx gy := ⟨by decide, hr, hv, by decide +kernel, pair_ordB (by decide +kernel), h⟩
theorem aw_oka : okS exB [] 0 0 := ex_ok (by decide) (by decide) (fun r hr => by cases hr)
theorem aw_okb : okS exB [] 5 0 := ex_ok (by decide) (by decide) (fun r hr => by cases hr)
theorem aw_okc : okS exB [⟨1, 3, 200⟩] 0 0 := ex_ok (by decide) (by decide) (fun r hr => by rw [List.mem_singleton.1 hr]; exact ⟨by decide +kernel, by decide +kernel, by decide, by decide, by decide⟩)
theorem near_eq (fb : List KB) (rs : List KR) (gx gy : Int) : nearI fb rs gx gy = joinAll (List.replicate fb.length []) ((pairsT (things (reachL fb gx gy) 0)).map pairN ++ rs.filterMap (ropeN fb)) := by
 unfold nearI linksI; rw [pairsA_eq]
theorem aw_na : nearI (freeB exB) [] 0 0 = [[], [], []] := by rw [near_eq]; decide +kernel
theorem aw_nb : nearI (freeB exB) [] 5 0 = [[1], [0, 2], [1]] := by rw [near_eq]; decide +kernel
theorem aw_nc : nearI (freeB exB) [⟨1, 3, 200⟩] 0 0 = [[2], [], [0]] := by rw [near_eq]; decide +kernel
theorem aw_a : islR exB [] 0 0 = [[1], [2], [3]] := by
 rw [islR, if_pos aw_oka, islX, listsI, aw_na, show (islF [[], [], []] (freeB exB).length (freeB exB).length).2 = [[0], [1], [2]] from by decide +kernel]
 show [sortI _, sortI _, sortI _] = _
 rw [sortI_eq (m := [1]) (by decide +kernel) (by decide), sortI_eq (m := [2]) (by decide +kernel) (by decide), sortI_eq (m := [3]) (by decide +kernel) (by decide)]
theorem aw_b : islR exB [] 5 0 = [[1, 2, 3]] := by
 rw [islR, if_pos aw_okb, islX, listsI, aw_nb, show (islF [[1], [0, 2], [1]] (freeB exB).length (freeB exB).length).2 = [[0, 1, 2]] from by decide +kernel]
 show [sortI _] = _
 rw [sortI_eq (m := [1, 2, 3]) (by decide +kernel) (by decide)]
theorem aw_c : islR exB [⟨1, 3, 200⟩] 0 0 = [[1, 3], [2]] := by
 rw [islR, if_pos aw_okc, islX, listsI, aw_nc, show (islF [[2], [], [0]] (freeB exB).length (freeB exB).length).2 = [[0, 2], [1]] from by decide +kernel]
 show [sortI _, sortI _] = _
 rw [sortI_eq (m := [1, 3]) (by decide +kernel) (by decide), sortI_eq (m := [2]) (by decide +kernel) (by decide)]
theorem aw_ea : errI exB [] 0 0 = 0 := if_pos aw_oka
theorem aw_eb : errI exB [] 5 0 = 0 := if_pos aw_okb
theorem aw_ec : errI exB [⟨1, 3, 200⟩] 0 0 = 0 := if_pos aw_okc
theorem aw_ep : errPt exB [⟨1, 3, 200⟩] 0 0 [1] = 0 := errPt_ok aw_okc (fun x hx => by rw [List.mem_singleton.1 hx]; exact ⟨by decide +kernel, ⟨1, 0, 0, 50, 0, 10, 10, false, false⟩, by decide +kernel, rfl⟩)
theorem aw_pb : ptB exB [⟨1, 3, 200⟩] 0 0 [1] = [⟨1, 0, 0, 50, 0, 10, 10, false, false⟩, ⟨4, 0, 200, 0, 0, 500, 5, false, true⟩] := by
 rw [(pt_good aw_ep).1]; decide +kernel
theorem aw_pr : ptR exB [⟨1, 3, 200⟩] 0 0 [1] = [] := by
 rw [(pt_good aw_ep).2.1]; decide +kernel
theorem aw_reach : reachA ⟨1, 0, 0, 50, 0, 10, 10, false, false⟩ 5 0 = ⟨-10, -10, 65, 10⟩ := by decide +kernel
/-! lists of lists that are written out -/
inductive LitK (β : Base) (L : List Res) : List Value → List (List Int) → Prop
 | nil : LitK β L [] []
 | cons {v : Value} {xs : List Int} {vs : List Value} {xss : List (List Int)} : Knows β L (fun h => Sl IntF.R h v xs) → LitK β L vs xss → LitK β L (v :: vs) (xs :: xss)
theorem LitK.at {β : Base} {L : List Res} {vs : List Value} {xss : List (List Int)} (h : LitK β L vs xss) : vs.length = xss.length ∧ ∀ (j : Nat) (xs : List Int), xss[j]? = some xs → ∃ v : Value, vs[j]? = some v ∧ Knows β L (fun h => Sl IntF.R h v xs) := by
 induction h with
 | nil => exact ⟨rfl, fun j xs hj => by simp at hj⟩
 | cons h1 _ ih =>
  refine ⟨by rw [List.length_cons, List.length_cons, ih.1], fun j xs hj => ?_⟩
  cases j with
  | zero => have e := Option.some.inj hj; subst e; exact ⟨_, rfl, h1⟩
  | succ j => exact ih.2 j xs hj
theorem k_lists {β : Base} {L : List Res} {b T m : Nat} {fr : Nat × Nat} {cs : Array Value} {vs : List Value} {xss : List (List Int)} (i : Nat) (hi : L[i]? = some (pt b (.cells cs T fr))) (hv : cs.toList = vs) (hm : m = xss.length) (hl : xss.length ≤ 1048576) (hk : LitK β L vs xss) :
  Knows β L (fun h => Sl IntF.R.slice h (.slice (some ⟨b, 0, none⟩) m m) xss) := by
 intro h hs hr
 subst hm
 obtain ⟨h1, h2⟩ := hk.at
 refine ⟨_, _, rfl, Nat.le_refl _, by omega, fun j x hx => ?_⟩
 obtain ⟨v, hv1, hv2⟩ := h2 j x hx
 have hjl := (List.getElem?_eq_some_iff.1 hv1).1
 have hc : Cs h ⟨b, j, none⟩ [v] := k_pt (o := j) (vs := [v]) i hi (by
  rw [hv]
  show (vs.drop j).take 1 = [v]
  rw [List.drop_eq_getElem_cons hjl]
  show [vs[j]] = [v]
  rw [(List.getElem?_eq_some_iff.1 hv1).2]) h hs hr
 have e : (ba (some ⟨b, 0, none⟩)).add (j * (Rp.slice IntF.R).n) = ⟨b, j, none⟩ := by
  show (⟨b, 0, none⟩ : Addr).add (j * 1) = _
  rw [Nat.mul_one]
  unfold Addr.add; split <;> simp_all
 refine ⟨rfl, [v], ?_, v, rfl, hv2 h hs hr⟩
 show Cs h ((ba (some ⟨b, 0, none⟩)).add _) _
 rw [e]; exact hc
end Go.Isl
