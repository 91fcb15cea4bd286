/-
 The reference's Islands: walked. Printed by a program of my own.
-/
import Derived.Test.YtoijanalppaplaaGreatIs18
import Derived.Test.YtoijanalppaplaaGreatIsRef
import Derived.Test.YtoijanalppaplaaGreatSlApt
import Derived.Test.YtoijanalppaplaaGreatSlC
namespace Go.Isl
open Go.Sl Go.Brd Go.Stp Go.Proofs
abbrev BlF : Fl Bool := ⟨1, fun z => [.bool z], fun _ => rfl, fun _ => rfl, by decide⟩
def numT (n i : Nat) : List Int := (List.range i).map (fun j => ((j : Nat) : Int)) ++ List.replicate (n - i) 0
theorem numT_len {n i : Nat} (h : i ≤ n) : (numT n i).length = n := by unfold numT; simp; omega
theorem numT_set {n i : Nat} (h : i < n) : (numT n i).set i ((i : Nat) : Int) = numT n (i + 1) := by
 unfold numT
 rw [List.set_append_right _ _ (by simp), show n - i = (n - (i + 1)) + 1 by omega, List.replicate_succ]
 simp [List.range_succ]
def hdT (hv : List (HV Bool)) (n : Nat) : List H3 := hv.map HV.h ++ List.replicate (n - hv.length) (⟨none, 0, 0⟩ : H3)
def hdT1 (hv : List (HV Bool)) (h : H3) (n : Nat) : List H3 := hv.map HV.h ++ h :: List.replicate (n - (hv.length + 1)) (⟨none, 0, 0⟩ : H3)
theorem hdT_len {hv : List (HV Bool)} {n : Nat} (h : hv.length ≤ n) : (hdT hv n).length = n := by unfold hdT; simp; omega
theorem hdT1_len {hv : List (HV Bool)} {x : H3} {n : Nat} (h : hv.length < n) : (hdT1 hv x n).length = n := by unfold hdT1; simp; omega
theorem hdT_set {hv : List (HV Bool)} {x : H3} {n i : Nat} (h : hv.length < n) (e : i = hv.length) : (hdT hv n).set i x = hdT1 hv x n := by
 subst e
 unfold hdT hdT1
 rw [List.set_append_right _ _ (by simp), show n - hv.length = (n - (hv.length + 1)) + 1 by omega, List.replicate_succ]
 simp
theorem hdT1_at {hv : List (HV Bool)} {x : H3} {n i : Nat} (e : i = hv.length) : (hdT1 hv x n)[i]? = some x := mid_at (by rw [List.length_map]; exact e)
theorem hdT1_next {hv : List (HV Bool)} {x : H3} {n : Nat} {v : HV Bool} (h : hv.length < n) (e : x = v.h) : hdT1 hv x n = hdT (hv ++ [v]) n := by
 subst e
 unfold hdT hdT1
 rw [List.map_append, List.append_assoc, List.length_append]; rfl
def rowT (bs : List KB) (rs : List KR) (gx gy : Int) (i k : Nat) : List Bool := (List.range k).map (lnk bs rs gx gy i) ++ List.replicate (bs.length - k) false
def fullT (bs : List KB) (rs : List KR) (gx gy : Int) (i : Nat) : List Bool := (List.range bs.length).map (lnk bs rs gx gy i)
section
variable {bs : List KB} {rs : List KR} {gx gy : Int} {i k : Nat}
theorem rowT_len (h : k ≤ bs.length) : (rowT bs rs gx gy i k).length = bs.length := by unfold rowT; simp; omega
theorem rowT_set {v : Bool} (h : k < bs.length) (e : lnk bs rs gx gy i k = v) : (rowT bs rs gx gy i k).set k v = rowT bs rs gx gy i (k + 1) := by
 subst e
 unfold rowT
 rw [List.set_append_right _ _ (by simp), show bs.length - k = (bs.length - (k + 1)) + 1 by omega, List.replicate_succ]
 simp [List.range_succ]
theorem rowT_full : rowT bs rs gx gy i bs.length = fullT bs rs gx gy i := by unfold rowT fullT; simp
theorem fullT_len : (fullT bs rs gx gy i).length = bs.length := by unfold fullT; simp
def rowsT (bs : List KB) (rs : List KR) (gx gy : Int) (i : Nat) : List (List Bool) := (List.range i).map (fullT bs rs gx gy)
theorem rowsT_next {p : Option Addr} {c : Nat} : rowsT bs rs gx gy i ++ [(⟨p, c, fullT bs rs gx gy i⟩ : HV Bool)].map (·.xs) = rowsT bs rs gx gy (i + 1) := by unfold rowsT; rw [List.range_succ, List.map_append]; rfl
theorem rowsT_len {n : Nat} : (rowsT bs rs gx gy n).length = n := by unfold rowsT; simp
theorem rows_at {n : Nat} {x : List Bool} {y : Bool} (hx : (rowsT bs rs gx gy n)[i]? = some x) (hy : x[k]? = some y) : lnk bs rs gx gy i k = y := by
 unfold rowsT at hx
 have hi : i < n := by have := (List.getElem?_eq_some_iff.1 hx).1; simpa using this
 rw [List.getElem?_map, List.getElem?_range hi] at hx
 injection hx with hx
 subst hx
 unfold fullT at hy
 have hk : k < bs.length := by have := (List.getElem?_eq_some_iff.1 hy).1; simpa using this
 rw [List.getElem?_map, List.getElem?_range hk] at hy
 injection hy
theorem rows_len {n : Nat} {x : List Bool} (hx : (rowsT bs rs gx gy n)[i]? = some x) : x.length = bs.length := by
 unfold rowsT at hx
 have hi : i < n := by have := (List.getElem?_eq_some_iff.1 hx).1; simpa using this
 rw [List.getElem?_map, List.getElem?_range hi] at hx
 injection hx with hx
 rw [← hx]; exact fullT_len
theorem lnk_self (h : i = k) : lnk bs rs gx gy i k = false := by
 unfold lnk; split <;> simp [h]
theorem lnk_f1 {a : KB} (hi : bs[i]? = some a) (h : a.fixed = true) : lnk bs rs gx gy i k = false := by
 unfold lnk; rw [hi]; split <;> simp_all
theorem lnk_f2 {b : KB} (hk : bs[k]? = some b) (h : b.fixed = true) : lnk bs rs gx gy i k = false := by
 unfold lnk; rw [hk]; split <;> simp_all
theorem lnk_ok {a b : KB} (hi : bs[i]? = some a) (hk : bs[k]? = some b) (h : i ≠ k) (fa : a.fixed = false) (fb : b.fixed = false) : lnk bs rs gx gy i k = decide (lkP rs gx gy a b) := by
 rw [lnk_at hi hk]; simp [h, fa, fb]
theorem num_start : NumI bs rs gx gy (numT bs.length bs.length) := ⟨numT_len (Nat.le_refl _), fun j x h => by
 unfold numT at h
 rw [Nat.sub_self, List.replicate_zero, List.append_nil] at h
 have hj : j < bs.length := by have := (List.getElem?_eq_some_iff.1 h).1; simpa using this
 rw [List.getElem?_map, List.getElem?_range hj] at h
 injection h with h
 exact ⟨j, h.symm, Nat.le_refl _, .refl⟩⟩
theorem NumI.pos {ns : List Int} {j : Nat} {x : Int} (h : NumI bs rs gx gy ns) (hx : ns[j]? = some x) : 0 ≤ x := by obtain ⟨m, e, _⟩ := h.num _ _ hx; omega
theorem stab_end {ns : List Int} {j : Nat} (h : StabT bs rs gx gy ns j 0) (hj : bs.length ≤ j) : StabT bs rs gx gy ns bs.length 0 := fun i' k' x y q => h i' k' x y (by omega)
theorem num_dec {ms ns : List Int} {a b : Bool} (h1 : sumN ms ≤ sumN ns) (h2 : b = true → sumN ms < sumN ns) (ha : a = true) : 2 * sumN ms + (if b then 1 else 0) < 2 * sumN ns + (if a then 1 else 0) := by
 subst ha
 cases b with
 | false => simp; omega
 | true => have := h2 rfl; simp; omega
theorem k_rowsB {β : Base} {L : List Res} {p : Option Addr} {c n : Nat} {hv : List (HV Bool)} (hn : hv.length = n) (hL : L = [rowF H3F 80 p c (hdT hv n), Sat (hv.map (ownV BlF 4))]) : Knows β L (fun h => Sl BlF.R.slice h (.slice p n c) (hv.map (·.xs))) := by
 subst hL; subst hn
 intro a _ hr
 have e0 : hdT hv hv.length = hv.map HV.h := by unfold hdT; simp
 rw [e0] at hr
 obtain ⟨a1, s1, r1⟩ := hr (rowF H3F 80 p c (hv.map HV.h)) (by simp)
 obtain ⟨a2, s2, r2⟩ := hr (Sat (hv.map (ownV BlF 4))) (by simp)
 obtain ⟨p', c', e, h1, h2, h3⟩ := (rowF_sl r1).get
 injection e with e1 e2 e3
 subst e1; subst e3
 refine ⟨p, c, by rw [List.length_map], by rw [List.length_map] at h1 ⊢; exact h1, h2, fun j x hx => ?_⟩
 rw [List.getElem?_map] at hx
 cases hj : hv[j]? with
 | none => rw [hj] at hx; cases hx
 | some y =>
  rw [hj] at hx
  injection hx with hx
  subst hx
  obtain ⟨q1, cs, q2, q3⟩ := h3 j y.h (by rw [List.getElem?_map, hj]; rfl)
  obtain ⟨a3, s3, r3⟩ := r2.each (ownV BlF 4 y) (List.mem_map.2 ⟨y, List.mem_of_getElem? hj, rfl⟩)
  exact ⟨q1, cs, Cs.mono _ _ _ _ s1 q2, sB y.p y.xs y.c, q3, Sl.mono _ _ _ _ _ (s3.trans s2) (rowF_sl r3)⟩
end
end Go.Isl
namespace Go.Proofs
open Go Go.Sl Go.Brd Go.Stp Go.Isl
theorem tf100 : slB Tryz.prog 79 80 1 = true := by kernel_rfl
theorem tf101 : elB Tryz.prog 80 1 24 = true := by kernel_rfl
theorem tf102 : (Tryz.prog.info? 80).bind (·.zero) = some (.slice none 0 0) := by kernel_rfl
theorem tf103 : slB Tryz.prog 80 4 1 = true := by kernel_rfl
theorem tf104 : elB Tryz.prog 4 1 1 = true := by kernel_rfl
theorem tf105 : (Tryz.prog.info? 4).bind (·.zero) = some (.bool false) := by kernel_rfl
theorem tf106 : tyB Tryz.prog 80 false 1 = true := by kernel_rfl
theorem tf107 : cfB Tryz.prog 51 = true := by kernel_rfl
set_option maxHeartbeats 4000000 in
theorem risl_ok (β : Base) (w : World) (hw : St β [] w) (v u : Value) (gx gy : Int) (bs : List KB) (rs : List KR) (hs_ : Sl KBR β.heap v bs) (hr_ : Sl KRR β.heap u rs) : Calls Tryz.prog 18 #[.agg #[v, u, Ix gx, Ix gy]] w fun r w' => ∃ p c hs, hs.map (·.xs) = islR bs rs gx gy ∧ r = .returned (.tuple #[sB p hs c, Ix (errI bs rs gx gy)]) ∧ St β (llL p c hs) w' := by
 obtain ⟨va, vc, rfl, vl, vm, ve⟩ := hs_.get
 obtain ⟨ua, uc, rfl, ul, um, ue⟩ := hr_.get
 refine enter (n := 164) Tryz.func18 rfl Tryz.ntmps18 rfl ?_ hw
 refine csr ?_
 refine l_mv rfl rfl rfl (m_box (v := .agg #[sB va bs (vc), sB ua rs (uc), Ix (gx), Ix (gy)]) rfl) ?_
 rintro _ _ ⟨b1, rfl, rfl⟩
 refine lv (v := .slice none 0 0) e_assign ?_
 refine lv (v := .int .i64 (0)) e_assign ?_
 refine lnf ?_
 refine cs2 ?_
 refine c_region ?_
 refine lv (v := .agg #[sB va bs (vc), sB ua rs (uc), Ix (gx), Ix (gy)]) (e_load tf31 rfl (k_pt 0 rfl rfl) rfl) ?_
 refine lcf (cl0 (vs := [.agg #[sB va bs (vc), sB ua rs (uc), Ix (gx), Ix (gy)]]) tf98 rfl rfl) rfl fun w β1 sb kn hw1 back => (valid7_ok β1 w hw1 _ _ gx gy bs rs (Sl.mono _ _ _ _ _ sb (⟨⟨_, _, rfl, vl, vm, ve⟩⟩ : Sl KBR _ _ bs)) (Sl.mono _ _ _ _ _ sb (⟨⟨_, _, rfl, ul, um, ue⟩⟩ : Sl KRR _ _ rs))).mono ?_
 rintro e w' ⟨rfl, hw'⟩
 refine ⟨_, rfl, _, back _ _ hw', ?_⟩
 clear hw1 hw' back kn sb
 refine lv (v := .bool (decide (¬ (okS bs rs gx gy)))) (e_not_p (p := okS bs rs gx gy) rfl) ?_
 refine lnf ?_
 refine c_if (¬ (okS bs rs gx gy)) rfl (fun hc2 => ?_) (fun hc2 => ?_)
 ·refine csr ?_
  refine l_val (v := .slice none 0 0) rfl rfl rfl e_assign ?_
  refine lv (v := .int .i64 (2)) e_assign ?_
  refine lnf ?_
  refine c_ret ?_
  refine f_then_ret ?_
  refine ret2 (v := .slice none 0 0) (v' := .int .i64 (2)) Tryz.results18 rfl rfl ?_
  intro w hw
  exact ⟨none, 0, [], by rw [islR, if_neg hc2]; rfl, by rw [errI, if_neg hc2]; rfl, ((st_mask [false] rfl hw).emp (r := Sat (([] : List HI).map ownI)) trivial).emp (row_nil _ _ _)⟩
 refine csk ?_
 refine c_seq ?_
 have hok : okS bs rs gx gy := (Decidable.not_not.1 hc2)
 obtain ⟨hk1, hk2, hk3, hk4, hk5, hk6⟩ := id hok
 obtain ⟨hv1, hv2, hv3, hv4⟩ := id hk3
 refine c_region ?_
 refine lv (v := pp b1 0) (e_fieldPt rfl tf33) ?_
 refine lv (v := sB va bs (vc)) (e_load1 tf26 rfl (k_pt 0 rfl rfl)) ?_
 refine lv (v := Nx (bs.length)) (e_len (a := va) (n := bs.length) (c := vc) rfl tf15) ?_
 refine lv (v := Nx (bs.length)) e_assign ?_
 refine lnc ?_
 refine lv (v := Nx (bs.length)) e_move ?_
 refine l_mv rfl rfl rfl (m_makeF (F := IntF) (x0 := 0) (c := bs.length) tf23 tf25 tf24 rfl rfl rfl (by unfold maxLen; omega) (by omega)) ?_
 rintro _ _ ⟨b3, rfl, rfl⟩
 refine lv (v := sB (some ⟨b3, 0, none⟩) bs bs.length) e_assign ?_
 refine lnc ?_
 refine lv (v := Nx (bs.length)) e_move ?_
 refine l_mv rfl rfl rfl (m_makeF (F := H3F) (x0 := (⟨none, 0, 0⟩ : H3)) (c := bs.length) tf100 tf101 tf102 rfl rfl rfl (by unfold maxLen; omega) (by omega)) ?_
 rintro _ _ ⟨b4, rfl, rfl⟩
 refine lv (v := sB (some ⟨b4, 0, none⟩) bs bs.length) e_assign ?_
 refine lnf ?_
 refine cs2 ?_
 refine c_emp (r := Sat (([] : List (HV Bool)).map (ownV BlF 4))) trivial ?_
 refine c_re (L' := [Sat (([] : List (HV Bool)).map (ownV BlF 4)), rowF H3F 80 (some ⟨b4, 0, none⟩) bs.length (hdT [] bs.length), rowF IntF 3 (some ⟨b3, 0, none⟩) bs.length (numT bs.length 0), pt b1 (.cells #[sB va bs (vc), sB ua rs (uc), Ix (gx), Ix (gy)] 27)]) rfl ?_
 refine c_region ?_
 refine l_val (v := .int .i64 (0)) rfl rfl rfl e_assign ?_
 refine lnf ?_
 refine c_block ?_
 refine c_loop (fun (x_ : Nat × List (HV Bool)) (f : Fm) (L : List Res) => match x_ with | (i, hv) => (f 1 = pp b1 0 ∧ f 4 = Nx (bs.length) ∧ f 5 = sB (some ⟨b3, 0, none⟩) bs bs.length ∧ f 6 = sB (some ⟨b4, 0, none⟩) bs bs.length ∧ f 7 = Nx (i)) ∧ L = [Sat (hv.map (ownV BlF 4)), rowF H3F 80 (some ⟨b4, 0, none⟩) bs.length (hdT hv bs.length), rowF IntF 3 (some ⟨b3, 0, none⟩) bs.length (numT bs.length i), pt b1 (.cells #[sB va bs (vc), sB ua rs (uc), Ix (gx), Ix (gy)] 27)] ∧ (i ≤ bs.length ∧ hv.length = i ∧ hv.map (·.xs) = rowsT bs rs gx gy i)) (fun (x_ : Nat × List (HV Bool)) => match x_ with | (i, hv) => bs.length - i) (0, []) ?_ ?_
 ·exact ⟨⟨rfl, rfl, rfl, rfl, rfl⟩, rfl, ⟨by omega, rfl, rfl⟩⟩
 rintro ⟨i, hv⟩ f0 L0 ⟨⟨hs1, hs4, hs5, hs6, hs7⟩, hL, ⟨hi, hvl, hvm⟩⟩
 subst L0
 refine rebase (d := 1) hs1 ?_
 refine rebase (d := 4) hs4 ?_
 refine rebase (d := 5) hs5 ?_
 refine rebase (d := 6) hs6 ?_
 refine rebase (d := 7) hs7 ?_
 clear hs1 hs4 hs5 hs6 hs7
 have hnT : (numT bs.length i).length = bs.length := numT_len hi
 have hhT : (hdT hv bs.length).length = bs.length := hdT_len (by omega)
 refine cs2 ?_
 refine c_region ?_
 refine lv (v := Nx (i)) e_move ?_
 refine lv (v := Nx (bs.length)) e_move ?_
 refine lv (e_lss (a := ((i : Nat) : Int)) (b := ((bs.length : Nat) : Int)) rfl rfl) ?_
 refine lnf ?_
 refine c_if (((i : Nat) : Int) < ((bs.length : Nat) : Int)) rfl (fun hc5 => ?_) (fun hc5 => ?_)
 ·refine csk ?_
  refine c_seq ?_
  refine c_block ?_
  refine csr ?_
  refine lv (v := sB (some ⟨b3, 0, none⟩) bs bs.length) e_move ?_
  refine lv (v := Nx (i)) e_move ?_
  refine lv (v := Nx (i)) e_move ?_
  refine lv (v := .pointer (some ((ba (some ⟨b3, 0, none⟩)).add (i * 1)))) (e_indexFlN 2 (F := IntF) (j := i) (m := bs.length) (xs := (numT bs.length i)) rfl (by omega) rfl tf23 (by omega) rfl) ?_
  refine lu (m_storeFl 2 (F := IntF) (p := (some ⟨b3, 0, none⟩)) (k := i) (xs := (numT bs.length i)) (z := ((i : Nat) : Int)) tf11 rfl rfl rfl rfl (by omega)) ?_
  refine lnc ?_
  refine lv (v := sB (some ⟨b4, 0, none⟩) bs bs.length) e_move ?_
  refine lv (v := Nx (i)) e_move ?_
  refine lv (v := Nx (bs.length)) e_move ?_
  refine l_mv rfl rfl rfl (m_makeF (F := BlF) (x0 := false) (c := bs.length) tf103 tf104 tf105 rfl rfl rfl (by unfold maxLen; omega) (by omega)) ?_
  rintro _ _ ⟨b6, rfl, rfl⟩
  refine lv (v := .pointer (some ((ba (some ⟨b4, 0, none⟩)).add (i * 1)))) (e_indexFlN 2 (F := H3F) (j := i) (m := bs.length) (xs := (hdT hv bs.length)) rfl (by omega) rfl tf100 (by omega) rfl) ?_
  refine lu (m_storeFl 2 (F := H3F) (p := (some ⟨b4, 0, none⟩)) (k := i) (xs := (hdT hv bs.length)) (z := (⟨(some ⟨b6, 0, none⟩), bs.length, bs.length⟩ : H3)) tf106 rfl rfl rfl rfl (by omega)) ?_
  refine lnf ?_
  refine c_seq ?_
  refine c_re (L' := [rowF BlF 4 (some ⟨b6, 0, none⟩) bs.length (rowT bs rs gx gy i 0), Sat (hv.map (ownV BlF 4)), rowF H3F 80 (some ⟨b4, 0, none⟩) bs.length (hdT1 hv (⟨(some ⟨b6, 0, none⟩), bs.length, bs.length⟩ : H3) bs.length), rowF IntF 3 (some ⟨b3, 0, none⟩) bs.length (numT bs.length (i + 1)), pt b1 (.cells #[sB va bs (vc), sB ua rs (uc), Ix (gx), Ix (gy)] 27)]) (by rw [numT_set (by omega), hdT_set (by omega) (by omega)] <;> rfl) ?_
  refine c_region ?_
  refine l_val (v := .int .i64 (0)) rfl rfl rfl e_assign ?_
  refine lnf ?_
  refine c_block ?_
  refine c_loop (fun (k : Nat) (f : Fm) (L : List Res) => (f 1 = pp b1 0 ∧ f 4 = Nx (bs.length) ∧ f 5 = sB (some ⟨b3, 0, none⟩) bs bs.length ∧ f 6 = sB (some ⟨b4, 0, none⟩) bs bs.length ∧ f 7 = Nx (i) ∧ f 8 = Nx (k)) ∧ L = [rowF BlF 4 (some ⟨b6, 0, none⟩) bs.length (rowT bs rs gx gy i k), Sat (hv.map (ownV BlF 4)), rowF H3F 80 (some ⟨b4, 0, none⟩) bs.length (hdT1 hv (⟨(some ⟨b6, 0, none⟩), bs.length, bs.length⟩ : H3) bs.length), rowF IntF 3 (some ⟨b3, 0, none⟩) bs.length (numT bs.length (i + 1)), pt b1 (.cells #[sB va bs (vc), sB ua rs (uc), Ix (gx), Ix (gy)] 27)] ∧ (k ≤ bs.length)) (fun (k : Nat) => bs.length - k) 0 ?_ ?_
  ·exact ⟨⟨rfl, rfl, rfl, rfl, rfl, rfl⟩, rfl, by omega⟩
  rintro k f0 L0 ⟨⟨hs1, hs4, hs5, hs6, hs7, hs8⟩, hL, hk⟩
  subst L0
  refine rebase (d := 1) hs1 ?_
  refine rebase (d := 4) hs4 ?_
  refine rebase (d := 5) hs5 ?_
  refine rebase (d := 6) hs6 ?_
  refine rebase (d := 7) hs7 ?_
  refine rebase (d := 8) hs8 ?_
  clear hs1 hs4 hs5 hs6 hs7 hs8
  have hrT : (rowT bs rs gx gy i k).length = bs.length := rowT_len hk
  have hgx : (hdT1 hv (⟨(some ⟨b6, 0, none⟩), bs.length, bs.length⟩ : H3) bs.length)[i]? = some (⟨(some ⟨b6, 0, none⟩), bs.length, bs.length⟩ : H3) := hdT1_at (by omega)
  have hhl : (hdT1 hv (⟨(some ⟨b6, 0, none⟩), bs.length, bs.length⟩ : H3) bs.length).length = bs.length := hdT1_len (by omega)
  refine cs2 ?_
  refine c_region ?_
  refine lv (v := Nx (k)) e_move ?_
  refine lv (v := Nx (bs.length)) e_move ?_
  refine lv (e_lss (a := ((k : Nat) : Int)) (b := ((bs.length : Nat) : Int)) rfl rfl) ?_
  refine lnf ?_
  refine c_if (((k : Nat) : Int) < ((bs.length : Nat) : Int)) rfl (fun hc7 => ?_) (fun hc7 => ?_)
  ·refine csk ?_
   refine c_seq ?_
   refine c_block ?_
   by_cases hg8 : ((i : Nat) : Int) ≠ ((k : Nat) : Int)
   ·obtain ⟨x9, hx10⟩ : ∃ x_, (bs)[i]? = some x_ := ⟨_, List.getElem?_eq_getElem (by omega)⟩
    obtain ⟨ha11, cs12, hc13, rfl⟩ := ve _ _ hx10
    cases hg9 : !x9.fixed
    ·refine c_any [⟨[], [], [0], [45], fun f => f 45 = sB (some ⟨b4, 0, none⟩) bs bs.length⟩, ⟨[], [], [1], [46], fun f => f 46 = Nx (i)⟩, ⟨[0, 1], [0, 1], [], [47], fun f => f 47 = .pointer (some ((ba (some ⟨b4, 0, none⟩)).add (i * 1)))⟩, ⟨[0, 1, 2], [2], [], [48], fun f => f 48 = sB (some ⟨b6, 0, none⟩) bs bs.length⟩, ⟨[], [], [2], [49], fun f => f 49 = Nx (k)⟩, ⟨[], [], [1], [50], fun f => f 50 = Nx (i)⟩, ⟨[], [], [2], [51], fun f => f 51 = Nx (k)⟩, ⟨[5, 6], [5, 6], [], [52], fun f => f 52 = .bool true⟩, ⟨[5, 6, 7], [7], [], [53], fun f => f 53 = .bool true⟩, ⟨[5, 6, 7, 8], [8], [3], [54], fun f => f 54 = pp b1 0⟩, ⟨[5, 6, 7, 8, 9], [9, 8], [], [55], fun f => f 55 = sB va bs (vc)⟩, ⟨[5, 6, 7, 8], [8], [1], [56], fun f => f 56 = Nx (i)⟩, ⟨[5, 6, 7, 8, 9, 10, 11], [10, 11, 8], [], [57], fun f => f 57 = .pointer (some ((ba va).add (i * 9)))⟩, ⟨[5, 6, 7, 8, 9, 10, 11, 12], [12, 8], [], [58], fun f => f 58 = .pointer (some (((ba va).add (i * 9) : Addr).add 8))⟩, ⟨[5, 6, 7, 8, 9, 10, 11, 12, 13], [13, 8], [], [59], fun f => f 59 = .bool (x9.fixed)⟩, ⟨[5, 6, 7, 8, 9, 10, 11, 12, 13, 14], [14, 8], [], [60], fun f => f 60 = .bool false⟩, ⟨[5, 6, 7, 8, 9, 10, 11, 12, 13, 14, 15], [8, 15], [], [61], fun f => f 61 = .bool false⟩, ⟨[5, 6, 7, 8, 9, 10, 11, 12, 13, 14, 15, 16], [16], [], [62], fun f => f 62 = .bool false⟩, ⟨[5, 6, 7, 8, 9, 10, 11, 12, 13, 14, 15, 16, 17], [17], [3], [63], fun f => f 63 = undef⟩, ⟨[5, 6, 7, 8, 9, 10, 11, 12, 13, 14, 15, 16, 17, 18], [18, 17], [], [64], fun f => f 64 = undef⟩, ⟨[5, 6, 7, 8, 9, 10, 11, 12, 13, 14, 15, 16, 17], [17], [2], [65], fun f => f 65 = undef⟩, ⟨[5, 6, 7, 8, 9, 10, 11, 12, 13, 14, 15, 16, 17, 18, 19, 20], [19, 20, 17], [], [66], fun f => f 66 = undef⟩, ⟨[5, 6, 7, 8, 9, 10, 11, 12, 13, 14, 15, 16, 17, 18, 19, 20, 21], [21, 17], [], [67], fun f => f 67 = undef⟩, ⟨[5, 6, 7, 8, 9, 10, 11, 12, 13, 14, 15, 16, 17, 18, 19, 20, 21, 22], [22, 17], [], [68], fun f => f 68 = undef⟩, ⟨[5, 6, 7, 8, 9, 10, 11, 12, 13, 14, 15, 16, 17, 18, 19, 20, 21, 22, 23], [23, 17], [], [69], fun f => f 69 = undef⟩, ⟨[5, 6, 7, 8, 9, 10, 11, 12, 13, 14, 15, 16, 17, 18, 19, 20, 21, 22, 23, 24], [17, 24], [], [70], fun f => f 70 = .bool false⟩, ⟨[5, 6, 7, 8, 9, 10, 11, 12, 13, 14, 15, 16, 17, 18, 19, 20, 21, 22, 23, 24, 25], [25], [], [71], fun f => f 71 = .bool false⟩, ⟨[5, 6, 7, 8, 9, 10, 11, 12, 13, 14, 15, 16, 17, 18, 19, 20, 21, 22, 23, 24, 25, 26], [26], [3], [72], fun f => f 72 = undef⟩, ⟨[5, 6, 7, 8, 9, 10, 11, 12, 13, 14, 15, 16, 17, 18, 19, 20, 21, 22, 23, 24, 25, 26], [26], [3], [73], fun f => f 73 = undef⟩, ⟨[5, 6, 7, 8, 9, 10, 11, 12, 13, 14, 15, 16, 17, 18, 19, 20, 21, 22, 23, 24, 25, 26, 28], [28, 26], [], [74], fun f => f 74 = undef⟩, ⟨[5, 6, 7, 8, 9, 10, 11, 12, 13, 14, 15, 16, 17, 18, 19, 20, 21, 22, 23, 24, 25, 26], [26], [1], [75], fun f => f 75 = undef⟩, ⟨[5, 6, 7, 8, 9, 10, 11, 12, 13, 14, 15, 16, 17, 18, 19, 20, 21, 22, 23, 24, 25, 26, 28, 29, 30], [29, 30, 26], [], [76], fun f => f 76 = undef⟩, ⟨[5, 6, 7, 8, 9, 10, 11, 12, 13, 14, 15, 16, 17, 18, 19, 20, 21, 22, 23, 24, 25, 26, 28, 29, 30, 31], [31, 26], [], [77], fun f => f 77 = undef⟩, ⟨[5, 6, 7, 8, 9, 10, 11, 12, 13, 14, 15, 16, 17, 18, 19, 20, 21, 22, 23, 24, 25, 26], [26], [3], [78], fun f => f 78 = undef⟩, ⟨[5, 6, 7, 8, 9, 10, 11, 12, 13, 14, 15, 16, 17, 18, 19, 20, 21, 22, 23, 24, 25, 26, 33], [33, 26], [], [79], fun f => f 79 = undef⟩, ⟨[5, 6, 7, 8, 9, 10, 11, 12, 13, 14, 15, 16, 17, 18, 19, 20, 21, 22, 23, 24, 25, 26], [26], [2], [80], fun f => f 80 = undef⟩, ⟨[5, 6, 7, 8, 9, 10, 11, 12, 13, 14, 15, 16, 17, 18, 19, 20, 21, 22, 23, 24, 25, 26, 33, 34, 35], [34, 35, 26], [], [81], fun f => f 81 = undef⟩, ⟨[5, 6, 7, 8, 9, 10, 11, 12, 13, 14, 15, 16, 17, 18, 19, 20, 21, 22, 23, 24, 25, 26, 33, 34, 35, 36], [36, 26], [], [82], fun f => f 82 = undef⟩, ⟨[5, 6, 7, 8, 9, 10, 11, 12, 13, 14, 15, 16, 17, 18, 19, 20, 21, 22, 23, 24, 25, 26, 27, 28, 29, 30, 31, 32, 33, 34, 35, 36, 37], [27, 32, 37, 26], [], [83], fun f => f 83 = undef⟩, ⟨[5, 6, 7, 8, 9, 10, 11, 12, 13, 14, 15, 16, 17, 18, 19, 20, 21, 22, 23, 24, 25, 26, 27, 28, 29, 30, 31, 32, 33, 34, 35, 36, 37, 38], [26, 38], [], [84], fun f => f 84 = .bool false⟩, ⟨(List.range 40), [3, 4], [], [85], fun f => f 85 = .pointer (some ((ba (some ⟨b6, 0, none⟩)).add (k * 1)))⟩, ⟨(List.range 41), [40, 39], [], [], fun _ => True⟩] [⟨none, (some 41), [40, 41], [], fun _ => rowF BlF 4 (some ⟨b6, 0, none⟩) bs.length (rowT bs rs gx gy i k)⟩, ⟨none, none, [], [], fun _ => Sat (hv.map (ownV BlF 4))⟩, ⟨none, none, [2, 3], [], fun _ => rowF H3F 80 (some ⟨b4, 0, none⟩) bs.length (hdT1 hv (⟨(some ⟨b6, 0, none⟩), bs.length, bs.length⟩ : H3) bs.length)⟩, ⟨none, none, [], [], fun _ => rowF IntF 3 (some ⟨b3, 0, none⟩) bs.length (numT bs.length (i + 1))⟩, ⟨none, none, [10], [], fun _ => pt b1 (.cells #[sB va bs (vc), sB ua rs (uc), Ix (gx), Ix (gy)] 27)⟩, ⟨(some 41), none, [], [], fun _ => rowF BlF 4 (some ⟨b6, 0, none⟩) bs.length ((rowT bs rs gx gy i k).set k false)⟩] [(6, sB (some ⟨b4, 0, none⟩) bs bs.length), (7, Nx (i)), (8, Nx (k)), (1, pp b1 0), (4, Nx (bs.length)), (5, sB (some ⟨b3, 0, none⟩) bs bs.length)] [3, 4, 5, 0, 1, 2] [] (by kernel_rfl) (by kernel_rfl) (by kernel_rfl) (by kernel_rfl) rfl ⟨rfl, rfl, rfl, rfl, rfl, rfl, trivial⟩ ⟨?_, ?_, ?_, ?_, ?_, ?_, ?_, ?_, ?_, ?_, ?_, ?_, ?_, ?_, ?_, ?_, ?_, ?_, ?_, ?_, ?_, ?_, ?_, ?_, ?_, ?_, ?_, ?_, ?_, ?_, ?_, ?_, ?_, ?_, ?_, ?_, ?_, ?_, ?_, ?_, ?_, ?_, trivial⟩ ?_
     ·rintro f M - ⟨i0, -⟩
      exact ob0 (up_cons (d := 6) rfl i0) rfl e_move (.refl _)
     ·rintro f M - ⟨i0, -⟩
      exact ob0 (up_cons (d := 7) rfl i0) rfl e_move (.refl _)
     ·rintro f M ⟨k0, k1, -⟩ -
      exact obv (L' := rowF H3F 80 (some ⟨b4, 0, none⟩) bs.length (hdT1 hv (⟨(some ⟨b6, 0, none⟩), bs.length, bs.length⟩ : H3) bs.length) :: M) (up_cons (d := 46) (up_cons (d := 45) rfl k0) k1) rfl (e_indexFlN 0 (F := H3F) (j := i) (m := bs.length) (xs := (hdT1 hv (⟨(some ⟨b6, 0, none⟩), bs.length, bs.length⟩ : H3) bs.length)) rfl (by omega) rfl tf100 (by omega) rfl) (perm_front 0 rfl) (by rfl)
     ·rintro f M ⟨k0, -⟩ -
      exact obv (L' := rowF H3F 80 (some ⟨b4, 0, none⟩) bs.length (hdT1 hv (⟨(some ⟨b6, 0, none⟩), bs.length, bs.length⟩ : H3) bs.length) :: M) (up_cons (d := 47) rfl k0) rfl (e_load1 tf106 rfl (k_flAt 0 (F := H3F) rfl hgx)) (perm_front 0 rfl) (by rfl)
     ·rintro f M - ⟨i0, -⟩
      exact ob0 (up_cons (d := 8) rfl i0) rfl e_move (.refl _)
     ·rintro f M - ⟨i0, -⟩
      exact ob0 (up_cons (d := 7) rfl i0) rfl e_move (.refl _)
     ·rintro f M - ⟨i0, -⟩
      exact ob0 (up_cons (d := 8) rfl i0) rfl e_move (.refl _)
     ·rintro f M ⟨k0, k1, -⟩ -
      exact ob0 (up_cons (d := 51) (up_cons (d := 50) rfl k0) k1) rfl ((ev_t hg8 (e_neq (a := ((i : Nat) : Int)) (b := ((k : Nat) : Int)) rfl rfl))) (.refl _)
     ·rintro f M ⟨k0, -⟩ -
      exact ob0 (up_cons (d := 52) rfl k0) rfl e_move (.refl _)
     ·rintro f M ⟨k0, -⟩ ⟨i0, -⟩
      exact obg (L' := M) (v := pp b1 0) (up_cons (d := 53) (up_cons (d := 1) rfl i0) k0) (e_fieldPt rfl tf33) rfl rfl rfl rfl (.refl _) (by rfl)
     ·rintro f M ⟨k0, k1, -⟩ -
      exact obg (L' := pt b1 (.cells #[sB va bs (vc), sB ua rs (uc), Ix (gx), Ix (gy)] 27) :: M) (v := sB va bs (vc)) (up_cons (d := 53) (up_cons (d := 54) rfl k0) k1) (e_load1 tf26 rfl (k_pt 0 rfl rfl)) rfl rfl rfl rfl (perm_front 0 rfl) (by rfl)
     ·rintro f M ⟨k0, -⟩ ⟨i0, -⟩
      exact obg (L' := M) (v := Nx (i)) (up_cons (d := 53) (up_cons (d := 7) rfl i0) k0) e_move rfl rfl rfl rfl (.refl _) (by rfl)
     ·rintro f M ⟨k0, k1, k2, -⟩ -
      exact obg (L' := M) (v := .pointer (some ((ba va).add (i * 9)))) (up_cons (d := 53) (up_cons (d := 56) (up_cons (d := 55) rfl k0) k1) k2) (e_indexAddr (k := i) (len := bs.length) (cap := vc) (a := va) rfl rfl tf16 (by omega) ha11) rfl rfl rfl rfl (.refl _) (by rfl)
     ·rintro f M ⟨k0, k1, -⟩ -
      exact obg (L' := M) (v := .pointer (some (((ba va).add (i * 9) : Addr).add 8))) (up_cons (d := 53) (up_cons (d := 57) rfl k0) k1) (e_fieldAddr (a := (ba va).add (i * 9)) rfl tf18) rfl rfl rfl rfl (.refl _) (by rfl)
     ·rintro f M ⟨k0, k1, -⟩ -
      exact obg (L' := M) (v := .bool (x9.fixed)) (up_cons (d := 53) (up_cons (d := 58) rfl k0) k1) (e_load1 tf19 rfl (Knows.imp (kB hc13) (fun _ h => Cs.sub (vs := [.bool (x9.fixed)]) 8 h rfl))) rfl rfl rfl rfl (.refl _) (by rfl)
     ·rintro f M ⟨k0, k1, -⟩ -
      exact obg (L' := M) (v := .bool false) (up_cons (d := 53) (up_cons (d := 59) rfl k0) k1) ((ev_b (c := false) hg9 (e_not rfl))) rfl rfl rfl rfl (.refl _) (by rfl)
     ·rintro f M ⟨k0, k1, -⟩ -
      exact ob0 (up_cons (d := 60) (up_cons (d := 53) rfl k0) k1) rfl (e_pick_t rfl) (.refl _)
     ·rintro f M ⟨k0, -⟩ -
      exact ob0 (up_cons (d := 61) rfl k0) rfl e_move (.refl _)
     ·rintro f M ⟨k0, -⟩ ⟨i0, -⟩
      exact obs (up_cons (d := 62) (up_cons (d := 1) rfl i0) k0) rfl rfl rfl rfl (.refl _)
     ·rintro f M ⟨k0, k1, -⟩ -
      exact obs (up_cons (d := 62) (up_cons (d := 63) rfl k0) k1) rfl rfl rfl rfl (.refl _)
     ·rintro f M ⟨k0, -⟩ ⟨i0, -⟩
      exact obs (up_cons (d := 62) (up_cons (d := 8) rfl i0) k0) rfl rfl rfl rfl (.refl _)
     ·rintro f M ⟨k0, k1, k2, -⟩ -
      exact obs (up_cons (d := 62) (up_cons (d := 65) (up_cons (d := 64) rfl k0) k1) k2) rfl rfl rfl rfl (.refl _)
     ·rintro f M ⟨k0, k1, -⟩ -
      exact obs (up_cons (d := 62) (up_cons (d := 66) rfl k0) k1) rfl rfl rfl rfl (.refl _)
     ·rintro f M ⟨k0, k1, -⟩ -
      exact obs (up_cons (d := 62) (up_cons (d := 67) rfl k0) k1) rfl rfl rfl rfl (.refl _)
     ·rintro f M ⟨k0, k1, -⟩ -
      exact obs (up_cons (d := 62) (up_cons (d := 68) rfl k0) k1) rfl rfl rfl rfl (.refl _)
     ·rintro f M ⟨k0, k1, -⟩ -
      exact ob0 (up_cons (d := 69) (up_cons (d := 62) rfl k0) k1) rfl (e_pick_f rfl) (.refl _)
     ·rintro f M ⟨k0, -⟩ -
      exact ob0 (up_cons (d := 70) rfl k0) rfl e_move (.refl _)
     ·rintro f M ⟨k0, -⟩ ⟨i0, -⟩
      exact obs (up_cons (d := 71) (up_cons (d := 1) rfl i0) k0) rfl rfl rfl rfl (.refl _)
     ·rintro f M ⟨k0, -⟩ ⟨i0, -⟩
      exact obs (up_cons (d := 71) (up_cons (d := 1) rfl i0) k0) rfl rfl rfl rfl (.refl _)
     ·rintro f M ⟨k0, k1, -⟩ -
      exact obs (up_cons (d := 71) (up_cons (d := 73) rfl k0) k1) rfl rfl rfl rfl (.refl _)
     ·rintro f M ⟨k0, -⟩ ⟨i0, -⟩
      exact obs (up_cons (d := 71) (up_cons (d := 7) rfl i0) k0) rfl rfl rfl rfl (.refl _)
     ·rintro f M ⟨k0, k1, k2, -⟩ -
      exact obs (up_cons (d := 71) (up_cons (d := 75) (up_cons (d := 74) rfl k0) k1) k2) rfl rfl rfl rfl (.refl _)
     ·rintro f M ⟨k0, k1, -⟩ -
      exact obs (up_cons (d := 71) (up_cons (d := 76) rfl k0) k1) rfl rfl rfl rfl (.refl _)
     ·rintro f M ⟨k0, -⟩ ⟨i0, -⟩
      exact obs (up_cons (d := 71) (up_cons (d := 1) rfl i0) k0) rfl rfl rfl rfl (.refl _)
     ·rintro f M ⟨k0, k1, -⟩ -
      exact obs (up_cons (d := 71) (up_cons (d := 78) rfl k0) k1) rfl rfl rfl rfl (.refl _)
     ·rintro f M ⟨k0, -⟩ ⟨i0, -⟩
      exact obs (up_cons (d := 71) (up_cons (d := 8) rfl i0) k0) rfl rfl rfl rfl (.refl _)
     ·rintro f M ⟨k0, k1, k2, -⟩ -
      exact obs (up_cons (d := 71) (up_cons (d := 80) (up_cons (d := 79) rfl k0) k1) k2) rfl rfl rfl rfl (.refl _)
     ·rintro f M ⟨k0, k1, -⟩ -
      exact obs (up_cons (d := 71) (up_cons (d := 81) rfl k0) k1) rfl rfl rfl rfl (.refl _)
     ·rintro f M ⟨k0, k1, k2, k3, -⟩ -
      exact obs (up_cons (d := 71) (up_cons (d := 82) (up_cons (d := 77) (up_cons (d := 72) rfl k0) k1) k2) k3) rfl rfl rfl rfl (.refl _)
     ·rintro f M ⟨k0, k1, -⟩ -
      exact ob0 (up_cons (d := 83) (up_cons (d := 71) rfl k0) k1) rfl (e_pick_f rfl) (.refl _)
     ·rintro f M ⟨k0, k1, -⟩ -
      exact obv (L' := rowF BlF 4 (some ⟨b6, 0, none⟩) bs.length (rowT bs rs gx gy i k) :: M) (up_cons (d := 49) (up_cons (d := 48) rfl k0) k1) rfl (e_indexFlN 0 (F := BlF) (j := k) (m := bs.length) (xs := (rowT bs rs gx gy i k)) rfl (by omega) rfl tf103 (by omega) rfl) (perm_front 0 rfl) (by rfl)
     ·rintro f M ⟨k0, k1, -⟩ -
      refine ob_start (L' := rowF BlF 4 (some ⟨b6, 0, none⟩) bs.length (rowT bs rs gx gy i k) :: M) (by rfl) (up_cons (d := 84) (up_cons (d := 85) rfl k0) k1) ?_
      refine lu (m_storeFl 0 (F := BlF) (p := (some ⟨b6, 0, none⟩)) (k := k) (xs := (rowT bs rs gx gy i k)) (z := false) tf19 rfl rfl rfl rfl (by omega)) ?_
      refine l_nil ?_
      exact f_owes_n (up_cons (d := 84) (up_cons (d := 85) rfl k0) k1) trivial (perm_front 0 rfl)
     rintro fa10 ⟨-, -, -, -, -, -, -, -, -, -, -, -, -, -, -, -, -, -, -, -, -, -, -, -, -, -, -, -, -, -, -, -, -, -, -, -, -, -, -, -, -, -, -⟩ ⟨j0, j1, j2, j3, j4, j5, -⟩
     refine f_re (L' := [Sat (hv.map (ownV BlF 4)), rowF H3F 80 (some ⟨b4, 0, none⟩) bs.length (hdT1 hv (⟨(some ⟨b6, 0, none⟩), bs.length, bs.length⟩ : H3) bs.length), rowF IntF 3 (some ⟨b3, 0, none⟩) bs.length (numT bs.length (i + 1)), pt b1 (.cells #[sB va bs (vc), sB ua rs (uc), Ix (gx), Ix (gy)] 27), rowF BlF 4 (some ⟨b6, 0, none⟩) bs.length ((rowT bs rs gx gy i k).set k false)]) (by rfl) ?_
     refine f_rebase (d := 1) j0 ?_
     refine f_rebase (d := 4) j1 ?_
     refine f_rebase (d := 5) j2 ?_
     refine f_rebase (d := 6) j3 ?_
     refine f_rebase (d := 7) j4 ?_
     refine f_rebase (d := 8) j5 ?_
     refine f_block ?_
     refine f_then ?_
     refine c_region ?_
     refine lv (v := Nx (k)) e_move ?_
     refine lv (v := Nx (k + 1)) (e_add (a := ((k : Nat) : Int)) (b := (1 : Int)) rfl rfl (i64n (by omega) (by omega))) ?_
     refine lv (v := Nx (k + 1)) e_assign ?_
     refine l_nil ?_
     refine f_perm (L' := [rowF BlF 4 (some ⟨b6, 0, none⟩) bs.length ((rowT bs rs gx gy i k).set k false), Sat (hv.map (ownV BlF 4)), rowF H3F 80 (some ⟨b4, 0, none⟩) bs.length (hdT1 hv (⟨(some ⟨b6, 0, none⟩), bs.length, bs.length⟩ : H3) bs.length), rowF IntF 3 (some ⟨b3, 0, none⟩) bs.length (numT bs.length (i + 1)), pt b1 (.cells #[sB va bs (vc), sB ua rs (uc), Ix (gx), Ix (gy)] 27)]) (perm_ix [4, 0, 1, 2, 3] 5 rfl (by kernel_rfl) (by kernel_rfl)) ?_
     exact f_cut ⟨k + 1, ⟨⟨rfl, rfl, rfl, rfl, rfl, rfl⟩, by rw [rowT_set (by omega) (lnk_f1 hx10 (by simpa using hg9))], by omega⟩, (show bs.length - (k + 1) < bs.length - k from by omega)⟩
    obtain ⟨x11, hx12⟩ : ∃ x_, (bs)[k]? = some x_ := ⟨_, List.getElem?_eq_getElem (by omega)⟩
    obtain ⟨ha13, cs14, hc15, rfl⟩ := ve _ _ hx12
    cases hg11 : !x11.fixed
    ·refine c_any [⟨[], [], [0], [45], fun f => f 45 = sB (some ⟨b4, 0, none⟩) bs bs.length⟩, ⟨[], [], [1], [46], fun f => f 46 = Nx (i)⟩, ⟨[0, 1], [0, 1], [], [47], fun f => f 47 = .pointer (some ((ba (some ⟨b4, 0, none⟩)).add (i * 1)))⟩, ⟨[0, 1, 2], [2], [], [48], fun f => f 48 = sB (some ⟨b6, 0, none⟩) bs bs.length⟩, ⟨[], [], [2], [49], fun f => f 49 = Nx (k)⟩, ⟨[], [], [1], [50], fun f => f 50 = Nx (i)⟩, ⟨[], [], [2], [51], fun f => f 51 = Nx (k)⟩, ⟨[5, 6], [5, 6], [], [52], fun f => f 52 = .bool true⟩, ⟨[5, 6, 7], [7], [], [53], fun f => f 53 = .bool true⟩, ⟨[5, 6, 7, 8], [8], [3], [54], fun f => f 54 = pp b1 0⟩, ⟨[5, 6, 7, 8, 9], [9, 8], [], [55], fun f => f 55 = sB va bs (vc)⟩, ⟨[5, 6, 7, 8], [8], [1], [56], fun f => f 56 = Nx (i)⟩, ⟨[5, 6, 7, 8, 9, 10, 11], [10, 11, 8], [], [57], fun f => f 57 = .pointer (some ((ba va).add (i * 9)))⟩, ⟨[5, 6, 7, 8, 9, 10, 11, 12], [12, 8], [], [58], fun f => f 58 = .pointer (some (((ba va).add (i * 9) : Addr).add 8))⟩, ⟨[5, 6, 7, 8, 9, 10, 11, 12, 13], [13, 8], [], [59], fun f => f 59 = .bool (x9.fixed)⟩, ⟨[5, 6, 7, 8, 9, 10, 11, 12, 13, 14], [14, 8], [], [60], fun f => f 60 = .bool true⟩, ⟨[5, 6, 7, 8, 9, 10, 11, 12, 13, 14, 15], [8, 15], [], [61], fun f => f 61 = .bool true⟩, ⟨[5, 6, 7, 8, 9, 10, 11, 12, 13, 14, 15, 16], [16], [], [62], fun f => f 62 = .bool true⟩, ⟨[5, 6, 7, 8, 9, 10, 11, 12, 13, 14, 15, 16, 17], [17], [3], [63], fun f => f 63 = pp b1 0⟩, ⟨[5, 6, 7, 8, 9, 10, 11, 12, 13, 14, 15, 16, 17, 18], [18, 17], [], [64], fun f => f 64 = sB va bs (vc)⟩, ⟨[5, 6, 7, 8, 9, 10, 11, 12, 13, 14, 15, 16, 17], [17], [2], [65], fun f => f 65 = Nx (k)⟩, ⟨[5, 6, 7, 8, 9, 10, 11, 12, 13, 14, 15, 16, 17, 18, 19, 20], [19, 20, 17], [], [66], fun f => f 66 = .pointer (some ((ba va).add (k * 9)))⟩, ⟨[5, 6, 7, 8, 9, 10, 11, 12, 13, 14, 15, 16, 17, 18, 19, 20, 21], [21, 17], [], [67], fun f => f 67 = .pointer (some (((ba va).add (k * 9) : Addr).add 8))⟩, ⟨[5, 6, 7, 8, 9, 10, 11, 12, 13, 14, 15, 16, 17, 18, 19, 20, 21, 22], [22, 17], [], [68], fun f => f 68 = .bool (x11.fixed)⟩, ⟨[5, 6, 7, 8, 9, 10, 11, 12, 13, 14, 15, 16, 17, 18, 19, 20, 21, 22, 23], [23, 17], [], [69], fun f => f 69 = .bool false⟩, ⟨[5, 6, 7, 8, 9, 10, 11, 12, 13, 14, 15, 16, 17, 18, 19, 20, 21, 22, 23, 24], [17, 24], [], [70], fun f => f 70 = .bool false⟩, ⟨[5, 6, 7, 8, 9, 10, 11, 12, 13, 14, 15, 16, 17, 18, 19, 20, 21, 22, 23, 24, 25], [25], [], [71], fun f => f 71 = .bool false⟩, ⟨[5, 6, 7, 8, 9, 10, 11, 12, 13, 14, 15, 16, 17, 18, 19, 20, 21, 22, 23, 24, 25, 26], [26], [3], [72], fun f => f 72 = undef⟩, ⟨[5, 6, 7, 8, 9, 10, 11, 12, 13, 14, 15, 16, 17, 18, 19, 20, 21, 22, 23, 24, 25, 26], [26], [3], [73], fun f => f 73 = undef⟩, ⟨[5, 6, 7, 8, 9, 10, 11, 12, 13, 14, 15, 16, 17, 18, 19, 20, 21, 22, 23, 24, 25, 26, 28], [28, 26], [], [74], fun f => f 74 = undef⟩, ⟨[5, 6, 7, 8, 9, 10, 11, 12, 13, 14, 15, 16, 17, 18, 19, 20, 21, 22, 23, 24, 25, 26], [26], [1], [75], fun f => f 75 = undef⟩, ⟨[5, 6, 7, 8, 9, 10, 11, 12, 13, 14, 15, 16, 17, 18, 19, 20, 21, 22, 23, 24, 25, 26, 28, 29, 30], [29, 30, 26], [], [76], fun f => f 76 = undef⟩, ⟨[5, 6, 7, 8, 9, 10, 11, 12, 13, 14, 15, 16, 17, 18, 19, 20, 21, 22, 23, 24, 25, 26, 28, 29, 30, 31], [31, 26], [], [77], fun f => f 77 = undef⟩, ⟨[5, 6, 7, 8, 9, 10, 11, 12, 13, 14, 15, 16, 17, 18, 19, 20, 21, 22, 23, 24, 25, 26], [26], [3], [78], fun f => f 78 = undef⟩, ⟨[5, 6, 7, 8, 9, 10, 11, 12, 13, 14, 15, 16, 17, 18, 19, 20, 21, 22, 23, 24, 25, 26, 33], [33, 26], [], [79], fun f => f 79 = undef⟩, ⟨[5, 6, 7, 8, 9, 10, 11, 12, 13, 14, 15, 16, 17, 18, 19, 20, 21, 22, 23, 24, 25, 26], [26], [2], [80], fun f => f 80 = undef⟩, ⟨[5, 6, 7, 8, 9, 10, 11, 12, 13, 14, 15, 16, 17, 18, 19, 20, 21, 22, 23, 24, 25, 26, 33, 34, 35], [34, 35, 26], [], [81], fun f => f 81 = undef⟩, ⟨[5, 6, 7, 8, 9, 10, 11, 12, 13, 14, 15, 16, 17, 18, 19, 20, 21, 22, 23, 24, 25, 26, 33, 34, 35, 36], [36, 26], [], [82], fun f => f 82 = undef⟩, ⟨[5, 6, 7, 8, 9, 10, 11, 12, 13, 14, 15, 16, 17, 18, 19, 20, 21, 22, 23, 24, 25, 26, 27, 28, 29, 30, 31, 32, 33, 34, 35, 36, 37], [27, 32, 37, 26], [], [83], fun f => f 83 = undef⟩, ⟨[5, 6, 7, 8, 9, 10, 11, 12, 13, 14, 15, 16, 17, 18, 19, 20, 21, 22, 23, 24, 25, 26, 27, 28, 29, 30, 31, 32, 33, 34, 35, 36, 37, 38], [26, 38], [], [84], fun f => f 84 = .bool false⟩, ⟨(List.range 40), [3, 4], [], [85], fun f => f 85 = .pointer (some ((ba (some ⟨b6, 0, none⟩)).add (k * 1)))⟩, ⟨(List.range 41), [40, 39], [], [], fun _ => True⟩] [⟨none, (some 41), [40, 41], [], fun _ => rowF BlF 4 (some ⟨b6, 0, none⟩) bs.length (rowT bs rs gx gy i k)⟩, ⟨none, none, [], [], fun _ => Sat (hv.map (ownV BlF 4))⟩, ⟨none, none, [2, 3], [], fun _ => rowF H3F 80 (some ⟨b4, 0, none⟩) bs.length (hdT1 hv (⟨(some ⟨b6, 0, none⟩), bs.length, bs.length⟩ : H3) bs.length)⟩, ⟨none, none, [], [], fun _ => rowF IntF 3 (some ⟨b3, 0, none⟩) bs.length (numT bs.length (i + 1))⟩, ⟨none, none, [10, 19], [], fun _ => pt b1 (.cells #[sB va bs (vc), sB ua rs (uc), Ix (gx), Ix (gy)] 27)⟩, ⟨(some 41), none, [], [], fun _ => rowF BlF 4 (some ⟨b6, 0, none⟩) bs.length ((rowT bs rs gx gy i k).set k false)⟩] [(6, sB (some ⟨b4, 0, none⟩) bs bs.length), (7, Nx (i)), (8, Nx (k)), (1, pp b1 0), (4, Nx (bs.length)), (5, sB (some ⟨b3, 0, none⟩) bs bs.length)] [3, 4, 5, 0, 1, 2] [] (by kernel_rfl) (by kernel_rfl) (by kernel_rfl) (by kernel_rfl) rfl ⟨rfl, rfl, rfl, rfl, rfl, rfl, trivial⟩ ⟨?_, ?_, ?_, ?_, ?_, ?_, ?_, ?_, ?_, ?_, ?_, ?_, ?_, ?_, ?_, ?_, ?_, ?_, ?_, ?_, ?_, ?_, ?_, ?_, ?_, ?_, ?_, ?_, ?_, ?_, ?_, ?_, ?_, ?_, ?_, ?_, ?_, ?_, ?_, ?_, ?_, ?_, trivial⟩ ?_
     ·rintro f M - ⟨i0, -⟩
      exact ob0 (up_cons (d := 6) rfl i0) rfl e_move (.refl _)
     ·rintro f M - ⟨i0, -⟩
      exact ob0 (up_cons (d := 7) rfl i0) rfl e_move (.refl _)
     ·rintro f M ⟨k0, k1, -⟩ -
      exact obv (L' := rowF H3F 80 (some ⟨b4, 0, none⟩) bs.length (hdT1 hv (⟨(some ⟨b6, 0, none⟩), bs.length, bs.length⟩ : H3) bs.length) :: M) (up_cons (d := 46) (up_cons (d := 45) rfl k0) k1) rfl (e_indexFlN 0 (F := H3F) (j := i) (m := bs.length) (xs := (hdT1 hv (⟨(some ⟨b6, 0, none⟩), bs.length, bs.length⟩ : H3) bs.length)) rfl (by omega) rfl tf100 (by omega) rfl) (perm_front 0 rfl) (by rfl)
     ·rintro f M ⟨k0, -⟩ -
      exact obv (L' := rowF H3F 80 (some ⟨b4, 0, none⟩) bs.length (hdT1 hv (⟨(some ⟨b6, 0, none⟩), bs.length, bs.length⟩ : H3) bs.length) :: M) (up_cons (d := 47) rfl k0) rfl (e_load1 tf106 rfl (k_flAt 0 (F := H3F) rfl hgx)) (perm_front 0 rfl) (by rfl)
     ·rintro f M - ⟨i0, -⟩
      exact ob0 (up_cons (d := 8) rfl i0) rfl e_move (.refl _)
     ·rintro f M - ⟨i0, -⟩
      exact ob0 (up_cons (d := 7) rfl i0) rfl e_move (.refl _)
     ·rintro f M - ⟨i0, -⟩
      exact ob0 (up_cons (d := 8) rfl i0) rfl e_move (.refl _)
     ·rintro f M ⟨k0, k1, -⟩ -
      exact ob0 (up_cons (d := 51) (up_cons (d := 50) rfl k0) k1) rfl ((ev_t hg8 (e_neq (a := ((i : Nat) : Int)) (b := ((k : Nat) : Int)) rfl rfl))) (.refl _)
     ·rintro f M ⟨k0, -⟩ -
      exact ob0 (up_cons (d := 52) rfl k0) rfl e_move (.refl _)
     ·rintro f M ⟨k0, -⟩ ⟨i0, -⟩
      exact obg (L' := M) (v := pp b1 0) (up_cons (d := 53) (up_cons (d := 1) rfl i0) k0) (e_fieldPt rfl tf33) rfl rfl rfl rfl (.refl _) (by rfl)
     ·rintro f M ⟨k0, k1, -⟩ -
      exact obg (L' := pt b1 (.cells #[sB va bs (vc), sB ua rs (uc), Ix (gx), Ix (gy)] 27) :: M) (v := sB va bs (vc)) (up_cons (d := 53) (up_cons (d := 54) rfl k0) k1) (e_load1 tf26 rfl (k_pt 0 rfl rfl)) rfl rfl rfl rfl (perm_front 0 rfl) (by rfl)
     ·rintro f M ⟨k0, -⟩ ⟨i0, -⟩
      exact obg (L' := M) (v := Nx (i)) (up_cons (d := 53) (up_cons (d := 7) rfl i0) k0) e_move rfl rfl rfl rfl (.refl _) (by rfl)
     ·rintro f M ⟨k0, k1, k2, -⟩ -
      exact obg (L' := M) (v := .pointer (some ((ba va).add (i * 9)))) (up_cons (d := 53) (up_cons (d := 56) (up_cons (d := 55) rfl k0) k1) k2) (e_indexAddr (k := i) (len := bs.length) (cap := vc) (a := va) rfl rfl tf16 (by omega) ha11) rfl rfl rfl rfl (.refl _) (by rfl)
     ·rintro f M ⟨k0, k1, -⟩ -
      exact obg (L' := M) (v := .pointer (some (((ba va).add (i * 9) : Addr).add 8))) (up_cons (d := 53) (up_cons (d := 57) rfl k0) k1) (e_fieldAddr (a := (ba va).add (i * 9)) rfl tf18) rfl rfl rfl rfl (.refl _) (by rfl)
     ·rintro f M ⟨k0, k1, -⟩ -
      exact obg (L' := M) (v := .bool (x9.fixed)) (up_cons (d := 53) (up_cons (d := 58) rfl k0) k1) (e_load1 tf19 rfl (Knows.imp (kB hc13) (fun _ h => Cs.sub (vs := [.bool (x9.fixed)]) 8 h rfl))) rfl rfl rfl rfl (.refl _) (by rfl)
     ·rintro f M ⟨k0, k1, -⟩ -
      exact obg (L' := M) (v := .bool true) (up_cons (d := 53) (up_cons (d := 59) rfl k0) k1) ((ev_b (c := true) hg9 (e_not rfl))) rfl rfl rfl rfl (.refl _) (by rfl)
     ·rintro f M ⟨k0, k1, -⟩ -
      exact ob0 (up_cons (d := 60) (up_cons (d := 53) rfl k0) k1) rfl (e_pick_t rfl) (.refl _)
     ·rintro f M ⟨k0, -⟩ -
      exact ob0 (up_cons (d := 61) rfl k0) rfl e_move (.refl _)
     ·rintro f M ⟨k0, -⟩ ⟨i0, -⟩
      exact obg (L' := M) (v := pp b1 0) (up_cons (d := 62) (up_cons (d := 1) rfl i0) k0) (e_fieldPt rfl tf33) rfl rfl rfl rfl (.refl _) (by rfl)
     ·rintro f M ⟨k0, k1, -⟩ -
      exact obg (L' := pt b1 (.cells #[sB va bs (vc), sB ua rs (uc), Ix (gx), Ix (gy)] 27) :: M) (v := sB va bs (vc)) (up_cons (d := 62) (up_cons (d := 63) rfl k0) k1) (e_load1 tf26 rfl (k_pt 0 rfl rfl)) rfl rfl rfl rfl (perm_front 0 rfl) (by rfl)
     ·rintro f M ⟨k0, -⟩ ⟨i0, -⟩
      exact obg (L' := M) (v := Nx (k)) (up_cons (d := 62) (up_cons (d := 8) rfl i0) k0) e_move rfl rfl rfl rfl (.refl _) (by rfl)
     ·rintro f M ⟨k0, k1, k2, -⟩ -
      exact obg (L' := M) (v := .pointer (some ((ba va).add (k * 9)))) (up_cons (d := 62) (up_cons (d := 65) (up_cons (d := 64) rfl k0) k1) k2) (e_indexAddr (k := k) (len := bs.length) (cap := vc) (a := va) rfl rfl tf16 (by omega) ha13) rfl rfl rfl rfl (.refl _) (by rfl)
     ·rintro f M ⟨k0, k1, -⟩ -
      exact obg (L' := M) (v := .pointer (some (((ba va).add (k * 9) : Addr).add 8))) (up_cons (d := 62) (up_cons (d := 66) rfl k0) k1) (e_fieldAddr (a := (ba va).add (k * 9)) rfl tf18) rfl rfl rfl rfl (.refl _) (by rfl)
     ·rintro f M ⟨k0, k1, -⟩ -
      exact obg (L' := M) (v := .bool (x11.fixed)) (up_cons (d := 62) (up_cons (d := 67) rfl k0) k1) (e_load1 tf19 rfl (Knows.imp (kB hc15) (fun _ h => Cs.sub (vs := [.bool (x11.fixed)]) 8 h rfl))) rfl rfl rfl rfl (.refl _) (by rfl)
     ·rintro f M ⟨k0, k1, -⟩ -
      exact obg (L' := M) (v := .bool false) (up_cons (d := 62) (up_cons (d := 68) rfl k0) k1) ((ev_b (c := false) hg11 (e_not rfl))) rfl rfl rfl rfl (.refl _) (by rfl)
     ·rintro f M ⟨k0, k1, -⟩ -
      exact ob0 (up_cons (d := 69) (up_cons (d := 62) rfl k0) k1) rfl (e_pick_t rfl) (.refl _)
     ·rintro f M ⟨k0, -⟩ -
      exact ob0 (up_cons (d := 70) rfl k0) rfl e_move (.refl _)
     ·rintro f M ⟨k0, -⟩ ⟨i0, -⟩
      exact obs (up_cons (d := 71) (up_cons (d := 1) rfl i0) k0) rfl rfl rfl rfl (.refl _)
     ·rintro f M ⟨k0, -⟩ ⟨i0, -⟩
      exact obs (up_cons (d := 71) (up_cons (d := 1) rfl i0) k0) rfl rfl rfl rfl (.refl _)
     ·rintro f M ⟨k0, k1, -⟩ -
      exact obs (up_cons (d := 71) (up_cons (d := 73) rfl k0) k1) rfl rfl rfl rfl (.refl _)
     ·rintro f M ⟨k0, -⟩ ⟨i0, -⟩
      exact obs (up_cons (d := 71) (up_cons (d := 7) rfl i0) k0) rfl rfl rfl rfl (.refl _)
     ·rintro f M ⟨k0, k1, k2, -⟩ -
      exact obs (up_cons (d := 71) (up_cons (d := 75) (up_cons (d := 74) rfl k0) k1) k2) rfl rfl rfl rfl (.refl _)
     ·rintro f M ⟨k0, k1, -⟩ -
      exact obs (up_cons (d := 71) (up_cons (d := 76) rfl k0) k1) rfl rfl rfl rfl (.refl _)
     ·rintro f M ⟨k0, -⟩ ⟨i0, -⟩
      exact obs (up_cons (d := 71) (up_cons (d := 1) rfl i0) k0) rfl rfl rfl rfl (.refl _)
     ·rintro f M ⟨k0, k1, -⟩ -
      exact obs (up_cons (d := 71) (up_cons (d := 78) rfl k0) k1) rfl rfl rfl rfl (.refl _)
     ·rintro f M ⟨k0, -⟩ ⟨i0, -⟩
      exact obs (up_cons (d := 71) (up_cons (d := 8) rfl i0) k0) rfl rfl rfl rfl (.refl _)
     ·rintro f M ⟨k0, k1, k2, -⟩ -
      exact obs (up_cons (d := 71) (up_cons (d := 80) (up_cons (d := 79) rfl k0) k1) k2) rfl rfl rfl rfl (.refl _)
     ·rintro f M ⟨k0, k1, -⟩ -
      exact obs (up_cons (d := 71) (up_cons (d := 81) rfl k0) k1) rfl rfl rfl rfl (.refl _)
     ·rintro f M ⟨k0, k1, k2, k3, -⟩ -
      exact obs (up_cons (d := 71) (up_cons (d := 82) (up_cons (d := 77) (up_cons (d := 72) rfl k0) k1) k2) k3) rfl rfl rfl rfl (.refl _)
     ·rintro f M ⟨k0, k1, -⟩ -
      exact ob0 (up_cons (d := 83) (up_cons (d := 71) rfl k0) k1) rfl (e_pick_f rfl) (.refl _)
     ·rintro f M ⟨k0, k1, -⟩ -
      exact obv (L' := rowF BlF 4 (some ⟨b6, 0, none⟩) bs.length (rowT bs rs gx gy i k) :: M) (up_cons (d := 49) (up_cons (d := 48) rfl k0) k1) rfl (e_indexFlN 0 (F := BlF) (j := k) (m := bs.length) (xs := (rowT bs rs gx gy i k)) rfl (by omega) rfl tf103 (by omega) rfl) (perm_front 0 rfl) (by rfl)
     ·rintro f M ⟨k0, k1, -⟩ -
      refine ob_start (L' := rowF BlF 4 (some ⟨b6, 0, none⟩) bs.length (rowT bs rs gx gy i k) :: M) (by rfl) (up_cons (d := 84) (up_cons (d := 85) rfl k0) k1) ?_
      refine lu (m_storeFl 0 (F := BlF) (p := (some ⟨b6, 0, none⟩)) (k := k) (xs := (rowT bs rs gx gy i k)) (z := false) tf19 rfl rfl rfl rfl (by omega)) ?_
      refine l_nil ?_
      exact f_owes_n (up_cons (d := 84) (up_cons (d := 85) rfl k0) k1) trivial (perm_front 0 rfl)
     rintro fa12 ⟨-, -, -, -, -, -, -, -, -, -, -, -, -, -, -, -, -, -, -, -, -, -, -, -, -, -, -, -, -, -, -, -, -, -, -, -, -, -, -, -, -, -, -⟩ ⟨j0, j1, j2, j3, j4, j5, -⟩
     refine f_re (L' := [Sat (hv.map (ownV BlF 4)), rowF H3F 80 (some ⟨b4, 0, none⟩) bs.length (hdT1 hv (⟨(some ⟨b6, 0, none⟩), bs.length, bs.length⟩ : H3) bs.length), rowF IntF 3 (some ⟨b3, 0, none⟩) bs.length (numT bs.length (i + 1)), pt b1 (.cells #[sB va bs (vc), sB ua rs (uc), Ix (gx), Ix (gy)] 27), rowF BlF 4 (some ⟨b6, 0, none⟩) bs.length ((rowT bs rs gx gy i k).set k false)]) (by rfl) ?_
     refine f_rebase (d := 1) j0 ?_
     refine f_rebase (d := 4) j1 ?_
     refine f_rebase (d := 5) j2 ?_
     refine f_rebase (d := 6) j3 ?_
     refine f_rebase (d := 7) j4 ?_
     refine f_rebase (d := 8) j5 ?_
     refine f_block ?_
     refine f_then ?_
     refine c_region ?_
     refine lv (v := Nx (k)) e_move ?_
     refine lv (v := Nx (k + 1)) (e_add (a := ((k : Nat) : Int)) (b := (1 : Int)) rfl rfl (i64n (by omega) (by omega))) ?_
     refine lv (v := Nx (k + 1)) e_assign ?_
     refine l_nil ?_
     refine f_perm (L' := [rowF BlF 4 (some ⟨b6, 0, none⟩) bs.length ((rowT bs rs gx gy i k).set k false), Sat (hv.map (ownV BlF 4)), rowF H3F 80 (some ⟨b4, 0, none⟩) bs.length (hdT1 hv (⟨(some ⟨b6, 0, none⟩), bs.length, bs.length⟩ : H3) bs.length), rowF IntF 3 (some ⟨b3, 0, none⟩) bs.length (numT bs.length (i + 1)), pt b1 (.cells #[sB va bs (vc), sB ua rs (uc), Ix (gx), Ix (gy)] 27)]) (perm_ix [4, 0, 1, 2, 3] 5 rfl (by kernel_rfl) (by kernel_rfl)) ?_
     exact f_cut ⟨k + 1, ⟨⟨rfl, rfl, rfl, rfl, rfl, rfl⟩, by rw [rowT_set (by omega) (lnk_f2 hx12 (by simpa using hg11))], by omega⟩, (show bs.length - (k + 1) < bs.length - k from by omega)⟩
    refine c_any [⟨[], [], [0], [45], fun f => f 45 = sB (some ⟨b4, 0, none⟩) bs bs.length⟩, ⟨[], [], [1], [46], fun f => f 46 = Nx (i)⟩, ⟨[0, 1], [0, 1], [], [47], fun f => f 47 = .pointer (some ((ba (some ⟨b4, 0, none⟩)).add (i * 1)))⟩, ⟨[0, 1, 2], [2], [], [48], fun f => f 48 = sB (some ⟨b6, 0, none⟩) bs bs.length⟩, ⟨[], [], [2], [49], fun f => f 49 = Nx (k)⟩, ⟨[], [], [1], [50], fun f => f 50 = Nx (i)⟩, ⟨[], [], [2], [51], fun f => f 51 = Nx (k)⟩, ⟨[5, 6], [5, 6], [], [52], fun f => f 52 = .bool true⟩, ⟨[5, 6, 7], [7], [], [53], fun f => f 53 = .bool true⟩, ⟨[5, 6, 7, 8], [8], [3], [54], fun f => f 54 = pp b1 0⟩, ⟨[5, 6, 7, 8, 9], [9, 8], [], [55], fun f => f 55 = sB va bs (vc)⟩, ⟨[5, 6, 7, 8], [8], [1], [56], fun f => f 56 = Nx (i)⟩, ⟨[5, 6, 7, 8, 9, 10, 11], [10, 11, 8], [], [57], fun f => f 57 = .pointer (some ((ba va).add (i * 9)))⟩, ⟨[5, 6, 7, 8, 9, 10, 11, 12], [12, 8], [], [58], fun f => f 58 = .pointer (some (((ba va).add (i * 9) : Addr).add 8))⟩, ⟨[5, 6, 7, 8, 9, 10, 11, 12, 13], [13, 8], [], [59], fun f => f 59 = .bool (x9.fixed)⟩, ⟨[5, 6, 7, 8, 9, 10, 11, 12, 13, 14], [14, 8], [], [60], fun f => f 60 = .bool true⟩, ⟨[5, 6, 7, 8, 9, 10, 11, 12, 13, 14, 15], [8, 15], [], [61], fun f => f 61 = .bool true⟩, ⟨[5, 6, 7, 8, 9, 10, 11, 12, 13, 14, 15, 16], [16], [], [62], fun f => f 62 = .bool true⟩, ⟨[5, 6, 7, 8, 9, 10, 11, 12, 13, 14, 15, 16, 17], [17], [3], [63], fun f => f 63 = pp b1 0⟩, ⟨[5, 6, 7, 8, 9, 10, 11, 12, 13, 14, 15, 16, 17, 18], [18, 17], [], [64], fun f => f 64 = sB va bs (vc)⟩, ⟨[5, 6, 7, 8, 9, 10, 11, 12, 13, 14, 15, 16, 17], [17], [2], [65], fun f => f 65 = Nx (k)⟩, ⟨[5, 6, 7, 8, 9, 10, 11, 12, 13, 14, 15, 16, 17, 18, 19, 20], [19, 20, 17], [], [66], fun f => f 66 = .pointer (some ((ba va).add (k * 9)))⟩, ⟨[5, 6, 7, 8, 9, 10, 11, 12, 13, 14, 15, 16, 17, 18, 19, 20, 21], [21, 17], [], [67], fun f => f 67 = .pointer (some (((ba va).add (k * 9) : Addr).add 8))⟩, ⟨[5, 6, 7, 8, 9, 10, 11, 12, 13, 14, 15, 16, 17, 18, 19, 20, 21, 22], [22, 17], [], [68], fun f => f 68 = .bool (x11.fixed)⟩, ⟨[5, 6, 7, 8, 9, 10, 11, 12, 13, 14, 15, 16, 17, 18, 19, 20, 21, 22, 23], [23, 17], [], [69], fun f => f 69 = .bool true⟩, ⟨[5, 6, 7, 8, 9, 10, 11, 12, 13, 14, 15, 16, 17, 18, 19, 20, 21, 22, 23, 24], [17, 24], [], [70], fun f => f 70 = .bool true⟩, ⟨[5, 6, 7, 8, 9, 10, 11, 12, 13, 14, 15, 16, 17, 18, 19, 20, 21, 22, 23, 24, 25], [25], [], [71], fun f => f 71 = .bool true⟩, ⟨[5, 6, 7, 8, 9, 10, 11, 12, 13, 14, 15, 16, 17, 18, 19, 20, 21, 22, 23, 24, 25, 26], [26], [3], [72], fun f => f 72 = .agg #[sB va bs (vc), sB ua rs (uc), Ix (gx), Ix (gy)]⟩, ⟨[5, 6, 7, 8, 9, 10, 11, 12, 13, 14, 15, 16, 17, 18, 19, 20, 21, 22, 23, 24, 25, 26], [26], [3], [73], fun f => f 73 = pp b1 0⟩, ⟨[5, 6, 7, 8, 9, 10, 11, 12, 13, 14, 15, 16, 17, 18, 19, 20, 21, 22, 23, 24, 25, 26, 28], [28, 26], [], [74], fun f => f 74 = sB va bs (vc)⟩, ⟨[5, 6, 7, 8, 9, 10, 11, 12, 13, 14, 15, 16, 17, 18, 19, 20, 21, 22, 23, 24, 25, 26], [26], [1], [75], fun f => f 75 = Nx (i)⟩, ⟨[5, 6, 7, 8, 9, 10, 11, 12, 13, 14, 15, 16, 17, 18, 19, 20, 21, 22, 23, 24, 25, 26, 28, 29, 30], [29, 30, 26], [], [76], fun f => f 76 = .pointer (some ((ba va).add (i * 9)))⟩, ⟨[5, 6, 7, 8, 9, 10, 11, 12, 13, 14, 15, 16, 17, 18, 19, 20, 21, 22, 23, 24, 25, 26, 28, 29, 30, 31], [31, 26], [], [77], fun f => f 77 = .agg (bC x9)⟩, ⟨[5, 6, 7, 8, 9, 10, 11, 12, 13, 14, 15, 16, 17, 18, 19, 20, 21, 22, 23, 24, 25, 26], [26], [3], [78], fun f => f 78 = pp b1 0⟩, ⟨[5, 6, 7, 8, 9, 10, 11, 12, 13, 14, 15, 16, 17, 18, 19, 20, 21, 22, 23, 24, 25, 26, 33], [33, 26], [], [79], fun f => f 79 = sB va bs (vc)⟩, ⟨[5, 6, 7, 8, 9, 10, 11, 12, 13, 14, 15, 16, 17, 18, 19, 20, 21, 22, 23, 24, 25, 26], [26], [2], [80], fun f => f 80 = Nx (k)⟩, ⟨[5, 6, 7, 8, 9, 10, 11, 12, 13, 14, 15, 16, 17, 18, 19, 20, 21, 22, 23, 24, 25, 26, 33, 34, 35], [34, 35, 26], [], [81], fun f => f 81 = .pointer (some ((ba va).add (k * 9)))⟩, ⟨[5, 6, 7, 8, 9, 10, 11, 12, 13, 14, 15, 16, 17, 18, 19, 20, 21, 22, 23, 24, 25, 26, 33, 34, 35, 36], [36, 26], [], [82], fun f => f 82 = .agg (bC x11)⟩, ⟨[5, 6, 7, 8, 9, 10, 11, 12, 13, 14, 15, 16, 17, 18, 19, 20, 21, 22, 23, 24, 25, 26, 27, 28, 29, 30, 31, 32, 33, 34, 35, 36, 37], [27, 32, 37, 26], [], [83], fun f => f 83 = .bool (decide (lkP rs gx gy x9 x11))⟩, ⟨[5, 6, 7, 8, 9, 10, 11, 12, 13, 14, 15, 16, 17, 18, 19, 20, 21, 22, 23, 24, 25, 26, 27, 28, 29, 30, 31, 32, 33, 34, 35, 36, 37, 38], [26, 38], [], [84], fun f => f 84 = .bool (decide (lkP rs gx gy x9 x11))⟩, ⟨(List.range 40), [3, 4], [], [85], fun f => f 85 = .pointer (some ((ba (some ⟨b6, 0, none⟩)).add (k * 1)))⟩, ⟨(List.range 41), [40, 39], [], [], fun _ => True⟩] [⟨none, (some 41), [40, 41], [], fun _ => rowF BlF 4 (some ⟨b6, 0, none⟩) bs.length (rowT bs rs gx gy i k)⟩, ⟨none, none, [], [], fun _ => Sat (hv.map (ownV BlF 4))⟩, ⟨none, none, [2, 3], [], fun _ => rowF H3F 80 (some ⟨b4, 0, none⟩) bs.length (hdT1 hv (⟨(some ⟨b6, 0, none⟩), bs.length, bs.length⟩ : H3) bs.length)⟩, ⟨none, none, [], [], fun _ => rowF IntF 3 (some ⟨b3, 0, none⟩) bs.length (numT bs.length (i + 1))⟩, ⟨none, none, [10, 19, 27, 29, 34], [], fun _ => pt b1 (.cells #[sB va bs (vc), sB ua rs (uc), Ix (gx), Ix (gy)] 27)⟩, ⟨(some 41), none, [], [], fun _ => rowF BlF 4 (some ⟨b6, 0, none⟩) bs.length ((rowT bs rs gx gy i k).set k (decide (lkP rs gx gy x9 x11)))⟩] [(6, sB (some ⟨b4, 0, none⟩) bs bs.length), (7, Nx (i)), (8, Nx (k)), (1, pp b1 0), (4, Nx (bs.length)), (5, sB (some ⟨b3, 0, none⟩) bs bs.length)] [3, 4, 5, 0, 1, 2] [] (by kernel_rfl) (by kernel_rfl) (by kernel_rfl) (by kernel_rfl) rfl ⟨rfl, rfl, rfl, rfl, rfl, rfl, trivial⟩ ⟨?_, ?_, ?_, ?_, ?_, ?_, ?_, ?_, ?_, ?_, ?_, ?_, ?_, ?_, ?_, ?_, ?_, ?_, ?_, ?_, ?_, ?_, ?_, ?_, ?_, ?_, ?_, ?_, ?_, ?_, ?_, ?_, ?_, ?_, ?_, ?_, ?_, ?_, ?_, ?_, ?_, ?_, trivial⟩ ?_
    ·rintro f M - ⟨i0, -⟩
     exact ob0 (up_cons (d := 6) rfl i0) rfl e_move (.refl _)
    ·rintro f M - ⟨i0, -⟩
     exact ob0 (up_cons (d := 7) rfl i0) rfl e_move (.refl _)
    ·rintro f M ⟨k0, k1, -⟩ -
     exact obv (L' := rowF H3F 80 (some ⟨b4, 0, none⟩) bs.length (hdT1 hv (⟨(some ⟨b6, 0, none⟩), bs.length, bs.length⟩ : H3) bs.length) :: M) (up_cons (d := 46) (up_cons (d := 45) rfl k0) k1) rfl (e_indexFlN 0 (F := H3F) (j := i) (m := bs.length) (xs := (hdT1 hv (⟨(some ⟨b6, 0, none⟩), bs.length, bs.length⟩ : H3) bs.length)) rfl (by omega) rfl tf100 (by omega) rfl) (perm_front 0 rfl) (by rfl)
    ·rintro f M ⟨k0, -⟩ -
     exact obv (L' := rowF H3F 80 (some ⟨b4, 0, none⟩) bs.length (hdT1 hv (⟨(some ⟨b6, 0, none⟩), bs.length, bs.length⟩ : H3) bs.length) :: M) (up_cons (d := 47) rfl k0) rfl (e_load1 tf106 rfl (k_flAt 0 (F := H3F) rfl hgx)) (perm_front 0 rfl) (by rfl)
    ·rintro f M - ⟨i0, -⟩
     exact ob0 (up_cons (d := 8) rfl i0) rfl e_move (.refl _)
    ·rintro f M - ⟨i0, -⟩
     exact ob0 (up_cons (d := 7) rfl i0) rfl e_move (.refl _)
    ·rintro f M - ⟨i0, -⟩
     exact ob0 (up_cons (d := 8) rfl i0) rfl e_move (.refl _)
    ·rintro f M ⟨k0, k1, -⟩ -
     exact ob0 (up_cons (d := 51) (up_cons (d := 50) rfl k0) k1) rfl ((ev_t hg8 (e_neq (a := ((i : Nat) : Int)) (b := ((k : Nat) : Int)) rfl rfl))) (.refl _)
    ·rintro f M ⟨k0, -⟩ -
     exact ob0 (up_cons (d := 52) rfl k0) rfl e_move (.refl _)
    ·rintro f M ⟨k0, -⟩ ⟨i0, -⟩
     exact obg (L' := M) (v := pp b1 0) (up_cons (d := 53) (up_cons (d := 1) rfl i0) k0) (e_fieldPt rfl tf33) rfl rfl rfl rfl (.refl _) (by rfl)
    ·rintro f M ⟨k0, k1, -⟩ -
     exact obg (L' := pt b1 (.cells #[sB va bs (vc), sB ua rs (uc), Ix (gx), Ix (gy)] 27) :: M) (v := sB va bs (vc)) (up_cons (d := 53) (up_cons (d := 54) rfl k0) k1) (e_load1 tf26 rfl (k_pt 0 rfl rfl)) rfl rfl rfl rfl (perm_front 0 rfl) (by rfl)
    ·rintro f M ⟨k0, -⟩ ⟨i0, -⟩
     exact obg (L' := M) (v := Nx (i)) (up_cons (d := 53) (up_cons (d := 7) rfl i0) k0) e_move rfl rfl rfl rfl (.refl _) (by rfl)
    ·rintro f M ⟨k0, k1, k2, -⟩ -
     exact obg (L' := M) (v := .pointer (some ((ba va).add (i * 9)))) (up_cons (d := 53) (up_cons (d := 56) (up_cons (d := 55) rfl k0) k1) k2) (e_indexAddr (k := i) (len := bs.length) (cap := vc) (a := va) rfl rfl tf16 (by omega) ha11) rfl rfl rfl rfl (.refl _) (by rfl)
    ·rintro f M ⟨k0, k1, -⟩ -
     exact obg (L' := M) (v := .pointer (some (((ba va).add (i * 9) : Addr).add 8))) (up_cons (d := 53) (up_cons (d := 57) rfl k0) k1) (e_fieldAddr (a := (ba va).add (i * 9)) rfl tf18) rfl rfl rfl rfl (.refl _) (by rfl)
    ·rintro f M ⟨k0, k1, -⟩ -
     exact obg (L' := M) (v := .bool (x9.fixed)) (up_cons (d := 53) (up_cons (d := 58) rfl k0) k1) (e_load1 tf19 rfl (Knows.imp (kB hc13) (fun _ h => Cs.sub (vs := [.bool (x9.fixed)]) 8 h rfl))) rfl rfl rfl rfl (.refl _) (by rfl)
    ·rintro f M ⟨k0, k1, -⟩ -
     exact obg (L' := M) (v := .bool true) (up_cons (d := 53) (up_cons (d := 59) rfl k0) k1) ((ev_b (c := true) hg9 (e_not rfl))) rfl rfl rfl rfl (.refl _) (by rfl)
    ·rintro f M ⟨k0, k1, -⟩ -
     exact ob0 (up_cons (d := 60) (up_cons (d := 53) rfl k0) k1) rfl (e_pick_t rfl) (.refl _)
    ·rintro f M ⟨k0, -⟩ -
     exact ob0 (up_cons (d := 61) rfl k0) rfl e_move (.refl _)
    ·rintro f M ⟨k0, -⟩ ⟨i0, -⟩
     exact obg (L' := M) (v := pp b1 0) (up_cons (d := 62) (up_cons (d := 1) rfl i0) k0) (e_fieldPt rfl tf33) rfl rfl rfl rfl (.refl _) (by rfl)
    ·rintro f M ⟨k0, k1, -⟩ -
     exact obg (L' := pt b1 (.cells #[sB va bs (vc), sB ua rs (uc), Ix (gx), Ix (gy)] 27) :: M) (v := sB va bs (vc)) (up_cons (d := 62) (up_cons (d := 63) rfl k0) k1) (e_load1 tf26 rfl (k_pt 0 rfl rfl)) rfl rfl rfl rfl (perm_front 0 rfl) (by rfl)
    ·rintro f M ⟨k0, -⟩ ⟨i0, -⟩
     exact obg (L' := M) (v := Nx (k)) (up_cons (d := 62) (up_cons (d := 8) rfl i0) k0) e_move rfl rfl rfl rfl (.refl _) (by rfl)
    ·rintro f M ⟨k0, k1, k2, -⟩ -
     exact obg (L' := M) (v := .pointer (some ((ba va).add (k * 9)))) (up_cons (d := 62) (up_cons (d := 65) (up_cons (d := 64) rfl k0) k1) k2) (e_indexAddr (k := k) (len := bs.length) (cap := vc) (a := va) rfl rfl tf16 (by omega) ha13) rfl rfl rfl rfl (.refl _) (by rfl)
    ·rintro f M ⟨k0, k1, -⟩ -
     exact obg (L' := M) (v := .pointer (some (((ba va).add (k * 9) : Addr).add 8))) (up_cons (d := 62) (up_cons (d := 66) rfl k0) k1) (e_fieldAddr (a := (ba va).add (k * 9)) rfl tf18) rfl rfl rfl rfl (.refl _) (by rfl)
    ·rintro f M ⟨k0, k1, -⟩ -
     exact obg (L' := M) (v := .bool (x11.fixed)) (up_cons (d := 62) (up_cons (d := 67) rfl k0) k1) (e_load1 tf19 rfl (Knows.imp (kB hc15) (fun _ h => Cs.sub (vs := [.bool (x11.fixed)]) 8 h rfl))) rfl rfl rfl rfl (.refl _) (by rfl)
    ·rintro f M ⟨k0, k1, -⟩ -
     exact obg (L' := M) (v := .bool true) (up_cons (d := 62) (up_cons (d := 68) rfl k0) k1) ((ev_b (c := true) hg11 (e_not rfl))) rfl rfl rfl rfl (.refl _) (by rfl)
    ·rintro f M ⟨k0, k1, -⟩ -
     exact ob0 (up_cons (d := 69) (up_cons (d := 62) rfl k0) k1) rfl (e_pick_t rfl) (.refl _)
    ·rintro f M ⟨k0, -⟩ -
     exact ob0 (up_cons (d := 70) rfl k0) rfl e_move (.refl _)
    ·rintro f M ⟨k0, -⟩ ⟨i0, -⟩
     exact obg (L' := pt b1 (.cells #[sB va bs (vc), sB ua rs (uc), Ix (gx), Ix (gy)] 27) :: M) (v := .agg #[sB va bs (vc), sB ua rs (uc), Ix (gx), Ix (gy)]) (up_cons (d := 71) (up_cons (d := 1) rfl i0) k0) (e_load tf31 rfl (k_pt 0 rfl rfl) rfl) rfl rfl rfl rfl (perm_front 0 rfl) (by rfl)
    ·rintro f M ⟨k0, -⟩ ⟨i0, -⟩
     exact obg (L' := M) (v := pp b1 0) (up_cons (d := 71) (up_cons (d := 1) rfl i0) k0) (e_fieldPt rfl tf33) rfl rfl rfl rfl (.refl _) (by rfl)
    ·rintro f M ⟨k0, k1, -⟩ -
     exact obg (L' := pt b1 (.cells #[sB va bs (vc), sB ua rs (uc), Ix (gx), Ix (gy)] 27) :: M) (v := sB va bs (vc)) (up_cons (d := 71) (up_cons (d := 73) rfl k0) k1) (e_load1 tf26 rfl (k_pt 0 rfl rfl)) rfl rfl rfl rfl (perm_front 0 rfl) (by rfl)
    ·rintro f M ⟨k0, -⟩ ⟨i0, -⟩
     exact obg (L' := M) (v := Nx (i)) (up_cons (d := 71) (up_cons (d := 7) rfl i0) k0) e_move rfl rfl rfl rfl (.refl _) (by rfl)
    ·rintro f M ⟨k0, k1, k2, -⟩ -
     exact obg (L' := M) (v := .pointer (some ((ba va).add (i * 9)))) (up_cons (d := 71) (up_cons (d := 75) (up_cons (d := 74) rfl k0) k1) k2) (e_indexAddr (k := i) (len := bs.length) (cap := vc) (a := va) rfl rfl tf16 (by omega) ha11) rfl rfl rfl rfl (.refl _) (by rfl)
    ·rintro f M ⟨k0, k1, -⟩ -
     exact obg (L' := M) (v := .agg (bC x9)) (up_cons (d := 71) (up_cons (d := 76) rfl k0) k1) (e_load tf1 rfl (kB hc13) rfl) rfl rfl rfl rfl (.refl _) (by rfl)
    ·rintro f M ⟨k0, -⟩ ⟨i0, -⟩
     exact obg (L' := M) (v := pp b1 0) (up_cons (d := 71) (up_cons (d := 1) rfl i0) k0) (e_fieldPt rfl tf33) rfl rfl rfl rfl (.refl _) (by rfl)
    ·rintro f M ⟨k0, k1, -⟩ -
     exact obg (L' := pt b1 (.cells #[sB va bs (vc), sB ua rs (uc), Ix (gx), Ix (gy)] 27) :: M) (v := sB va bs (vc)) (up_cons (d := 71) (up_cons (d := 78) rfl k0) k1) (e_load1 tf26 rfl (k_pt 0 rfl rfl)) rfl rfl rfl rfl (perm_front 0 rfl) (by rfl)
    ·rintro f M ⟨k0, -⟩ ⟨i0, -⟩
     exact obg (L' := M) (v := Nx (k)) (up_cons (d := 71) (up_cons (d := 8) rfl i0) k0) e_move rfl rfl rfl rfl (.refl _) (by rfl)
    ·rintro f M ⟨k0, k1, k2, -⟩ -
     exact obg (L' := M) (v := .pointer (some ((ba va).add (k * 9)))) (up_cons (d := 71) (up_cons (d := 80) (up_cons (d := 79) rfl k0) k1) k2) (e_indexAddr (k := k) (len := bs.length) (cap := vc) (a := va) rfl rfl tf16 (by omega) ha13) rfl rfl rfl rfl (.refl _) (by rfl)
    ·rintro f M ⟨k0, k1, -⟩ -
     exact obg (L' := M) (v := .agg (bC x11)) (up_cons (d := 71) (up_cons (d := 81) rfl k0) k1) (e_load tf1 rfl (kB hc15) rfl) rfl rfl rfl rfl (.refl _) (by rfl)
    ·rintro f M ⟨k0, k1, k2, k3, -⟩ -
     refine ob_start (L' := M) (by rfl) (up_cons (d := 71) (up_cons (d := 82) (up_cons (d := 77) (up_cons (d := 72) rfl k0) k1) k2) k3) ?_
     refine g_call rfl rfl rfl rfl rfl (cl0 (vs := [.agg #[sB va bs (vc), sB ua rs (uc), Ix (gx), Ix (gy)], .agg (bC x9), .agg (bC x11)]) tf107 rfl rfl) ?_
     intro w hw
     obtain ⟨β1, sb, kn, hw1, back⟩ := St.frame_all hw
     refine (linked_ok β1 w hw1 _ _ gx gy bs rs (Sl.mono _ _ _ _ _ sb (⟨⟨_, _, rfl, vl, vm, ve⟩⟩ : Sl KBR _ _ bs)) (Sl.mono _ _ _ _ _ sb (⟨⟨_, _, rfl, ul, um, ue⟩⟩ : Sl KRR _ _ rs)) x9 x11 (by omega) (by omega)).mono ?_
     rintro e w' ⟨rfl, hw'⟩
     refine ⟨_, rfl, _, back _ _ hw', ?_⟩
     clear hw hw1 hw' back kn sb
     refine l_nil ?_
     exact f_owes_d (up_cons (d := 71) (up_cons (d := 82) (up_cons (d := 77) (up_cons (d := 72) rfl k0) k1) k2) k3) rfl (List.Perm.refl _)
    ·rintro f M ⟨k0, k1, -⟩ -
     exact ob0 (up_cons (d := 83) (up_cons (d := 71) rfl k0) k1) rfl (e_pick_t rfl) (.refl _)
    ·rintro f M ⟨k0, k1, -⟩ -
     exact obv (L' := rowF BlF 4 (some ⟨b6, 0, none⟩) bs.length (rowT bs rs gx gy i k) :: M) (up_cons (d := 49) (up_cons (d := 48) rfl k0) k1) rfl (e_indexFlN 0 (F := BlF) (j := k) (m := bs.length) (xs := (rowT bs rs gx gy i k)) rfl (by omega) rfl tf103 (by omega) rfl) (perm_front 0 rfl) (by rfl)
    ·rintro f M ⟨k0, k1, -⟩ -
     refine ob_start (L' := rowF BlF 4 (some ⟨b6, 0, none⟩) bs.length (rowT bs rs gx gy i k) :: M) (by rfl) (up_cons (d := 84) (up_cons (d := 85) rfl k0) k1) ?_
     refine lu (m_storeFl 0 (F := BlF) (p := (some ⟨b6, 0, none⟩)) (k := k) (xs := (rowT bs rs gx gy i k)) (z := (decide (lkP rs gx gy x9 x11))) tf19 rfl rfl rfl rfl (by omega)) ?_
     refine l_nil ?_
     exact f_owes_n (up_cons (d := 84) (up_cons (d := 85) rfl k0) k1) trivial (perm_front 0 rfl)
    rintro fa13 ⟨-, -, -, -, -, -, -, -, -, -, -, -, -, -, -, -, -, -, -, -, -, -, -, -, -, -, -, -, -, -, -, -, -, -, -, -, -, -, -, -, -, -, -⟩ ⟨j0, j1, j2, j3, j4, j5, -⟩
    refine f_re (L' := [Sat (hv.map (ownV BlF 4)), rowF H3F 80 (some ⟨b4, 0, none⟩) bs.length (hdT1 hv (⟨(some ⟨b6, 0, none⟩), bs.length, bs.length⟩ : H3) bs.length), rowF IntF 3 (some ⟨b3, 0, none⟩) bs.length (numT bs.length (i + 1)), pt b1 (.cells #[sB va bs (vc), sB ua rs (uc), Ix (gx), Ix (gy)] 27), rowF BlF 4 (some ⟨b6, 0, none⟩) bs.length ((rowT bs rs gx gy i k).set k (decide (lkP rs gx gy x9 x11)))]) (by rfl) ?_
    refine f_rebase (d := 1) j0 ?_
    refine f_rebase (d := 4) j1 ?_
    refine f_rebase (d := 5) j2 ?_
    refine f_rebase (d := 6) j3 ?_
    refine f_rebase (d := 7) j4 ?_
    refine f_rebase (d := 8) j5 ?_
    refine f_block ?_
    refine f_then ?_
    refine c_region ?_
    refine lv (v := Nx (k)) e_move ?_
    refine lv (v := Nx (k + 1)) (e_add (a := ((k : Nat) : Int)) (b := (1 : Int)) rfl rfl (i64n (by omega) (by omega))) ?_
    refine lv (v := Nx (k + 1)) e_assign ?_
    refine l_nil ?_
    refine f_perm (L' := [rowF BlF 4 (some ⟨b6, 0, none⟩) bs.length ((rowT bs rs gx gy i k).set k (decide (lkP rs gx gy x9 x11))), Sat (hv.map (ownV BlF 4)), rowF H3F 80 (some ⟨b4, 0, none⟩) bs.length (hdT1 hv (⟨(some ⟨b6, 0, none⟩), bs.length, bs.length⟩ : H3) bs.length), rowF IntF 3 (some ⟨b3, 0, none⟩) bs.length (numT bs.length (i + 1)), pt b1 (.cells #[sB va bs (vc), sB ua rs (uc), Ix (gx), Ix (gy)] 27)]) (perm_ix [4, 0, 1, 2, 3] 5 rfl (by kernel_rfl) (by kernel_rfl)) ?_
    exact f_cut ⟨k + 1, ⟨⟨rfl, rfl, rfl, rfl, rfl, rfl⟩, by rw [rowT_set (by omega) (lnk_ok hx10 hx12 (by omega) (by simpa using hg9) (by simpa using hg11))], by omega⟩, (show bs.length - (k + 1) < bs.length - k from by omega)⟩
   refine c_any [⟨[], [], [0], [45], fun f => f 45 = sB (some ⟨b4, 0, none⟩) bs bs.length⟩, ⟨[], [], [1], [46], fun f => f 46 = Nx (i)⟩, ⟨[0, 1], [0, 1], [], [47], fun f => f 47 = .pointer (some ((ba (some ⟨b4, 0, none⟩)).add (i * 1)))⟩, ⟨[0, 1, 2], [2], [], [48], fun f => f 48 = sB (some ⟨b6, 0, none⟩) bs bs.length⟩, ⟨[], [], [2], [49], fun f => f 49 = Nx (k)⟩, ⟨[], [], [1], [50], fun f => f 50 = Nx (i)⟩, ⟨[], [], [2], [51], fun f => f 51 = Nx (k)⟩, ⟨[5, 6], [5, 6], [], [52], fun f => f 52 = .bool false⟩, ⟨[5, 6, 7], [7], [], [53], fun f => f 53 = .bool false⟩, ⟨[5, 6, 7, 8], [8], [3], [54], fun f => f 54 = undef⟩, ⟨[5, 6, 7, 8, 9], [9, 8], [], [55], fun f => f 55 = undef⟩, ⟨[5, 6, 7, 8], [8], [1], [56], fun f => f 56 = undef⟩, ⟨[5, 6, 7, 8, 9, 10, 11], [10, 11, 8], [], [57], fun f => f 57 = undef⟩, ⟨[5, 6, 7, 8, 9, 10, 11, 12], [12, 8], [], [58], fun f => f 58 = undef⟩, ⟨[5, 6, 7, 8, 9, 10, 11, 12, 13], [13, 8], [], [59], fun f => f 59 = undef⟩, ⟨[5, 6, 7, 8, 9, 10, 11, 12, 13, 14], [14, 8], [], [60], fun f => f 60 = undef⟩, ⟨[5, 6, 7, 8, 9, 10, 11, 12, 13, 14, 15], [8, 15], [], [61], fun f => f 61 = .bool false⟩, ⟨[5, 6, 7, 8, 9, 10, 11, 12, 13, 14, 15, 16], [16], [], [62], fun f => f 62 = .bool false⟩, ⟨[5, 6, 7, 8, 9, 10, 11, 12, 13, 14, 15, 16, 17], [17], [3], [63], fun f => f 63 = undef⟩, ⟨[5, 6, 7, 8, 9, 10, 11, 12, 13, 14, 15, 16, 17, 18], [18, 17], [], [64], fun f => f 64 = undef⟩, ⟨[5, 6, 7, 8, 9, 10, 11, 12, 13, 14, 15, 16, 17], [17], [2], [65], fun f => f 65 = undef⟩, ⟨[5, 6, 7, 8, 9, 10, 11, 12, 13, 14, 15, 16, 17, 18, 19, 20], [19, 20, 17], [], [66], fun f => f 66 = undef⟩, ⟨[5, 6, 7, 8, 9, 10, 11, 12, 13, 14, 15, 16, 17, 18, 19, 20, 21], [21, 17], [], [67], fun f => f 67 = undef⟩, ⟨[5, 6, 7, 8, 9, 10, 11, 12, 13, 14, 15, 16, 17, 18, 19, 20, 21, 22], [22, 17], [], [68], fun f => f 68 = undef⟩, ⟨[5, 6, 7, 8, 9, 10, 11, 12, 13, 14, 15, 16, 17, 18, 19, 20, 21, 22, 23], [23, 17], [], [69], fun f => f 69 = undef⟩, ⟨[5, 6, 7, 8, 9, 10, 11, 12, 13, 14, 15, 16, 17, 18, 19, 20, 21, 22, 23, 24], [17, 24], [], [70], fun f => f 70 = .bool false⟩, ⟨[5, 6, 7, 8, 9, 10, 11, 12, 13, 14, 15, 16, 17, 18, 19, 20, 21, 22, 23, 24, 25], [25], [], [71], fun f => f 71 = .bool false⟩, ⟨[5, 6, 7, 8, 9, 10, 11, 12, 13, 14, 15, 16, 17, 18, 19, 20, 21, 22, 23, 24, 25, 26], [26], [3], [72], fun f => f 72 = undef⟩, ⟨[5, 6, 7, 8, 9, 10, 11, 12, 13, 14, 15, 16, 17, 18, 19, 20, 21, 22, 23, 24, 25, 26], [26], [3], [73], fun f => f 73 = undef⟩, ⟨[5, 6, 7, 8, 9, 10, 11, 12, 13, 14, 15, 16, 17, 18, 19, 20, 21, 22, 23, 24, 25, 26, 28], [28, 26], [], [74], fun f => f 74 = undef⟩, ⟨[5, 6, 7, 8, 9, 10, 11, 12, 13, 14, 15, 16, 17, 18, 19, 20, 21, 22, 23, 24, 25, 26], [26], [1], [75], fun f => f 75 = undef⟩, ⟨[5, 6, 7, 8, 9, 10, 11, 12, 13, 14, 15, 16, 17, 18, 19, 20, 21, 22, 23, 24, 25, 26, 28, 29, 30], [29, 30, 26], [], [76], fun f => f 76 = undef⟩, ⟨[5, 6, 7, 8, 9, 10, 11, 12, 13, 14, 15, 16, 17, 18, 19, 20, 21, 22, 23, 24, 25, 26, 28, 29, 30, 31], [31, 26], [], [77], fun f => f 77 = undef⟩, ⟨[5, 6, 7, 8, 9, 10, 11, 12, 13, 14, 15, 16, 17, 18, 19, 20, 21, 22, 23, 24, 25, 26], [26], [3], [78], fun f => f 78 = undef⟩, ⟨[5, 6, 7, 8, 9, 10, 11, 12, 13, 14, 15, 16, 17, 18, 19, 20, 21, 22, 23, 24, 25, 26, 33], [33, 26], [], [79], fun f => f 79 = undef⟩, ⟨[5, 6, 7, 8, 9, 10, 11, 12, 13, 14, 15, 16, 17, 18, 19, 20, 21, 22, 23, 24, 25, 26], [26], [2], [80], fun f => f 80 = undef⟩, ⟨[5, 6, 7, 8, 9, 10, 11, 12, 13, 14, 15, 16, 17, 18, 19, 20, 21, 22, 23, 24, 25, 26, 33, 34, 35], [34, 35, 26], [], [81], fun f => f 81 = undef⟩, ⟨[5, 6, 7, 8, 9, 10, 11, 12, 13, 14, 15, 16, 17, 18, 19, 20, 21, 22, 23, 24, 25, 26, 33, 34, 35, 36], [36, 26], [], [82], fun f => f 82 = undef⟩, ⟨[5, 6, 7, 8, 9, 10, 11, 12, 13, 14, 15, 16, 17, 18, 19, 20, 21, 22, 23, 24, 25, 26, 27, 28, 29, 30, 31, 32, 33, 34, 35, 36, 37], [27, 32, 37, 26], [], [83], fun f => f 83 = undef⟩, ⟨[5, 6, 7, 8, 9, 10, 11, 12, 13, 14, 15, 16, 17, 18, 19, 20, 21, 22, 23, 24, 25, 26, 27, 28, 29, 30, 31, 32, 33, 34, 35, 36, 37, 38], [26, 38], [], [84], fun f => f 84 = .bool false⟩, ⟨(List.range 40), [3, 4], [], [85], fun f => f 85 = .pointer (some ((ba (some ⟨b6, 0, none⟩)).add (k * 1)))⟩, ⟨(List.range 41), [40, 39], [], [], fun _ => True⟩] [⟨none, (some 41), [40, 41], [], fun _ => rowF BlF 4 (some ⟨b6, 0, none⟩) bs.length (rowT bs rs gx gy i k)⟩, ⟨none, none, [], [], fun _ => Sat (hv.map (ownV BlF 4))⟩, ⟨none, none, [2, 3], [], fun _ => rowF H3F 80 (some ⟨b4, 0, none⟩) bs.length (hdT1 hv (⟨(some ⟨b6, 0, none⟩), bs.length, bs.length⟩ : H3) bs.length)⟩, ⟨none, none, [], [], fun _ => rowF IntF 3 (some ⟨b3, 0, none⟩) bs.length (numT bs.length (i + 1))⟩, ⟨none, none, [], [], fun _ => pt b1 (.cells #[sB va bs (vc), sB ua rs (uc), Ix (gx), Ix (gy)] 27)⟩, ⟨(some 41), none, [], [], fun _ => rowF BlF 4 (some ⟨b6, 0, none⟩) bs.length ((rowT bs rs gx gy i k).set k false)⟩] [(6, sB (some ⟨b4, 0, none⟩) bs bs.length), (7, Nx (i)), (8, Nx (k)), (1, pp b1 0), (4, Nx (bs.length)), (5, sB (some ⟨b3, 0, none⟩) bs bs.length)] [3, 4, 5, 0, 1, 2] [] (by kernel_rfl) (by kernel_rfl) (by kernel_rfl) (by kernel_rfl) rfl ⟨rfl, rfl, rfl, rfl, rfl, rfl, trivial⟩ ⟨?_, ?_, ?_, ?_, ?_, ?_, ?_, ?_, ?_, ?_, ?_, ?_, ?_, ?_, ?_, ?_, ?_, ?_, ?_, ?_, ?_, ?_, ?_, ?_, ?_, ?_, ?_, ?_, ?_, ?_, ?_, ?_, ?_, ?_, ?_, ?_, ?_, ?_, ?_, ?_, ?_, ?_, trivial⟩ ?_
   ·rintro f M - ⟨i0, -⟩
    exact ob0 (up_cons (d := 6) rfl i0) rfl e_move (.refl _)
   ·rintro f M - ⟨i0, -⟩
    exact ob0 (up_cons (d := 7) rfl i0) rfl e_move (.refl _)
   ·rintro f M ⟨k0, k1, -⟩ -
    exact obv (L' := rowF H3F 80 (some ⟨b4, 0, none⟩) bs.length (hdT1 hv (⟨(some ⟨b6, 0, none⟩), bs.length, bs.length⟩ : H3) bs.length) :: M) (up_cons (d := 46) (up_cons (d := 45) rfl k0) k1) rfl (e_indexFlN 0 (F := H3F) (j := i) (m := bs.length) (xs := (hdT1 hv (⟨(some ⟨b6, 0, none⟩), bs.length, bs.length⟩ : H3) bs.length)) rfl (by omega) rfl tf100 (by omega) rfl) (perm_front 0 rfl) (by rfl)
   ·rintro f M ⟨k0, -⟩ -
    exact obv (L' := rowF H3F 80 (some ⟨b4, 0, none⟩) bs.length (hdT1 hv (⟨(some ⟨b6, 0, none⟩), bs.length, bs.length⟩ : H3) bs.length) :: M) (up_cons (d := 47) rfl k0) rfl (e_load1 tf106 rfl (k_flAt 0 (F := H3F) rfl hgx)) (perm_front 0 rfl) (by rfl)
   ·rintro f M - ⟨i0, -⟩
    exact ob0 (up_cons (d := 8) rfl i0) rfl e_move (.refl _)
   ·rintro f M - ⟨i0, -⟩
    exact ob0 (up_cons (d := 7) rfl i0) rfl e_move (.refl _)
   ·rintro f M - ⟨i0, -⟩
    exact ob0 (up_cons (d := 8) rfl i0) rfl e_move (.refl _)
   ·rintro f M ⟨k0, k1, -⟩ -
    exact ob0 (up_cons (d := 51) (up_cons (d := 50) rfl k0) k1) rfl ((ev_f hg8 (e_neq (a := ((i : Nat) : Int)) (b := ((k : Nat) : Int)) rfl rfl))) (.refl _)
   ·rintro f M ⟨k0, -⟩ -
    exact ob0 (up_cons (d := 52) rfl k0) rfl e_move (.refl _)
   ·rintro f M ⟨k0, -⟩ ⟨i0, -⟩
    exact obs (up_cons (d := 53) (up_cons (d := 1) rfl i0) k0) rfl rfl rfl rfl (.refl _)
   ·rintro f M ⟨k0, k1, -⟩ -
    exact obs (up_cons (d := 53) (up_cons (d := 54) rfl k0) k1) rfl rfl rfl rfl (.refl _)
   ·rintro f M ⟨k0, -⟩ ⟨i0, -⟩
    exact obs (up_cons (d := 53) (up_cons (d := 7) rfl i0) k0) rfl rfl rfl rfl (.refl _)
   ·rintro f M ⟨k0, k1, k2, -⟩ -
    exact obs (up_cons (d := 53) (up_cons (d := 56) (up_cons (d := 55) rfl k0) k1) k2) rfl rfl rfl rfl (.refl _)
   ·rintro f M ⟨k0, k1, -⟩ -
    exact obs (up_cons (d := 53) (up_cons (d := 57) rfl k0) k1) rfl rfl rfl rfl (.refl _)
   ·rintro f M ⟨k0, k1, -⟩ -
    exact obs (up_cons (d := 53) (up_cons (d := 58) rfl k0) k1) rfl rfl rfl rfl (.refl _)
   ·rintro f M ⟨k0, k1, -⟩ -
    exact obs (up_cons (d := 53) (up_cons (d := 59) rfl k0) k1) rfl rfl rfl rfl (.refl _)
   ·rintro f M ⟨k0, k1, -⟩ -
    exact ob0 (up_cons (d := 60) (up_cons (d := 53) rfl k0) k1) rfl (e_pick_f rfl) (.refl _)
   ·rintro f M ⟨k0, -⟩ -
    exact ob0 (up_cons (d := 61) rfl k0) rfl e_move (.refl _)
   ·rintro f M ⟨k0, -⟩ ⟨i0, -⟩
    exact obs (up_cons (d := 62) (up_cons (d := 1) rfl i0) k0) rfl rfl rfl rfl (.refl _)
   ·rintro f M ⟨k0, k1, -⟩ -
    exact obs (up_cons (d := 62) (up_cons (d := 63) rfl k0) k1) rfl rfl rfl rfl (.refl _)
   ·rintro f M ⟨k0, -⟩ ⟨i0, -⟩
    exact obs (up_cons (d := 62) (up_cons (d := 8) rfl i0) k0) rfl rfl rfl rfl (.refl _)
   ·rintro f M ⟨k0, k1, k2, -⟩ -
    exact obs (up_cons (d := 62) (up_cons (d := 65) (up_cons (d := 64) rfl k0) k1) k2) rfl rfl rfl rfl (.refl _)
   ·rintro f M ⟨k0, k1, -⟩ -
    exact obs (up_cons (d := 62) (up_cons (d := 66) rfl k0) k1) rfl rfl rfl rfl (.refl _)
   ·rintro f M ⟨k0, k1, -⟩ -
    exact obs (up_cons (d := 62) (up_cons (d := 67) rfl k0) k1) rfl rfl rfl rfl (.refl _)
   ·rintro f M ⟨k0, k1, -⟩ -
    exact obs (up_cons (d := 62) (up_cons (d := 68) rfl k0) k1) rfl rfl rfl rfl (.refl _)
   ·rintro f M ⟨k0, k1, -⟩ -
    exact ob0 (up_cons (d := 69) (up_cons (d := 62) rfl k0) k1) rfl (e_pick_f rfl) (.refl _)
   ·rintro f M ⟨k0, -⟩ -
    exact ob0 (up_cons (d := 70) rfl k0) rfl e_move (.refl _)
   ·rintro f M ⟨k0, -⟩ ⟨i0, -⟩
    exact obs (up_cons (d := 71) (up_cons (d := 1) rfl i0) k0) rfl rfl rfl rfl (.refl _)
   ·rintro f M ⟨k0, -⟩ ⟨i0, -⟩
    exact obs (up_cons (d := 71) (up_cons (d := 1) rfl i0) k0) rfl rfl rfl rfl (.refl _)
   ·rintro f M ⟨k0, k1, -⟩ -
    exact obs (up_cons (d := 71) (up_cons (d := 73) rfl k0) k1) rfl rfl rfl rfl (.refl _)
   ·rintro f M ⟨k0, -⟩ ⟨i0, -⟩
    exact obs (up_cons (d := 71) (up_cons (d := 7) rfl i0) k0) rfl rfl rfl rfl (.refl _)
   ·rintro f M ⟨k0, k1, k2, -⟩ -
    exact obs (up_cons (d := 71) (up_cons (d := 75) (up_cons (d := 74) rfl k0) k1) k2) rfl rfl rfl rfl (.refl _)
   ·rintro f M ⟨k0, k1, -⟩ -
    exact obs (up_cons (d := 71) (up_cons (d := 76) rfl k0) k1) rfl rfl rfl rfl (.refl _)
   ·rintro f M ⟨k0, -⟩ ⟨i0, -⟩
    exact obs (up_cons (d := 71) (up_cons (d := 1) rfl i0) k0) rfl rfl rfl rfl (.refl _)
   ·rintro f M ⟨k0, k1, -⟩ -
    exact obs (up_cons (d := 71) (up_cons (d := 78) rfl k0) k1) rfl rfl rfl rfl (.refl _)
   ·rintro f M ⟨k0, -⟩ ⟨i0, -⟩
    exact obs (up_cons (d := 71) (up_cons (d := 8) rfl i0) k0) rfl rfl rfl rfl (.refl _)
   ·rintro f M ⟨k0, k1, k2, -⟩ -
    exact obs (up_cons (d := 71) (up_cons (d := 80) (up_cons (d := 79) rfl k0) k1) k2) rfl rfl rfl rfl (.refl _)
   ·rintro f M ⟨k0, k1, -⟩ -
    exact obs (up_cons (d := 71) (up_cons (d := 81) rfl k0) k1) rfl rfl rfl rfl (.refl _)
   ·rintro f M ⟨k0, k1, k2, k3, -⟩ -
    exact obs (up_cons (d := 71) (up_cons (d := 82) (up_cons (d := 77) (up_cons (d := 72) rfl k0) k1) k2) k3) rfl rfl rfl rfl (.refl _)
   ·rintro f M ⟨k0, k1, -⟩ -
    exact ob0 (up_cons (d := 83) (up_cons (d := 71) rfl k0) k1) rfl (e_pick_f rfl) (.refl _)
   ·rintro f M ⟨k0, k1, -⟩ -
    exact obv (L' := rowF BlF 4 (some ⟨b6, 0, none⟩) bs.length (rowT bs rs gx gy i k) :: M) (up_cons (d := 49) (up_cons (d := 48) rfl k0) k1) rfl (e_indexFlN 0 (F := BlF) (j := k) (m := bs.length) (xs := (rowT bs rs gx gy i k)) rfl (by omega) rfl tf103 (by omega) rfl) (perm_front 0 rfl) (by rfl)
   ·rintro f M ⟨k0, k1, -⟩ -
    refine ob_start (L' := rowF BlF 4 (some ⟨b6, 0, none⟩) bs.length (rowT bs rs gx gy i k) :: M) (by rfl) (up_cons (d := 84) (up_cons (d := 85) rfl k0) k1) ?_
    refine lu (m_storeFl 0 (F := BlF) (p := (some ⟨b6, 0, none⟩)) (k := k) (xs := (rowT bs rs gx gy i k)) (z := false) tf19 rfl rfl rfl rfl (by omega)) ?_
    refine l_nil ?_
    exact f_owes_n (up_cons (d := 84) (up_cons (d := 85) rfl k0) k1) trivial (perm_front 0 rfl)
   rintro fa14 ⟨-, -, -, -, -, -, -, -, -, -, -, -, -, -, -, -, -, -, -, -, -, -, -, -, -, -, -, -, -, -, -, -, -, -, -, -, -, -, -, -, -, -, -⟩ ⟨j0, j1, j2, j3, j4, j5, -⟩
   refine f_re (L' := [Sat (hv.map (ownV BlF 4)), rowF H3F 80 (some ⟨b4, 0, none⟩) bs.length (hdT1 hv (⟨(some ⟨b6, 0, none⟩), bs.length, bs.length⟩ : H3) bs.length), rowF IntF 3 (some ⟨b3, 0, none⟩) bs.length (numT bs.length (i + 1)), pt b1 (.cells #[sB va bs (vc), sB ua rs (uc), Ix (gx), Ix (gy)] 27), rowF BlF 4 (some ⟨b6, 0, none⟩) bs.length ((rowT bs rs gx gy i k).set k false)]) (by rfl) ?_
   refine f_rebase (d := 1) j0 ?_
   refine f_rebase (d := 4) j1 ?_
   refine f_rebase (d := 5) j2 ?_
   refine f_rebase (d := 6) j3 ?_
   refine f_rebase (d := 7) j4 ?_
   refine f_rebase (d := 8) j5 ?_
   refine f_block ?_
   refine f_then ?_
   refine c_region ?_
   refine lv (v := Nx (k)) e_move ?_
   refine lv (v := Nx (k + 1)) (e_add (a := ((k : Nat) : Int)) (b := (1 : Int)) rfl rfl (i64n (by omega) (by omega))) ?_
   refine lv (v := Nx (k + 1)) e_assign ?_
   refine l_nil ?_
   refine f_perm (L' := [rowF BlF 4 (some ⟨b6, 0, none⟩) bs.length ((rowT bs rs gx gy i k).set k false), Sat (hv.map (ownV BlF 4)), rowF H3F 80 (some ⟨b4, 0, none⟩) bs.length (hdT1 hv (⟨(some ⟨b6, 0, none⟩), bs.length, bs.length⟩ : H3) bs.length), rowF IntF 3 (some ⟨b3, 0, none⟩) bs.length (numT bs.length (i + 1)), pt b1 (.cells #[sB va bs (vc), sB ua rs (uc), Ix (gx), Ix (gy)] 27)]) (perm_ix [4, 0, 1, 2, 3] 5 rfl (by kernel_rfl) (by kernel_rfl)) ?_
   exact f_cut ⟨k + 1, ⟨⟨rfl, rfl, rfl, rfl, rfl, rfl⟩, by rw [rowT_set (by omega) (lnk_self (by omega))], by omega⟩, (show bs.length - (k + 1) < bs.length - k from by omega)⟩
  refine c_exit ?_
  refine f_then_exit ?_
  refine f_then_exit ?_
  refine f_exit ?_
  refine f_block ?_
  refine f_then ?_
  obtain rfl : k = bs.length := by omega
  refine c_re (L' := [rowF BlF 4 (some ⟨b6, 0, none⟩) bs.length (fullT bs rs gx gy i), Sat (hv.map (ownV BlF 4)), rowF H3F 80 (some ⟨b4, 0, none⟩) bs.length (hdT (hv ++ [(⟨(some ⟨b6, 0, none⟩), bs.length, (fullT bs rs gx gy i)⟩ : HV Bool)]) bs.length), rowF IntF 3 (some ⟨b3, 0, none⟩) bs.length (numT bs.length (i + 1)), pt b1 (.cells #[sB va bs (vc), sB ua rs (uc), Ix (gx), Ix (gy)] 27)]) (by rw [rowT_full, hdT1_next (v := ⟨(some ⟨b6, 0, none⟩), bs.length, (fullT bs rs gx gy i)⟩) (by omega) (by show (⟨_, _, _⟩ : H3) = ⟨_, _, _⟩; rw [fullT_len])]) ?_
  refine c_perm (L' := [Sat (hv.map (ownV BlF 4)), rowF BlF 4 (some ⟨b6, 0, none⟩) bs.length (fullT bs rs gx gy i), rowF H3F 80 (some ⟨b4, 0, none⟩) bs.length (hdT (hv ++ [(⟨(some ⟨b6, 0, none⟩), bs.length, (fullT bs rs gx gy i)⟩ : HV Bool)]) bs.length), rowF IntF 3 (some ⟨b3, 0, none⟩) bs.length (numT bs.length (i + 1)), pt b1 (.cells #[sB va bs (vc), sB ua rs (uc), Ix (gx), Ix (gy)] 27)]) (perm_ix [1, 0, 2, 3, 4] 5 rfl (by kernel_rfl) (by kernel_rfl)) ?_
  refine c_snocR (Ls' := (hv ++ [(⟨(some ⟨b6, 0, none⟩), bs.length, (fullT bs rs gx gy i)⟩ : HV Bool)]).map (ownV BlF 4)) (M := [rowF H3F 80 (some ⟨b4, 0, none⟩) bs.length (hdT (hv ++ [(⟨(some ⟨b6, 0, none⟩), bs.length, (fullT bs rs gx gy i)⟩ : HV Bool)]) bs.length), rowF IntF 3 (some ⟨b3, 0, none⟩) bs.length (numT bs.length (i + 1)), pt b1 (.cells #[sB va bs (vc), sB ua rs (uc), Ix (gx), Ix (gy)] 27)]) rfl (by rw [List.map_append]; rfl) ?_
  refine c_region ?_
  refine lv (v := Nx (i)) e_move ?_
  refine lv (v := Nx (i + 1)) (e_add (a := ((i : Nat) : Int)) (b := (1 : Int)) rfl rfl (i64n (by omega) (by omega))) ?_
  refine lv (v := Nx (i + 1)) e_assign ?_
  refine l_nil ?_
  exact f_cut ⟨(i + 1, (hv ++ [(⟨(some ⟨b6, 0, none⟩), bs.length, (fullT bs rs gx gy i)⟩ : HV Bool)])), ⟨⟨rfl, rfl, rfl, rfl, rfl⟩, rfl, ⟨by omega, by rw [List.length_append, List.length_singleton]; omega, by rw [List.map_append, hvm]; exact rowsT_next⟩⟩, (show bs.length - (i + 1) < bs.length - i from by omega)⟩
 refine c_exit ?_
 refine f_then_exit ?_
 refine f_then_exit ?_
 refine f_exit ?_
 refine fts ?_
 refine c_seq ?_
 obtain rfl : i = bs.length := by omega
 refine c_mask [true, true, true, true] rfl ?_
 refine c_perm (L' := [rowF IntF 3 (some ⟨b3, 0, none⟩) bs.length (numT bs.length bs.length), pt b1 (.cells #[sB va bs (vc), sB ua rs (uc), Ix (gx), Ix (gy)] 27), rowF H3F 80 (some ⟨b4, 0, none⟩) bs.length (hdT hv bs.length), Sat (hv.map (ownV BlF 4))]) (perm_ix [2, 3, 1, 0] 4 rfl (by kernel_rfl) (by kernel_rfl)) ?_
 refine c_freeze2 (M := [rowF IntF 3 (some ⟨b3, 0, none⟩) bs.length (numT bs.length bs.length), pt b1 (.cells #[sB va bs (vc), sB ua rs (uc), Ix (gx), Ix (gy)] 27)]) (K := [rowF H3F 80 (some ⟨b4, 0, none⟩) bs.length (hdT hv bs.length), Sat (hv.map (ownV BlF 4))]) rfl (fun βf ext1 kn1 bk1 => ?_)
 have hlk : Sl BlF.R.slice βf.heap (sB (some ⟨b4, 0, none⟩) bs bs.length) (rowsT bs rs gx gy bs.length) := by rw [← hvm]; exact kn1 _ (k_rowsB hvl rfl)
 obtain ⟨hlk0, hlk1, hlk2, hlke⟩ := hlk.parts
 have hs2 := Sl.mono _ _ _ _ _ ext1.sub (⟨⟨_, _, rfl, vl, vm, ve⟩⟩ : Sl KBR _ _ bs)
 clear ve
 obtain ⟨-, vl2, vm2, ve⟩ := hs2.parts
 have hnT : (numT bs.length bs.length).length = bs.length := numT_len (Nat.le_refl _)
 have hrTl : (rowsT bs rs gx gy bs.length).length = bs.length := rowsT_len
 have hnum := num_start (bs := bs) (rs := rs) (gx := gx) (gy := gy)
 refine c_region ?_
 refine l_val (v := .bool true) rfl rfl rfl e_assign ?_
 refine lnf ?_
 refine c_block ?_
 refine c_loop (fun (x_ : Bool × List Int) (f : Fm) (L : List Res) => match x_ with | (ag, ns) => (f 1 = pp b1 0 ∧ f 4 = Nx (bs.length) ∧ f 5 = sB (some ⟨b3, 0, none⟩) bs bs.length ∧ f 6 = sB (some ⟨b4, 0, none⟩) bs (bs.length) ∧ f 9 = .bool (ag)) ∧ L = [rowF IntF 3 (some ⟨b3, 0, none⟩) bs.length ns, pt b1 (.cells #[sB va bs (vc), sB ua rs (uc), Ix (gx), Ix (gy)] 27)] ∧ (NumI bs rs gx gy ns ∧ (ag = false → StabT bs rs gx gy ns bs.length 0))) (fun (x_ : Bool × List Int) => match x_ with | (ag, ns) => 2 * sumN ns + (if ag then 1 else 0)) (true, (numT bs.length bs.length)) ?_ ?_
 ·exact ⟨⟨rfl, rfl, rfl, rfl, rfl⟩, rfl, ⟨hnum, fun q => nomatch q⟩⟩
 rintro ⟨ag, ns⟩ f0 L0 ⟨⟨hs1, hs4, hs5, hs6, hs9⟩, hL, ⟨hn, hst⟩⟩
 subst L0
 refine rebase (d := 1) hs1 ?_
 refine rebase (d := 4) hs4 ?_
 refine rebase (d := 5) hs5 ?_
 refine rebase (d := 6) hs6 ?_
 refine rebase (d := 9) hs9 ?_
 clear hs1 hs4 hs5 hs6 hs9
 have hnl := hn.len
 refine cs2 ?_
 refine c_region ?_
 refine lv (v := .bool (ag)) e_move ?_
 refine lnf ?_
 refine c_ifb (ag) rfl (fun hc15 => ?_) (fun hc15 => ?_)
 ·refine csk ?_
  refine c_block ?_
  refine csr ?_
  refine l_val (v := .bool false) rfl rfl rfl e_assign ?_
  refine lnc ?_
  refine lv (v := .int .i64 (0)) e_assign ?_
  refine lnf ?_
  refine c_block ?_
  refine c_loop (fun (x_ : Nat × Bool × List Int) (f : Fm) (L : List Res) => match x_ with | (j, g1, ms) => (f 1 = pp b1 0 ∧ f 4 = Nx (bs.length) ∧ f 5 = sB (some ⟨b3, 0, none⟩) bs bs.length ∧ f 6 = sB (some ⟨b4, 0, none⟩) bs (bs.length) ∧ f 9 = .bool (g1) ∧ f 10 = Nx (j)) ∧ L = [rowF IntF 3 (some ⟨b3, 0, none⟩) bs.length ms, pt b1 (.cells #[sB va bs (vc), sB ua rs (uc), Ix (gx), Ix (gy)] 27)] ∧ (j ≤ bs.length ∧ NumI bs rs gx gy ms ∧ sumN ms ≤ sumN ns ∧ (g1 = true → sumN ms < sumN ns) ∧ (g1 = false → StabT bs rs gx gy ms j 0))) (fun (x_ : Nat × Bool × List Int) => match x_ with | (j, g1, ms) => bs.length - j) (0, false, ns) ?_ ?_
  ·exact ⟨⟨rfl, rfl, rfl, rfl, rfl, rfl⟩, rfl, ⟨by omega, hn, Nat.le_refl _, fun q => (nomatch q), fun _ => stab_zero⟩⟩
  rintro ⟨j, g1, ms⟩ f0 L0 ⟨⟨hs1, hs4, hs5, hs6, hs9, hs10⟩, hL, ⟨hj, hn1, hle1, hlt1, hst1⟩⟩
  subst L0
  refine rebase (d := 1) hs1 ?_
  refine rebase (d := 4) hs4 ?_
  refine rebase (d := 5) hs5 ?_
  refine rebase (d := 6) hs6 ?_
  refine rebase (d := 9) hs9 ?_
  refine rebase (d := 10) hs10 ?_
  clear hs1 hs4 hs5 hs6 hs9 hs10
  have hml := hn1.len
  refine cs2 ?_
  refine c_region ?_
  refine lv (v := Nx (j)) e_move ?_
  refine lv (v := Nx (bs.length)) e_move ?_
  refine lv (e_lss (a := ((j : Nat) : Int)) (b := ((bs.length : Nat) : Int)) rfl rfl) ?_
  refine lnf ?_
  refine c_if (((j : Nat) : Int) < ((bs.length : Nat) : Int)) rfl (fun hc16 => ?_) (fun hc16 => ?_)
  ·refine csk ?_
   refine c_seq ?_
   refine c_block ?_
   refine csr ?_
   refine l_val (v := .int .i64 (0)) rfl rfl rfl e_assign ?_
   refine lnf ?_
   refine c_block ?_
   refine c_loop (fun (x_ : Nat × Bool × List Int) (f : Fm) (L : List Res) => match x_ with | (k, g2, ps) => (f 1 = pp b1 0 ∧ f 4 = Nx (bs.length) ∧ f 5 = sB (some ⟨b3, 0, none⟩) bs bs.length ∧ f 6 = sB (some ⟨b4, 0, none⟩) bs (bs.length) ∧ f 9 = .bool (g2) ∧ f 10 = Nx (j) ∧ f 11 = Nx (k)) ∧ L = [rowF IntF 3 (some ⟨b3, 0, none⟩) bs.length ps, pt b1 (.cells #[sB va bs (vc), sB ua rs (uc), Ix (gx), Ix (gy)] 27)] ∧ (k ≤ bs.length ∧ NumI bs rs gx gy ps ∧ sumN ps ≤ sumN ns ∧ (g2 = true → sumN ps < sumN ns) ∧ (g2 = false → StabT bs rs gx gy ps j k))) (fun (x_ : Nat × Bool × List Int) => match x_ with | (k, g2, ps) => bs.length - k) (0, g1, ms) ?_ ?_
   ·exact ⟨⟨rfl, rfl, rfl, rfl, rfl, rfl, rfl⟩, rfl, ⟨by omega, hn1, hle1, hlt1, hst1⟩⟩
   rintro ⟨k, g2, ps⟩ f0 L0 ⟨⟨hs1, hs4, hs5, hs6, hs9, hs10, hs11⟩, hL, ⟨hk, hn2, hle2, hlt2, hst2⟩⟩
   subst L0
   refine rebase (d := 1) hs1 ?_
   refine rebase (d := 4) hs4 ?_
   refine rebase (d := 5) hs5 ?_
   refine rebase (d := 6) hs6 ?_
   refine rebase (d := 9) hs9 ?_
   refine rebase (d := 10) hs10 ?_
   refine rebase (d := 11) hs11 ?_
   clear hs1 hs4 hs5 hs6 hs9 hs10 hs11
   have hpl := hn2.len
   refine cs2 ?_
   refine c_region ?_
   refine lv (v := Nx (k)) e_move ?_
   refine lv (v := Nx (bs.length)) e_move ?_
   refine lv (e_lss (a := ((k : Nat) : Int)) (b := ((bs.length : Nat) : Int)) rfl rfl) ?_
   refine lnf ?_
   refine c_if (((k : Nat) : Int) < ((bs.length : Nat) : Int)) rfl (fun hc17 => ?_) (fun hc17 => ?_)
   ·refine csk ?_
    refine c_seq ?_
    refine c_block ?_
    refine c_seq ?_
    refine c_quiet (by kernel_rfl) (by kernel_rfl) ?_
    refine q_val (v := sB (some ⟨b4, 0, none⟩) bs (bs.length)) rfl rfl rfl e_move ?_
    refine q_val (v := Nx (j)) rfl rfl rfl e_move ?_
    obtain ⟨x18, hx19⟩ : ∃ x_, ((rowsT bs rs gx gy bs.length))[j]? = some x_ := ⟨_, List.getElem?_eq_getElem (by omega)⟩
    obtain ⟨ha20, cs21, hc22, hr23⟩ := hlke _ _ hx19
    obtain ⟨v24, rfl, hv25⟩ := hr23
    obtain ⟨a26, c27, rfl, hl28, hm29, he30⟩ := (hv25).get
    have hrxx18 : x18.length = bs.length := rows_len (bs := bs) (rs := rs) (gx := gx) (gy := gy) (n := bs.length) (by assumption)
    refine q_val (v := .pointer (some ((ba (some ⟨b4, 0, none⟩)).add (j * 1)))) rfl rfl rfl (e_indexAddr (k := j) (len := bs.length) (cap := bs.length) (a := (some ⟨b4, 0, none⟩)) rfl rfl tf100 (by omega) ha20) ?_
    refine q_val (v := sB a26 x18 (c27)) rfl rfl rfl (e_load1 tf106 rfl (kB hc22)) ?_
    refine q_val (v := Nx (k)) rfl rfl rfl e_move ?_
    obtain ⟨x31, hx32⟩ : ∃ x_, (x18)[k]? = some x_ := ⟨_, List.getElem?_eq_getElem (by omega)⟩
    obtain ⟨ha33, cs34, hc35, rfl⟩ := he30 _ _ hx32
    refine q_val (v := .pointer (some ((ba a26).add (k * 1)))) rfl rfl rfl (e_indexAddr (k := k) (len := x18.length) (cap := c27) (a := a26) rfl rfl tf103 (by omega) ha33) ?_
    refine q_val (v := .bool (x31)) rfl rfl rfl (e_load1 tf19 rfl (kB hc35)) ?_
    refine q_val (v := .bool (x31)) rfl rfl rfl e_move ?_
    refine q_splitb (s := 104) (b := x31) rfl (fun hg37 => ?_) (fun hg37 => ?_)
    ·refine qg_val (v := sB (some ⟨b3, 0, none⟩) bs bs.length) rfl rfl rfl rfl rfl e_move ?_
     refine qg_val (v := Nx (k)) rfl rfl rfl rfl rfl e_move ?_
     refine qg_val (v := .pointer (some ((ba (some ⟨b3, 0, none⟩)).add (k * 1)))) rfl rfl rfl rfl rfl (e_indexFlN 0 (F := IntF) (j := k) (m := bs.length) (xs := ps) rfl (by omega) rfl tf23 (by omega) rfl) ?_
     obtain ⟨x38, hx39⟩ : ∃ x_, ps[k]? = some x_ := ⟨_, List.getElem?_eq_getElem (by omega)⟩
     refine qg_val (v := Ix (x38)) rfl rfl rfl rfl rfl (e_load1 tf11 rfl (k_flAt 0 (F := IntF) rfl hx39)) ?_
     refine qg_val (v := sB (some ⟨b3, 0, none⟩) bs bs.length) rfl rfl rfl rfl rfl e_move ?_
     refine qg_val (v := Nx (j)) rfl rfl rfl rfl rfl e_move ?_
     refine qg_val (v := .pointer (some ((ba (some ⟨b3, 0, none⟩)).add (j * 1)))) rfl rfl rfl rfl rfl (e_indexFlN 0 (F := IntF) (j := j) (m := bs.length) (xs := ps) rfl (by omega) rfl tf23 (by omega) rfl) ?_
     obtain ⟨x40, hx41⟩ : ∃ x_, ps[j]? = some x_ := ⟨_, List.getElem?_eq_getElem (by omega)⟩
     refine qg_val (v := Ix (x40)) rfl rfl rfl rfl rfl (e_load1 tf11 rfl (k_flAt 0 (F := IntF) rfl hx41)) ?_
     refine qg_val rfl rfl rfl rfl rfl (e_lss (a := (x38)) (b := (x40)) rfl rfl) ?_
     refine q_val (v := .bool (decide ((x38) < (x40)))) rfl rfl rfl (e_pick_t rfl) ?_
     refine q_nil ?_
     refine f_then ?_
     refine c_if ((x38) < (x40)) rfl (fun hc42 => ?_) (fun hc42 => ?_)
     ·refine c_region ?_
      refine lv (v := sB (some ⟨b3, 0, none⟩) bs bs.length) e_move ?_
      refine lv (v := Nx (j)) e_move ?_
      refine lv (v := sB (some ⟨b3, 0, none⟩) bs bs.length) e_move ?_
      refine lv (v := Nx (k)) e_move ?_
      refine lv (v := .pointer (some ((ba (some ⟨b3, 0, none⟩)).add (k * 1)))) (e_indexFlN 0 (F := IntF) (j := k) (m := bs.length) (xs := ps) rfl (by omega) rfl tf23 (by omega) rfl) ?_
      refine lv (v := Ix (x38)) (e_load1 tf11 rfl (k_flAt 0 (F := IntF) rfl hx39)) ?_
      refine lv (v := .pointer (some ((ba (some ⟨b3, 0, none⟩)).add (j * 1)))) (e_indexFlN 0 (F := IntF) (j := j) (m := bs.length) (xs := ps) rfl (by omega) rfl tf23 (by omega) rfl) ?_
      refine lu (m_storeFl 0 (F := IntF) (p := (some ⟨b3, 0, none⟩)) (k := j) (xs := ps) (z := x38) tf11 rfl rfl rfl rfl (by omega)) ?_
      refine lv (v := .bool true) e_assign ?_
      refine l_nil ?_
      refine f_block ?_
      refine f_then ?_
      refine c_region ?_
      refine lv (v := Nx (k)) e_move ?_
      refine lv (v := Nx (k + 1)) (e_add (a := ((k : Nat) : Int)) (b := (1 : Int)) rfl rfl (i64n (by omega) (by omega))) ?_
      refine lv (v := Nx (k + 1)) e_assign ?_
      refine l_nil ?_
      exact f_cut ⟨(k + 1, true, (ps.set j x38)), ⟨⟨rfl, rfl, rfl, rfl, rfl, rfl, rfl⟩, rfl, ⟨by omega, hn2.set (by rw [(rows_at hx19 hx32), hg37]) hx41 hx39 hc42, Nat.le_trans (Nat.le_of_lt (sum_set hx41 (hn2.pos hx39) hc42)) hle2, fun _ => Nat.lt_of_lt_of_le (sum_set hx41 (hn2.pos hx39) hc42) hle2, fun q => nomatch q⟩⟩, (show bs.length - (k + 1) < bs.length - k from by omega)⟩
     refine c_skip ?_
     refine f_block ?_
     refine f_then ?_
     refine c_region ?_
     refine lv (v := Nx (k)) e_move ?_
     refine lv (v := Nx (k + 1)) (e_add (a := ((k : Nat) : Int)) (b := (1 : Int)) rfl rfl (i64n (by omega) (by omega))) ?_
     refine lv (v := Nx (k + 1)) e_assign ?_
     refine l_nil ?_
     exact f_cut ⟨(k + 1, g2, ps), ⟨⟨rfl, rfl, rfl, rfl, rfl, rfl, rfl⟩, rfl, ⟨by omega, hn2, hle2, hlt2, fun q => stab_next (hst2 q) fun _ _ _ h1 h2 => by rw [hx41] at h1; rw [hx39] at h2; injection h1 with h1; injection h2 with h2; rw [← h1, ← h2]; exact hc42⟩⟩, (show bs.length - (k + 1) < bs.length - k from by omega)⟩
    refine q_skip rfl rfl rfl rfl rfl rfl ?_
    refine q_skip rfl rfl rfl rfl rfl rfl ?_
    refine q_skip rfl rfl rfl rfl rfl rfl ?_
    refine q_skip rfl rfl rfl rfl rfl rfl ?_
    refine q_skip rfl rfl rfl rfl rfl rfl ?_
    refine q_skip rfl rfl rfl rfl rfl rfl ?_
    refine q_skip rfl rfl rfl rfl rfl rfl ?_
    refine q_skip rfl rfl rfl rfl rfl rfl ?_
    refine q_skip rfl rfl rfl rfl rfl rfl ?_
    refine q_val (v := .bool false) rfl rfl rfl (e_pick_f rfl) ?_
    refine q_nil ?_
    refine f_then ?_
    refine c_no rfl ?_
    refine c_skip ?_
    refine f_block ?_
    refine f_then ?_
    refine c_region ?_
    refine lv (v := Nx (k)) e_move ?_
    refine lv (v := Nx (k + 1)) (e_add (a := ((k : Nat) : Int)) (b := (1 : Int)) rfl rfl (i64n (by omega) (by omega))) ?_
    refine lv (v := Nx (k + 1)) e_assign ?_
    refine l_nil ?_
    exact f_cut ⟨(k + 1, g2, ps), ⟨⟨rfl, rfl, rfl, rfl, rfl, rfl, rfl⟩, rfl, ⟨by omega, hn2, hle2, hlt2, fun q => stab_next (hst2 q) fun _ _ e _ _ => by rw [(rows_at hx19 hx32), hg37] at e; cases e⟩⟩, (show bs.length - (k + 1) < bs.length - k from by omega)⟩
   refine c_exit ?_
   refine f_then_exit ?_
   refine f_then_exit ?_
   refine f_exit ?_
   refine f_block ?_
   refine f_then ?_
   refine c_region ?_
   refine lv (v := Nx (j)) e_move ?_
   refine lv (v := Nx (j + 1)) (e_add (a := ((j : Nat) : Int)) (b := (1 : Int)) rfl rfl (i64n (by omega) (by omega))) ?_
   refine lv (v := Nx (j + 1)) e_assign ?_
   refine l_nil ?_
   exact f_cut ⟨(j + 1, g2, ps), ⟨⟨rfl, rfl, rfl, rfl, rfl, rfl⟩, rfl, ⟨by omega, hn2, hle2, hlt2, fun q => stab_row hn2.len (by omega) (hst2 q)⟩⟩, (show bs.length - (j + 1) < bs.length - j from by omega)⟩
  refine c_exit ?_
  refine f_then_exit ?_
  refine f_then_exit ?_
  refine f_exit ?_
  refine f_block ?_
  exact f_cut ⟨(g1, ms), ⟨⟨rfl, rfl, rfl, rfl, rfl⟩, rfl, ⟨hn1, fun q => stab_end (hst1 q) (by omega)⟩⟩, (num_dec hle1 hlt1 hc15)⟩
 refine c_exit ?_
 refine f_then_exit ?_
 refine f_then_exit ?_
 refine f_exit ?_
 refine fts ?_
 have hfin := stab_all hn.len (Nat.le_refl _) (hst (by simpa using hc15))
 have hnl := hn.len
 have hout : outT bs ns bs.length = islR bs rs gx gy := ref_isl hok hn hfin
 refine c_region ?_
 refine l_val (v := .slice none 0 0) rfl rfl rfl e_assign ?_
 refine lnf ?_
 refine cs2 ?_
 refine c_emp (r := rowF HdIF 28 none 0 []) (row_nil _ _ _) ?_
 refine c_emp (r := Sat (([] : List HI).map ownI)) trivial ?_
 refine c_region ?_
 refine l_val (v := .int .i64 (0)) rfl rfl rfl e_assign ?_
 refine lnf ?_
 refine c_block ?_
 refine c_loop (fun (x_ : Nat × List HI × Option Addr × Nat) (f : Fm) (L : List Res) => match x_ with | (m, ho, op, oc) => (f 1 = pp b1 0 ∧ f 4 = Nx (bs.length) ∧ f 5 = sB (some ⟨b3, 0, none⟩) bs bs.length ∧ f 12 = sB op ho oc ∧ f 13 = Nx (m)) ∧ L = [Sat (ho.map ownI), rowF HdIF 28 op oc ho, rowF IntF 3 (some ⟨b3, 0, none⟩) bs.length ns, pt b1 (.cells #[sB va bs (vc), sB ua rs (uc), Ix (gx), Ix (gy)] 27)] ∧ (m ≤ bs.length ∧ ho.map (·.xs) = outT bs ns m ∧ ho.length ≤ m)) (fun (x_ : Nat × List HI × Option Addr × Nat) => match x_ with | (m, ho, op, oc) => bs.length - m) (0, [], none, 0) ?_ ?_
 ·exact ⟨⟨rfl, rfl, rfl, rfl, rfl⟩, rfl, ⟨by omega, rfl, Nat.le_refl _⟩⟩
 rintro ⟨m, ho, op, oc⟩ f0 L0 ⟨⟨hs1, hs4, hs5, hs12, hs13⟩, hL, ⟨hm, hho, hhl⟩⟩
 subst L0
 refine rebase (d := 1) hs1 ?_
 refine rebase (d := 4) hs4 ?_
 refine rebase (d := 5) hs5 ?_
 refine rebase (d := 12) hs12 ?_
 refine rebase (d := 13) hs13 ?_
 clear hs1 hs4 hs5 hs12 hs13
 refine cs2 ?_
 refine c_region ?_
 refine lv (v := Nx (m)) e_move ?_
 refine lv (v := Nx (bs.length)) e_move ?_
 refine lv (e_lss (a := ((m : Nat) : Int)) (b := ((bs.length : Nat) : Int)) rfl rfl) ?_
 refine lnf ?_
 refine c_if (((m : Nat) : Int) < ((bs.length : Nat) : Int)) rfl (fun hc43 => ?_) (fun hc43 => ?_)
 ·refine csk ?_
  refine c_seq ?_
  refine c_block ?_
  refine csr ?_
  refine l_val (v := .slice none 0 0) rfl rfl rfl e_assign ?_
  refine lnf ?_
  refine cs2 ?_
  refine c_emp (r := rowF IntF 3 none 0 (grpT bs ns m 0)) (row_nil _ _ _) ?_
  refine rebase (d := 14) (v := sB none (grpT bs ns m 0) 0) rfl ?_
  refine c_region ?_
  refine l_val (v := .int .i64 (0)) rfl rfl rfl e_assign ?_
  refine lnf ?_
  refine c_block ?_
  refine c_loop (fun (x_ : Nat × Option Addr × Nat) (f : Fm) (L : List Res) => match x_ with | (q, gp, gc) => (f 1 = pp b1 0 ∧ f 4 = Nx (bs.length) ∧ f 5 = sB (some ⟨b3, 0, none⟩) bs bs.length ∧ f 12 = sB op ho oc ∧ f 13 = Nx (m) ∧ f 14 = sB gp (grpT bs ns m q) gc ∧ f 15 = Nx (q)) ∧ L = [rowF IntF 3 gp gc (grpT bs ns m q), Sat (ho.map ownI), rowF HdIF 28 op oc ho, rowF IntF 3 (some ⟨b3, 0, none⟩) bs.length ns, pt b1 (.cells #[sB va bs (vc), sB ua rs (uc), Ix (gx), Ix (gy)] 27)] ∧ (q ≤ bs.length)) (fun (x_ : Nat × Option Addr × Nat) => match x_ with | (q, gp, gc) => bs.length - q) (0, none, 0) ?_ ?_
  ·exact ⟨⟨rfl, rfl, rfl, rfl, rfl, rfl, rfl⟩, rfl, by omega⟩
  rintro ⟨q, gp, gc⟩ f0 L0 ⟨⟨hs1, hs4, hs5, hs12, hs13, hs14, hs15⟩, hL, hq⟩
  subst L0
  refine rebase (d := 1) hs1 ?_
  refine rebase (d := 4) hs4 ?_
  refine rebase (d := 5) hs5 ?_
  refine rebase (d := 12) hs12 ?_
  refine rebase (d := 13) hs13 ?_
  refine rebase (d := 14) hs14 ?_
  refine rebase (d := 15) hs15 ?_
  clear hs1 hs4 hs5 hs12 hs13 hs14 hs15
  have hgl := grp_len bs ns m q
  refine cs2 ?_
  refine c_region ?_
  refine lv (v := Nx (q)) e_move ?_
  refine lv (v := Nx (bs.length)) e_move ?_
  refine lv (e_lss (a := ((q : Nat) : Int)) (b := ((bs.length : Nat) : Int)) rfl rfl) ?_
  refine lnf ?_
  refine c_if (((q : Nat) : Int) < ((bs.length : Nat) : Int)) rfl (fun hc44 => ?_) (fun hc44 => ?_)
  ·refine csk ?_
   refine c_seq ?_
   refine c_block ?_
   refine csr ?_
   refine lv (v := sB (some ⟨b3, 0, none⟩) bs bs.length) e_move ?_
   refine lv (v := Nx (q)) e_move ?_
   refine lv (v := .pointer (some ((ba (some ⟨b3, 0, none⟩)).add (q * 1)))) (e_indexFlN 3 (F := IntF) (j := q) (m := bs.length) (xs := ns) rfl (by omega) rfl tf23 (by omega) rfl) ?_
   obtain ⟨x45, hx46⟩ : ∃ x_, ns[q]? = some x_ := ⟨_, List.getElem?_eq_getElem (by omega)⟩
   refine lv (v := Ix (x45)) (e_load1 tf11 rfl (k_flAt 3 (F := IntF) rfl hx46)) ?_
   refine lv (v := Nx (m)) e_move ?_
   refine lv (e_eql (a := (x45)) (b := ((m : Nat) : Int)) rfl rfl) ?_
   refine lv (v := .bool (decide ((x45) = ((m : Nat) : Int)))) e_move ?_
   refine l_split (s := 138) (p := (x45) = ((m : Nat) : Int)) rfl (fun hg47 => ?_) (fun hg47 => ?_)
   ·refine g_val (v := pp b1 0) rfl rfl rfl rfl rfl (e_fieldPt rfl tf33) ?_
    refine g_val (v := sB va bs (vc)) rfl rfl rfl rfl rfl (e_load1 tf26 rfl (k_pt 4 rfl rfl)) ?_
    refine g_val (v := Nx (q)) rfl rfl rfl rfl rfl e_move ?_
    obtain ⟨x48, hx49⟩ : ∃ x_, (bs)[q]? = some x_ := ⟨_, List.getElem?_eq_getElem (by omega)⟩
    obtain ⟨ha50, cs51, hc52, rfl⟩ := ve _ _ hx49
    refine g_val (v := .pointer (some ((ba va).add (q * 9)))) rfl rfl rfl rfl rfl (e_indexAddr (k := q) (len := bs.length) (cap := vc) (a := va) rfl rfl tf16 (by omega) ha50) ?_
    refine g_val (v := .pointer (some (((ba va).add (q * 9) : Addr).add 8))) rfl rfl rfl rfl rfl (e_fieldAddr (a := (ba va).add (q * 9)) rfl tf18) ?_
    refine g_val (v := .bool (x48.fixed)) rfl rfl rfl rfl rfl (e_load1 tf19 rfl (Knows.imp (kB hc52) (fun _ h => Cs.sub (vs := [.bool (x48.fixed)]) 8 h rfl))) ?_
    refine g_val (v := .bool (!x48.fixed)) rfl rfl rfl rfl rfl (e_not rfl) ?_
    refine lv (v := .bool (!x48.fixed)) (e_pick_t rfl) ?_
    refine lnf ?_
    refine c_ifb (!x48.fixed) rfl (fun hc54 => ?_) (fun hc54 => ?_)
    ·refine c_region ?_
     refine lv (v := sB gp (grpT bs ns m q) gc) e_move ?_
     refine lv (v := pp b1 0) (e_fieldPt rfl tf33) ?_
     refine lv (v := sB va bs (vc)) (e_load1 tf26 rfl (k_pt 4 rfl rfl)) ?_
     refine lv (v := Nx (q)) e_move ?_
     refine lv (v := .pointer (some ((ba va).add (q * 9)))) (e_indexAddr (k := q) (len := bs.length) (cap := vc) (a := va) rfl rfl tf16 (by omega) ha50) ?_
     refine lv (v := .pointer (some (((ba va).add (q * 9) : Addr).add 0))) (e_fieldAddr (a := (ba va).add (q * 9)) rfl tf27) ?_
     refine lv (v := Ix (x48.id)) (e_load1 tf11 rfl (Knows.imp (kB hc52) (fun _ h => Cs.sub (vs := [Ix (x48.id)]) 0 h rfl))) ?_
     refine l_mv rfl rfl rfl (m_slices tf23 tf24 (cells := #[Ix (x48.id)]) rfl rfl rfl rfl) ?_
     rintro _ _ ⟨b55, rfl, rfl⟩
     refine l_mv rfl rfl rfl (m_appendFlN (F := IntF) 1 tf23 tf25 (p := gp) (m := (grpT bs ns m q).length) (xs := (grpT bs ns m q)) (ys := [x48.id]) (ao := (some ⟨b55, 0, none⟩)) (k := 1) (c := 1) rfl rfl rfl rfl rfl (k_ptFl (z := x48.id) 0 rfl rfl) (by first | omega | simp only [List.length_nil, List.length_cons, List.length_append, List.length_set]; omega) (by first | omega | simp only [List.length_nil, List.length_cons, List.length_append, List.length_set]; omega)) ?_
     rintro _ _ ⟨rp56, rc57, rfl, rfl⟩
     refine lv (v := sB rp56 ((grpT bs ns m q) ++ [x48.id]) rc57) e_assign ?_
     refine l_nil ?_
     refine f_block ?_
     refine f_then ?_
     refine c_region ?_
     refine lv (v := Nx (q)) e_move ?_
     refine lv (v := Nx (q + 1)) (e_add (a := ((q : Nat) : Int)) (b := (1 : Int)) rfl rfl (i64n (by omega) (by omega))) ?_
     refine lv (v := Nx (q + 1)) e_assign ?_
     refine l_nil ?_
     refine f_mask (L' := [rowF IntF 3 rp56 rc57 ((grpT bs ns m q) ++ [x48.id]), Sat (ho.map ownI), rowF HdIF 28 op oc ho, rowF IntF 3 (some ⟨b3, 0, none⟩) bs.length ns, pt b1 (.cells #[sB va bs (vc), sB ua rs (uc), Ix (gx), Ix (gy)] 27)]) [false, true, true, true, true, true] rfl ?_
     exact f_cut ⟨(q + 1, rp56, rc57), ⟨⟨rfl, rfl, rfl, rfl, rfl, by rw [grp_yes hx49 hx46 hg47 (by simpa using hc54)] <;> rfl, rfl⟩, by rw [grp_yes hx49 hx46 hg47 (by simpa using hc54)], by omega⟩, (show bs.length - (q + 1) < bs.length - q from by omega)⟩
    refine c_skip ?_
    refine f_block ?_
    refine f_then ?_
    refine c_region ?_
    refine lv (v := Nx (q)) e_move ?_
    refine lv (v := Nx (q + 1)) (e_add (a := ((q : Nat) : Int)) (b := (1 : Int)) rfl rfl (i64n (by omega) (by omega))) ?_
    refine lv (v := Nx (q + 1)) e_assign ?_
    refine l_nil ?_
    exact f_cut ⟨(q + 1, gp, gc), ⟨⟨rfl, rfl, rfl, rfl, rfl, by rw [grp_no hx49 hx46 (fun q => by have := hc54; rw [q.2] at this; simp at this)] <;> rfl, rfl⟩, by rw [grp_no hx49 hx46 (fun q => by have := hc54; rw [q.2] at this; simp at this)], by omega⟩, (show bs.length - (q + 1) < bs.length - q from by omega)⟩
   refine l_skip rfl rfl rfl rfl rfl rfl ?_
   refine l_skip rfl rfl rfl rfl rfl rfl ?_
   refine l_skip rfl rfl rfl rfl rfl rfl ?_
   refine l_skip rfl rfl rfl rfl rfl rfl ?_
   refine l_skip rfl rfl rfl rfl rfl rfl ?_
   refine l_skip rfl rfl rfl rfl rfl rfl ?_
   refine l_skip rfl rfl rfl rfl rfl rfl ?_
   refine lv (v := .bool false) (e_pick_f rfl) ?_
   refine lnf ?_
   refine c_no rfl ?_
   refine c_skip ?_
   refine f_block ?_
   refine f_then ?_
   refine c_region ?_
   refine lv (v := Nx (q)) e_move ?_
   refine lv (v := Nx (q + 1)) (e_add (a := ((q : Nat) : Int)) (b := (1 : Int)) rfl rfl (i64n (by omega) (by omega))) ?_
   refine lv (v := Nx (q + 1)) e_assign ?_
   refine l_nil ?_
   exact f_cut ⟨(q + 1, gp, gc), ⟨⟨rfl, rfl, rfl, rfl, rfl, by rw [grp_no (List.getElem?_eq_getElem (by omega)) hx46 (fun q => hg47 q.1)] <;> rfl, rfl⟩, by rw [grp_no (List.getElem?_eq_getElem (by omega)) hx46 (fun q => hg47 q.1)], by omega⟩, (show bs.length - (q + 1) < bs.length - q from by omega)⟩
  refine c_exit ?_
  refine f_then_exit ?_
  refine f_then_exit ?_
  refine f_exit ?_
  refine fts ?_
  obtain rfl : q = bs.length := by omega
  have hgl := grp_len bs ns m bs.length
  refine c_region ?_
  refine lv (v := sB gp (grpT bs ns m bs.length) gc) e_move ?_
  refine lv (v := Nx ((grpT bs ns m bs.length).length)) (e_len (a := gp) (n := (grpT bs ns m bs.length).length) (c := gc) rfl tf28) ?_
  refine lv (e_gtr (a := (((grpT bs ns m bs.length).length : Nat) : Int)) (b := (0 : Int)) rfl rfl) ?_
  refine lnf ?_
  refine c_if ((0 : Int) < (((grpT bs ns m bs.length).length : Nat) : Int)) rfl (fun hc58 => ?_) (fun hc58 => ?_)
  ·refine c_region ?_
   refine lv (v := sB op ho oc) e_move ?_
   refine lv (v := sB gp (grpT bs ns m bs.length) gc) e_move ?_
   refine l_mv rfl rfl rfl (m_slices tf21 tf38 (cells := #[sB gp (grpT bs ns m bs.length) gc]) rfl rfl rfl rfl) ?_
   rintro _ _ ⟨b59, rfl, rfl⟩
   refine l_mv rfl rfl rfl (m_appendFlN (F := HdIF) 3 tf21 tf37 (p := op) (m := ho.length) (xs := ho) (ys := [(⟨gp, gc, (grpT bs ns m bs.length)⟩ : HI)]) (ao := (some ⟨b59, 0, none⟩)) (k := 1) (c := 1) rfl rfl rfl rfl rfl (k_ptFl (z := (⟨gp, gc, (grpT bs ns m bs.length)⟩ : HI)) 0 rfl rfl) (by first | omega | simp only [List.length_nil, List.length_cons, List.length_append, List.length_set]; omega) (by first | omega | simp only [List.length_nil, List.length_cons, List.length_append, List.length_set]; omega)) ?_
   rintro _ _ ⟨rp60, rc61, rfl, rfl⟩
   refine lv (v := sB rp60 (ho ++ [(⟨gp, gc, (grpT bs ns m bs.length)⟩ : HI)]) rc61) e_assign ?_
   refine l_nil ?_
   refine f_block ?_
   refine f_then ?_
   refine c_region ?_
   refine lv (v := Nx (m)) e_move ?_
   refine lv (v := Nx (m + 1)) (e_add (a := ((m : Nat) : Int)) (b := (1 : Int)) rfl rfl (i64n (by omega) (by omega))) ?_
   refine lv (v := Nx (m + 1)) e_assign ?_
   refine l_nil ?_
   refine f_perm (L' := [Sat (ho.map ownI), rowF IntF 3 gp gc (grpT bs ns m bs.length), pt b59 (.cells #[sB gp (grpT bs ns m bs.length) gc] 28), rowF HdIF 28 rp60 rc61 (ho ++ [(⟨gp, gc, (grpT bs ns m bs.length)⟩ : HI)]), rowF IntF 3 (some ⟨b3, 0, none⟩) bs.length ns, pt b1 (.cells #[sB va bs (vc), sB ua rs (uc), Ix (gx), Ix (gy)] 27)]) (perm_ix [2, 1, 0, 3, 4, 5] 6 rfl (by kernel_rfl) (by kernel_rfl)) ?_
   refine f_snocI (x := (⟨gp, gc, (grpT bs ns m bs.length)⟩ : HI)) rfl ?_
   refine f_mask (L' := [Sat ((ho ++ [(⟨gp, gc, (grpT bs ns m bs.length)⟩ : HI)]).map ownI), rowF HdIF 28 rp60 rc61 (ho ++ [(⟨gp, gc, (grpT bs ns m bs.length)⟩ : HI)]), rowF IntF 3 (some ⟨b3, 0, none⟩) bs.length ns, pt b1 (.cells #[sB va bs (vc), sB ua rs (uc), Ix (gx), Ix (gy)] 27)]) [true, false, true, true, true] rfl ?_
   exact f_cut ⟨(m + 1, (ho ++ [(⟨gp, gc, (grpT bs ns m bs.length)⟩ : HI)]), rp60, rc61), ⟨⟨rfl, rfl, rfl, rfl, rfl⟩, rfl, ⟨by omega, by rw [List.map_append, hho]; exact out_yes (by omega), by first | omega | (rw [List.length_append]; simp only [sB, rB, List.length_singleton]; omega)⟩⟩, (show bs.length - (m + 1) < bs.length - m from by omega)⟩
  refine c_skip ?_
  refine f_block ?_
  refine f_then ?_
  refine c_region ?_
  refine lv (v := Nx (m)) e_move ?_
  refine lv (v := Nx (m + 1)) (e_add (a := ((m : Nat) : Int)) (b := (1 : Int)) rfl rfl (i64n (by omega) (by omega))) ?_
  refine lv (v := Nx (m + 1)) e_assign ?_
  refine l_nil ?_
  refine f_mask (L' := [Sat (ho.map ownI), rowF HdIF 28 op oc ho, rowF IntF 3 (some ⟨b3, 0, none⟩) bs.length ns, pt b1 (.cells #[sB va bs (vc), sB ua rs (uc), Ix (gx), Ix (gy)] 27)]) [false, true, true, true, true] rfl ?_
  exact f_cut ⟨(m + 1, ho, op, oc), ⟨⟨rfl, rfl, rfl, rfl, rfl⟩, rfl, ⟨by omega, by rw [hho]; exact out_no (by omega), by first | omega | (rw [List.length_append]; simp only [sB, rB, List.length_singleton]; omega)⟩⟩, (show bs.length - (m + 1) < bs.length - m from by omega)⟩
 refine c_exit ?_
 refine f_then_exit ?_
 refine f_then_exit ?_
 refine f_exit ?_
 refine ftc ?_
 refine lv (v := sB op ho oc) e_move ?_
 refine lv (v := sB op ho oc) e_assign ?_
 refine lv (v := .int .i64 (0)) e_assign ?_
 refine lnf ?_
 refine c_ret ?_
 refine ret2 (v := sB op ho oc) (v' := .int .i64 (0)) Tryz.results18 rfl rfl ?_
 intro w hw
 replace hw := hw.perm (L' := [rowF HdIF 28 op oc ho, Sat (ho.map ownI), rowF IntF 3 (some ⟨b3, 0, none⟩) bs.length ns, pt b1 (.cells #[sB va bs (vc), sB ua rs (uc), Ix (gx), Ix (gy)] 27)]) (by exact (perm_ix [1, 0, 2, 3] 4 rfl (by kernel_rfl) (by kernel_rfl)))
 exact ⟨op, oc, ho, by rw [← hout, hho, show m = bs.length by omega], by rw [errI, if_pos hok], st_mask [true, true, false, false] rfl (bk1 _ _ (st_mask [true, true, false, false] rfl hw))⟩
end Go.Proofs
