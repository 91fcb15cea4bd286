/-
 What the law compares, walked. Printed by a program of my own.
-/
import Derived.Test.YtkpdcajddpiknaaJn20
import Derived.Test.YtkpdcajddpiknaaSlShp
import Derived.Test.YtkpdcajddpiknaaSlC
namespace Go.Proofs
open Go Go.Sl Go.Jn
def markF (j : Nat) : UInt8 := markU (8000024 + j)
def lentX (xs : Bs) : Bs := xs ++ (List.range 12).map markF
theorem lentX_len (xs : Bs) : (lentX xs).length = xs.length + 12 := by simp [lentX]
theorem lent_sl {p : Option Addr} {c : Nat} {xs : Bs} {h : PHeap} (hr : rB p (lentX xs) c h) : Sl U8R h (sB p xs c) xs := by
 obtain ⟨_, h1, h2, h3⟩ := (row_u8 hr).parts
 have h4 := Elems.take xs.length h3
 rw [show (lentX xs).take xs.length = xs by simp [lentX]] at h4
 exact ⟨p, c, rfl, by rw [lentX_len] at h1; omega, h2, h4⟩
theorem lent_lo {xs : Bs} {k : Nat} {a b : UInt8} (h1 : (lentX xs)[k]? = some a) (h2 : xs[k]? = some b) : (a.toNat : Int) = (b.toNat : Int) := by
 have := (List.getElem?_eq_some_iff.1 h2).1
 unfold lentX at h1
 rw [List.getElem?_append_left this, h2] at h1
 cases h1; rfl
theorem lent_hi {xs : Bs} {k : Nat} {a : UInt8} (h1 : (lentX xs)[k]? = some a) (hk : xs.length ≤ k) : (a.toNat : Int) = ((markU (8000024 + (k - xs.length))).toNat : Int) := by
 have hl := (List.getElem?_eq_some_iff.1 h1).1
 rw [lentX_len] at hl
 unfold lentX at h1
 rw [List.getElem?_append_right hk, List.getElem?_map, List.getElem?_range (by omega)] at h1
 simp only [Option.map_some, Option.some.injEq] at h1
 rw [← h1]; rfl
theorem ins_len {us : List Value} {xs : List Bs} {h : PHeap} (hi : ins us xs h) (hb : ∀ b ∈ xs, b.length ≤ 1048576) : us.length = xs.length ∧ ∀ (j : Nat) (u : Value), us[j]? = some u → ∃ a m c, u = Value.slice a m c ∧ m ≤ 1048576 := by
 refine ⟨hi.1.1, fun j u hu => ?_⟩
 have hlt := (List.getElem?_eq_some_iff.1 hu).1
 obtain ⟨x, hx⟩ : ∃ x, xs[j]? = some x := ⟨_, List.getElem?_eq_getElem (by rw [← hi.1.1]; exact hlt)⟩
 obtain ⟨a, c, rfl, _⟩ := (hi.1.2 j x u hx hu).get
 exact ⟨a, _, c, rfl, hb _ (List.mem_of_getElem? hx)⟩
theorem tf161 : cfB Try.prog 62 = true := by kernel_rfl
theorem tf162 : cfB Try.prog 60 = true := by kernel_rfl
theorem tf163 : cfB Try.prog 27 = true := by kernel_rfl
theorem over_blk (β : Base) (w : World) (us : List Value) (a : Option Addr) (m c : Nat) (hv : (.slice a m c : Value) ∈ us) (hm : m ≤ 1048576) (hmc : m ≤ c) (hcm : c ≤ 9223372036854775807) (ha : 0 < c → a = some (ba a)) (hw : St β [shp us] w) : Calls Try.prog 27 #[.slice a m c] w fun r w' => r = .returned (.tuple #[]) ∧ St β [shp us] w' := by
 refine enter (n := 23) Try.func27 rfl Try.ntmps27 rfl ?_ hw
 refine csr ?_
 refine lv e_move ?_
 refine lv e_move ?_
 refine lv (v := Nx (c)) (e_cap (a := a) (n := m) (c := c) rfl tf11) ?_
 refine lv e_move ?_
 refine lv (v := Nx (m)) (e_len (a := a) (n := m) (c := c) rfl tf11) ?_
 refine lv (v := Nx (m + 12)) (e_add (a := ((m : Nat) : Int)) (b := (12 : Int)) rfl rfl (i64n (by omega) (by omega))) ?_
 refine lv (v := Nx (min c (m + 12))) (ev_eq (congrArg (Value.int .i64) (by omega)) (e_min (a := ((c : Nat) : Int)) (b := ((m + 12 : Nat) : Int)) rfl rfl)) ?_
 refine lv (v := .slice a (min c (m + 12)) c) (e_slice_hi (a := a) (len := m) (cap := c) (h := min c (m + 12)) tf12 rfl rfl (by omega)) ?_
 refine lv e_assign ?_
 refine lnc ?_
 refine lv e_assign ?_
 refine lnf ?_
 refine c_block ?_
 refine c_loop (fun (k : Nat) (f : Fm) (L : List Res) => (f 2 = .slice a (min c (m + 12)) c ∧ f 3 = Nx (k)) ∧ L = [shp us] ∧ (k ≤ min c (m + 12))) (fun (k : Nat) => min c (m + 12) - k) 0 ?_ ?_
 ·exact ⟨⟨rfl, rfl⟩, rfl, (by omega)⟩
 rintro k f0 L0 ⟨⟨hs2, hs3⟩, hL, hk⟩
 subst L0
 refine rebase (d := 2) hs2 ?_
 refine rebase (d := 3) hs3 ?_
 clear hs2 hs3
 refine cs2 ?_
 refine c_region ?_
 refine lv e_move ?_
 refine lv e_move ?_
 refine lv (v := Nx (min c (m + 12))) (e_len (a := a) (n := min c (m + 12)) (c := c) rfl tf11) ?_
 refine lv (e_lss (a := ((k : Nat) : Int)) (b := ((min c (m + 12) : Nat) : Int)) rfl rfl) ?_
 refine lnf ?_
 refine c_if (((k : Nat) : Int) < ((min c (m + 12) : Nat) : Int)) rfl (fun hc1 => ?_) (fun hc1 => ?_)
 ·refine csk ?_
  refine c_seq ?_
  refine c_block ?_
  refine c_region ?_
  refine lv e_move ?_
  refine lv e_move ?_
  refine lv e_move ?_
  refine lcf (cl0 (vs := [.int .i64 (2), Nx (k)]) tf161 rfl rfl) rfl fun w β1 sb kn hw1 back => (markb2_ok β1 w hw1 k (by omega)).mono ?_
  rintro e w' ⟨rfl, hw'⟩
  refine ⟨_, rfl, _, back _ _ hw', ?_⟩
  clear hw1 hw' back kn sb
  refine lv (v := .pointer (some ((ba a).add (k * 1)))) (e_indexAddr (k := k) (len := min c (m + 12)) (cap := c) (a := a) rfl rfl tf12 (by omega) (ha (by omega))) ?_
  refine lu (m_storeShp 0 tf13 rfl rfl rfl hv (by omega)) ?_
  refine l_nil ?_
  refine f_block ?_
  refine f_then ?_
  refine c_region ?_
  refine lv e_move ?_
  refine lv (v := Nx (k + 1)) (e_add (a := ((k : Nat) : Int)) (b := (1 : Int)) rfl rfl (i64n (by omega) (by omega))) ?_
  refine lv e_assign ?_
  refine l_nil ?_
  exact f_cut ⟨k + 1, ⟨⟨rfl, rfl⟩, rfl, (by omega)⟩, (show min c (m + 12) - (k + 1) < min c (m + 12) - k from by omega)⟩
 refine c_exit ?_
 refine f_then_exit ?_
 refine f_then_exit ?_
 refine f_exit ?_
 refine end0 Try.results27 ?_
 intro w hw
 exact ⟨rfl, st_mask [true] rfl hw⟩
theorem over_ok (β : Base) (w : World) (us : List Value) (v : Value) (hv : v ∈ us) (hm : ∃ a m c, v = .slice a m c ∧ m ≤ 1048576) (hw : St β [shp us] w) : Calls Try.prog 27 #[v] w fun r w' => r = .returned (.tuple #[]) ∧ St β [shp us] w' := by
 have hs : shp us (ph w) := hw.knows (Knows.of_res 0 rfl (shp.mono us) fun _ h => h)
 obtain ⟨a, m, c, rfl, h1, h2, h3⟩ := shp_form hs hv
 obtain ⟨_, _, _, e, h4⟩ := hm
 injection e with _ e2 _
 subst e2
 exact over_blk β w us a m c hv h4 h1 (by unfold maxLen at h2; omega) h3 hw
set_option maxHeartbeats 4000000 in
theorem lentb_ok (β : Base) (w : World) (hw : St β [] w) (xs : Bs) (v : Value) (hx : xs.length ≤ 1048576) (hs : Sl U8R β.heap v xs) : Calls Try.prog 23 #[v] w fun r w' => ∃ p c, r = .returned (sB p xs c) ∧ St β [rB p (lentX xs) c] w' := by
 obtain ⟨va, vc, rfl, vl, vm, ve⟩ := hs.get
 refine enter (n := 25) Try.func23 rfl Try.ntmps23 rfl ?_ hw
 refine csr ?_
 refine lv e_assign ?_
 refine lnc ?_
 refine lv e_move ?_
 refine lv (v := Nx (xs.length)) (e_len (a := va) (n := xs.length) (c := vc) rfl tf11) ?_
 refine lv (v := Nx (xs.length + 12)) (e_add (a := ((xs.length : Nat) : Int)) (b := (12 : Int)) rfl rfl (i64n (by omega) (by omega))) ?_
 refine l_mv rfl rfl rfl (m_make0 (c := xs.length + 12) tf12 tf15 tf14 rfl rfl (by omega) (by unfold maxLen; omega) (by omega)) ?_
 rintro _ _ ⟨b1, rfl, rfl⟩
 refine lv e_assign ?_
 refine lnc ?_
 refine lv e_move ?_
 refine lv e_move ?_
 refine l_mv rfl rfl rfl (m_appendE (enc := fun c : UInt8 => Bx c) 0 bx_cell tf12 tf15 (v := .slice (some ⟨b1, 0, none⟩) 0 (xs.length + 12)) (xs := []) (ys := xs) (ao := va) (c := vc) rfl rfl (by first | rfl | simp) rfl (by first | rfl | simp) (Knows.of_base (Elems.mono _ _ _) ve) (by first | omega | (simp only [List.length_append, List.length_nil, List.length_cons, be_length] at *; omega)) (by first | omega | (simp only [List.length_append, List.length_nil, List.length_cons, be_length] at *; omega))) ?_
 rintro _ _ ⟨rp2, rc3, rfl, rfl⟩
 refine lv e_assign ?_
 refine lnf ?_
 refine cs2 ?_
 refine c_region ?_
 refine lv e_assign ?_
 refine lnf ?_
 refine c_block ?_
 refine c_loop (fun (x_ : Nat × Bs × Option Addr × Nat) (f : Fm) (L : List Res) => match x_ with | (k, ys, p, c) => (f 0 = sB va xs (vc) ∧ f 3 = sB p ys c ∧ f 4 = Nx (k)) ∧ L = [rB p ys c] ∧ (k ≤ 12 ∧ ys = xs ++ (List.range k).map markF)) (fun (x_ : Nat × Bs × Option Addr × Nat) => match x_ with | (k, ys, p, c) => 12 - k) (0, (xs), rp2, rc3) ?_ ?_
 ·exact ⟨⟨rfl, rfl, rfl⟩, (by simp only [List.nil_append]; rfl), ⟨by omega, by simp⟩⟩
 rintro ⟨k, ys, p, c⟩ f0 L0 ⟨⟨hs0, hs3, hs4⟩, hL, ⟨hk, hys⟩⟩
 subst L0
 refine rebase (d := 0) hs0 ?_
 refine rebase (d := 3) hs3 ?_
 refine rebase (d := 4) hs4 ?_
 clear hs0 hs3 hs4
 have hyl : ys.length = xs.length + k := by rw [hys]; simp
 refine cs2 ?_
 refine c_region ?_
 refine lv e_move ?_
 refine lv (e_lss (a := ((k : Nat) : Int)) (b := (12 : Int)) rfl rfl) ?_
 refine lnf ?_
 refine c_if (((k : Nat) : Int) < (12 : Int)) rfl (fun hc4 => ?_) (fun hc4 => ?_)
 ·refine csk ?_
  refine c_seq ?_
  refine c_block ?_
  refine c_region ?_
  refine lv e_move ?_
  refine lv e_move ?_
  refine lcf (cl0 (vs := [.int .i64 (1), Nx (k)]) tf161 rfl rfl) rfl fun w β1 sb kn hw1 back => (markb1_ok β1 w hw1 k (by omega)).mono ?_
  rintro e w' ⟨rfl, hw'⟩
  refine ⟨_, rfl, _, back _ _ hw', ?_⟩
  clear hw1 hw' back kn sb
  refine l_mv rfl rfl rfl (m_slices tf12 tf14 (cells := #[Bx (markU (8000024 + k))]) rfl rfl rfl rfl) ?_
  rintro _ _ ⟨b5, rfl, rfl⟩
  refine l_mv rfl rfl rfl (m_appendE (enc := fun c : UInt8 => Bx c) 1 bx_cell tf12 tf15 (v := sB p ys c) (xs := ys) (ys := [(markU (8000024 + k))]) (ao := some ⟨b5, 0, none⟩) (c := 1) rfl rfl (by first | rfl | simp) rfl (by first | rfl | simp) (k_ptE 0 (xs := [(markU (8000024 + k))]) rfl) (by first | omega | (simp only [List.length_append, List.length_nil, List.length_cons, be_length] at *; omega)) (by first | omega | (simp only [List.length_append, List.length_nil, List.length_cons, be_length] at *; omega))) ?_
  rintro _ _ ⟨rp6, rc7, rfl, rfl⟩
  refine lv e_assign ?_
  refine l_nil ?_
  refine f_block ?_
  refine f_then ?_
  refine c_region ?_
  refine lv e_move ?_
  refine lv (v := Nx (k + 1)) (e_add (a := ((k : Nat) : Int)) (b := (1 : Int)) rfl rfl (i64n (by omega) (by omega))) ?_
  refine lv e_assign ?_
  refine l_nil ?_
  refine f_mask (L' := [rB rp6 (ys ++ [(markU (8000024 + k))]) rc7]) [false, true] rfl ?_
  exact f_cut ⟨(k + 1, ys ++ [(markU (8000024 + k))], rp6, rc7), ⟨⟨rfl, rfl, rfl⟩, rfl, ⟨by omega, by rw [hys, List.range_succ, List.map_append, List.append_assoc]; rfl⟩⟩, (show 12 - (k + 1) < 12 - k from by omega)⟩
 refine c_exit ?_
 refine f_then_exit ?_
 refine f_then_exit ?_
 refine f_exit ?_
 refine fts ?_
 refine c_rowcap 0 rfl (fun hcl hcm => ?_)
 have hyl : ys.length = xs.length + k := by rw [hys]; simp
 refine c_region ?_
 refine lv e_move ?_
 refine lv e_move ?_
 refine lv (v := Nx (xs.length)) (e_len (a := va) (n := xs.length) (c := vc) rfl tf11) ?_
 refine lv (v := sB p xs c) (e_slice_hi (a := p) (len := (ys).length) (cap := c) (h := xs.length) tf12 rfl rfl (by omega)) ?_
 refine lv e_assign ?_
 refine lnf ?_
 refine c_ret ?_
 refine ret1 Try.results23 (v := sB p xs c) rfl ?_
 intro w hw
 have hk12 : k = 12 := by omega
 subst hk12
 have he : ys = lentX xs := hys
 subst he
 exact ⟨_, _, rfl, st_mask [true] rfl hw⟩
set_option maxHeartbeats 4000000 in
theorem keptb_ok (β : Base) (w : World) (hw : St β [] w) (xs : Bs) (p : Option Addr) (c : Nat) (v : Value) (hx : xs.length ≤ 1048576) (hs : Sl U8R β.heap (sB p (lentX xs) c) (lentX xs)) (hv : Sl U8R β.heap v xs) : Calls Try.prog 26 #[sB p xs c, v] w fun r w' => r = .returned (.bool true) ∧ St β [] w' := by
 obtain ⟨va, vc, rfl, vl, vm, ve⟩ := hv.get
 obtain ⟨_, hpl, hpm, hpe⟩ := hs.parts
 have hll := lentX_len xs
 refine enter (n := 58) Try.func26 rfl Try.ntmps26 rfl ?_ hw
 refine csr ?_
 refine lv e_assign ?_
 refine lnf ?_
 refine cs2 ?_
 refine c_region ?_
 refine lv e_move ?_
 refine lv (v := Nx (xs.length)) (e_len (a := p) (n := xs.length) (c := c) rfl tf11) ?_
 refine lv e_move ?_
 refine lv (v := Nx (xs.length)) (e_len (a := va) (n := xs.length) (c := vc) rfl tf11) ?_
 refine lv (e_neq (a := ((xs.length : Nat) : Int)) (b := ((xs.length : Nat) : Int)) rfl rfl) ?_
 refine lnf ?_
 refine c_if (((xs.length : Nat) : Int) ≠ ((xs.length : Nat) : Int)) rfl (fun hc1 => ?_) (fun hc1 => ?_)
 ·exact absurd hc1 (by omega)
 refine csk ?_
 refine csr ?_
 refine lv e_move ?_
 refine lv e_move ?_
 refine lv (v := Nx (xs.length)) (e_len (a := va) (n := xs.length) (c := vc) rfl tf11) ?_
 refine lv (v := Nx (xs.length + 12)) (e_add (a := ((xs.length : Nat) : Int)) (b := (12 : Int)) rfl rfl (i64n (by omega) (by omega))) ?_
 refine lv (v := .slice p ((lentX xs).length) (c)) (ev_eq (by rw [lentX_len]) (e_slice_hi (a := p) (len := xs.length) (cap := c) (h := xs.length + 12) tf12 rfl rfl (by omega))) ?_
 refine lv e_assign ?_
 refine lnf ?_
 refine cs2 ?_
 refine c_region ?_
 refine lv e_assign ?_
 refine lnf ?_
 refine c_block ?_
 refine c_loop (fun (k : Nat) (f : Fm) (L : List Res) => (f 1 = sB va xs (vc) ∧ f 5 = sB p (lentX xs) (c) ∧ f 6 = Nx (k)) ∧ L = [] ∧ (k ≤ xs.length + 12)) (fun (k : Nat) => xs.length + 12 - k) 0 ?_ ?_
 ·exact ⟨⟨rfl, rfl, rfl⟩, rfl, (by omega)⟩
 rintro k f0 L0 ⟨⟨hs1, hs5, hs6⟩, hL, hk⟩
 subst L0
 refine rebase (d := 1) hs1 ?_
 refine rebase (d := 5) hs5 ?_
 refine rebase (d := 6) hs6 ?_
 clear hs1 hs5 hs6
 have hll := lentX_len xs
 refine cs2 ?_
 refine c_region ?_
 refine lv e_move ?_
 refine lv e_move ?_
 refine lv (v := Nx ((lentX xs).length)) (e_len (a := p) (n := (lentX xs).length) (c := c) rfl tf11) ?_
 refine lv (e_lss (a := ((k : Nat) : Int)) (b := (((lentX xs).length : Nat) : Int)) rfl rfl) ?_
 refine lnf ?_
 refine c_if (((k : Nat) : Int) < (((lentX xs).length : Nat) : Int)) rfl (fun hc2 => ?_) (fun hc2 => ?_)
 ·refine csk ?_
  refine c_seq ?_
  refine c_block ?_
  refine c_seq ?_
  refine c_quiet (by kernel_rfl) (by kernel_rfl) ?_
  refine q_val (v := Nx (k)) rfl rfl rfl e_move ?_
  refine q_val (v := sB va xs (vc)) rfl rfl rfl e_move ?_
  refine q_val (v := Nx (xs.length)) rfl rfl rfl (e_len (a := va) (n := xs.length) (c := vc) rfl tf11) ?_
  refine q_val rfl rfl rfl (e_lss (a := ((k : Nat) : Int)) (b := ((xs.length : Nat) : Int)) rfl rfl) ?_
  refine q_val (v := .bool (decide (((k : Nat) : Int) < ((xs.length : Nat) : Int)))) rfl rfl rfl e_move ?_
  refine q_split (s := 27) (p := ((k : Nat) : Int) < ((xs.length : Nat) : Int)) rfl (fun hg3 => ?_) (fun hg3 => ?_)
  ·refine qg_val (v := sB p (lentX xs) (c)) rfl rfl rfl rfl rfl e_move ?_
   refine qg_val (v := Nx (k)) rfl rfl rfl rfl rfl e_move ?_
   obtain ⟨x4, hx5⟩ : ∃ x_, ((lentX xs))[k]? = some x_ := ⟨_, List.getElem?_eq_getElem (by omega)⟩
   obtain ⟨ha6, cs7, hc8, rfl⟩ := hpe _ _ hx5
   refine qg_val (v := .pointer (some ((ba p).add (k * 1)))) rfl rfl rfl rfl rfl (e_indexAddr (k := k) (len := (lentX xs).length) (cap := c) (a := p) rfl rfl tf12 (by omega) ha6) ?_
   refine qg_val (v := Bx (x4)) rfl rfl rfl rfl rfl (e_load1 tf13 rfl (kB hc8)) ?_
   refine qg_val (v := sB va xs (vc)) rfl rfl rfl rfl rfl e_move ?_
   refine qg_val (v := Nx (k)) rfl rfl rfl rfl rfl e_move ?_
   obtain ⟨x10, hx11⟩ : ∃ x_, (xs)[k]? = some x_ := ⟨_, List.getElem?_eq_getElem (by omega)⟩
   obtain ⟨ha12, cs13, hc14, rfl⟩ := ve _ _ hx11
   refine qg_val (v := .pointer (some ((ba va).add (k * 1)))) rfl rfl rfl rfl rfl (e_indexAddr (k := k) (len := xs.length) (cap := vc) (a := va) rfl rfl tf12 (by omega) ha12) ?_
   refine qg_val (v := Bx (x10)) rfl rfl rfl rfl rfl (e_load1 tf13 rfl (kB hc14)) ?_
   refine qg_val rfl rfl rfl rfl rfl (e_eql (a := ((x4).toNat : Int)) (b := ((x10).toNat : Int)) rfl rfl) ?_
   refine qg_val (v := .bool (decide (¬ (((x4).toNat : Int) = ((x10).toNat : Int))))) rfl rfl rfl rfl rfl (e_not_p (p := ((x4).toNat : Int) = ((x10).toNat : Int)) rfl) ?_
   refine q_val (v := .bool (decide (¬ (((x4).toNat : Int) = ((x10).toNat : Int))))) rfl rfl rfl (e_pick_t rfl) ?_
   refine q_val (v := .bool (decide (¬ (((x4).toNat : Int) = ((x10).toNat : Int))))) rfl rfl rfl e_move ?_
   refine q_split (s := 39) (p := ¬ (((x4).toNat : Int) = ((x10).toNat : Int))) rfl (fun h => ?_) (fun h => ?_)
   exact absurd h (Decidable.not_not.2 (lent_lo hx5 hx11))
   refine qg_val (v := Nx (k)) rfl rfl rfl rfl rfl e_move ?_
   refine qg_val (v := sB va xs (vc)) rfl rfl rfl rfl rfl e_move ?_
   refine qg_val (v := Nx (xs.length)) rfl rfl rfl rfl rfl (e_len (a := va) (n := xs.length) (c := vc) rfl tf11) ?_
   refine qg_val rfl rfl rfl rfl rfl (e_geq (a := ((k : Nat) : Int)) (b := ((xs.length : Nat) : Int)) rfl rfl) ?_
   refine qg_val (v := .bool (decide (((xs.length : Nat) : Int) ≤ ((k : Nat) : Int)))) rfl rfl rfl rfl rfl e_move ?_
   refine q_split (s := 44) (p := ((xs.length : Nat) : Int) ≤ ((k : Nat) : Int)) rfl (fun hg16 => ?_) (fun hg16 => ?_)
   ·refine qg_val (v := sB p (lentX xs) (c)) rfl rfl rfl rfl rfl e_move ?_
    refine qg_val (v := Nx (k)) rfl rfl rfl rfl rfl e_move ?_
    refine qg_val (v := .pointer (some ((ba p).add (k * 1)))) rfl rfl rfl rfl rfl (e_indexAddr (k := k) (len := (lentX xs).length) (cap := c) (a := p) rfl rfl tf12 (by omega) ha6) ?_
    refine qg_val (v := Bx (x4)) rfl rfl rfl rfl rfl (e_load1 tf13 rfl (kB hc8)) ?_
    refine qg_val (v := Nx (k)) rfl rfl rfl rfl rfl e_move ?_
    refine qg_val (v := sB va xs (vc)) rfl rfl rfl rfl rfl e_move ?_
    refine qg_val (v := Nx (xs.length)) rfl rfl rfl rfl rfl (e_len (a := va) (n := xs.length) (c := vc) rfl tf11) ?_
    refine qg_val (v := Nx (k - xs.length)) rfl rfl rfl rfl rfl (ev_eq (congrArg (Value.int .i64) (by omega)) (e_sub (a := ((k : Nat) : Int)) (b := ((xs.length : Nat) : Int)) rfl rfl (i64w (by omega)))) ?_
    refine qg_call (v := Bx (markU (8000024 + (k - xs.length)))) rfl rfl rfl rfl rfl (cl0 (vs := [.int .i64 (1), Nx (k - xs.length)]) tf161 rfl rfl) (fun w hw => ?_) ?_
    ·obtain ⟨β1, sb, kn, hw1, back⟩ := St.frame_all hw
     exact (markb1_ok β1 w hw1 (k - xs.length) (by omega)).mono (fun e w' ⟨he, hw'⟩ => ⟨he, st_mask [] rfl (back _ _ hw')⟩)
    refine qg_val rfl rfl rfl rfl rfl (e_eql (a := ((x4).toNat : Int)) (b := ((markU (8000024 + (k - xs.length))).toNat : Int)) rfl rfl) ?_
    refine qg_val (v := .bool (decide (¬ (((x4).toNat : Int) = ((markU (8000024 + (k - xs.length))).toNat : Int))))) rfl rfl rfl rfl rfl (e_not_p (p := ((x4).toNat : Int) = ((markU (8000024 + (k - xs.length))).toNat : Int)) rfl) ?_
    refine qg_val (v := .bool (decide (¬ (((x4).toNat : Int) = ((markU (8000024 + (k - xs.length))).toNat : Int))))) rfl rfl rfl rfl rfl (e_pick_t rfl) ?_
    refine q_val (v := .bool (decide (¬ (((x4).toNat : Int) = ((markU (8000024 + (k - xs.length))).toNat : Int))))) rfl rfl rfl (e_pick_f rfl) ?_
    refine q_nil ?_
    refine f_then ?_
    refine c_if (¬ (((x4).toNat : Int) = ((markU (8000024 + (k - xs.length))).toNat : Int))) rfl (fun hc17 => ?_) (fun hc17 => ?_)
    ·exact absurd hc17 (Decidable.not_not.2 (lent_hi hx5 (by omega)))
    refine c_skip ?_
    refine f_block ?_
    refine f_then ?_
    refine c_region ?_
    refine lv e_move ?_
    refine lv (v := Nx (k + 1)) (e_add (a := ((k : Nat) : Int)) (b := (1 : Int)) rfl rfl (i64n (by omega) (by omega))) ?_
    refine lv e_assign ?_
    refine l_nil ?_
    exact f_cut ⟨k + 1, ⟨⟨rfl, rfl, rfl⟩, rfl, (by omega)⟩, (show xs.length + 12 - (k + 1) < xs.length + 12 - k from by omega)⟩
   refine q_skip rfl rfl rfl rfl rfl rfl ?_
   refine q_skip rfl rfl rfl rfl rfl rfl ?_
   refine q_skip rfl rfl rfl rfl rfl rfl ?_
   refine q_skip rfl rfl rfl rfl rfl rfl ?_
   refine q_skip rfl rfl rfl rfl rfl rfl ?_
   refine q_skip rfl rfl rfl rfl rfl rfl ?_
   refine q_skip rfl rfl rfl rfl rfl rfl ?_
   refine q_skip rfl rfl rfl rfl rfl rfl ?_
   refine q_skip rfl rfl rfl rfl rfl rfl ?_
   refine q_skip rfl rfl rfl rfl rfl rfl ?_
   refine q_skip rfl rfl rfl rfl rfl rfl ?_
   refine qg_val (v := .bool false) rfl rfl rfl rfl rfl (e_pick_f rfl) ?_
   refine q_val (v := .bool false) rfl rfl rfl (e_pick_f rfl) ?_
   refine q_nil ?_
   refine f_then ?_
   refine c_no rfl ?_
   refine c_skip ?_
   refine f_block ?_
   refine f_then ?_
   refine c_region ?_
   refine lv e_move ?_
   refine lv (v := Nx (k + 1)) (e_add (a := ((k : Nat) : Int)) (b := (1 : Int)) rfl rfl (i64n (by omega) (by omega))) ?_
   refine lv e_assign ?_
   refine l_nil ?_
   exact f_cut ⟨k + 1, ⟨⟨rfl, rfl, rfl⟩, rfl, (by omega)⟩, (show xs.length + 12 - (k + 1) < xs.length + 12 - k from by omega)⟩
  refine q_skip rfl rfl rfl rfl rfl rfl ?_
  refine q_skip rfl rfl rfl rfl rfl rfl ?_
  refine q_skip rfl rfl rfl rfl rfl rfl ?_
  refine q_skip rfl rfl rfl rfl rfl rfl ?_
  refine q_skip rfl rfl rfl rfl rfl rfl ?_
  refine q_skip rfl rfl rfl rfl rfl rfl ?_
  refine q_skip rfl rfl rfl rfl rfl rfl ?_
  refine q_skip rfl rfl rfl rfl rfl rfl ?_
  refine q_skip rfl rfl rfl rfl rfl rfl ?_
  refine q_skip rfl rfl rfl rfl rfl rfl ?_
  refine q_val (v := .bool false) rfl rfl rfl (e_pick_f rfl) ?_
  refine q_val (v := .bool false) rfl rfl rfl e_move ?_
  refine qg_val (v := Nx (k)) rfl rfl rfl rfl rfl e_move ?_
  refine qg_val (v := sB va xs (vc)) rfl rfl rfl rfl rfl e_move ?_
  refine qg_val (v := Nx (xs.length)) rfl rfl rfl rfl rfl (e_len (a := va) (n := xs.length) (c := vc) rfl tf11) ?_
  refine qg_val rfl rfl rfl rfl rfl (e_geq (a := ((k : Nat) : Int)) (b := ((xs.length : Nat) : Int)) rfl rfl) ?_
  refine qg_val (v := .bool (decide (((xs.length : Nat) : Int) ≤ ((k : Nat) : Int)))) rfl rfl rfl rfl rfl e_move ?_
  refine q_split (s := 44) (p := ((xs.length : Nat) : Int) ≤ ((k : Nat) : Int)) rfl (fun hg18 => ?_) (fun hg18 => ?_)
  ·refine qg_val (v := sB p (lentX xs) (c)) rfl rfl rfl rfl rfl e_move ?_
   refine qg_val (v := Nx (k)) rfl rfl rfl rfl rfl e_move ?_
   obtain ⟨x19, hx20⟩ : ∃ x_, ((lentX xs))[k]? = some x_ := ⟨_, List.getElem?_eq_getElem (by omega)⟩
   obtain ⟨ha21, cs22, hc23, rfl⟩ := hpe _ _ hx20
   refine qg_val (v := .pointer (some ((ba p).add (k * 1)))) rfl rfl rfl rfl rfl (e_indexAddr (k := k) (len := (lentX xs).length) (cap := c) (a := p) rfl rfl tf12 (by omega) ha21) ?_
   refine qg_val (v := Bx (x19)) rfl rfl rfl rfl rfl (e_load1 tf13 rfl (kB hc23)) ?_
   refine qg_val (v := Nx (k)) rfl rfl rfl rfl rfl e_move ?_
   refine qg_val (v := sB va xs (vc)) rfl rfl rfl rfl rfl e_move ?_
   refine qg_val (v := Nx (xs.length)) rfl rfl rfl rfl rfl (e_len (a := va) (n := xs.length) (c := vc) rfl tf11) ?_
   refine qg_val (v := Nx (k - xs.length)) rfl rfl rfl rfl rfl (ev_eq (congrArg (Value.int .i64) (by omega)) (e_sub (a := ((k : Nat) : Int)) (b := ((xs.length : Nat) : Int)) rfl rfl (i64w (by omega)))) ?_
   refine qg_call (v := Bx (markU (8000024 + (k - xs.length)))) rfl rfl rfl rfl rfl (cl0 (vs := [.int .i64 (1), Nx (k - xs.length)]) tf161 rfl rfl) (fun w hw => ?_) ?_
   ·obtain ⟨β1, sb, kn, hw1, back⟩ := St.frame_all hw
    exact (markb1_ok β1 w hw1 (k - xs.length) (by omega)).mono (fun e w' ⟨he, hw'⟩ => ⟨he, st_mask [] rfl (back _ _ hw')⟩)
   refine qg_val rfl rfl rfl rfl rfl (e_eql (a := ((x19).toNat : Int)) (b := ((markU (8000024 + (k - xs.length))).toNat : Int)) rfl rfl) ?_
   refine qg_val (v := .bool (decide (¬ (((x19).toNat : Int) = ((markU (8000024 + (k - xs.length))).toNat : Int))))) rfl rfl rfl rfl rfl (e_not_p (p := ((x19).toNat : Int) = ((markU (8000024 + (k - xs.length))).toNat : Int)) rfl) ?_
   refine qg_val (v := .bool (decide (¬ (((x19).toNat : Int) = ((markU (8000024 + (k - xs.length))).toNat : Int))))) rfl rfl rfl rfl rfl (e_pick_t rfl) ?_
   refine q_val (v := .bool (decide (¬ (((x19).toNat : Int) = ((markU (8000024 + (k - xs.length))).toNat : Int))))) rfl rfl rfl (e_pick_f rfl) ?_
   refine q_nil ?_
   refine f_then ?_
   refine c_if (¬ (((x19).toNat : Int) = ((markU (8000024 + (k - xs.length))).toNat : Int))) rfl (fun hc25 => ?_) (fun hc25 => ?_)
   ·exact absurd hc25 (Decidable.not_not.2 (lent_hi hx20 (by omega)))
   refine c_skip ?_
   refine f_block ?_
   refine f_then ?_
   refine c_region ?_
   refine lv e_move ?_
   refine lv (v := Nx (k + 1)) (e_add (a := ((k : Nat) : Int)) (b := (1 : Int)) rfl rfl (i64n (by omega) (by omega))) ?_
   refine lv e_assign ?_
   refine l_nil ?_
   exact f_cut ⟨k + 1, ⟨⟨rfl, rfl, rfl⟩, rfl, (by omega)⟩, (show xs.length + 12 - (k + 1) < xs.length + 12 - k from by omega)⟩
  refine q_skip rfl rfl rfl rfl rfl rfl ?_
  refine q_skip rfl rfl rfl rfl rfl rfl ?_
  refine q_skip rfl rfl rfl rfl rfl rfl ?_
  refine q_skip rfl rfl rfl rfl rfl rfl ?_
  refine q_skip rfl rfl rfl rfl rfl rfl ?_
  refine q_skip rfl rfl rfl rfl rfl rfl ?_
  refine q_skip rfl rfl rfl rfl rfl rfl ?_
  refine q_skip rfl rfl rfl rfl rfl rfl ?_
  refine q_skip rfl rfl rfl rfl rfl rfl ?_
  refine q_skip rfl rfl rfl rfl rfl rfl ?_
  refine q_skip rfl rfl rfl rfl rfl rfl ?_
  refine qg_val (v := .bool false) rfl rfl rfl rfl rfl (e_pick_f rfl) ?_
  refine q_val (v := .bool false) rfl rfl rfl (e_pick_f rfl) ?_
  refine q_nil ?_
  refine f_then ?_
  refine c_no rfl ?_
  refine c_skip ?_
  refine f_block ?_
  refine f_then ?_
  refine c_region ?_
  refine lv e_move ?_
  refine lv (v := Nx (k + 1)) (e_add (a := ((k : Nat) : Int)) (b := (1 : Int)) rfl rfl (i64n (by omega) (by omega))) ?_
  refine lv e_assign ?_
  refine l_nil ?_
  exact f_cut ⟨k + 1, ⟨⟨rfl, rfl, rfl⟩, rfl, (by omega)⟩, (show xs.length + 12 - (k + 1) < xs.length + 12 - k from by omega)⟩
 refine c_exit ?_
 refine f_then_exit ?_
 refine f_then_exit ?_
 refine f_exit ?_
 refine ftc ?_
 refine lv e_assign ?_
 refine lnf ?_
 refine c_ret ?_
 refine ret1 Try.results26 (v := .bool true) rfl ?_
 intro w hw
 exact ⟨rfl, st_mask [] rfl hw⟩
set_option maxHeartbeats 4000000 in
theorem same2_ok (β : Base) (w : World) (hw : St β [] w) (i : KI) (xs xr ys yr : Value) (hn : i.recs.length ≤ 1048576) (hxs : Sl U8R β.heap xs i.state) (hxr : Sl BsR β.heap xr i.recs) (hys : Sl U8R β.heap ys i.state) (hyr : Sl BsR β.heap yr i.recs) : Calls Try.prog 60 #[.agg #[Nx i.epoch, Nx i.next, xs, xr, Nx i.size], .agg #[Nx i.epoch, Nx i.next, ys, yr, Nx i.size]] w fun r w' => r = .returned (.bool true) ∧ St β [] w' := by
 obtain ⟨axa, axc, rfl, axl, axm, axe⟩ := hxs.get
 obtain ⟨bxa, bxc, rfl, bxl, bxm, bxe⟩ := hxr.get
 obtain ⟨aya, ayc, rfl, ayl, aym, aye⟩ := hys.get
 obtain ⟨by_a, by_c, rfl, by_l, by_m, by_e⟩ := hyr.get
 refine enter (n := 42) Try.func60 rfl Try.ntmps60 rfl ?_ hw
 refine csr ?_
 refine l_mv rfl rfl rfl (m_box (v := .agg #[Nx (i.epoch), Nx (i.next), sB axa i.state (axc), sB bxa i.recs (bxc), Nx (i.size)]) rfl) ?_
 rintro _ _ ⟨b1, rfl, rfl⟩
 refine l_mv rfl rfl rfl (m_box (v := .agg #[Nx (i.epoch), Nx (i.next), sB aya i.state (ayc), sB by_a i.recs (by_c), Nx (i.size)]) rfl) ?_
 rintro _ _ ⟨b2, rfl, rfl⟩
 refine lv e_assign ?_
 refine lnf ?_
 refine c_seq ?_
 refine c_any [⟨[], [], [0], [5], fun f => f 5 = pp b1 0⟩, ⟨[0], [0], [], [6], fun f => f 6 = Nx (i.epoch)⟩, ⟨[], [], [1], [7], fun f => f 7 = pp b2 0⟩, ⟨[2], [2], [], [8], fun f => f 8 = Nx (i.epoch)⟩, ⟨[0, 1, 2, 3], [1, 3], [], [9], fun f => f 9 = .bool true⟩, ⟨[0, 1, 2, 3, 4], [4], [], [10], fun f => f 10 = .bool true⟩, ⟨(List.range 6), [5], [0], [11], fun f => f 11 = pp b1 1⟩, ⟨(List.range 7), [6, 5], [], [12], fun f => f 12 = Nx (i.next)⟩, ⟨(List.range 6), [5], [1], [13], fun f => f 13 = pp b2 1⟩, ⟨[0, 1, 2, 3, 4, 5, 8], [8, 5], [], [14], fun f => f 14 = Nx (i.next)⟩, ⟨(List.range 10), [7, 9, 5], [], [15], fun f => f 15 = .bool true⟩, ⟨(List.range 11), [5, 10], [], [16], fun f => f 16 = .bool true⟩, ⟨(List.range 12), [11], [], [17], fun f => f 17 = .bool true⟩, ⟨(List.range 13), [12], [0], [18], fun f => f 18 = pp b1 4⟩, ⟨(List.range 14), [13, 12], [], [19], fun f => f 19 = Nx (i.size)⟩, ⟨(List.range 13), [12], [1], [20], fun f => f 20 = pp b2 4⟩, ⟨[0, 1, 2, 3, 4, 5, 6, 7, 8, 9, 10, 11, 12, 15], [15, 12], [], [21], fun f => f 21 = Nx (i.size)⟩, ⟨(List.range 17), [14, 16, 12], [], [22], fun f => f 22 = .bool true⟩, ⟨(List.range 18), [12, 17], [], [23], fun f => f 23 = .bool true⟩, ⟨(List.range 19), [18], [], [24], fun f => f 24 = .bool true⟩, ⟨(List.range 20), [19], [0], [25], fun f => f 25 = pp b1 2⟩, ⟨(List.range 21), [20, 19], [], [26], fun f => f 26 = sB axa i.state (axc)⟩, ⟨(List.range 22), [21, 19], [], [27], fun f => f 27 = .string (str i.state)⟩, ⟨(List.range 20), [19], [1], [28], fun f => f 28 = pp b2 2⟩, ⟨[0, 1, 2, 3, 4, 5, 6, 7, 8, 9, 10, 11, 12, 13, 14, 15, 16, 17, 18, 19, 23], [23, 19], [], [29], fun f => f 29 = sB aya i.state (ayc)⟩, ⟨[0, 1, 2, 3, 4, 5, 6, 7, 8, 9, 10, 11, 12, 13, 14, 15, 16, 17, 18, 19, 23, 24], [24, 19], [], [30], fun f => f 30 = .string (str i.state)⟩, ⟨(List.range 26), [22, 25, 19], [], [31], fun f => f 31 = .bool true⟩, ⟨(List.range 27), [19, 26], [], [32], fun f => f 32 = .bool true⟩, ⟨(List.range 28), [27], [], [33], fun f => f 33 = .bool true⟩, ⟨(List.range 29), [28], [0], [34], fun f => f 34 = pp b1 3⟩, ⟨(List.range 30), [29, 28], [], [35], fun f => f 35 = sB bxa i.recs (bxc)⟩, ⟨(List.range 31), [30, 28], [], [36], fun f => f 36 = sB (sla (f 36)) (i.recs.map str) (slc (f 36))⟩, ⟨(List.range 29), [28], [1], [37], fun f => f 37 = pp b2 3⟩, ⟨[0, 1, 2, 3, 4, 5, 6, 7, 8, 9, 10, 11, 12, 13, 14, 15, 16, 17, 18, 19, 20, 21, 22, 23, 24, 25, 26, 27, 28, 32], [32, 28], [], [38], fun f => f 38 = sB by_a i.recs (by_c)⟩, ⟨(List.range 34), [33, 28], [], [39], fun f => f 39 = sB (sla (f 39)) (i.recs.map str) (slc (f 39))⟩, ⟨(List.range 35), [31, 34, 28], [], [40], fun f => f 40 = .bool true⟩, ⟨(List.range 36), [28, 35], [], [41], fun f => f 41 = .bool true⟩, ⟨(List.range 37), [36], [], [4], fun f => f 4 = .bool true⟩] [⟨none, none, [3, 9, 16, 24, 33], [], fun _ => pt b2 (.cells #[Nx (i.epoch), Nx (i.next), sB aya i.state (ayc), sB by_a i.recs (by_c), Nx (i.size)] 54)⟩, ⟨none, none, [1, 7, 14, 21, 30], [], fun _ => pt b1 (.cells #[Nx (i.epoch), Nx (i.next), sB axa i.state (axc), sB bxa i.recs (bxc), Nx (i.size)] 36)⟩, ⟨(some 31), none, [35], [36], fun f => row (sB (sla (f 36)) (i.recs.map str) (slc (f 36))) 9 1 ((i.recs.map str).length) ((i.recs.map str).map (fun s : ByteArray => Value.string s))⟩, ⟨(some 34), none, [35], [39], fun f => row (sB (sla (f 39)) (i.recs.map str) (slc (f 39))) 9 1 ((i.recs.map str).length) ((i.recs.map str).map (fun s : ByteArray => Value.string s))⟩] [(2, pp b1 0), (3, pp b2 0)] [] [] (by kernel_rfl) (by kernel_rfl) (by kernel_rfl) (by kernel_rfl) rfl ⟨rfl, rfl, trivial⟩ ⟨?_, ?_, ?_, ?_, ?_, ?_, ?_, ?_, ?_, ?_, ?_, ?_, ?_, ?_, ?_, ?_, ?_, ?_, ?_, ?_, ?_, ?_, ?_, ?_, ?_, ?_, ?_, ?_, ?_, ?_, ?_, ?_, ?_, ?_, ?_, ?_, ?_, ?_, trivial⟩ ?_
 ·rintro f M - ⟨i0, -⟩
  exact ob0 (up_cons (d := 2) rfl i0) rfl (e_fieldPt rfl tf48) (.refl _)
 ·rintro f M ⟨k0, -⟩ -
  exact obv (L' := pt b1 (.cells #[Nx (i.epoch), Nx (i.next), sB axa i.state (axc), sB bxa i.recs (bxc), Nx (i.size)] 36) :: M) (up_cons (d := 5) rfl k0) rfl (e_load1 tf25 rfl (k_pt 0 rfl rfl)) (perm_front 0 rfl) (by rfl)
 ·rintro f M - ⟨i0, -⟩
  exact ob0 (up_cons (d := 3) rfl i0) rfl (e_fieldPt rfl tf144) (.refl _)
 ·rintro f M ⟨k0, -⟩ -
  exact obv (L' := pt b2 (.cells #[Nx (i.epoch), Nx (i.next), sB aya i.state (ayc), sB by_a i.recs (by_c), Nx (i.size)] 54) :: M) (up_cons (d := 7) rfl k0) rfl (e_load1 tf25 rfl (k_pt 0 rfl rfl)) (perm_front 0 rfl) (by rfl)
 ·rintro f M ⟨k0, k1, -⟩ -
  exact ob0 (up_cons (d := 8) (up_cons (d := 6) rfl k0) k1) rfl ((ev_t rfl (e_eql (a := ((i.epoch : Nat) : Int)) (b := ((i.epoch : Nat) : Int)) rfl rfl))) (.refl _)
 ·rintro f M ⟨k0, -⟩ -
  exact ob0 (up_cons (d := 9) rfl k0) rfl e_move (.refl _)
 ·rintro f M ⟨k0, -⟩ ⟨i0, -⟩
  exact obg (L' := M) (v := pp b1 1) (up_cons (d := 10) (up_cons (d := 2) rfl i0) k0) (e_fieldPt rfl tf53) rfl rfl rfl rfl (.refl _) (by rfl)
 ·rintro f M ⟨k0, k1, -⟩ -
  exact obg (L' := pt b1 (.cells #[Nx (i.epoch), Nx (i.next), sB axa i.state (axc), sB bxa i.recs (bxc), Nx (i.size)] 36) :: M) (v := Nx (i.next)) (up_cons (d := 10) (up_cons (d := 11) rfl k0) k1) (e_load1 tf25 rfl (k_pt 0 rfl rfl)) rfl rfl rfl rfl (perm_front 0 rfl) (by rfl)
 ·rintro f M ⟨k0, -⟩ ⟨i0, -⟩
  exact obg (L' := M) (v := pp b2 1) (up_cons (d := 10) (up_cons (d := 3) rfl i0) k0) (e_fieldPt rfl tf147) rfl rfl rfl rfl (.refl _) (by rfl)
 ·rintro f M ⟨k0, k1, -⟩ -
  exact obg (L' := pt b2 (.cells #[Nx (i.epoch), Nx (i.next), sB aya i.state (ayc), sB by_a i.recs (by_c), Nx (i.size)] 54) :: M) (v := Nx (i.next)) (up_cons (d := 10) (up_cons (d := 13) rfl k0) k1) (e_load1 tf25 rfl (k_pt 0 rfl rfl)) rfl rfl rfl rfl (perm_front 0 rfl) (by rfl)
 ·rintro f M ⟨k0, k1, k2, -⟩ -
  exact obg (L' := M) (v := .bool true) (up_cons (d := 10) (up_cons (d := 14) (up_cons (d := 12) rfl k0) k1) k2) ((ev_t rfl (e_eql (a := ((i.next : Nat) : Int)) (b := ((i.next : Nat) : Int)) rfl rfl))) rfl rfl rfl rfl (.refl _) (by rfl)
 ·rintro f M ⟨k0, k1, -⟩ -
  exact ob0 (up_cons (d := 15) (up_cons (d := 10) rfl k0) k1) rfl (e_pick_t rfl) (.refl _)
 ·rintro f M ⟨k0, -⟩ -
  exact ob0 (up_cons (d := 16) rfl k0) rfl e_move (.refl _)
 ·rintro f M ⟨k0, -⟩ ⟨i0, -⟩
  exact obg (L' := M) (v := pp b1 4) (up_cons (d := 17) (up_cons (d := 2) rfl i0) k0) (e_fieldPt rfl tf50) rfl rfl rfl rfl (.refl _) (by rfl)
 ·rintro f M ⟨k0, k1, -⟩ -
  exact obg (L' := pt b1 (.cells #[Nx (i.epoch), Nx (i.next), sB axa i.state (axc), sB bxa i.recs (bxc), Nx (i.size)] 36) :: M) (v := Nx (i.size)) (up_cons (d := 17) (up_cons (d := 18) rfl k0) k1) (e_load1 tf25 rfl (k_pt 0 rfl rfl)) rfl rfl rfl rfl (perm_front 0 rfl) (by rfl)
 ·rintro f M ⟨k0, -⟩ ⟨i0, -⟩
  exact obg (L' := M) (v := pp b2 4) (up_cons (d := 17) (up_cons (d := 3) rfl i0) k0) (e_fieldPt rfl tf149) rfl rfl rfl rfl (.refl _) (by rfl)
 ·rintro f M ⟨k0, k1, -⟩ -
  exact obg (L' := pt b2 (.cells #[Nx (i.epoch), Nx (i.next), sB aya i.state (ayc), sB by_a i.recs (by_c), Nx (i.size)] 54) :: M) (v := Nx (i.size)) (up_cons (d := 17) (up_cons (d := 20) rfl k0) k1) (e_load1 tf25 rfl (k_pt 0 rfl rfl)) rfl rfl rfl rfl (perm_front 0 rfl) (by rfl)
 ·rintro f M ⟨k0, k1, k2, -⟩ -
  exact obg (L' := M) (v := .bool true) (up_cons (d := 17) (up_cons (d := 21) (up_cons (d := 19) rfl k0) k1) k2) ((ev_t rfl (e_eql (a := ((i.size : Nat) : Int)) (b := ((i.size : Nat) : Int)) rfl rfl))) rfl rfl rfl rfl (.refl _) (by rfl)
 ·rintro f M ⟨k0, k1, -⟩ -
  exact ob0 (up_cons (d := 22) (up_cons (d := 17) rfl k0) k1) rfl (e_pick_t rfl) (.refl _)
 ·rintro f M ⟨k0, -⟩ -
  exact ob0 (up_cons (d := 23) rfl k0) rfl e_move (.refl _)
 ·rintro f M ⟨k0, -⟩ ⟨i0, -⟩
  exact obg (L' := M) (v := pp b1 2) (up_cons (d := 24) (up_cons (d := 2) rfl i0) k0) (e_fieldPt rfl tf63) rfl rfl rfl rfl (.refl _) (by rfl)
 ·rintro f M ⟨k0, k1, -⟩ -
  exact obg (L' := pt b1 (.cells #[Nx (i.epoch), Nx (i.next), sB axa i.state (axc), sB bxa i.recs (bxc), Nx (i.size)] 36) :: M) (v := sB axa i.state (axc)) (up_cons (d := 24) (up_cons (d := 25) rfl k0) k1) (e_load1 tf21 rfl (k_pt 0 rfl rfl)) rfl rfl rfl rfl (perm_front 0 rfl) (by rfl)
 ·rintro f M ⟨k0, k1, -⟩ -
  exact obg (L' := M) (v := .string (str i.state)) (up_cons (d := 24) (up_cons (d := 26) rfl k0) k1) (e_bytesStr (a := axa) (bs := i.state) (m := i.state.length) (c := axc) rfl (by first | rfl | simp) tf11 tf8 tf7 (Knows.of_base (Elems.mono _ _ _) axe)) rfl rfl rfl rfl (.refl _) (by rfl)
 ·rintro f M ⟨k0, -⟩ ⟨i0, -⟩
  exact obg (L' := M) (v := pp b2 2) (up_cons (d := 24) (up_cons (d := 3) rfl i0) k0) (e_fieldPt rfl tf148) rfl rfl rfl rfl (.refl _) (by rfl)
 ·rintro f M ⟨k0, k1, -⟩ -
  exact obg (L' := pt b2 (.cells #[Nx (i.epoch), Nx (i.next), sB aya i.state (ayc), sB by_a i.recs (by_c), Nx (i.size)] 54) :: M) (v := sB aya i.state (ayc)) (up_cons (d := 24) (up_cons (d := 28) rfl k0) k1) (e_load1 tf21 rfl (k_pt 0 rfl rfl)) rfl rfl rfl rfl (perm_front 0 rfl) (by rfl)
 ·rintro f M ⟨k0, k1, -⟩ -
  exact obg (L' := M) (v := .string (str i.state)) (up_cons (d := 24) (up_cons (d := 29) rfl k0) k1) (e_bytesStr (a := aya) (bs := i.state) (m := i.state.length) (c := ayc) rfl (by first | rfl | simp) tf11 tf8 tf7 (Knows.of_base (Elems.mono _ _ _) aye)) rfl rfl rfl rfl (.refl _) (by rfl)
 ·rintro f M ⟨k0, k1, k2, -⟩ -
  exact obg (L' := M) (v := .bool true) (up_cons (d := 24) (up_cons (d := 30) (up_cons (d := 27) rfl k0) k1) k2) ((ev_t rfl (e_eql_s (a := (str i.state)) (b := (str i.state)) rfl rfl))) rfl rfl rfl rfl (.refl _) (by rfl)
 ·rintro f M ⟨k0, k1, -⟩ -
  exact ob0 (up_cons (d := 31) (up_cons (d := 24) rfl k0) k1) rfl (e_pick_t rfl) (.refl _)
 ·rintro f M ⟨k0, -⟩ -
  exact ob0 (up_cons (d := 32) rfl k0) rfl e_move (.refl _)
 ·rintro f M ⟨k0, -⟩ ⟨i0, -⟩
  exact obg (L' := M) (v := pp b1 3) (up_cons (d := 33) (up_cons (d := 2) rfl i0) k0) (e_fieldPt rfl tf64) rfl rfl rfl rfl (.refl _) (by rfl)
 ·rintro f M ⟨k0, k1, -⟩ -
  exact obg (L' := pt b1 (.cells #[Nx (i.epoch), Nx (i.next), sB axa i.state (axc), sB bxa i.recs (bxc), Nx (i.size)] 36) :: M) (v := sB bxa i.recs (bxc)) (up_cons (d := 33) (up_cons (d := 34) rfl k0) k1) (e_load1 tf65 rfl (k_pt 0 rfl rfl)) rfl rfl rfl rfl (perm_front 0 rfl) (by rfl)
 ·rintro f M ⟨k0, k1, -⟩ -
  refine ob_start (L' := M) (by rfl) (up_cons (d := 33) (up_cons (d := 35) rfl k0) k1) ?_
  refine g_call rfl rfl rfl rfl rfl (cl0 (vs := [sB bxa i.recs (bxc)]) tf95 rfl rfl) ?_
  intro w hw
  obtain ⟨β1, sb, kn, hw1, back⟩ := St.frame_all hw
  refine (text_ok β1 w hw1 i.recs _ hn (Sl.mono _ _ _ _ _ sb (⟨⟨_, _, rfl, bxl, bxm, bxe⟩⟩ : Sl BsR _ _ i.recs))).mono ?_
  rintro e w' ⟨p5, c6, rfl, hw'⟩
  refine ⟨_, rfl, _, back _ _ hw', ?_⟩
  clear hw hw1 hw' back kn sb
  refine l_nil ?_
  exact f_owes_d (up_cons (d := 33) (up_cons (d := 35) rfl k0) k1) rfl (perm_front 0 rfl)
 ·rintro f M ⟨k0, -⟩ ⟨i0, -⟩
  exact obg (L' := M) (v := pp b2 3) (up_cons (d := 33) (up_cons (d := 3) rfl i0) k0) (e_fieldPt rfl tf150) rfl rfl rfl rfl (.refl _) (by rfl)
 ·rintro f M ⟨k0, k1, -⟩ -
  exact obg (L' := pt b2 (.cells #[Nx (i.epoch), Nx (i.next), sB aya i.state (ayc), sB by_a i.recs (by_c), Nx (i.size)] 54) :: M) (v := sB by_a i.recs (by_c)) (up_cons (d := 33) (up_cons (d := 37) rfl k0) k1) (e_load1 tf65 rfl (k_pt 0 rfl rfl)) rfl rfl rfl rfl (perm_front 0 rfl) (by rfl)
 ·rintro f M ⟨k0, k1, -⟩ -
  refine ob_start (L' := M) (by rfl) (up_cons (d := 33) (up_cons (d := 38) rfl k0) k1) ?_
  refine g_call rfl rfl rfl rfl rfl (cl0 (vs := [sB by_a i.recs (by_c)]) tf95 rfl rfl) ?_
  intro w hw
  obtain ⟨β1, sb, kn, hw1, back⟩ := St.frame_all hw
  refine (text_ok β1 w hw1 i.recs _ hn (Sl.mono _ _ _ _ _ sb (⟨⟨_, _, rfl, by_l, by_m, by_e⟩⟩ : Sl BsR _ _ i.recs))).mono ?_
  rintro e w' ⟨p9, c10, rfl, hw'⟩
  refine ⟨_, rfl, _, back _ _ hw', ?_⟩
  clear hw hw1 hw' back kn sb
  refine l_nil ?_
  exact f_owes_d (up_cons (d := 33) (up_cons (d := 38) rfl k0) k1) rfl (perm_front 0 rfl)
 ·rintro f M ⟨k0, k1, k2, -⟩ -
  have hs36 : f 36 = sB (sla (f 36)) (i.recs.map str) (slc (f 36)) := k0
  have hs39 : f 39 = sB (sla (f 39)) (i.recs.map str) (slc (f 39)) := k1
  refine ob_start (L' := row (sB (sla (f 36)) (i.recs.map str) (slc (f 36))) 9 1 ((i.recs.map str).length) ((i.recs.map str).map (fun s : ByteArray => Value.string s)) :: row (sB (sla (f 39)) (i.recs.map str) (slc (f 39))) 9 1 ((i.recs.map str).length) ((i.recs.map str).map (fun s : ByteArray => Value.string s)) :: M) (by rfl) (up_cons (d := 33) (up_cons (up_cons rfl hs36) hs39) k2) ?_
  refine g_call rfl rfl rfl rfl rfl (cl0 (vs := [sB (sla (f 36)) (i.recs.map str) (slc (f 36)), sB (sla (f 39)) (i.recs.map str) (slc (f 39))]) tf98 rfl rfl) ?_
  intro w hw
  obtain ⟨β1, sb, kn, hw1, back⟩ := St.frame_all hw
  refine (samet_ok β1 w hw1 (i.recs.map str) (i.recs.map str) _ _ (kn _ (Knows.of_res 0 rfl (Sl.mono StrR _ _) fun _ h => row_str h)) (kn _ (Knows.of_res 1 rfl (Sl.mono StrR _ _) fun _ h => row_str h))).mono ?_
  rintro e w' ⟨rfl, hw'⟩
  refine ⟨_, rfl, _, back _ _ hw', ?_⟩
  clear hw hw1 hw' back kn sb
  refine l_nil ?_
  exact f_owes_d (up_cons (d := 33) (up_cons (up_cons rfl hs36) hs39) k2) (congrArg Value.bool (decide_eq_true rfl)) ((perm_front 1 rfl).trans (perm_front 1 rfl))
 ·rintro f M ⟨k0, k1, -⟩ -
  exact ob0 (up_cons (d := 40) (up_cons (d := 33) rfl k0) k1) rfl (e_pick_t rfl) (.refl _)
 ·rintro f M ⟨k0, -⟩ -
  exact ob0 (up_cons (d := 41) rfl k0) rfl e_assign (.refl _)
 rintro fa11 ⟨-, -, -, -, -, -, -, -, -, -, -, -, -, -, -, -, -, -, -, -, -, -, -, -, -, -, -, -, -, -, -, -, -, -, -, -, -, k37, -⟩ -
 refine f_re (L' := [pt b2 (.cells #[Nx (i.epoch), Nx (i.next), sB aya i.state (ayc), sB by_a i.recs (by_c), Nx (i.size)] 54), pt b1 (.cells #[Nx (i.epoch), Nx (i.next), sB axa i.state (axc), sB bxa i.recs (bxc), Nx (i.size)] 36), row (sB (sla (fa11 36)) (i.recs.map str) (slc (fa11 36))) 9 1 ((i.recs.map str).length) ((i.recs.map str).map (fun s : ByteArray => Value.string s)), row (sB (sla (fa11 39)) (i.recs.map str) (slc (fa11 39))) 9 1 ((i.recs.map str).length) ((i.recs.map str).map (fun s : ByteArray => Value.string s))]) (by rfl) ?_
 refine f_rebase (d := 4) k37 ?_
 refine ftr ?_
 refine ret1 Try.results60 (v := .bool true) rfl ?_
 intro w hw
 exact ⟨by first | rfl | simp, st_mask [false, false, false, false] rfl hw⟩
set_option maxHeartbeats 4000000 in
theorem shows_ok (β : Base) (w : World) (hw : St β [] w) (J S : Nat) (i : KI) (dn : Bool) (hj : JF J S i dn β.heap) (ys yr : Value) (hb : i.state.length ≤ 1048576) (hn : i.recs.length ≤ 1048576) (hbs : ∀ b ∈ i.recs, b.length ≤ 1048576) (hys : Sl U8R β.heap ys i.state) (hyr : Sl BsR β.heap yr i.recs) : Calls Try.prog 29 #[pp J 0, .agg #[Nx i.epoch, Nx i.next, ys, yr, Nx i.size]] w fun r w' => r = .returned (.bool true) ∧ St β [] w' := by
 obtain ⟨aya, ayc, rfl, ayl, aym, aye⟩ := hys.get
 obtain ⟨bqa, bqc, rfl, bql, bqm, bqe⟩ := hyr.get
 refine enter (n := 39) Try.func29 rfl Try.ntmps29 rfl ?_ hw
 refine csr ?_
 refine l_mv rfl rfl rfl (m_box (v := .agg #[Nx (i.epoch), Nx (i.next), sB aya i.state (ayc), sB bqa i.recs (bqc), Nx (i.size)]) rfl) ?_
 rintro _ _ ⟨b1, rfl, rfl⟩
 refine lv e_assign ?_
 refine lnf ?_
 refine cs2 ?_
 refine c_region ?_
 refine lv e_move ?_
 refine lnf ?_
 refine c_block ?_
 refine c_mask [true] rfl ?_
 refine c_loop (fun (n : Nat) (f : Fm) (L : List Res) => (f 0 = pp J 0 ∧ f 3 = pp b1 0 ∧ f 8 = Nx (n)) ∧ L = [pt b1 (.cells #[Nx (i.epoch), Nx (i.next), sB aya i.state (ayc), sB bqa i.recs (bqc), Nx (i.size)] 54)] ∧ (n ≤ 2)) (fun (n : Nat) => 2 - n) 0 ?_ ?_
 ·exact ⟨⟨rfl, rfl, rfl⟩, rfl, (by omega)⟩
 rintro n f0 L0 ⟨⟨hs0, hs3, hs8⟩, hL, hn2⟩
 subst L0
 refine rebase (d := 0) hs0 ?_
 refine rebase (d := 3) hs3 ?_
 refine rebase (d := 8) hs8 ?_
 clear hs0 hs3 hs8
 refine csr ?_
 refine lv (e_lss (a := ((n : Nat) : Int)) (b := (2 : Int)) rfl rfl) ?_
 refine lnf ?_
 refine c_seq ?_
 refine c_if (((n : Nat) : Int) < (2 : Int)) rfl (fun hc2 => ?_) (fun hc2 => ?_)
 ·refine csk ?_
  refine c_seq ?_
  refine c_block ?_
  refine c_seq ?_
  refine c_any [⟨[], [], [0], [10], fun f => f 10 = pp J 0⟩, ⟨[0], [0], [], [11], fun f => f 11 = Nx (i.epoch)⟩, ⟨[], [], [0], [12], fun f => f 12 = pp J 0⟩, ⟨[0, 1, 2], [2], [], [13], fun f => f 13 = Nx (i.next)⟩, ⟨[], [], [0], [14], fun f => f 14 = pp J 0⟩, ⟨[0, 1, 2, 3, 4], [4], [], [15], fun f => f 15 = sB (sla (f 15)) i.state (slc (f 15))⟩, ⟨[], [], [0], [16], fun f => f 16 = pp J 0⟩, ⟨(List.range 7), [6], [], [17], fun f => f 17 = sB (sla (f 17)) i.recs (slc (f 17))⟩, ⟨[], [], [1], [18], fun f => f 18 = pp b1 4⟩, ⟨[8], [8], [], [19], fun f => f 19 = Nx (i.size)⟩, ⟨(List.range 10), [1, 3, 5, 7, 9], [], [15, 17, 20], fun f => f 20 = .agg #[Nx (i.epoch), Nx (i.next), sB (sla (f 15)) i.state (slc (f 15)), sB (sla (f 17)) i.recs (slc (f 17)), Nx (i.size)]⟩, ⟨[], [], [], [5], fun f => f 5 = .pointer (some ⟨(blk (f 5)), 0, none⟩)⟩, ⟨(List.range 12), [11, 10], [], [], fun _ => True⟩] [⟨none, none, [9], [], fun _ => pt b1 (.cells #[Nx (i.epoch), Nx (i.next), sB aya i.state (ayc), sB bqa i.recs (bqc), Nx (i.size)] 54)⟩, ⟨(some 5), none, [], [15], fun f => rB (sla (f 15)) i.state (slc (f 15))⟩, ⟨(some 7), none, [], [17], fun f => recsR 30 (sla (f 17)) (slc (f 17)) i.recs⟩, ⟨(some 11), (some 12), [12], [5], fun f => pt (blk (f 5)) (.cells #[.int .i64 (0), .int .i64 (0), .slice none 0 0, .slice none 0 0, .int .i64 (0)] 36)⟩, ⟨(some 12), none, [], [5, 15, 17], fun f => pt (blk (f 5)) (.cells #[Nx (i.epoch), Nx (i.next), sB (sla (f 15)) i.state (slc (f 15)), sB (sla (f 17)) i.recs (slc (f 17)), Nx (i.size)] 36)⟩] [(0, pp J 0), (3, pp b1 0), (8, Nx (n))] [0, 1, 2] [] (by kernel_rfl) (by kernel_rfl) (by kernel_rfl) (by kernel_rfl) rfl ⟨rfl, rfl, rfl, trivial⟩ ⟨?_, ?_, ?_, ?_, ?_, ?_, ?_, ?_, ?_, ?_, ?_, ?_, ?_, trivial⟩ ?_
  ·rintro f M - ⟨i0, -⟩
   exact ob0 (up_cons (d := 0) rfl i0) rfl e_move (.refl _)
  ·rintro f M ⟨k0, -⟩ -
   refine ob_start (L' := M) (by rfl) (up_cons (d := 10) rfl k0) ?_
   refine lcf (cl0 (vs := [pp J 0]) tf88 rfl rfl) rfl fun w β1 sb kn hw1 back => (epochm_ok β1 w hw1 J S i dn (JF.mono _ _ _ _ _ _ sb hj)).mono ?_
   rintro e w' ⟨rfl, hw'⟩
   refine ⟨_, rfl, _, back _ _ hw', ?_⟩
   clear hw1 hw' back kn sb
   refine l_nil ?_
   exact f_owes_d (up_cons (d := 10) rfl k0) rfl (List.Perm.refl _)
  ·rintro f M - ⟨i0, -⟩
   exact ob0 (up_cons (d := 0) rfl i0) rfl e_move (.refl _)
  ·rintro f M ⟨k0, -⟩ -
   refine ob_start (L' := M) (by rfl) (up_cons (d := 12) rfl k0) ?_
   refine lcf (cl0 (vs := [pp J 0]) tf90 rfl rfl) rfl fun w β1 sb kn hw1 back => (next_ok β1 w hw1 J S i dn (JF.mono _ _ _ _ _ _ sb hj)).mono ?_
   rintro e w' ⟨rfl, hw'⟩
   refine ⟨_, rfl, _, back _ _ hw', ?_⟩
   clear hw1 hw' back kn sb
   refine l_nil ?_
   exact f_owes_d (up_cons (d := 12) rfl k0) rfl (List.Perm.refl _)
  ·rintro f M - ⟨i0, -⟩
   exact ob0 (up_cons (d := 0) rfl i0) rfl e_move (.refl _)
  ·rintro f M ⟨k0, -⟩ -
   refine ob_start (L' := M) (by rfl) (up_cons (d := 14) rfl k0) ?_
   refine lcf (cl0 (vs := [pp J 0]) tf92 rfl rfl) rfl fun w β1 sb kn hw1 back => (state_ok β1 w hw1 J S i dn (JF.mono _ _ _ _ _ _ sb hj) hb).mono ?_
   rintro e w' ⟨p5, c6, rfl, hw'⟩
   refine ⟨_, rfl, _, back _ _ hw', ?_⟩
   clear hw1 hw' back kn sb
   refine l_nil ?_
   exact f_owes_d (up_cons (d := 14) rfl k0) rfl (perm_front 0 rfl)
  ·rintro f M - ⟨i0, -⟩
   exact ob0 (up_cons (d := 0) rfl i0) rfl e_move (.refl _)
  ·rintro f M ⟨k0, -⟩ -
   refine ob_start (L' := M) (by rfl) (up_cons (d := 16) rfl k0) ?_
   refine lcf (cl0 (vs := [pp J 0]) tf94 rfl rfl) rfl fun w β1 sb kn hw1 back => (records_ok β1 w hw1 J S i dn (JF.mono _ _ _ _ _ _ sb hj) hn hbs).mono ?_
   rintro e w' ⟨p9, c10, rfl, hw'⟩
   refine ⟨_, rfl, _, back _ _ hw', ?_⟩
   clear hw1 hw' back kn sb
   refine l_nil ?_
   exact f_owes_d (up_cons (d := 16) rfl k0) rfl (perm_front 0 rfl)
  ·rintro f M - ⟨i0, -⟩
   exact ob0 (up_cons (d := 3) rfl i0) rfl (e_fieldPt rfl tf149) (.refl _)
  ·rintro f M ⟨k0, -⟩ -
   exact obv (L' := pt b1 (.cells #[Nx (i.epoch), Nx (i.next), sB aya i.state (ayc), sB bqa i.recs (bqc), Nx (i.size)] 54) :: M) (up_cons (d := 18) rfl k0) rfl (e_load1 tf25 rfl (k_pt 0 rfl rfl)) (perm_front 0 rfl) (by rfl)
  ·rintro f M ⟨k0, k1, k2, k3, k4, -⟩ -
   have hs15 : f 15 = sB (sla (f 15)) i.state (slc (f 15)) := k2
   have hs17 : f 17 = sB (sla (f 17)) i.recs (slc (f 17)) := k3
   exact ob0 (up_cons (d := 19) (up_cons (up_cons (up_cons (d := 13) (up_cons (d := 11) rfl k0) k1) hs15) hs17) k4) rfl (e_build tf55 tf58 (vs := [(0, Nx (i.epoch)), (1, Nx (i.next)), (2, sB (sla (f 15)) i.state (slc (f 15))), (3, sB (sla (f 17)) i.recs (slc (f 17))), (4, Nx (i.size))]) (cells := #[Nx (i.epoch), Nx (i.next), sB (sla (f 15)) i.state (slc (f 15)), sB (sla (f 17)) i.recs (slc (f 17)), Nx (i.size)]) rfl rfl) (.refl _)
  ·rintro f M - -
   refine ob_start (L' := M) (by rfl) rfl ?_
   refine l_mv rfl rfl rfl (m_alloc tf55) ?_
   rintro _ _ ⟨b12, rfl, rfl⟩
   refine l_nil ?_
   exact f_owes_d rfl rfl (perm_front 0 rfl)
  ·rintro f M ⟨k0, k1, -⟩ -
   have hs5 : f 5 = .pointer (some ⟨(blk (f 5)), 0, none⟩) := k0
   have hs20 : f 20 = .agg #[Nx (i.epoch), Nx (i.next), sB (sla (f 15)) i.state (slc (f 15)), sB (sla (f 17)) i.recs (slc (f 17)), Nx (i.size)] := k1
   refine ob_start (L' := pt (blk (f 5)) (.cells #[.int .i64 (0), .int .i64 (0), .slice none 0 0, .slice none 0 0, .int .i64 (0)] 36) :: M) (by rfl) (up_cons (up_cons rfl hs5) hs20) ?_
   refine lu (m_store 0 tf59 (cs' := #[Nx (i.epoch), Nx (i.next), sB (sla (f 15)) i.state (slc (f 15)), sB (sla (f 17)) i.recs (slc (f 17)), Nx (i.size)]) rfl rfl rfl rfl rfl rfl rfl) ?_
   refine l_nil ?_
   exact f_owes_n (up_cons (up_cons rfl hs5) hs20) trivial (perm_front 0 rfl)
  rintro fa13 ⟨-, -, -, -, -, -, -, -, -, -, -, k11, -, -⟩ ⟨j0, j1, j2, -⟩
  refine f_re (L' := [pt b1 (.cells #[Nx (i.epoch), Nx (i.next), sB aya i.state (ayc), sB bqa i.recs (bqc), Nx (i.size)] 54), rB (sla (fa13 15)) i.state (slc (fa13 15)), recsR 30 (sla (fa13 17)) (slc (fa13 17)) i.recs, pt (blk (fa13 5)) (.cells #[Nx (i.epoch), Nx (i.next), sB (sla (fa13 15)) i.state (slc (fa13 15)), sB (sla (fa13 17)) i.recs (slc (fa13 17)), Nx (i.size)] 36)]) (by rfl) ?_
  refine f_rebase (d := 0) j0 ?_
  refine f_rebase (d := 3) j1 ?_
  refine f_rebase (d := 5) k11 ?_
  refine f_rebase (d := 8) j2 ?_
  refine fts ?_
  refine csr ?_
  refine lv (v := .agg #[Nx (i.epoch), Nx (i.next), sB (sla (fa13 15)) i.state (slc (fa13 15)), sB (sla (fa13 17)) i.recs (slc (fa13 17)), Nx (i.size)]) (e_load tf59 rfl (k_pt 3 rfl rfl) rfl) ?_
  refine lv (v := .agg #[Nx (i.epoch), Nx (i.next), sB aya i.state (ayc), sB bqa i.recs (bqc), Nx (i.size)]) (e_load tf142 rfl (k_pt 0 rfl rfl) rfl) ?_
  refine lcf (cl0 (vs := [.agg #[Nx (i.epoch), Nx (i.next), sB (sla (fa13 15)) i.state (slc (fa13 15)), sB (sla (fa13 17)) i.recs (slc (fa13 17)), Nx (i.size)], .agg #[Nx (i.epoch), Nx (i.next), sB aya i.state (ayc), sB bqa i.recs (bqc), Nx (i.size)]]) tf162 rfl rfl) rfl fun w β1 sb kn hw1 back => (same2_ok β1 w hw1 i _ _ _ _ hn (kU kn 1 rfl) (kn _ (Knows.of_res 2 rfl (Sl.mono BsR _ _) fun _ h => recs_sl h)) (Sl.mono _ _ _ _ _ sb (⟨⟨_, _, rfl, ayl, aym, aye⟩⟩ : Sl U8R _ _ i.state)) (Sl.mono _ _ _ _ _ sb (⟨⟨_, _, rfl, bql, bqm, bqe⟩⟩ : Sl BsR _ _ i.recs))).mono ?_
  rintro e w' ⟨rfl, hw'⟩
  refine ⟨_, rfl, _, back _ _ hw', ?_⟩
  clear hw1 hw' back kn sb
  refine lv (v := .bool false) (e_not (a := true) rfl) ?_
  refine lnf ?_
  refine c_no rfl ?_
  refine csk ?_
  refine csr ?_
  refine lv (e_fieldPt rfl tf63) ?_
  refine lv (v := sB (sla (fa13 15)) i.state (slc (fa13 15))) (e_load1 tf21 rfl (k_pt 3 rfl rfl)) ?_
  refine l_call rfl rfl rfl (cl0 (vs := [sB (sla (fa13 15)) i.state (slc (fa13 15))]) tf163 rfl rfl) ?_
  intro w hw
  replace hw := hw.perm (L' := _ :: _ :: _ :: _ :: []) (by exact ((((perm_front 3 rfl).trans (perm_front 3 rfl)).trans (perm_front 2 rfl)).trans (perm_front 3 rfl)))
  obtain ⟨β1, sb, kn, hw1, back⟩ := St.frame (L := [_]) (M := _ :: _ :: _ :: []) hw
  replace hw1 := hw1.conseq (r' := shp [sB (sla (fa13 15)) i.state (slc (fa13 15))]) fun _ h => row_shp_part h (by first | omega | (rw [lentX_len]; omega))
  refine (over_ok β1 w [sB (sla (fa13 15)) i.state (slc (fa13 15))] (sB (sla (fa13 15)) i.state (slc (fa13 15))) (List.mem_singleton.2 rfl) ⟨_, _, _, rfl, by first | omega | (simp only [List.length_take]; omega)⟩ hw1).mono ?_
  rintro e w' ⟨rfl, hw'⟩
  refine ⟨_, rfl, _, back _ _ hw', ?_⟩
  clear hw hw1 hw' back kn sb
  refine lnf ?_
  refine c_seq ?_
  refine c_pi [2, 0, 1, 3] 4 rfl (by kernel_rfl) ?_
  refine c_ex (r := fun us h => Sat [row (sB (sla (fa13 17)) i.recs (slc (fa13 17))) 30 1 ((i.recs).length) (us), ins us i.recs] h) rfl (fun us => ?_)
  refine c_unbun (K := [row (sB (sla (fa13 17)) i.recs (slc (fa13 17))) 30 1 ((i.recs).length) (us), ins us i.recs]) rfl ?_
  refine c_fact (Knows.of_res 1 rfl (fun _ _ _ h => h) fun _ h => ins_len h hbs) (fun hul0 => ?_)
  obtain ⟨hun, hul⟩ := hul0
  refine c_conseq (r' := shp us) 1 rfl (fun _ h => h.2) ?_
  refine c_region ?_
  refine lv (e_fieldPt rfl tf64) ?_
  refine lv (v := sB (sla (fa13 17)) i.recs (slc (fa13 17))) (e_load1 tf65 rfl (k_pt 4 rfl rfl)) ?_
  refine lv (v := Nx ((i.recs).length)) (e_len (a := (sla (fa13 17))) (n := (i.recs).length) (c := (slc (fa13 17))) rfl tf77) ?_
  refine lv e_move ?_
  refine lnf ?_
  refine c_block ?_
  refine c_loop (fun (q : Nat) (f : Fm) (L : List Res) => (f 0 = pp J 0 ∧ f 3 = pp b1 0 ∧ f 8 = Nx (n) ∧ f 29 = sB (sla (fa13 17)) i.recs (slc (fa13 17)) ∧ f 30 = Nx ((i.recs).length) ∧ f 31 = Nx (q)) ∧ L = [row (sB (sla (fa13 17)) i.recs (slc (fa13 17))) 30 1 ((i.recs).length) (us), shp us, shp [sB (sla (fa13 15)) i.state (slc (fa13 15))], pt b1 (.cells #[Nx (i.epoch), Nx (i.next), sB aya i.state (ayc), sB bqa i.recs (bqc), Nx (i.size)] 54), pt (blk (fa13 5)) (.cells #[Nx (i.epoch), Nx (i.next), sB (sla (fa13 15)) i.state (slc (fa13 15)), sB (sla (fa13 17)) i.recs (slc (fa13 17)), Nx (i.size)] 36)] ∧ (q ≤ i.recs.length)) (fun (q : Nat) => i.recs.length - q) 0 ?_ ?_
  ·exact ⟨⟨rfl, rfl, rfl, rfl, rfl, rfl⟩, rfl, (by omega)⟩
  rintro q f0 L0 ⟨⟨hs0, hs3, hs8, hs29, hs30, hs31⟩, hL, hq⟩
  subst L0
  refine rebase (d := 0) hs0 ?_
  refine rebase (d := 3) hs3 ?_
  refine rebase (d := 8) hs8 ?_
  refine rebase (d := 29) hs29 ?_
  refine rebase (d := 30) hs30 ?_
  refine rebase (d := 31) hs31 ?_
  clear hs0 hs3 hs8 hs29 hs30 hs31
  refine csr ?_
  refine lv (e_lss (a := ((q : Nat) : Int)) (b := (((i.recs).length : Nat) : Int)) rfl rfl) ?_
  refine lnf ?_
  refine c_seq ?_
  refine c_if (((q : Nat) : Int) < (((i.recs).length : Nat) : Int)) rfl (fun hc14 => ?_) (fun hc14 => ?_)
  ·refine csk ?_
   refine c_seq ?_
   refine c_block ?_
   refine csr ?_
   refine lv (v := .pointer (some ((ba (sla (fa13 17))).add (q * 1)))) (e_indexRow 0 (j := q) (len := (i.recs).length) (cap := (slc (fa13 17))) (p := (sla (fa13 17))) rfl rfl tf66 (by omega) (by omega) rfl) ?_
   obtain ⟨u15, hu16⟩ : ∃ u_, us[q]? = some u_ := ⟨_, List.getElem?_eq_getElem (by omega)⟩
   refine lv (v := u15) (e_load1 tf21 rfl (k_row 0 (o := q * 1) (us := [u15]) rfl (us_at hu16) (Nat.succ_pos _))) ?_
   refine lv e_assign ?_
   refine lnr ?_
   refine lv e_move ?_
   refine l_call rfl rfl rfl (cl0 (vs := [u15]) tf163 rfl rfl) ?_
   intro w hw
   replace hw := hw.perm (L' := _ :: _ :: _ :: _ :: _ :: []) (by exact (((((perm_front 4 rfl).trans (perm_front 4 rfl)).trans (perm_front 4 rfl)).trans (perm_front 3 rfl)).trans (perm_front 4 rfl)))
   obtain ⟨β1, sb, kn, hw1, back⟩ := St.frame (L := [_]) (M := _ :: _ :: _ :: _ :: []) hw
   refine (over_ok β1 w us u15 (List.mem_of_getElem? hu16) (hul _ _ hu16) hw1).mono ?_
   rintro e w' ⟨rfl, hw'⟩
   refine ⟨_, rfl, _, back _ _ hw', ?_⟩
   clear hw hw1 hw' back kn sb
   refine l_nil ?_
   refine f_block ?_
   refine f_then ?_
   refine c_region ?_
   refine lv (v := Nx (q + 1)) (e_add (a := ((q : Nat) : Int)) (b := (1 : Int)) rfl rfl (i64n (by omega) (by omega))) ?_
   refine lv e_move ?_
   refine l_nil ?_
   refine f_perm (L' := [row (sB (sla (fa13 17)) i.recs (slc (fa13 17))) 30 1 ((i.recs).length) (us), shp us, shp [sB (sla (fa13 15)) i.state (slc (fa13 15))], pt b1 (.cells #[Nx (i.epoch), Nx (i.next), sB aya i.state (ayc), sB bqa i.recs (bqc), Nx (i.size)] 54), pt (blk (fa13 5)) (.cells #[Nx (i.epoch), Nx (i.next), sB (sla (fa13 15)) i.state (slc (fa13 15)), sB (sla (fa13 17)) i.recs (slc (fa13 17)), Nx (i.size)] 36)]) (perm_ix [1, 0, 2, 3, 4] 5 rfl (by kernel_rfl) (by kernel_rfl)) ?_
   exact f_cut ⟨q + 1, ⟨⟨rfl, rfl, rfl, rfl, rfl, rfl⟩, rfl, (by omega)⟩, (show i.recs.length - (q + 1) < i.recs.length - q from by omega)⟩
  refine c_exit ?_
  refine f_then_exit ?_
  refine f_then_exit ?_
  refine f_exit ?_
  refine f_block ?_
  refine f_then ?_
  refine c_region ?_
  refine lv (v := Nx (n + 1)) (e_add (a := ((n : Nat) : Int)) (b := (1 : Int)) rfl rfl (i64n (by omega) (by omega))) ?_
  refine lv e_move ?_
  refine l_nil ?_
  refine f_mask (L' := [pt b1 (.cells #[Nx (i.epoch), Nx (i.next), sB aya i.state (ayc), sB bqa i.recs (bqc), Nx (i.size)] 54)]) [false, false, false, true, false] rfl ?_
  exact f_cut ⟨n + 1, ⟨⟨rfl, rfl, rfl⟩, rfl, (by omega)⟩, (show 2 - (n + 1) < 2 - n from by omega)⟩
 refine c_exit ?_
 refine f_then_exit ?_
 refine f_then_exit ?_
 refine f_exit ?_
 refine ftc ?_
 refine lv e_assign ?_
 refine lnf ?_
 refine c_ret ?_
 refine ret1 Try.results29 (v := .bool true) rfl ?_
 intro w hw
 exact ⟨by first | rfl | simp, st_mask [false] rfl hw⟩
end Go.Proofs
