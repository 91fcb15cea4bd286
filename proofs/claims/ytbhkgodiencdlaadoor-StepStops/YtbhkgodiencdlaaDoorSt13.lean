/-
 StepStops, walked. Printed by a program of my own.
-/
import Derived.Test.YtbhkgodiencdlaaDoorSt12
import Derived.Test.YtbhkgodiencdlaaDoorStStop
namespace Go.Proofs
open Go Go.Sl Go.Stp
theorem tf139 : elB Tryd.prog 54 8 8 = true := by kernel_rfl
theorem tf140 : Tryd.prog.underlying 55 = some (.int .i16) := by kernel_rfl
theorem fixB_ok_ (β : Base) (w : World) (hw : St β [] w) (b : KB) : Calls Tryd.prog 16 #[.agg (bC b)] w fun r w' => r = .returned (.agg (bC (fixB b))) ∧ St β [] w' := by
 exact fixed_ok β w hw b
set_option maxHeartbeats 4000000 in
theorem stops_ok (β : Base) (w : World) (hw : St β [] w) (gF : KF) (hgF : okF gF) (v : Value) (fs : List KF) (hs : Sl FormR β.heap v fs) (hfl : fs.length * 8 ≤ 140737488351232) (sp : Int) (hsp : -32768 ≤ sp ∧ sp ≤ 32767) (hG : GR β) : Calls Tryd.prog 7 #[.agg #[.int .i8 (gF.x), .int .i8 (gF.y), .int .i8 (gF.vx), .int .i8 (gF.vy), Bx (gF.w), Bx (gF.h), .bool (gF.round), .bool (gF.fixed)], v, .int .i16 sp] w fun r w' => r = .returned (.bool true) ∧ St β [] w' := by
 obtain ⟨va, vc, rfl, vl, vm, ve⟩ := hs.get
 have hfs : ∀ f ∈ [gF] ++ fs, okF f := fun f hf => (List.mem_append.1 hf).elim (fun h => by rw [List.mem_singleton.1 h]; exact hgF) (elems_okF ve f)
 refine enter (n := 167) Tryd.func7 rfl Tryd.ntmps7 rfl ?_ hw
 refine c_seq ?_
 refine c_region ?_
 refine l_mv rfl rfl rfl (m_box (v := .agg #[.int .i8 (gF.x), .int .i8 (gF.y), .int .i8 (gF.vx), .int .i8 (gF.vy), Bx (gF.w), Bx (gF.h), .bool (gF.round), .bool (gF.fixed)]) rfl) ?_
 rintro _ _ ⟨b1, rfl, rfl⟩
 refine l_val (v := .bool false) rfl rfl rfl (e_assign) ?_
 refine l_nil ?_
 refine f_then ?_
 refine c_seq ?_
 refine c_seq ?_
 refine c_region ?_
 refine l_call rfl rfl rfl (cl_value (fst := []) (cap := []) (vs := []) (all := []) tf132 rfl rfl rfl) ?_
 intro w hw
 obtain ⟨β1, sb, kn, hw1, back⟩ := St.frame_all hw
 have hG1 := GR.mono sb hG
 refine (awake_ok β1 w hw1 hG1).mono ?_
 rintro e w' ⟨rfl, hw'⟩
 refine ⟨_, rfl, _, back _ _ hw', ?_⟩
 clear hw hw1 hw' back kn sb
 refine l_val (v := .bool false) rfl rfl rfl (e_not (a := true) rfl) ?_
 refine l_nil ?_
 refine f_then ?_
 refine c_no rfl ?_
 refine c_skip ?_
 refine f_then ?_
 refine c_seq ?_
 refine c_region ?_
 refine l_val (v := .agg #[.int .i8 (gF.x), .int .i8 (gF.y), .int .i8 (gF.vx), .int .i8 (gF.vy), Bx (gF.w), Bx (gF.h), .bool (gF.round), .bool (gF.fixed)]) rfl rfl rfl (e_load tf117 (cs := [.int .i8 (gF.x), .int .i8 (gF.y), .int .i8 (gF.vx), .int .i8 (gF.vy), Bx (gF.w), Bx (gF.h), .bool (gF.round), .bool (gF.fixed)]) rfl (k_pt 0 (cs := #[.int .i8 (gF.x), .int .i8 (gF.y), .int .i8 (gF.vx), .int .i8 (gF.vy), Bx (gF.w), Bx (gF.h), .bool (gF.round), .bool (gF.fixed)]) (vs := [.int .i8 (gF.x), .int .i8 (gF.y), .int .i8 (gF.vx), .int .i8 (gF.vy), Bx (gF.w), Bx (gF.h), .bool (gF.round), .bool (gF.fixed)]) rfl rfl) rfl) ?_
 refine l_mv rfl rfl rfl (m_slices tf116 tf118 (vs := [(0, .agg #[.int .i8 (gF.x), .int .i8 (gF.y), .int .i8 (gF.vx), .int .i8 (gF.vy), Bx (gF.w), Bx (gF.h), .bool (gF.round), .bool (gF.fixed)])]) (cells := #[.int .i8 (gF.x), .int .i8 (gF.y), .int .i8 (gF.vx), .int .i8 (gF.vy), Bx (gF.w), Bx (gF.h), .bool (gF.round), .bool (gF.fixed)]) rfl rfl rfl (by kernel_rfl)) ?_
 rintro _ _ ⟨b2, rfl, rfl⟩
 refine l_val (v := .slice va (fs.length) (vc)) rfl rfl rfl (e_move) ?_
 refine l_conseq 0 (r' := rowF FormFl 54 (some ⟨b2, 0, none⟩) 1 [gF]) rfl (pt_rowF (F := FormFl) (xs := [gF]) rfl (by simp)) ?_
 refine l_mv rfl rfl rfl (m_appendFlN (F := FormFl) 0 tf116 tf139 (p := (some ⟨b2, 0, none⟩)) (m := 1) (xs := [gF]) (ys := fs) (ao := va) (k := fs.length) (c := vc) rfl rfl rfl rfl rfl (Knows.imp (Knows.of_base (Elems.mono _ _ _) ve) fun _ h => elems_form h) (by first | omega | simp only [List.length_nil, List.length_cons, List.length_append, List.length_set]; omega) (by first | omega | simp only [List.length_nil, List.length_cons, List.length_append, List.length_set]; omega)) ?_
 rintro _ _ ⟨rp3, rc4, rfl, rfl⟩
 refine l_call rfl rfl rfl (cl_value (fst := []) (cap := []) (vs := [.slice rp3 (([gF] ++ fs).length) rc4, .slice none 0 0, .int .i8 (0), .int .i8 (0)]) (all := [.slice rp3 (([gF] ++ fs).length) rc4, .slice none 0 0, .int .i8 (0), .int .i8 (0)]) tf133 rfl rfl rfl) ?_
 intro w hw
 obtain ⟨β1, sb, kn, hw1, back⟩ := St.frame_all hw
 refine (made8_ok β1 w hw1 _ _ ([gF] ++ fs) [] (sl_form (kn _ (k_flN 0 (F := FormFl) (m := ([gF] ++ fs).length) (xs := ([gF] ++ fs)) rfl rfl)) hfs) (Sl.nil U8R _) 0 0 (by decide) (by decide)).mono ?_
 rintro e w' ⟨bs, R, p5, c6, p7, c8, rfl, hmP, hbl, hRu, hw'⟩
 refine ⟨_, rfl, _, back _ _ hw', ?_⟩
 clear hw hw1 hw' back kn sb
 refine l_mv rfl rfl rfl (m_alloc tf85) ?_
 rintro _ _ ⟨b9, rfl, rfl⟩
 refine l_mu rfl rfl (m_store 0 tf86 (b := b9) (o := 0) (T := 27) (cs := #[.slice none 0 0, .slice none 0 0, .int .i64 (0), .int .i64 (0)]) (cs' := #[.slice p5 (bs.length) c6, .slice p7 (R.length) c8, .int .i64 (0), .int .i64 (0)]) (v := .agg #[.slice p5 (bs.length) c6, .slice p7 (R.length) c8, .int .i64 (0), .int .i64 (0)]) rfl rfl rfl rfl rfl rfl rfl) ?_
 refine l_nil ?_
 refine f_then ?_
 refine c_seq ?_
 refine c_seq ?_
 have hmP : MadeP bs R 0 0 := hmP
 obtain rfl : R = [] := List.eq_nil_of_length_eq_zero (by simp at hRu; omega)
 have hbl1 : 1 ≤ bs.length := by rw [hbl]; simp; omega
 clear hRu hbl
 have hb16 := hmP.few
 refine c_region ?_
 refine l_val (v := .pointer (some ⟨b9, 0, none⟩)) rfl rfl rfl (e_fieldPt (b := b9) (o := 0) rfl tf49) ?_
 refine l_val (v := .slice p5 (bs.length) c6) rfl rfl rfl (e_load1 tf50 (v := .slice p5 (bs.length) c6) rfl (k_pt 0 (cs := #[.slice p5 (bs.length) c6, .slice p7 (0) c8, .int .i64 (0), .int .i64 (0)]) (vs := [.slice p5 (bs.length) c6]) rfl rfl)) ?_
 refine l_val (v := Nx (bs.length)) rfl rfl rfl (e_len (a := p5) (n := bs.length) (c := c6) rfl tf40) ?_
 refine l_val (v := .int .i64 (0)) rfl rfl rfl (e_move) ?_
 refine l_nil ?_
 refine f_then ?_
 refine c_block ?_
 refine c_mask [true, true, true, false, false] rfl ?_
 refine c_loop (fun (x_ : Nat × List KB) (f : Fm) (L : List Res) => match x_ with | (k, B) => (f 2 = .int .i16 (sp) ∧ f 7 = .pointer (some ⟨b9, 0, none⟩) ∧ f 29 = Nx (bs.length) ∧ f 30 = Nx (k)) ∧ L = [pt b9 (.cells #[.slice p5 (bs.length) c6, .slice p7 (0) c8, .int .i64 (0), .int .i64 (0)] 27), rowF BodyF 31 p5 c6 B, rowF RopeF 35 p7 c8 []] ∧ (k ≤ bs.length ∧ B.length = bs.length ∧ ∀ i, B[i]? = if i < k then (bs[i]?).map fixB else bs[i]?)) (fun (x_ : Nat × List KB) => match x_ with | (k, B) => bs.length - k) (0, bs) ?_ ?_
 ·exact ⟨⟨rfl, rfl, rfl, rfl⟩, rfl, ⟨by omega, rfl, fun i => by simp⟩⟩
 rintro ⟨k, B⟩ f0 L0 ⟨⟨hs2, hs7, hs29, hs30⟩, hL, ⟨hk, hBl, hBi⟩⟩
 subst L0
 refine rebase (d := 2) hs2 ?_
 refine rebase (d := 7) hs7 ?_
 refine rebase (d := 29) hs29 ?_
 refine rebase (d := 30) hs30 ?_
 clear hs2 hs7 hs29 hs30
 refine c_seq ?_
 refine c_region ?_
 refine l_val (v := .bool (decide (((k : Nat) : Int) < ((bs.length : Nat) : Int)))) rfl rfl rfl (e_lss (a := ((k : Nat) : Int)) (b := ((bs.length : Nat) : Int)) rfl rfl) ?_
 refine l_nil ?_
 refine f_then ?_
 refine c_seq ?_
 refine c_if (((k : Nat) : Int) < ((bs.length : Nat) : Int)) rfl (fun hc10 => ?_) (fun hc10 => ?_)
 ·
  refine c_skip ?_
  refine f_then ?_
  refine c_seq ?_
  refine c_block ?_
  refine c_seq ?_
  refine c_region ?_
  refine l_val (v := Nx (k)) rfl rfl rfl (e_move) ?_
  refine l_val (v := Nx (k)) rfl rfl rfl (e_assign) ?_
  refine l_nil ?_
  refine f_then ?_
  obtain ⟨x, hx⟩ : ∃ x_, B[k]? = some x_ := ⟨_, List.getElem?_eq_getElem (by omega)⟩
  refine c_any [⟨[], [], [0], [33], fun f => f 33 = .pointer (some ⟨b9, 0, none⟩)⟩, ⟨[0], [0], [], [34], fun f => f 34 = .slice p5 (bs.length) c6⟩, ⟨[], [], [1], [35], fun f => f 35 = Nx (k)⟩, ⟨[], [], [0], [36], fun f => f 36 = .pointer (some ⟨b9, 0, none⟩)⟩, ⟨[3], [3], [], [37], fun f => f 37 = .slice p5 (bs.length) c6⟩, ⟨[], [], [1], [38], fun f => f 38 = Nx (k)⟩, ⟨[3, 4, 5], [4, 5], [], [39], fun f => f 39 = .pointer (some ((ba p5).add (k * 9)))⟩, ⟨[3, 4, 5, 6], [6], [], [40], fun f => f 40 = .agg (bC x)⟩, ⟨[3, 4, 5, 6, 7], [7], [], [41], fun f => f 41 = .agg (bC (fixB x))⟩, ⟨[0, 1, 2, 3, 4, 5, 6, 7, 8], [1, 2], [], [42], fun f => f 42 = .pointer (some ((ba p5).add (k * 9)))⟩, ⟨[0, 1, 2, 3, 4, 5, 6, 7, 8, 9], [9, 8], [], [], fun _ => True⟩] [⟨none, none, [1, 4], [], fun _ => pt b9 (.cells #[.slice p5 (bs.length) c6, .slice p7 (0) c8, .int .i64 (0), .int .i64 (0)] 27)⟩, ⟨none, (some 10), [6, 7, 9, 10], [], fun _ => rowF BodyF 31 p5 c6 B⟩, ⟨none, none, [], [], fun _ => rowF RopeF 35 p7 c8 []⟩, ⟨(some 10), none, [], [], fun _ => rowF BodyF 31 p5 c6 (B.set k (fixB x))⟩] [(7, .pointer (some ⟨b9, 0, none⟩)), (8, Nx (k)), (2, .int .i16 (sp)), (29, Nx (bs.length)), (30, Nx (k))] [2, 0, 3, 4] [] (by kernel_rfl) (by kernel_rfl) (by kernel_rfl) (by kernel_rfl) rfl ⟨rfl, rfl, rfl, rfl, rfl, trivial⟩ ⟨?_, ?_, ?_, ?_, ?_, ?_, ?_, ?_, ?_, ?_, ?_, trivial⟩ ?_
  ·rintro f M - ⟨i0, -⟩
   have hs7 : f 7 = .pointer (some ⟨b9, 0, none⟩) := i0
   refine ob_start (L' := M) (by rfl) (up_cons rfl hs7) ?_
   refine l_val (v := .pointer (some ⟨b9, 0, none⟩)) rfl rfl rfl (e_fieldPt (b := b9) (o := 0) rfl tf49) ?_
   refine l_nil ?_
   exact f_owes_d (up_cons rfl hs7) rfl (List.Perm.refl _)
  ·rintro f M ⟨k0, -⟩ -
   have hs33 : f 33 = .pointer (some ⟨b9, 0, none⟩) := k0
   refine ob_start (L' := pt b9 (.cells #[.slice p5 (bs.length) c6, .slice p7 (0) c8, .int .i64 (0), .int .i64 (0)] 27) :: M) (by rfl) (up_cons rfl hs33) ?_
   refine l_val (v := .slice p5 (bs.length) c6) rfl rfl rfl (e_load1 tf50 (v := .slice p5 (bs.length) c6) rfl (k_pt 0 (cs := #[.slice p5 (bs.length) c6, .slice p7 (0) c8, .int .i64 (0), .int .i64 (0)]) (vs := [.slice p5 (bs.length) c6]) rfl rfl)) ?_
   refine l_nil ?_
   exact f_owes_d (up_cons rfl hs33) rfl (perm_front 0 rfl)
  ·rintro f M - ⟨i0, -⟩
   have hs8 : f 8 = Nx (k) := i0
   refine ob_start (L' := M) (by rfl) (up_cons rfl hs8) ?_
   refine l_val (v := Nx (k)) rfl rfl rfl (e_move) ?_
   refine l_nil ?_
   exact f_owes_d (up_cons rfl hs8) rfl (List.Perm.refl _)
  ·rintro f M - ⟨i0, -⟩
   have hs7 : f 7 = .pointer (some ⟨b9, 0, none⟩) := i0
   refine ob_start (L' := M) (by rfl) (up_cons rfl hs7) ?_
   refine l_val (v := .pointer (some ⟨b9, 0, none⟩)) rfl rfl rfl (e_fieldPt (b := b9) (o := 0) rfl tf49) ?_
   refine l_nil ?_
   exact f_owes_d (up_cons rfl hs7) rfl (List.Perm.refl _)
  ·rintro f M ⟨k0, -⟩ -
   have hs36 : f 36 = .pointer (some ⟨b9, 0, none⟩) := k0
   refine ob_start (L' := pt b9 (.cells #[.slice p5 (bs.length) c6, .slice p7 (0) c8, .int .i64 (0), .int .i64 (0)] 27) :: M) (by rfl) (up_cons rfl hs36) ?_
   refine l_val (v := .slice p5 (bs.length) c6) rfl rfl rfl (e_load1 tf50 (v := .slice p5 (bs.length) c6) rfl (k_pt 0 (cs := #[.slice p5 (bs.length) c6, .slice p7 (0) c8, .int .i64 (0), .int .i64 (0)]) (vs := [.slice p5 (bs.length) c6]) rfl rfl)) ?_
   refine l_nil ?_
   exact f_owes_d (up_cons rfl hs36) rfl (perm_front 0 rfl)
  ·rintro f M - ⟨i0, -⟩
   have hs8 : f 8 = Nx (k) := i0
   refine ob_start (L' := M) (by rfl) (up_cons rfl hs8) ?_
   refine l_val (v := Nx (k)) rfl rfl rfl (e_move) ?_
   refine l_nil ?_
   exact f_owes_d (up_cons rfl hs8) rfl (List.Perm.refl _)
  ·rintro f M ⟨k0, k1, -⟩ -
   have hs37 : f 37 = .slice p5 (bs.length) c6 := k0
   have hs38 : f 38 = Nx (k) := k1
   refine ob_start (L' := rowF BodyF 31 p5 c6 B :: M) (by rfl) (up_cons (up_cons rfl hs37) hs38) ?_
   refine l_val (v := .pointer (some ((ba p5).add (k * 9)))) rfl rfl rfl (e_indexFlN 0 (F := BodyF) (j := k) (m := bs.length) (xs := B) rfl (by omega) rfl tf43 (by omega) rfl) ?_
   refine l_nil ?_
   exact f_owes_d (up_cons (up_cons rfl hs37) hs38) rfl (perm_front 0 rfl)
  ·rintro f M ⟨k0, -⟩ -
   have hs39 : f 39 = .pointer (some ((ba p5).add (k * 9))) := k0
   refine ob_start (L' := rowF BodyF 31 p5 c6 B :: M) (by rfl) (up_cons rfl hs39) ?_
   refine l_val (v := .agg (bC x)) rfl rfl rfl (e_load tf22 (cs := (bodyE x)) rfl (k_flAt 0 (F := BodyF) rfl hx) rfl) ?_
   refine l_nil ?_
   exact f_owes_d (up_cons rfl hs39) rfl (perm_front 0 rfl)
  ·rintro f M ⟨k0, -⟩ -
   have hs40 : f 40 = .agg (bC x) := k0
   refine ob_start (L' := M) (by rfl) (up_cons rfl hs40) ?_
   refine l_call rfl rfl rfl (cl_value (fst := []) (cap := []) (vs := [.agg (bC x)]) (all := [.agg (bC x)]) tf107 rfl rfl rfl) ?_
   intro w hw
   obtain ⟨β1, sb, kn, hw1, back⟩ := St.frame_all hw
   refine (fixB_ok_ β1 w hw1 x).mono ?_
   rintro e w' ⟨rfl, hw'⟩
   refine ⟨_, rfl, _, back _ _ hw', ?_⟩
   clear hw hw1 hw' back kn sb
   refine l_nil ?_
   exact f_owes_d (up_cons rfl hs40) rfl (List.Perm.refl _)
  ·rintro f M ⟨k0, k1, -⟩ -
   have hs34 : f 34 = .slice p5 (bs.length) c6 := k0
   have hs35 : f 35 = Nx (k) := k1
   refine ob_start (L' := rowF BodyF 31 p5 c6 B :: M) (by rfl) (up_cons (up_cons rfl hs34) hs35) ?_
   refine l_val (v := .pointer (some ((ba p5).add (k * 9)))) rfl rfl rfl (e_indexFlN 0 (F := BodyF) (j := k) (m := bs.length) (xs := B) rfl (by omega) rfl tf43 (by omega) rfl) ?_
   refine l_nil ?_
   exact f_owes_d (up_cons (up_cons rfl hs34) hs35) rfl (perm_front 0 rfl)
  ·rintro f M ⟨k0, k1, -⟩ -
   have hs42 : f 42 = .pointer (some ((ba p5).add (k * 9))) := k0
   have hs41 : f 41 = .agg (bC (fixB x)) := k1
   refine ob_start (L' := rowF BodyF 31 p5 c6 B :: M) (by rfl) (up_cons (up_cons rfl hs42) hs41) ?_
   refine l_mu rfl rfl (m_storeFl 0 (F := BodyF) (p := p5) (k := k) (xs := B) (z := (fixB x)) tf22 rfl rfl rfl rfl (by omega)) ?_
   refine l_nil ?_
   exact f_owes_n (up_cons (up_cons rfl hs42) hs41) trivial (perm_front 0 rfl)
  rintro fa11 ⟨-, -, -, -, -, -, -, -, -, -, -, -⟩ ⟨j0, j1, j2, j3, -⟩
  refine f_re (L' := [pt b9 (.cells #[.slice p5 (bs.length) c6, .slice p7 (0) c8, .int .i64 (0), .int .i64 (0)] 27), rowF RopeF 35 p7 c8 [], rowF BodyF 31 p5 c6 (B.set k (fixB x))]) (by rfl) ?_
  refine f_rebase (d := 2) (v := .int .i16 (sp)) j0 ?_
  refine f_rebase (d := 7) (v := .pointer (some ⟨b9, 0, none⟩)) j1 ?_
  refine f_rebase (d := 29) (v := Nx (bs.length)) j2 ?_
  refine f_rebase (d := 30) (v := Nx (k)) j3 ?_
  refine f_block ?_
  refine f_then ?_
  refine c_region ?_
  refine l_val (v := Nx (k + 1)) rfl rfl rfl (e_add (a := ((k : Nat) : Int)) (b := (1 : Int)) rfl rfl (i64n (by omega) (by omega))) ?_
  refine l_val (v := Nx (k + 1)) rfl rfl rfl (e_move) ?_
  refine l_nil ?_
  refine f_perm (L' := [pt b9 (.cells #[.slice p5 (bs.length) c6, .slice p7 (0) c8, .int .i64 (0), .int .i64 (0)] 27), rowF BodyF 31 p5 c6 (B.set k (fixB x)), rowF RopeF 35 p7 c8 []]) (perm_ix [0, 2, 1] 3 rfl (by kernel_rfl) (by kernel_rfl)) ?_
  exact f_cut ⟨(k + 1, (B.set k (fixB x))), ⟨⟨rfl, rfl, rfl, rfl⟩, rfl, ⟨by omega, by rw [List.length_set]; exact hBl, fix_next hBi hx⟩⟩, (show bs.length - (k + 1) < bs.length - k from by omega)⟩
 ·
  refine c_exit ?_
  refine f_then_exit ?_
  refine f_then_exit ?_
  refine f_exit ?_
  refine f_then ?_
  refine c_seq ?_
  refine c_region ?_
  refine l_val (v := .int .i16 (sp)) rfl rfl rfl (e_move) ?_
  refine l_val (v := Ix (sp)) rfl rfl rfl (e_conv (a := (sp)) rfl ⟨_, tf140⟩ tf41 (i64w (by omega))) ?_
  refine l_val (v := Ix (Int.tmod (sp) 501)) rfl rfl rfl (e_rem (a := (sp)) (b := (501 : Int)) rfl rfl (by decide) rfl) ?_
  refine l_val (v := Ix (Int.tmod (sp) 501)) rfl rfl rfl (e_assign) ?_
  refine l_nil ?_
  refine f_then ?_
  refine c_seq ?_
  obtain ⟨vv, hvv⟩ : ∃ z, z = Int.tmod sp 501 := ⟨_, rfl⟩
  have hvb := tmod501_bd sp
  rw [← hvv] at hvb
  rw [← hvv]
  obtain ⟨x0, hx0⟩ : ∃ x_, B[0]? = some x_ := ⟨_, List.getElem?_eq_getElem (by omega)⟩
  refine c_any [⟨[], [], [0], [47], fun f => f 47 = .pointer (some ⟨b9, 0, none⟩)⟩, ⟨[0], [0], [], [48], fun f => f 48 = .slice p5 (bs.length) c6⟩, ⟨[], [], [0], [49], fun f => f 49 = .pointer (some ⟨b9, 0, none⟩)⟩, ⟨[2], [2], [], [50], fun f => f 50 = .slice p5 (bs.length) c6⟩, ⟨[], [], [1], [51], fun f => f 51 = Ix (vv)⟩, ⟨[0, 1], [1], [], [52], fun f => f 52 = .pointer (some ((ba p5).add (0 * 9)))⟩, ⟨[0, 1, 5], [5], [], [53], fun f => f 53 = .pointer (some ((ba p5).add (0 * 9 + 8)))⟩, ⟨[0, 1, 5, 6], [6], [], [], fun _ => True⟩, ⟨[0, 1, 2, 3, 4, 5, 6, 7], [3], [], [54], fun f => f 54 = .pointer (some ((ba p5).add (0 * 9)))⟩, ⟨[0, 1, 2, 3, 4, 5, 6, 7, 8], [8], [], [55], fun f => f 55 = .pointer (some ((ba p5).add (0 * 9 + 3)))⟩, ⟨[0, 1, 2, 3, 4, 5, 6, 7, 8, 9], [9], [], [56], fun f => f 56 = .pointer (some ((ba p5).add (0 * 9 + 3)))⟩, ⟨[0, 1, 2, 3, 4, 5, 6, 7, 8, 9, 10], [10, 4], [], [], fun _ => True⟩] [⟨none, none, [1, 3], [], fun _ => pt b9 (.cells #[.slice p5 (bs.length) c6, .slice p7 (0) c8, .int .i64 (0), .int .i64 (0)] 27)⟩, ⟨none, (some 7), [5, 7], [], fun _ => rowF BodyF 31 p5 c6 B⟩, ⟨none, none, [], [], fun _ => rowF RopeF 35 p7 c8 []⟩, ⟨(some 7), (some 11), [8, 11], [], fun _ => rowF BodyF 31 p5 c6 (B.set 0 (unfix x0))⟩, ⟨(some 11), none, [], [], fun _ => rowF BodyF 31 p5 c6 (B.set 0 (setVx (unfix x0) vv))⟩] [(7, .pointer (some ⟨b9, 0, none⟩)), (9, Ix (vv))] [0, 1] [] (by kernel_rfl) (by kernel_rfl) (by kernel_rfl) (by kernel_rfl) rfl ⟨rfl, rfl, trivial⟩ ⟨?_, ?_, ?_, ?_, ?_, ?_, ?_, ?_, ?_, ?_, ?_, ?_, trivial⟩ ?_
  ·rintro f M - ⟨i0, -⟩
   have hs7 : f 7 = .pointer (some ⟨b9, 0, none⟩) := i0
   refine ob_start (L' := M) (by rfl) (up_cons rfl hs7) ?_
   refine l_val (v := .pointer (some ⟨b9, 0, none⟩)) rfl rfl rfl (e_fieldPt (b := b9) (o := 0) rfl tf49) ?_
   refine l_nil ?_
   exact f_owes_d (up_cons rfl hs7) rfl (List.Perm.refl _)
  ·rintro f M ⟨k0, -⟩ -
   have hs47 : f 47 = .pointer (some ⟨b9, 0, none⟩) := k0
   refine ob_start (L' := pt b9 (.cells #[.slice p5 (bs.length) c6, .slice p7 (0) c8, .int .i64 (0), .int .i64 (0)] 27) :: M) (by rfl) (up_cons rfl hs47) ?_
   refine l_val (v := .slice p5 (bs.length) c6) rfl rfl rfl (e_load1 tf50 (v := .slice p5 (bs.length) c6) rfl (k_pt 0 (cs := #[.slice p5 (bs.length) c6, .slice p7 (0) c8, .int .i64 (0), .int .i64 (0)]) (vs := [.slice p5 (bs.length) c6]) rfl rfl)) ?_
   refine l_nil ?_
   exact f_owes_d (up_cons rfl hs47) rfl (perm_front 0 rfl)
  ·rintro f M - ⟨i0, -⟩
   have hs7 : f 7 = .pointer (some ⟨b9, 0, none⟩) := i0
   refine ob_start (L' := M) (by rfl) (up_cons rfl hs7) ?_
   refine l_val (v := .pointer (some ⟨b9, 0, none⟩)) rfl rfl rfl (e_fieldPt (b := b9) (o := 0) rfl tf49) ?_
   refine l_nil ?_
   exact f_owes_d (up_cons rfl hs7) rfl (List.Perm.refl _)
  ·rintro f M ⟨k0, -⟩ -
   have hs49 : f 49 = .pointer (some ⟨b9, 0, none⟩) := k0
   refine ob_start (L' := pt b9 (.cells #[.slice p5 (bs.length) c6, .slice p7 (0) c8, .int .i64 (0), .int .i64 (0)] 27) :: M) (by rfl) (up_cons rfl hs49) ?_
   refine l_val (v := .slice p5 (bs.length) c6) rfl rfl rfl (e_load1 tf50 (v := .slice p5 (bs.length) c6) rfl (k_pt 0 (cs := #[.slice p5 (bs.length) c6, .slice p7 (0) c8, .int .i64 (0), .int .i64 (0)]) (vs := [.slice p5 (bs.length) c6]) rfl rfl)) ?_
   refine l_nil ?_
   exact f_owes_d (up_cons rfl hs49) rfl (perm_front 0 rfl)
  ·rintro f M - ⟨i0, -⟩
   have hs9 : f 9 = Ix (vv) := i0
   refine ob_start (L' := M) (by rfl) (up_cons rfl hs9) ?_
   refine l_val (v := Ix (vv)) rfl rfl rfl (e_move) ?_
   refine l_nil ?_
   exact f_owes_d (up_cons rfl hs9) rfl (List.Perm.refl _)
  ·rintro f M ⟨k0, -⟩ -
   have hs48 : f 48 = .slice p5 (bs.length) c6 := k0
   refine ob_start (L' := rowF BodyF 31 p5 c6 B :: M) (by rfl) (up_cons rfl hs48) ?_
   refine l_val (v := .pointer (some ((ba p5).add (0 * 9)))) rfl rfl rfl (e_indexFlN 0 (F := BodyF) (j := 0) (m := bs.length) (xs := B) rfl (by omega) rfl tf43 (by omega) rfl) ?_
   refine l_nil ?_
   exact f_owes_d (up_cons rfl hs48) rfl (perm_front 0 rfl)
  ·rintro f M ⟨k0, -⟩ -
   have hs52 : f 52 = .pointer (some ((ba p5).add (0 * 9))) := k0
   refine ob_start (L' := M) (by rfl) (up_cons rfl hs52) ?_
   refine l_val (v := .pointer (some ((ba p5).add (0 * 9 + 8)))) rfl rfl rfl (ev_eq (congrArg (fun z => Value.pointer (some z)) (show ((ba p5).add (0 * 9) : Addr).add 8 = (ba p5).add (0 * 9 + 8) by rw [Addr.add_add'])) (e_fieldAddr (a := (ba p5).add (0 * 9)) rfl tf14)) ?_
   refine l_nil ?_
   exact f_owes_d (up_cons rfl hs52) rfl (List.Perm.refl _)
  ·rintro f M ⟨k0, -⟩ -
   have hs53 : f 53 = .pointer (some ((ba p5).add (0 * 9 + 8))) := k0
   refine ob_start (L' := rowF BodyF 31 p5 c6 B :: M) (by rfl) (up_cons rfl hs53) ?_
   refine l_mu rfl rfl (m_storeFlPart 0 (F := BodyF) (p := p5) (k := 0) (o := 8) (xs := B) (z0 := x0) (z := (unfix x0)) tf13 rfl rfl rfl rfl rfl hx0 (by decide) rfl) ?_
   refine l_nil ?_
   exact f_owes_n (up_cons rfl hs53) trivial (perm_front 0 rfl)
  ·rintro f M ⟨k0, -⟩ -
   have hs50 : f 50 = .slice p5 (bs.length) c6 := k0
   refine ob_start (L' := rowF BodyF 31 p5 c6 (B.set 0 (unfix x0)) :: M) (by rfl) (up_cons rfl hs50) ?_
   refine l_val (v := .pointer (some ((ba p5).add (0 * 9)))) rfl rfl rfl (e_indexFlN 0 (F := BodyF) (j := 0) (m := bs.length) (xs := (B.set 0 (unfix x0))) rfl (by rw [List.length_set]; omega) rfl tf43 (by omega) rfl) ?_
   refine l_nil ?_
   exact f_owes_d (up_cons rfl hs50) rfl (perm_front 0 rfl)
  ·rintro f M ⟨k0, -⟩ -
   have hs54 : f 54 = .pointer (some ((ba p5).add (0 * 9))) := k0
   refine ob_start (L' := M) (by rfl) (up_cons rfl hs54) ?_
   refine l_val (v := .pointer (some ((ba p5).add (0 * 9 + 3)))) rfl rfl rfl (ev_eq (congrArg (fun z => Value.pointer (some z)) (show ((ba p5).add (0 * 9) : Addr).add 3 = (ba p5).add (0 * 9 + 3) by rw [Addr.add_add'])) (e_fieldAddr (a := (ba p5).add (0 * 9)) rfl tf9)) ?_
   refine l_nil ?_
   exact f_owes_d (up_cons rfl hs54) rfl (List.Perm.refl _)
  ·rintro f M ⟨k0, -⟩ -
   have hs55 : f 55 = .pointer (some ((ba p5).add (0 * 9 + 3))) := k0
   refine ob_start (L' := M) (by rfl) (up_cons rfl hs55) ?_
   refine l_val (v := .pointer (some ((ba p5).add (0 * 9 + 3)))) rfl rfl rfl (ev_eq (congrArg (fun z => Value.pointer (some z)) (show ((ba p5).add (0 * 9 + 3) : Addr).add 0 = (ba p5).add (0 * 9 + 3) by rw [Addr.add_add'])) (e_fieldAddr (a := (ba p5).add (0 * 9 + 3)) rfl tf7)) ?_
   refine l_nil ?_
   exact f_owes_d (up_cons rfl hs55) rfl (List.Perm.refl _)
  ·rintro f M ⟨k0, k1, -⟩ -
   have hs56 : f 56 = .pointer (some ((ba p5).add (0 * 9 + 3))) := k0
   have hs51 : f 51 = Ix (vv) := k1
   refine ob_start (L' := rowF BodyF 31 p5 c6 (B.set 0 (unfix x0)) :: M) (by rfl) (up_cons (up_cons rfl hs56) hs51) ?_
   refine l_mu rfl rfl (m_storeFlPart 0 (F := BodyF) (p := p5) (k := 0) (o := 3) (xs := (B.set 0 (unfix x0))) (z0 := (unfix x0)) (z := (setVx (unfix x0) vv)) tf2 rfl rfl rfl rfl rfl (get_set (unfix x0) (by omega)) (by decide) rfl) ?_
   refine l_re (L' := (rowF BodyF 31 p5 c6 (B.set 0 (setVx (unfix x0) vv)) :: M)) (by show (_ :: _ : List Res) = _; simp only [List.set_set, List.set_cons_zero, List.set_cons_succ]) ?_
   refine l_nil ?_
   exact f_owes_n (up_cons (up_cons rfl hs56) hs51) trivial (perm_front 0 rfl)
  rintro fa12 ⟨-, -, -, -, -, -, -, -, -, -, -, -, -⟩ ⟨j0, j1, -⟩
  refine f_re (L' := [pt b9 (.cells #[.slice p5 (bs.length) c6, .slice p7 (0) c8, .int .i64 (0), .int .i64 (0)] 27), rowF RopeF 35 p7 c8 [], rowF BodyF 31 p5 c6 (B.set 0 (setVx (unfix x0) vv))]) (by rfl) ?_
  refine f_rebase (d := 7) (v := .pointer (some ⟨b9, 0, none⟩)) j0 ?_
  refine f_rebase (d := 9) (v := Ix (vv)) j1 ?_
  refine f_then ?_
  refine c_seq ?_
  obtain ⟨a, hae⟩ : ∃ z, z = setVx (unfix x0) vv := ⟨_, rfl⟩
  obtain ⟨B1, hB1⟩ : ∃ z, z = B.set 0 a := ⟨_, rfl⟩
  obtain ⟨hokS, ha, ha1, ha2, ha3, hB1f, hB1i, hax, hB1l⟩ := stops_pre hmP (by omega) hBl hBi hx0 hae hB1 hvb
  obtain ⟨T, S, b, hTS, hP⟩ := stops_law hokS ha ha1 ha2 ha3 hvb hB1f hB1i hax
  have hTl := hP.len
  have hb0 := hP.first
  have hSf := hP.few
  have hPy := hP.posY
  refine c_re (L' := [pt b9 (.cells #[.slice p5 (bs.length) c6, .slice p7 (0) c8, .int .i64 (0), .int .i64 (0)] 27), rowF RopeF 35 p7 c8 [], rowF BodyF 31 p5 c6 B1]) (by rw [hB1, hae]; try rfl) ?_
  refine c_region ?_
  refine l_val (v := .agg #[.slice p5 (bs.length) c6, .slice p7 (0) c8, .int .i64 (0), .int .i64 (0)]) rfl rfl rfl (e_load tf86 (cs := [.slice p5 (bs.length) c6, .slice p7 (0) c8, .int .i64 (0), .int .i64 (0)]) rfl (k_pt 0 (cs := #[.slice p5 (bs.length) c6, .slice p7 (0) c8, .int .i64 (0), .int .i64 (0)]) (vs := [.slice p5 (bs.length) c6, .slice p7 (0) c8, .int .i64 (0), .int .i64 (0)]) rfl rfl) rfl) ?_
  refine l_call rfl rfl rfl (cl_value (fst := []) (cap := []) (vs := [.agg #[.slice p5 (bs.length) c6, .slice p7 (0) c8, .int .i64 (0), .int .i64 (0)]]) (all := [.agg #[.slice p5 (bs.length) c6, .slice p7 (0) c8, .int .i64 (0), .int .i64 (0)]]) tf104 rfl rfl rfl) ?_
  intro w hw
  obtain ⟨β1, sb, kn, hw1, back⟩ := St.frame_all hw
  refine (stepY_ok β1 w hw1 _ _ 0 0 B1 [] (kn _ (k_flN 2 (F := BodyF) (m := bs.length) (xs := B1) rfl (by omega))) (kn _ (k_flN 1 (F := RopeF) (m := 0) (xs := []) rfl rfl)) (by decide) (by decide) (GR.mono sb hG) hokS T S hTS).mono ?_
  rintro e w' ⟨p13, c14, p15, c16, p17, c18, rfl, hw'⟩
  refine ⟨_, rfl, _, back _ _ hw', ?_⟩
  clear hw hw1 hw' back kn sb
  refine l_val (v := .tuple #[.agg #[.slice p13 (B1.length) c14, .slice p15 (0) c16, .int .i64 (0), .int .i64 (0)], .slice p17 (S.length) c18, .int .i64 (0)]) rfl rfl rfl (e_move) ?_
  refine l_val (v := .agg #[.slice p13 (B1.length) c14, .slice p15 (0) c16, .int .i64 (0), .int .i64 (0)]) rfl rfl rfl (e_extract (vs := #[.agg #[.slice p13 (B1.length) c14, .slice p15 (0) c16, .int .i64 (0), .int .i64 (0)], .slice p17 (S.length) c18, .int .i64 (0)]) rfl rfl) ?_
  refine l_val (v := .slice p17 (S.length) c18) rfl rfl rfl (e_extract (vs := #[.agg #[.slice p13 (B1.length) c14, .slice p15 (0) c16, .int .i64 (0), .int .i64 (0)], .slice p17 (S.length) c18, .int .i64 (0)]) rfl rfl) ?_
  refine l_val (v := .int .i64 (0)) rfl rfl rfl (e_extract (vs := #[.agg #[.slice p13 (B1.length) c14, .slice p15 (0) c16, .int .i64 (0), .int .i64 (0)], .slice p17 (S.length) c18, .int .i64 (0)]) rfl rfl) ?_
  refine l_mv rfl rfl rfl (m_alloc tf85) ?_
  rintro _ _ ⟨b19, rfl, rfl⟩
  refine l_mu rfl rfl (m_store 0 tf86 (b := b19) (o := 0) (T := 27) (cs := #[.slice none 0 0, .slice none 0 0, .int .i64 (0), .int .i64 (0)]) (cs' := #[.slice p13 (B1.length) c14, .slice p15 (0) c16, .int .i64 (0), .int .i64 (0)]) (v := .agg #[.slice p13 (B1.length) c14, .slice p15 (0) c16, .int .i64 (0), .int .i64 (0)]) rfl rfl rfl rfl rfl rfl rfl) ?_
  refine l_val (v := .slice p17 (S.length) c18) rfl rfl rfl (e_assign) ?_
  refine l_val (v := .int .i64 (0)) rfl rfl rfl (e_assign) ?_
  refine l_nil ?_
  refine f_then ?_
  refine c_seq ?_
  refine c_seq ?_
  refine c_region ?_
  refine l_val (v := .int .i64 (0)) rfl rfl rfl (e_move) ?_
  refine l_val (v := .bool false) rfl rfl rfl (e_neq (a := (0 : Int)) (b := (0 : Int)) rfl rfl) ?_
  refine l_val (v := .bool false) rfl rfl rfl (e_move) ?_
  refine g_val (v := .pointer (some ⟨b19, 0, none⟩)) rfl rfl rfl rfl rfl (e_fieldPt (b := b19) (o := 0) rfl tf49) ?_
  refine g_val (v := .slice p13 (B1.length) c14) rfl rfl rfl rfl rfl (e_load1 tf50 (v := .slice p13 (B1.length) c14) rfl (k_pt 0 (cs := #[.slice p13 (B1.length) c14, .slice p15 (0) c16, .int .i64 (0), .int .i64 (0)]) (vs := [.slice p13 (B1.length) c14]) rfl rfl)) ?_
  refine g_val (v := Nx (B1.length)) rfl rfl rfl rfl rfl (e_len (a := p13) (n := B1.length) (c := c14) rfl tf40) ?_
  refine g_val (v := .pointer (some ⟨b9, 0, none⟩)) rfl rfl rfl rfl rfl (e_fieldPt (b := b9) (o := 0) rfl tf49) ?_
  refine g_val (v := .slice p5 (bs.length) c6) rfl rfl rfl rfl rfl (e_load1 tf50 (v := .slice p5 (bs.length) c6) rfl (k_pt 4 (cs := #[.slice p5 (bs.length) c6, .slice p7 (0) c8, .int .i64 (0), .int .i64 (0)]) (vs := [.slice p5 (bs.length) c6]) rfl rfl)) ?_
  refine g_val (v := Nx (bs.length)) rfl rfl rfl rfl rfl (e_len (a := p5) (n := bs.length) (c := c6) rfl tf40) ?_
  refine g_val (v := .bool (decide (((B1.length : Nat) : Int) ≠ ((bs.length : Nat) : Int)))) rfl rfl rfl rfl rfl (e_neq (a := ((B1.length : Nat) : Int)) (b := ((bs.length : Nat) : Int)) rfl rfl) ?_
  refine l_val (v := .bool (decide (((B1.length : Nat) : Int) ≠ ((bs.length : Nat) : Int)))) rfl rfl rfl (e_pick_f rfl) ?_
  refine l_val (v := .bool (decide (((B1.length : Nat) : Int) ≠ ((bs.length : Nat) : Int)))) rfl rfl rfl (e_move) ?_
  refine l_split (s := 74) (p := ((B1.length : Nat) : Int) ≠ ((bs.length : Nat) : Int)) rfl (fun h => ?_) (fun h => ?_)
  exact absurd h (by omega)
  refine g_val (v := .slice p17 (S.length) c18) rfl rfl rfl rfl rfl (e_move) ?_
  refine g_val (v := Nx (S.length)) rfl rfl rfl rfl rfl (e_len (a := p17) (n := S.length) (c := c18) rfl tf105) ?_
  refine g_val (v := .bool (decide ((1 : Int) < ((S.length : Nat) : Int)))) rfl rfl rfl rfl rfl (e_gtr (a := ((S.length : Nat) : Int)) (b := (1 : Int)) rfl rfl) ?_
  refine l_val (v := .bool (decide ((1 : Int) < ((S.length : Nat) : Int)))) rfl rfl rfl (e_pick_f rfl) ?_
  refine l_nil ?_
  refine f_then ?_
  refine c_if ((1 : Int) < ((S.length : Nat) : Int)) rfl (fun hc20 => ?_) (fun hc20 => ?_)
  ·
   exact absurd hc20 (by omega)
  ·
   refine c_skip ?_
   refine f_then ?_
   refine c_seq ?_
   refine c_any [⟨[], [], [0], [79], fun f => f 79 = .pointer (some ⟨b9, 0, none⟩)⟩, ⟨[0], [0], [], [80], fun f => f 80 = .slice p5 (bs.length) c6⟩, ⟨[0, 1], [1], [], [81], fun f => f 81 = .pointer (some ((ba p5).add (0 * 9)))⟩, ⟨[0, 1, 2], [2], [], [82], fun f => f 82 = .agg (bC a)⟩, ⟨[], [], [1], [83], fun f => f 83 = .pointer (some ⟨b19, 0, none⟩)⟩, ⟨[4], [4], [], [84], fun f => f 84 = .slice p13 (B1.length) c14⟩, ⟨[4, 5], [5], [], [85], fun f => f 85 = .pointer (some ((ba p13).add (0 * 9)))⟩, ⟨[4, 5, 6], [6], [], [86], fun f => f 86 = .agg (bC b)⟩, ⟨[], [], [], [13], fun f => f 13 = .pointer (some ⟨(blk (f 13)), 0, none⟩)⟩, ⟨[], [], [], [14], fun f => f 14 = .pointer (some ⟨(blk (f 14)), 0, none⟩)⟩, ⟨[0, 1, 2, 3, 8, 9], [8, 3], [], [], fun _ => True⟩, ⟨[0, 1, 2, 3, 4, 5, 6, 7, 8, 9, 10], [9, 7], [], [], fun _ => True⟩, ⟨[0, 1, 2, 3, 4, 5, 6, 7, 8, 9, 10, 11], [], [], [15], fun f => f 15 = .int .i64 (1)⟩] [⟨none, none, [5], [], fun _ => pt b19 (.cells #[.slice p13 (B1.length) c14, .slice p15 (0) c16, .int .i64 (0), .int .i64 (0)] 27)⟩, ⟨none, none, [6, 7], [], fun _ => rowF BodyF 31 p13 c14 T⟩, ⟨none, none, [], [], fun _ => rowF RopeF 35 p15 c16 []⟩, ⟨none, none, [], [], fun _ => rowF StopF 45 p17 c18 S⟩, ⟨none, none, [1], [], fun _ => pt b9 (.cells #[.slice p5 (bs.length) c6, .slice p7 (0) c8, .int .i64 (0), .int .i64 (0)] 27)⟩, ⟨none, none, [], [], fun _ => rowF RopeF 35 p7 c8 []⟩, ⟨none, none, [2, 3], [], fun _ => rowF BodyF 31 p5 c6 B1⟩, ⟨(some 8), (some 10), [10], [13], fun f => pt (blk (f 13)) (.cells #[.int .i64 (0), .int .i64 (0), .int .i64 (0), .int .i64 (0), .int .i64 (0), .int .i64 (0), .int .i64 (0), .bool false, .bool false] 31)⟩, ⟨(some 9), (some 11), [11], [14], fun f => pt (blk (f 14)) (.cells #[.int .i64 (0), .int .i64 (0), .int .i64 (0), .int .i64 (0), .int .i64 (0), .int .i64 (0), .int .i64 (0), .bool false, .bool false] 31)⟩, ⟨(some 10), none, [], [13], fun f => pt (blk (f 13)) (.cells (bC a) 31)⟩, ⟨(some 11), none, [], [14], fun f => pt (blk (f 14)) (.cells (bC b) 31)⟩] [(7, .pointer (some ⟨b9, 0, none⟩)), (10, .pointer (some ⟨b19, 0, none⟩)), (9, Ix (vv)), (11, .slice p17 (S.length) c18)] [0, 2, 3] [] (by kernel_rfl) (by kernel_rfl) (by kernel_rfl) (by kernel_rfl) rfl ⟨rfl, rfl, rfl, rfl, trivial⟩ ⟨?_, ?_, ?_, ?_, ?_, ?_, ?_, ?_, ?_, ?_, ?_, ?_, ?_, trivial⟩ ?_
   ·rintro f M - ⟨i0, -⟩
    have hs7 : f 7 = .pointer (some ⟨b9, 0, none⟩) := i0
    refine ob_start (L' := M) (by rfl) (up_cons rfl hs7) ?_
    refine l_val (v := .pointer (some ⟨b9, 0, none⟩)) rfl rfl rfl (e_fieldPt (b := b9) (o := 0) rfl tf49) ?_
    refine l_nil ?_
    exact f_owes_d (up_cons rfl hs7) rfl (List.Perm.refl _)
   ·rintro f M ⟨k0, -⟩ -
    have hs79 : f 79 = .pointer (some ⟨b9, 0, none⟩) := k0
    refine ob_start (L' := pt b9 (.cells #[.slice p5 (bs.length) c6, .slice p7 (0) c8, .int .i64 (0), .int .i64 (0)] 27) :: M) (by rfl) (up_cons rfl hs79) ?_
    refine l_val (v := .slice p5 (bs.length) c6) rfl rfl rfl (e_load1 tf50 (v := .slice p5 (bs.length) c6) rfl (k_pt 0 (cs := #[.slice p5 (bs.length) c6, .slice p7 (0) c8, .int .i64 (0), .int .i64 (0)]) (vs := [.slice p5 (bs.length) c6]) rfl rfl)) ?_
    refine l_nil ?_
    exact f_owes_d (up_cons rfl hs79) rfl (perm_front 0 rfl)
   ·rintro f M ⟨k0, -⟩ -
    have hs80 : f 80 = .slice p5 (bs.length) c6 := k0
    refine ob_start (L' := rowF BodyF 31 p5 c6 B1 :: M) (by rfl) (up_cons rfl hs80) ?_
    refine l_val (v := .pointer (some ((ba p5).add (0 * 9)))) rfl rfl rfl (e_indexFlN 0 (F := BodyF) (j := 0) (m := bs.length) (xs := B1) rfl (by omega) rfl tf43 (by omega) rfl) ?_
    refine l_nil ?_
    exact f_owes_d (up_cons rfl hs80) rfl (perm_front 0 rfl)
   ·rintro f M ⟨k0, -⟩ -
    have hs81 : f 81 = .pointer (some ((ba p5).add (0 * 9))) := k0
    refine ob_start (L' := rowF BodyF 31 p5 c6 B1 :: M) (by rfl) (up_cons rfl hs81) ?_
    refine l_val (v := .agg (bC a)) rfl rfl rfl (e_load tf22 (cs := (bodyE a)) rfl (k_flAt 0 (F := BodyF) rfl ha) rfl) ?_
    refine l_nil ?_
    exact f_owes_d (up_cons rfl hs81) rfl (perm_front 0 rfl)
   ·rintro f M - ⟨i0, -⟩
    have hs10 : f 10 = .pointer (some ⟨b19, 0, none⟩) := i0
    refine ob_start (L' := M) (by rfl) (up_cons rfl hs10) ?_
    refine l_val (v := .pointer (some ⟨b19, 0, none⟩)) rfl rfl rfl (e_fieldPt (b := b19) (o := 0) rfl tf49) ?_
    refine l_nil ?_
    exact f_owes_d (up_cons rfl hs10) rfl (List.Perm.refl _)
   ·rintro f M ⟨k0, -⟩ -
    have hs83 : f 83 = .pointer (some ⟨b19, 0, none⟩) := k0
    refine ob_start (L' := pt b19 (.cells #[.slice p13 (B1.length) c14, .slice p15 (0) c16, .int .i64 (0), .int .i64 (0)] 27) :: M) (by rfl) (up_cons rfl hs83) ?_
    refine l_val (v := .slice p13 (B1.length) c14) rfl rfl rfl (e_load1 tf50 (v := .slice p13 (B1.length) c14) rfl (k_pt 0 (cs := #[.slice p13 (B1.length) c14, .slice p15 (0) c16, .int .i64 (0), .int .i64 (0)]) (vs := [.slice p13 (B1.length) c14]) rfl rfl)) ?_
    refine l_nil ?_
    exact f_owes_d (up_cons rfl hs83) rfl (perm_front 0 rfl)
   ·rintro f M ⟨k0, -⟩ -
    have hs84 : f 84 = .slice p13 (B1.length) c14 := k0
    refine ob_start (L' := rowF BodyF 31 p13 c14 T :: M) (by rfl) (up_cons rfl hs84) ?_
    refine l_val (v := .pointer (some ((ba p13).add (0 * 9)))) rfl rfl rfl (e_indexFlN 0 (F := BodyF) (j := 0) (m := B1.length) (xs := T) rfl (by omega) rfl tf43 (by omega) rfl) ?_
    refine l_nil ?_
    exact f_owes_d (up_cons rfl hs84) rfl (perm_front 0 rfl)
   ·rintro f M ⟨k0, -⟩ -
    have hs85 : f 85 = .pointer (some ((ba p13).add (0 * 9))) := k0
    refine ob_start (L' := rowF BodyF 31 p13 c14 T :: M) (by rfl) (up_cons rfl hs85) ?_
    refine l_val (v := .agg (bC b)) rfl rfl rfl (e_load tf22 (cs := (bodyE b)) rfl (k_flAt 0 (F := BodyF) rfl hb0) rfl) ?_
    refine l_nil ?_
    exact f_owes_d (up_cons rfl hs85) rfl (perm_front 0 rfl)
   ·rintro f M - -
    refine ob_start (L' := M) (by rfl) rfl ?_
    refine l_mv rfl rfl rfl (m_alloc tf58) ?_
    rintro _ _ ⟨b22, rfl, rfl⟩
    refine l_nil ?_
    exact f_owes_d rfl rfl (perm_front 0 rfl)
   ·rintro f M - -
    refine ob_start (L' := M) (by rfl) rfl ?_
    refine l_mv rfl rfl rfl (m_alloc tf58) ?_
    rintro _ _ ⟨b24, rfl, rfl⟩
    refine l_nil ?_
    exact f_owes_d rfl rfl (perm_front 0 rfl)
   ·rintro f M ⟨k0, k1, -⟩ -
    have hs13 : f 13 = .pointer (some ⟨(blk (f 13)), 0, none⟩) := k0
    have hs82 : f 82 = .agg (bC a) := k1
    refine ob_start (L' := pt (blk (f 13)) (.cells #[.int .i64 (0), .int .i64 (0), .int .i64 (0), .int .i64 (0), .int .i64 (0), .int .i64 (0), .int .i64 (0), .bool false, .bool false] 31) :: M) (by rfl) (up_cons (up_cons rfl hs13) hs82) ?_
    refine l_mu rfl rfl (m_store 0 tf22 (b := (blk (f 13))) (o := 0) (T := 31) (cs := #[.int .i64 (0), .int .i64 (0), .int .i64 (0), .int .i64 (0), .int .i64 (0), .int .i64 (0), .int .i64 (0), .bool false, .bool false]) (cs' := (bC a)) (v := .agg (bC a)) rfl rfl rfl rfl rfl rfl rfl) ?_
    refine l_nil ?_
    exact f_owes_n (up_cons (up_cons rfl hs13) hs82) trivial (perm_front 0 rfl)
   ·rintro f M ⟨k0, k1, -⟩ -
    have hs14 : f 14 = .pointer (some ⟨(blk (f 14)), 0, none⟩) := k0
    have hs86 : f 86 = .agg (bC b) := k1
    refine ob_start (L' := pt (blk (f 14)) (.cells #[.int .i64 (0), .int .i64 (0), .int .i64 (0), .int .i64 (0), .int .i64 (0), .int .i64 (0), .int .i64 (0), .bool false, .bool false] 31) :: M) (by rfl) (up_cons (up_cons rfl hs14) hs86) ?_
    refine l_mu rfl rfl (m_store 0 tf22 (b := (blk (f 14))) (o := 0) (T := 31) (cs := #[.int .i64 (0), .int .i64 (0), .int .i64 (0), .int .i64 (0), .int .i64 (0), .int .i64 (0), .int .i64 (0), .bool false, .bool false]) (cs' := (bC b)) (v := .agg (bC b)) rfl rfl rfl rfl rfl rfl rfl) ?_
    refine l_nil ?_
    exact f_owes_n (up_cons (up_cons rfl hs14) hs86) trivial (perm_front 0 rfl)
   ·rintro f M - -
    refine ob_start (L' := M) (by rfl) rfl ?_
    refine l_val (v := .int .i64 (1)) rfl rfl rfl (e_assign) ?_
    refine l_nil ?_
    exact f_owes_d rfl rfl (List.Perm.refl _)
   rintro fa25 ⟨-, -, -, -, -, -, -, -, k8, k9, -, -, k12, -⟩ ⟨j0, j1, j2, -⟩
   refine f_re (L' := [pt b19 (.cells #[.slice p13 (B1.length) c14, .slice p15 (0) c16, .int .i64 (0), .int .i64 (0)] 27), rowF BodyF 31 p13 c14 T, rowF RopeF 35 p15 c16 [], rowF StopF 45 p17 c18 S, pt b9 (.cells #[.slice p5 (bs.length) c6, .slice p7 (0) c8, .int .i64 (0), .int .i64 (0)] 27), rowF RopeF 35 p7 c8 [], rowF BodyF 31 p5 c6 B1, pt (blk (fa25 13)) (.cells (bC a) 31), pt (blk (fa25 14)) (.cells (bC b) 31)]) (by rfl) ?_
   refine f_rebase (d := 7) (v := .pointer (some ⟨b9, 0, none⟩)) j0 ?_
   refine f_rebase (d := 9) (v := Ix (vv)) j1 ?_
   refine f_rebase (d := 11) (v := .slice p17 (S.length) c18) j2 ?_
   refine f_rebase (d := 13) (v := .pointer (some ⟨(blk (fa25 13)), 0, none⟩)) k8 ?_
   refine f_rebase (d := 14) (v := .pointer (some ⟨(blk (fa25 14)), 0, none⟩)) k9 ?_
   refine f_rebase (d := 15) (v := .int .i64 (1)) k12 ?_
   refine f_then ?_
   refine c_seq_cut (fun (f : Fm) (L : List Res) => ∃ (dd : Int), (f 7 = .pointer (some ⟨b9, 0, none⟩) ∧ f 9 = Ix (vv) ∧ f 11 = .slice p17 (S.length) c18 ∧ f 13 = .pointer (some ⟨(blk (fa25 13)), 0, none⟩) ∧ f 14 = .pointer (some ⟨(blk (fa25 14)), 0, none⟩) ∧ f 15 = Ix (dd)) ∧ L = [pt b19 (.cells #[.slice p13 (B1.length) c14, .slice p15 (0) c16, .int .i64 (0), .int .i64 (0)] 27), rowF BodyF 31 p13 c14 T, rowF RopeF 35 p15 c16 [], rowF StopF 45 p17 c18 S, pt b9 (.cells #[.slice p5 (bs.length) c6, .slice p7 (0) c8, .int .i64 (0), .int .i64 (0)] 27), rowF RopeF 35 p7 c8 [], rowF BodyF 31 p5 c6 B1, pt (blk (fa25 13)) (.cells (bC a) 31), pt (blk (fa25 14)) (.cells (bC b) 31)] ∧ (dd = if vv < 0 then -1 else 1)) ?_ ?_
   ·
    refine c_seq ?_
    refine c_region ?_
    refine l_val (v := Ix (vv)) rfl rfl rfl (e_move) ?_
    refine l_val (v := .bool (decide ((vv) < (0 : Int)))) rfl rfl rfl (e_lss (a := (vv)) (b := (0 : Int)) rfl rfl) ?_
    refine l_nil ?_
    refine f_then ?_
    refine c_if ((vv) < (0 : Int)) rfl (fun hc26 => ?_) (fun hc26 => ?_)
    ·
     refine c_region ?_
     refine l_val (v := .int .i64 (-1)) rfl rfl rfl (e_assign) ?_
     refine l_nil ?_
     exact f_cut ⟨(-1), ⟨rfl, rfl, rfl, rfl, rfl, rfl⟩, rfl, (if_pos hc26).symm⟩
    ·
     refine c_skip ?_
     exact f_cut ⟨1, ⟨rfl, rfl, rfl, rfl, rfl, rfl⟩, rfl, (if_neg hc26).symm⟩
   rintro f0 L0 ⟨dd, ⟨hs7, hs9, hs11, hs13, hs14, hs15⟩, hL, hdd⟩
   subst L0
   refine rebase (d := 7) hs7 ?_
   refine rebase (d := 9) hs9 ?_
   refine rebase (d := 11) hs11 ?_
   refine rebase (d := 13) hs13 ?_
   refine rebase (d := 14) hs14 ?_
   refine rebase (d := 15) hs15 ?_
   clear hs7 hs9 hs11 hs13 hs14 hs15
   have hdb : -1 ≤ dd ∧ dd ≤ 1 := by rw [hdd]; split <;> omega
   have hbx := hP.okb.2.1
   refine c_seq ?_
   refine c_region ?_
   refine l_val (v := .agg (bC b)) rfl rfl rfl (e_load tf22 (cs := (bodyE b)) rfl (k_pt 8 (cs := (bC b)) (vs := (bodyE b)) rfl rfl) rfl) ?_
   refine l_mv rfl rfl rfl (m_alloc tf58) ?_
   rintro _ _ ⟨b27, rfl, rfl⟩
   refine l_mu rfl rfl (m_store 0 tf22 (b := b27) (o := 0) (T := 31) (cs := #[.int .i64 (0), .int .i64 (0), .int .i64 (0), .int .i64 (0), .int .i64 (0), .int .i64 (0), .int .i64 (0), .bool false, .bool false]) (cs' := (bC b)) (v := .agg (bC b)) rfl rfl rfl rfl rfl rfl rfl) ?_
   refine l_nil ?_
   refine f_then ?_
   refine c_seq ?_
   refine c_region ?_
   refine l_val (v := .pointer (some ⟨b27, 1, none⟩)) rfl rfl rfl (e_fieldPt (b := b27) (o := 0) rfl tf6) ?_
   refine l_val (v := .pointer (some ⟨b27, 1, none⟩)) rfl rfl rfl (e_fieldPt (b := b27) (o := 1) rfl tf7) ?_
   refine l_val (v := Ix (b.x)) rfl rfl rfl (e_load1 tf2 (v := Ix (b.x)) rfl (k_pt 0 (cs := (bC b)) (vs := [Ix (b.x)]) rfl rfl)) ?_
   refine l_val (v := Ix (dd)) rfl rfl rfl (e_move) ?_
   refine l_val (v := Ix ((b.x) + (dd))) rfl rfl rfl (e_add (a := (b.x)) (b := (dd)) rfl rfl (i64w (by omega))) ?_
   refine l_val (v := .pointer (some ⟨b27, 1, none⟩)) rfl rfl rfl (e_fieldPt (b := b27) (o := 0) rfl tf6) ?_
   refine l_val (v := .pointer (some ⟨b27, 1, none⟩)) rfl rfl rfl (e_fieldPt (b := b27) (o := 1) rfl tf7) ?_
   refine l_mu rfl rfl (m_store 0 tf2 (b := b27) (o := 1) (T := 31) (cs := (bC b)) (cs' := #[Ix (b.id), Ix ((b.x) + (dd)), Ix (b.y), Ix (b.vx), Ix (b.vy), Ix (b.w), Ix (b.h), .bool (b.round), .bool (b.fixed)]) (v := Ix ((b.x) + (dd))) rfl rfl rfl rfl rfl rfl rfl) ?_
   refine l_nil ?_
   refine f_then ?_
   refine c_seq ?_
   obtain ⟨nx, hnx⟩ : ∃ z, z = ({ b with x := b.x + dd } : KB) := ⟨_, rfl⟩
   refine c_re (L' := [pt b27 (.cells (bC nx) 31), pt b19 (.cells #[.slice p13 (B1.length) c14, .slice p15 (0) c16, .int .i64 (0), .int .i64 (0)] 27), rowF BodyF 31 p13 c14 T, rowF RopeF 35 p15 c16 [], rowF StopF 45 p17 c18 S, pt b9 (.cells #[.slice p5 (bs.length) c6, .slice p7 (0) c8, .int .i64 (0), .int .i64 (0)] 27), rowF RopeF 35 p7 c8 [], rowF BodyF 31 p5 c6 B1, pt (blk (fa25 13)) (.cells (bC a) 31), pt (blk (fa25 14)) (.cells (bC b) 31)]) (by rw [hnx]; try rfl) ?_
   refine c_region ?_
   refine l_val (v := .int .i64 (-1)) rfl rfl rfl (e_assign) ?_
   refine l_nil ?_
   refine f_then ?_
   refine c_seq ?_
   refine c_seq ?_
   refine c_perm (L' := [pt b27 (.cells (bC nx) 31), pt b19 (.cells #[.slice p13 (B1.length) c14, .slice p15 (0) c16, .int .i64 (0), .int .i64 (0)] 27), rowF BodyF 31 p13 c14 T, rowF RopeF 35 p15 c16 [], rowF StopF 45 p17 c18 S, pt b9 (.cells #[.slice p5 (bs.length) c6, .slice p7 (0) c8, .int .i64 (0), .int .i64 (0)] 27), rowF RopeF 35 p7 c8 [], pt (blk (fa25 13)) (.cells (bC a) 31), pt (blk (fa25 14)) (.cells (bC b) 31), rowF BodyF 31 p5 c6 B1]) (by exact (perm_ix [0, 1, 2, 3, 4, 5, 6, 8, 9, 7] 10 rfl (by kernel_rfl) (by kernel_rfl))) ?_
   refine c_freeze2 (M := [pt b27 (.cells (bC nx) 31), pt b19 (.cells #[.slice p13 (B1.length) c14, .slice p15 (0) c16, .int .i64 (0), .int .i64 (0)] 27), rowF BodyF 31 p13 c14 T, rowF RopeF 35 p15 c16 [], rowF StopF 45 p17 c18 S, pt b9 (.cells #[.slice p5 (bs.length) c6, .slice p7 (0) c8, .int .i64 (0), .int .i64 (0)] 27), rowF RopeF 35 p7 c8 [], pt (blk (fa25 13)) (.cells (bC a) 31), pt (blk (fa25 14)) (.cells (bC b) 31)]) (K := [rowF BodyF 31 p5 c6 B1]) rfl (fun βf ext1 kn1 bk1 => ?_)
   have hslB : Sl KBR βf.heap (.slice p5 B1.length c6) B1 := kn1 _ (k_fl 0 (F := BodyF) rfl)
   obtain ⟨-, hBc, hBm, hBe⟩ := hslB.parts
   have hG := GR.mono ext1.sub hG
   refine c_re (L' := [pt b27 (.cells (bC nx) 31), pt b19 (.cells #[.slice p13 (B1.length) c14, .slice p15 (0) c16, .int .i64 (0), .int .i64 (0)] 27), rowF BodyF 31 p13 c14 T, rowF RopeF 35 p15 c16 [], rowF StopF 45 p17 c18 S, pt b9 (.cells #[.slice p5 (B1.length) (c6), .slice p7 (0) c8, .int .i64 (0), .int .i64 (0)] 27), rowF RopeF 35 p7 c8 [], pt (blk (fa25 13)) (.cells (bC a) 31), pt (blk (fa25 14)) (.cells (bC b) 31)]) (by rw [hB1l]; try rfl) ?_
   refine c_region ?_
   refine l_val (v := .pointer (some ⟨b9, 0, none⟩)) rfl rfl rfl (e_fieldPt (b := b9) (o := 0) rfl tf49) ?_
   refine l_val (v := .slice p5 (B1.length) (c6)) rfl rfl rfl (e_load1 tf50 (v := .slice p5 (B1.length) (c6)) rfl (k_pt 5 (cs := #[.slice p5 (B1.length) (c6), .slice p7 (0) c8, .int .i64 (0), .int .i64 (0)]) (vs := [.slice p5 (B1.length) (c6)]) rfl rfl)) ?_
   obtain ⟨zs28, hz29⟩ : ∃ zs, zs = (B1.drop 1) := ⟨_, rfl⟩
   have zl30 : zs28.length = (B1).length - 1 := by rw [hz29]; simp; try omega
   have ze31 := (Elems.drop (cap := c6) 1 (by first | omega | (simp; omega)) hBe)
   rw [← hz29] at ze31
   refine l_val (v := .slice (adv p5 c6 1 9) (zs28.length) ((c6 - 1))) rfl rfl rfl (ev_eq (by rw [show zs28.length = B1.length - 1 by omega]) (e_slice_lo (a := p5) (len := B1.length) (cap := c6) (l := 1) tf43 rfl rfl (by omega))) ?_
   refine l_val (v := Nx (zs28.length)) rfl rfl rfl (e_len (a := (adv p5 c6 1 9)) (n := zs28.length) (c := (c6 - 1)) rfl tf40) ?_
   refine l_val (v := .int .i64 (0)) rfl rfl rfl (e_move) ?_
   refine l_nil ?_
   refine f_then ?_
   refine c_block ?_
   have hidz : ∀ z ∈ zs28, 0 ≤ z.id := fun z hz_ => by rw [hz29] at hz_; have := hB1i z (List.mem_of_mem_drop hz_); omega
   refine c_loop (fun (x_ : Nat × Int) (f : Fm) (L : List Res) => match x_ with | (j, m) => (f 9 = Ix (vv) ∧ f 11 = .slice p17 (S.length) c18 ∧ f 13 = .pointer (some ⟨(blk (fa25 13)), 0, none⟩) ∧ f 14 = .pointer (some ⟨(blk (fa25 14)), 0, none⟩) ∧ f 16 = .pointer (some ⟨b27, 0, none⟩) ∧ f 17 = Ix (m) ∧ f 99 = .slice (adv p5 c6 1 9) (zs28.length) ((c6 - 1)) ∧ f 100 = Nx (zs28.length) ∧ f 101 = Nx (j)) ∧ L = [pt b27 (.cells (bC nx) 31), pt b19 (.cells #[.slice p13 (B1.length) c14, .slice p15 (0) c16, .int .i64 (0), .int .i64 (0)] 27), rowF BodyF 31 p13 c14 T, rowF RopeF 35 p15 c16 [], rowF StopF 45 p17 c18 S, pt b9 (.cells #[.slice p5 (B1.length) (c6), .slice p7 (0) c8, .int .i64 (0), .int .i64 (0)] 27), rowF RopeF 35 p7 c8 [], pt (blk (fa25 13)) (.cells (bC a) 31), pt (blk (fa25 14)) (.cells (bC b) 31)] ∧ (j ≤ zs28.length ∧ m = leastOf a nx (zs28.take j))) (fun (x_ : Nat × Int) => match x_ with | (j, m) => zs28.length - j) (0, (-1)) ?_ ?_
   ·exact ⟨⟨rfl, rfl, rfl, rfl, rfl, rfl, rfl, rfl, rfl⟩, rfl, ⟨by omega, rfl⟩⟩
   rintro ⟨j, m⟩ f0 L0 ⟨⟨hs9, hs11, hs13, hs14, hs16, hs17, hs99, hs100, hs101⟩, hL, ⟨hj, hm⟩⟩
   subst L0
   refine rebase (d := 9) hs9 ?_
   refine rebase (d := 11) hs11 ?_
   refine rebase (d := 13) hs13 ?_
   refine rebase (d := 14) hs14 ?_
   refine rebase (d := 16) hs16 ?_
   refine rebase (d := 17) hs17 ?_
   refine rebase (d := 99) hs99 ?_
   refine rebase (d := 100) hs100 ?_
   refine rebase (d := 101) hs101 ?_
   clear hs9 hs11 hs13 hs14 hs16 hs17 hs99 hs100 hs101
   refine c_seq ?_
   refine c_region ?_
   refine l_val (v := .bool (decide (((j : Nat) : Int) < ((zs28.length : Nat) : Int)))) rfl rfl rfl (e_lss (a := ((j : Nat) : Int)) (b := ((zs28.length : Nat) : Int)) rfl rfl) ?_
   refine l_nil ?_
   refine f_then ?_
   refine c_seq ?_
   refine c_if (((j : Nat) : Int) < ((zs28.length : Nat) : Int)) rfl (fun hc32 => ?_) (fun hc32 => ?_)
   ·
    refine c_skip ?_
    refine f_then ?_
    refine c_seq ?_
    refine c_block ?_
    refine c_seq ?_
    refine c_region ?_
    obtain ⟨x33, hx34⟩ : ∃ x_, (zs28)[j]? = some x_ := ⟨_, List.getElem?_eq_getElem (by omega)⟩
    obtain ⟨ha35, cs36, hc37, rfl⟩ := ze31 _ _ hx34
    refine l_val (v := .pointer (some ((ba (adv p5 c6 1 9)).add (j * 9)))) rfl rfl rfl (e_indexAddr (k := j) (len := zs28.length) (cap := (c6 - 1)) (a := (adv p5 c6 1 9)) rfl rfl tf43 (by omega) ha35) ?_
    refine l_val (v := .agg (bC x33)) rfl rfl rfl (e_load tf22 (cs := (bodyE x33)) rfl (Knows.of_base (Cs.mono _ _) hc37) rfl) ?_
    refine l_mv rfl rfl rfl (m_alloc tf58) ?_
    rintro _ _ ⟨b39, rfl, rfl⟩
    refine l_mu rfl rfl (m_store 0 tf22 (b := b39) (o := 0) (T := 31) (cs := #[.int .i64 (0), .int .i64 (0), .int .i64 (0), .int .i64 (0), .int .i64 (0), .int .i64 (0), .int .i64 (0), .bool false, .bool false]) (cs' := (bC x33)) (v := .agg (bC x33)) rfl rfl rfl rfl rfl rfl rfl) ?_
    refine l_nil ?_
    refine f_then ?_
    refine c_seq ?_
    refine c_seq ?_
    refine c_region ?_
    refine l_val (v := .agg (bC a)) rfl rfl rfl (e_load tf22 (cs := (bodyE a)) rfl (k_pt 8 (cs := (bC a)) (vs := (bodyE a)) rfl rfl) rfl) ?_
    refine l_val (v := .agg (bC x33)) rfl rfl rfl (e_load tf22 (cs := (bodyE x33)) rfl (k_pt 0 (cs := (bC x33)) (vs := (bodyE x33)) rfl rfl) rfl) ?_
    refine l_call rfl rfl rfl (cl_value (fst := []) (cap := []) (vs := [.agg (bC a), .agg (bC x33)]) (all := [.agg (bC a), .agg (bC x33)]) tf74 rfl rfl rfl) ?_
    intro w hw
    obtain ⟨β1, sb, kn, hw1, back⟩ := St.frame_all hw
    have hG1 := GR.mono sb hG
    refine (over_ok β1 w hw1 hG1 a x33).mono ?_
    rintro e w' ⟨rfl, hw'⟩
    refine ⟨_, rfl, _, back _ _ hw', ?_⟩
    clear hw hw1 hw' back kn sb
    refine l_nil ?_
    refine f_then ?_
    refine c_if (Stp.over a x33) rfl (fun hc40 => ?_) (fun hc40 => ?_)
    ·
     refine c_exit ?_
     refine f_then_exit ?_
     refine f_exit ?_
     refine f_then ?_
     refine c_region ?_
     refine l_val (v := Nx (j + 1)) rfl rfl rfl (e_add (a := ((j : Nat) : Int)) (b := (1 : Int)) rfl rfl (i64n (by omega) (by omega))) ?_
     refine l_val (v := Nx (j + 1)) rfl rfl rfl (e_move) ?_
     refine l_nil ?_
     refine f_mask (L' := [pt b27 (.cells (bC nx) 31), pt b19 (.cells #[.slice p13 (B1.length) c14, .slice p15 (0) c16, .int .i64 (0), .int .i64 (0)] 27), rowF BodyF 31 p13 c14 T, rowF RopeF 35 p15 c16 [], rowF StopF 45 p17 c18 S, pt b9 (.cells #[.slice p5 (B1.length) (c6), .slice p7 (0) c8, .int .i64 (0), .int .i64 (0)] 27), rowF RopeF 35 p7 c8 [], pt (blk (fa25 13)) (.cells (bC a) 31), pt (blk (fa25 14)) (.cells (bC b) 31)]) [false, true, true, true, true, true, true, true, true, true] rfl ?_
     exact f_cut ⟨(j + 1, m), ⟨⟨rfl, rfl, rfl, rfl, rfl, rfl, rfl, rfl, rfl⟩, rfl, ⟨by omega, by rw [least_next hx34 hidz, ← hm]; exact (if_neg fun q => q.2.1 hc40).symm⟩⟩, (show zs28.length - (j + 1) < zs28.length - j from by omega)⟩
    ·
     refine c_skip ?_
     refine f_then ?_
     refine c_seq ?_
     refine c_seq ?_
     refine c_region ?_
     refine l_val (v := .agg (bC b)) rfl rfl rfl (e_load tf22 (cs := (bodyE b)) rfl (k_pt 9 (cs := (bC b)) (vs := (bodyE b)) rfl rfl) rfl) ?_
     refine l_val (v := .agg (bC x33)) rfl rfl rfl (e_load tf22 (cs := (bodyE x33)) rfl (k_pt 0 (cs := (bC x33)) (vs := (bodyE x33)) rfl rfl) rfl) ?_
     refine l_call rfl rfl rfl (cl_value (fst := []) (cap := []) (vs := [.agg (bC b), .agg (bC x33)]) (all := [.agg (bC b), .agg (bC x33)]) tf74 rfl rfl rfl) ?_
     intro w hw
     obtain ⟨β1, sb, kn, hw1, back⟩ := St.frame_all hw
     have hG1 := GR.mono sb hG
     refine (over_ok β1 w hw1 hG1 b x33).mono ?_
     rintro e w' ⟨rfl, hw'⟩
     refine ⟨_, rfl, _, back _ _ hw', ?_⟩
     clear hw hw1 hw' back kn sb
     refine l_nil ?_
     refine f_then ?_
     refine c_if (Stp.over b x33) rfl (fun hc41 => ?_) (fun hc41 => ?_)
     ·
      exact absurd hc41 (hP.apart _ (hz29 ▸ List.mem_of_getElem? hx34) hc40)
     ·
      refine c_skip ?_
      refine f_then ?_
      refine c_seq ?_
      refine c_region ?_
      refine l_val (v := Ix (m)) rfl rfl rfl (e_move) ?_
      refine l_val (v := .bool (decide ((m) < (0 : Int)))) rfl rfl rfl (e_lss (a := (m)) (b := (0 : Int)) rfl rfl) ?_
      refine l_val (v := .bool (decide ((m) < (0 : Int)))) rfl rfl rfl (e_move) ?_
      refine l_split (s := 113) (p := (m) < (0 : Int)) rfl (fun hg42 => ?_) (fun hg42 => ?_)
      ·
       refine g_val (v := .agg (bC nx)) rfl rfl rfl rfl rfl (e_load tf22 (cs := (bodyE nx)) rfl (k_pt 1 (cs := (bC nx)) (vs := (bodyE nx)) rfl rfl) rfl) ?_
       refine g_val (v := .agg (bC x33)) rfl rfl rfl rfl rfl (e_load tf22 (cs := (bodyE x33)) rfl (k_pt 0 (cs := (bC x33)) (vs := (bodyE x33)) rfl rfl) rfl) ?_
       refine g_call rfl rfl rfl rfl rfl (cl_value (fst := []) (cap := []) (vs := [.agg (bC nx), .agg (bC x33)]) (all := [.agg (bC nx), .agg (bC x33)]) tf74 rfl rfl rfl) ?_
       intro w hw
       obtain ⟨β1, sb, kn, hw1, back⟩ := St.frame_all hw
       have hG1 := GR.mono sb hG
       refine (over_ok β1 w hw1 hG1 nx x33).mono ?_
       rintro e w' ⟨rfl, hw'⟩
       refine ⟨_, rfl, _, back _ _ hw', ?_⟩
       clear hw hw1 hw' back kn sb
       refine l_val (v := .bool (decide (Stp.over nx x33))) rfl rfl rfl (e_pick_t rfl) ?_
       refine l_nil ?_
       refine f_then ?_
       refine c_if (Stp.over nx x33) rfl (fun hc43 => ?_) (fun hc43 => ?_)
       ·
        refine c_region ?_
        refine l_val (v := .pointer (some ⟨b39, 0, none⟩)) rfl rfl rfl (e_fieldPt (b := b39) (o := 0) rfl tf3) ?_
        refine l_val (v := Ix (x33.id)) rfl rfl rfl (e_load1 tf2 (v := Ix (x33.id)) rfl (k_pt 0 (cs := (bC x33)) (vs := [Ix (x33.id)]) rfl rfl)) ?_
        refine l_val (v := Ix (x33.id)) rfl rfl rfl (e_assign) ?_
        refine l_nil ?_
        refine f_block ?_
        refine f_then ?_
        refine c_region ?_
        refine l_val (v := Nx (j + 1)) rfl rfl rfl (e_add (a := ((j : Nat) : Int)) (b := (1 : Int)) rfl rfl (i64n (by omega) (by omega))) ?_
        refine l_val (v := Nx (j + 1)) rfl rfl rfl (e_move) ?_
        refine l_nil ?_
        refine f_mask (L' := [pt b27 (.cells (bC nx) 31), pt b19 (.cells #[.slice p13 (B1.length) c14, .slice p15 (0) c16, .int .i64 (0), .int .i64 (0)] 27), rowF BodyF 31 p13 c14 T, rowF RopeF 35 p15 c16 [], rowF StopF 45 p17 c18 S, pt b9 (.cells #[.slice p5 (B1.length) (c6), .slice p7 (0) c8, .int .i64 (0), .int .i64 (0)] 27), rowF RopeF 35 p7 c8 [], pt (blk (fa25 13)) (.cells (bC a) 31), pt (blk (fa25 14)) (.cells (bC b) 31)]) [false, true, true, true, true, true, true, true, true, true] rfl ?_
        exact f_cut ⟨(j + 1, x33.id), ⟨⟨rfl, rfl, rfl, rfl, rfl, rfl, rfl, rfl, rfl⟩, rfl, ⟨by omega, by rw [least_next hx34 hidz, ← hm]; exact (if_pos ⟨hg42, hc40, hc43⟩).symm⟩⟩, (show zs28.length - (j + 1) < zs28.length - j from by omega)⟩
       ·
        refine c_skip ?_
        refine f_block ?_
        refine f_then ?_
        refine c_region ?_
        refine l_val (v := Nx (j + 1)) rfl rfl rfl (e_add (a := ((j : Nat) : Int)) (b := (1 : Int)) rfl rfl (i64n (by omega) (by omega))) ?_
        refine l_val (v := Nx (j + 1)) rfl rfl rfl (e_move) ?_
        refine l_nil ?_
        refine f_mask (L' := [pt b27 (.cells (bC nx) 31), pt b19 (.cells #[.slice p13 (B1.length) c14, .slice p15 (0) c16, .int .i64 (0), .int .i64 (0)] 27), rowF BodyF 31 p13 c14 T, rowF RopeF 35 p15 c16 [], rowF StopF 45 p17 c18 S, pt b9 (.cells #[.slice p5 (B1.length) (c6), .slice p7 (0) c8, .int .i64 (0), .int .i64 (0)] 27), rowF RopeF 35 p7 c8 [], pt (blk (fa25 13)) (.cells (bC a) 31), pt (blk (fa25 14)) (.cells (bC b) 31)]) [false, true, true, true, true, true, true, true, true, true] rfl ?_
        exact f_cut ⟨(j + 1, m), ⟨⟨rfl, rfl, rfl, rfl, rfl, rfl, rfl, rfl, rfl⟩, rfl, ⟨by omega, by rw [least_next hx34 hidz, ← hm]; exact (if_neg fun q => hc43 q.2.2).symm⟩⟩, (show zs28.length - (j + 1) < zs28.length - j from by omega)⟩
      ·
       refine l_skip rfl rfl rfl rfl rfl rfl ?_
       refine l_skip rfl rfl rfl rfl rfl rfl ?_
       refine l_skip rfl rfl rfl rfl rfl rfl ?_
       refine l_val (v := .bool false) rfl rfl rfl (e_pick_f rfl) ?_
       refine l_nil ?_
       refine f_then ?_
       refine c_no rfl ?_
       refine c_skip ?_
       refine f_block ?_
       refine f_then ?_
       refine c_region ?_
       refine l_val (v := Nx (j + 1)) rfl rfl rfl (e_add (a := ((j : Nat) : Int)) (b := (1 : Int)) rfl rfl (i64n (by omega) (by omega))) ?_
       refine l_val (v := Nx (j + 1)) rfl rfl rfl (e_move) ?_
       refine l_nil ?_
       refine f_mask (L' := [pt b27 (.cells (bC nx) 31), pt b19 (.cells #[.slice p13 (B1.length) c14, .slice p15 (0) c16, .int .i64 (0), .int .i64 (0)] 27), rowF BodyF 31 p13 c14 T, rowF RopeF 35 p15 c16 [], rowF StopF 45 p17 c18 S, pt b9 (.cells #[.slice p5 (B1.length) (c6), .slice p7 (0) c8, .int .i64 (0), .int .i64 (0)] 27), rowF RopeF 35 p7 c8 [], pt (blk (fa25 13)) (.cells (bC a) 31), pt (blk (fa25 14)) (.cells (bC b) 31)]) [false, true, true, true, true, true, true, true, true, true] rfl ?_
       exact f_cut ⟨(j + 1, m), ⟨⟨rfl, rfl, rfl, rfl, rfl, rfl, rfl, rfl, rfl⟩, rfl, ⟨by omega, by rw [least_next hx34 hidz, ← hm]; exact (if_neg fun q => hg42 q.1).symm⟩⟩, (show zs28.length - (j + 1) < zs28.length - j from by omega)⟩
   ·
    refine c_exit ?_
    refine f_then_exit ?_
    refine f_then_exit ?_
    refine f_exit ?_
    refine f_then ?_
    refine c_seq ?_
    refine c_seq ?_
    have hme : m = leastOf a nx (B1.drop 1) := by rw [hm, List.take_of_length_le (by omega), hz29]
    have hnx2 : nx = ({ b with x := b.x + (if vv < 0 then -1 else 1) } : KB) := by rw [hnx, hdd]
    refine c_region ?_
    refine l_val (v := .slice p17 (S.length) c18) rfl rfl rfl (e_move) ?_
    refine l_val (v := Nx (S.length)) rfl rfl rfl (e_len (a := p17) (n := S.length) (c := c18) rfl tf105) ?_
    refine l_val (v := .bool (decide (((S.length : Nat) : Int) = (0 : Int)))) rfl rfl rfl (e_eql (a := ((S.length : Nat) : Int)) (b := (0 : Int)) rfl rfl) ?_
    refine l_nil ?_
    refine f_then ?_
    refine c_if (((S.length : Nat) : Int) = (0 : Int)) rfl (fun hc44 => ?_) (fun hc44 => ?_)
    ·
     have hfree := hP.free (List.eq_nil_of_length_eq_zero (by omega))
     refine c_seq ?_
     refine c_region ?_
     refine l_val (v := .pointer (some ⟨(blk (fa25 14)), 1, none⟩)) rfl rfl rfl (e_fieldPt (b := (blk (fa25 14))) (o := 0) rfl tf6) ?_
     refine l_val (v := .pointer (some ⟨(blk (fa25 14)), 1, none⟩)) rfl rfl rfl (e_fieldPt (b := (blk (fa25 14))) (o := 1) rfl tf7) ?_
     refine l_val (v := Ix (b.x)) rfl rfl rfl (e_load1 tf2 (v := Ix (b.x)) rfl (k_pt 8 (cs := (bC b)) (vs := [Ix (b.x)]) rfl rfl)) ?_
     refine l_val (v := .pointer (some ⟨(blk (fa25 13)), 1, none⟩)) rfl rfl rfl (e_fieldPt (b := (blk (fa25 13))) (o := 0) rfl tf6) ?_
     refine l_val (v := .pointer (some ⟨(blk (fa25 13)), 1, none⟩)) rfl rfl rfl (e_fieldPt (b := (blk (fa25 13))) (o := 1) rfl tf7) ?_
     refine l_val (v := Ix (a.x)) rfl rfl rfl (e_load1 tf2 (v := Ix (a.x)) rfl (k_pt 7 (cs := (bC a)) (vs := [Ix (a.x)]) rfl rfl)) ?_
     refine l_val (v := Ix (vv)) rfl rfl rfl (e_move) ?_
     refine l_val (v := Ix ((a.x) + (vv))) rfl rfl rfl (e_add (a := (a.x)) (b := (vv)) rfl rfl (i64w (by omega))) ?_
     refine l_val (v := .bool (decide ((b.x) = ((a.x) + (vv))))) rfl rfl rfl (e_eql (a := (b.x)) (b := ((a.x) + (vv))) rfl rfl) ?_
     refine l_val (v := .bool (decide ((b.x) = ((a.x) + (vv))))) rfl rfl rfl (e_move) ?_
     refine l_split (s := 133) (p := (b.x) = ((a.x) + (vv))) rfl (fun h => ?_) (fun h => ?_)
     rotate_left; exact absurd hfree.1 h
     refine g_val (v := .pointer (some ⟨(blk (fa25 14)), 3, none⟩)) rfl rfl rfl rfl rfl (e_fieldPt (b := (blk (fa25 14))) (o := 0) rfl tf9) ?_
     refine g_val (v := .pointer (some ⟨(blk (fa25 14)), 3, none⟩)) rfl rfl rfl rfl rfl (e_fieldPt (b := (blk (fa25 14))) (o := 3) rfl tf7) ?_
     refine g_val (v := Ix (b.vx)) rfl rfl rfl rfl rfl (e_load1 tf2 (v := Ix (b.vx)) rfl (k_pt 8 (cs := (bC b)) (vs := [Ix (b.vx)]) rfl rfl)) ?_
     refine g_val (v := Ix (vv)) rfl rfl rfl rfl rfl (e_move) ?_
     refine g_val (v := .bool (decide ((b.vx) = (vv)))) rfl rfl rfl rfl rfl (e_eql (a := (b.vx)) (b := (vv)) rfl rfl) ?_
     refine l_val (v := .bool (decide ((b.vx) = (vv)))) rfl rfl rfl (e_pick_t rfl) ?_
     refine l_val (v := .bool (decide ((b.vx) = (vv)))) rfl rfl rfl (e_assign) ?_
     refine l_nil ?_
     refine f_then ?_
     refine c_ret ?_
     refine f_then_ret ?_
     refine ret1 Tryd.results7 (v := .bool (decide ((b.vx) = (vv)))) rfl ?_
     intro w hw
     exact ⟨congrArg (fun b : Bool => Ending.returned (.bool b)) (decide_eq_true hfree.2), st_mask [false, false, false, false, false, false, false, false, false, false] rfl (bk1 _ _ hw)⟩
    ·
     obtain ⟨z, hz0⟩ : ∃ z, S[0]? = some z := ⟨_, List.getElem?_eq_getElem (by omega)⟩
     obtain ⟨hz1, hz2, hz3⟩ := hP.held z hz0
     rw [← hnx2, ← hme] at hz1 hz2
     refine c_skip ?_
     refine f_then ?_
     refine c_seq ?_
     refine c_quiet (by kernel_rfl) (by kernel_rfl) ?_
     refine q_val (v := .slice p17 (S.length) c18) rfl rfl rfl (e_move) ?_
     refine q_val (v := .pointer (some ((ba p17).add (0 * 3)))) rfl rfl rfl (e_indexFlN 4 (F := StopF) (j := 0) (m := S.length) (xs := S) rfl rfl rfl tf100 (by omega) rfl) ?_
     refine q_val (v := .agg #[Ix (z.id), Bx (z.along), Ix (z.by_)]) rfl rfl rfl (e_load tf106 (cs := [Ix (z.id), Bx (z.along), Ix (z.by_)]) rfl (k_flAt 4 (F := StopF) rfl hz0) rfl) ?_
     refine q_val (v := .pointer (some ⟨(blk (fa25 13)), 0, none⟩)) rfl rfl rfl (e_fieldPt (b := (blk (fa25 13))) (o := 0) rfl tf3) ?_
     refine q_val (v := Ix (a.id)) rfl rfl rfl (e_load1 tf2 (v := Ix (a.id)) rfl (k_pt 7 (cs := (bC a)) (vs := [Ix (a.id)]) rfl rfl)) ?_
     refine q_val (v := Ix (m)) rfl rfl rfl (e_move) ?_
     refine q_val (v := .agg #[Ix (a.id), .int .u8 (1), Ix (m)]) rfl rfl rfl (e_build tf99 tf98 (vs := [(0, Ix (a.id)), (1, .int .u8 (1)), (2, Ix (m))]) (cells := #[Ix (a.id), .int .u8 (1), Ix (m)]) rfl rfl) ?_
     refine q_val (v := .bool (decide (z = ⟨(a.id), (1 : UInt8), (m)⟩))) rfl rfl rfl (e_eql_t (xs := [Ix (z.id), Bx (z.along), Ix (z.by_)]) (ys := [Ix (a.id), .int .u8 (1), Ix (m)]) tf111 tf112 tf113 rfl rfl rfl rfl (stop_eq (x := z) (y := ⟨(a.id), (1 : UInt8), (m)⟩))) ?_
     refine q_val (v := .bool (decide (z = ⟨(a.id), (1 : UInt8), (m)⟩))) rfl rfl rfl (e_move) ?_
     refine q_split (s := 148) (p := z = ⟨(a.id), (1 : UInt8), (m)⟩) rfl (fun h => ?_) (fun h => ?_)
     rotate_left; exact absurd hz1 h
     refine qg_val (v := Ix (m)) rfl rfl rfl rfl rfl (e_move) ?_
     refine qg_val (v := .bool (decide ((0 : Int) < (m)))) rfl rfl rfl rfl rfl (e_gtr (a := (m)) (b := (0 : Int)) rfl rfl) ?_
     refine q_val (v := .bool (decide ((0 : Int) < (m)))) rfl rfl rfl (e_pick_t rfl) ?_
     refine q_val (v := .bool (decide ((0 : Int) < (m)))) rfl rfl rfl (e_move) ?_
     refine q_split (s := 152) (p := (0 : Int) < (m)) rfl (fun h => ?_) (fun h => ?_)
     rotate_left; exact absurd hz2 h
     refine qg_val (v := .pointer (some ⟨(blk (fa25 14)), 3, none⟩)) rfl rfl rfl rfl rfl (e_fieldPt (b := (blk (fa25 14))) (o := 0) rfl tf9) ?_
     refine qg_val (v := .pointer (some ⟨(blk (fa25 14)), 3, none⟩)) rfl rfl rfl rfl rfl (e_fieldPt (b := (blk (fa25 14))) (o := 3) rfl tf7) ?_
     refine qg_val (v := Ix (b.vx)) rfl rfl rfl rfl rfl (e_load1 tf2 (v := Ix (b.vx)) rfl (k_pt 8 (cs := (bC b)) (vs := [Ix (b.vx)]) rfl rfl)) ?_
     refine qg_val (v := .bool (decide ((b.vx) = (0 : Int)))) rfl rfl rfl rfl rfl (e_eql (a := (b.vx)) (b := (0 : Int)) rfl rfl) ?_
     refine q_val (v := .bool (decide ((b.vx) = (0 : Int)))) rfl rfl rfl (e_pick_t rfl) ?_
     refine q_val (v := .bool (decide ((b.vx) = (0 : Int)))) rfl rfl rfl (e_move) ?_
     refine q_split (s := 158) (p := (b.vx) = (0 : Int)) rfl (fun h => ?_) (fun h => ?_)
     rotate_left; exact absurd hz3 h
     refine qg_val (v := .pointer (some ⟨(blk (fa25 14)), 1, none⟩)) rfl rfl rfl rfl rfl (e_fieldPt (b := (blk (fa25 14))) (o := 0) rfl tf6) ?_
     refine qg_val (v := .pointer (some ⟨(blk (fa25 14)), 2, none⟩)) rfl rfl rfl rfl rfl (e_fieldPt (b := (blk (fa25 14))) (o := 1) rfl tf8) ?_
     refine qg_val (v := Ix (b.y)) rfl rfl rfl rfl rfl (e_load1 tf2 (v := Ix (b.y)) rfl (k_pt 8 (cs := (bC b)) (vs := [Ix (b.y)]) rfl rfl)) ?_
     refine qg_val (v := .pointer (some ⟨(blk (fa25 13)), 1, none⟩)) rfl rfl rfl rfl rfl (e_fieldPt (b := (blk (fa25 13))) (o := 0) rfl tf6) ?_
     refine qg_val (v := .pointer (some ⟨(blk (fa25 13)), 2, none⟩)) rfl rfl rfl rfl rfl (e_fieldPt (b := (blk (fa25 13))) (o := 1) rfl tf8) ?_
     refine qg_val (v := Ix (a.y)) rfl rfl rfl rfl rfl (e_load1 tf2 (v := Ix (a.y)) rfl (k_pt 7 (cs := (bC a)) (vs := [Ix (a.y)]) rfl rfl)) ?_
     refine qg_val (v := .bool (decide ((b.y) = (a.y)))) rfl rfl rfl rfl rfl (e_eql (a := (b.y)) (b := (a.y)) rfl rfl) ?_
     refine q_val (v := .bool (decide ((b.y) = (a.y)))) rfl rfl rfl (e_pick_t rfl) ?_
     refine q_val (v := .bool (decide ((b.y) = (a.y)))) rfl rfl rfl (e_assign) ?_
     refine q_nil ?_
     refine f_then ?_
     refine c_ret ?_
     refine ret1 Tryd.results7 (v := .bool (decide ((b.y) = (a.y)))) rfl ?_
     intro w hw
     exact ⟨congrArg (fun b : Bool => Ending.returned (.bool b)) (decide_eq_true hPy), st_mask [false, false, false, false, false, false, false, false, false, false] rfl (bk1 _ _ hw)⟩
end Go.Proofs
