/-
  Rooms: tests of them. Printed by a program of my own.
-/
import Derived.Test.YthncdmfogeemcaaGreatBr5
import Derived.Test.YthncdmfogeemcaaGreatPtDef
namespace Go.Proofs
open Go Go.Sl Go.Brd Go.Pth
theorem tp0 : fldB Tryz.prog 29 0 0 2 true = true := by kernel_rfl
theorem tp1 : fldB Tryz.prog 27 0 0 1 false = true := by kernel_rfl
theorem tp2 : tyB Tryz.prog 3 false 1 = true := by kernel_rfl
theorem tp3 : fldB Tryz.prog 29 1 2 2 true = true := by kernel_rfl
theorem tp4 : fldB Tryz.prog 27 1 1 1 false = true := by kernel_rfl
theorem tp5 : (Tryz.prog.info? 27).bind (·.zero) = some (.agg #[.int .i64 (0), .int .i64 (0)]) := by kernel_rfl
theorem tp6 : stB Tryz.prog 27 [(0, 1), (1, 1)] = true := by kernel_rfl
theorem tp7 : tyB Tryz.prog 27 true 2 = true := by kernel_rfl
theorem tp8 : (Tryz.prog.info? 29).bind (·.zero) = some (.agg #[.int .i64 (0), .int .i64 (0), .int .i64 (0), .int .i64 (0)]) := by kernel_rfl
theorem tp9 : stB Tryz.prog 29 [(0, 2), (2, 2)] = true := by kernel_rfl
theorem tp10 : tyB Tryz.prog 29 true 4 = true := by kernel_rfl
theorem tp11 : cfB Tryz.prog 29 = true := by kernel_rfl
theorem tp12 : cfB Tryz.prog 30 = true := by kernel_rfl
theorem tp13 : Tryz.prog.underlying 24 = some (.slice 29) := by kernel_rfl
theorem tp14 : slB Tryz.prog 24 29 4 = true := by kernel_rfl
theorem tp15 : cfB Tryz.prog 47 = true := by kernel_rfl
theorem tp16 : Tryz.prog.underlying 53 = some (.slice 57) := by kernel_rfl
theorem tp17 : slB Tryz.prog 53 57 2 = true := by kernel_rfl
theorem tp18 : tyB Tryz.prog 57 true 2 = true := by kernel_rfl
theorem tp19 : cfB Tryz.prog 49 = true := by kernel_rfl
theorem flat_ok (β : Base) (w : World) (hw : St β [] w) (a : KA) : Calls Tryz.prog 30 #[.agg (aC a)] w fun r w' => r = .returned (.bool (decide (flatA a))) ∧ St β [] w' := by
  refine enter (n := 19) Tryz.func30 rfl Tryz.ntmps30 rfl ?_ hw
  refine c_seq ?_
  refine c_region ?_
  refine l_mv rfl rfl rfl (m_box (v := .agg (aC a)) rfl) ?_
  rintro _ _ ⟨b1, rfl, rfl⟩
  refine l_val (v := .bool false) rfl rfl rfl (e_assign) ?_
  refine l_nil ?_
  refine f_then ?_
  refine c_seq ?_
  refine c_region ?_
  refine l_val (v := .pointer (some ⟨b1, 0, none⟩)) rfl rfl rfl (e_fieldPt (b := b1) (o := 0) rfl tp0) ?_
  refine l_val (v := .pointer (some ⟨b1, 0, none⟩)) rfl rfl rfl (e_fieldPt (b := b1) (o := 0) rfl tp1) ?_
  refine l_val (v := Ix (a.lx)) rfl rfl rfl (e_load1 tp2 (v := Ix (a.lx)) rfl (k_pt 0 (cs := (aC a)) (vs := [Ix (a.lx)]) rfl rfl)) ?_
  refine l_val (v := .pointer (some ⟨b1, 2, none⟩)) rfl rfl rfl (e_fieldPt (b := b1) (o := 0) rfl tp3) ?_
  refine l_val (v := .pointer (some ⟨b1, 2, none⟩)) rfl rfl rfl (e_fieldPt (b := b1) (o := 2) rfl tp1) ?_
  refine l_val (v := Ix (a.hx)) rfl rfl rfl (e_load1 tp2 (v := Ix (a.hx)) rfl (k_pt 0 (cs := (aC a)) (vs := [Ix (a.hx)]) rfl rfl)) ?_
  refine l_val (v := .bool (decide ((a.lx) = (a.hx)))) rfl rfl rfl (e_eql (a := (a.lx)) (b := (a.hx)) rfl rfl) ?_
  refine l_val (v := .bool (decide ((a.lx) = (a.hx)))) rfl rfl rfl (e_move) ?_
  refine l_split (s := 10) (p := (a.lx) = (a.hx)) rfl (fun hg2 => ?_) (fun hg2 => ?_)
  ·
    refine l_skip rfl rfl rfl rfl rfl rfl ?_
    refine l_skip rfl rfl rfl rfl rfl rfl ?_
    refine l_skip rfl rfl rfl rfl rfl rfl ?_
    refine l_skip rfl rfl rfl rfl rfl rfl ?_
    refine l_skip rfl rfl rfl rfl rfl rfl ?_
    refine l_skip rfl rfl rfl rfl rfl rfl ?_
    refine l_skip rfl rfl rfl rfl rfl rfl ?_
    refine l_val (v := .bool true) rfl rfl rfl (e_pick_t rfl) ?_
    refine l_val (v := .bool true) rfl rfl rfl (e_assign) ?_
    refine l_nil ?_
    refine f_then ?_
    refine c_ret ?_
    refine ret1 Tryz.results30 (v := .bool true) rfl ?_
    intro w hw
    exact ⟨congrArg (fun b : Bool => Ending.returned (.bool b)) (show true = decide (flatA a) by unfold flatA; simp_all), st_mask [false] rfl hw⟩
  ·
    refine g_val (v := .pointer (some ⟨b1, 0, none⟩)) rfl rfl rfl rfl rfl (e_fieldPt (b := b1) (o := 0) rfl tp0) ?_
    refine g_val (v := .pointer (some ⟨b1, 1, none⟩)) rfl rfl rfl rfl rfl (e_fieldPt (b := b1) (o := 0) rfl tp4) ?_
    refine g_val (v := Ix (a.ly)) rfl rfl rfl rfl rfl (e_load1 tp2 (v := Ix (a.ly)) rfl (k_pt 0 (cs := (aC a)) (vs := [Ix (a.ly)]) rfl rfl)) ?_
    refine g_val (v := .pointer (some ⟨b1, 2, none⟩)) rfl rfl rfl rfl rfl (e_fieldPt (b := b1) (o := 0) rfl tp3) ?_
    refine g_val (v := .pointer (some ⟨b1, 3, none⟩)) rfl rfl rfl rfl rfl (e_fieldPt (b := b1) (o := 2) rfl tp4) ?_
    refine g_val (v := Ix (a.hy)) rfl rfl rfl rfl rfl (e_load1 tp2 (v := Ix (a.hy)) rfl (k_pt 0 (cs := (aC a)) (vs := [Ix (a.hy)]) rfl rfl)) ?_
    refine g_val (v := .bool (decide ((a.ly) = (a.hy)))) rfl rfl rfl rfl rfl (e_eql (a := (a.ly)) (b := (a.hy)) rfl rfl) ?_
    refine l_val (v := .bool (decide ((a.ly) = (a.hy)))) rfl rfl rfl (e_pick_f rfl) ?_
    refine l_val (v := .bool (decide ((a.ly) = (a.hy)))) rfl rfl rfl (e_assign) ?_
    refine l_nil ?_
    refine f_then ?_
    refine c_ret ?_
    refine ret1 Tryz.results30 (v := .bool (decide ((a.ly) = (a.hy)))) rfl ?_
    intro w hw
    exact ⟨congrArg (fun b : Bool => Ending.returned (.bool b)) (show decide ((a.ly) = (a.hy)) = decide (flatA a) by unfold flatA; simp_all), st_mask [false] rfl hw⟩
set_option maxHeartbeats 4000000 in
theorem has_ok (β : Base) (w : World) (hw : St β [] w) (a : KA) (x y : Int) : Calls Tryz.prog 21 #[.agg (aC a), .agg #[Ix x, Ix y]] w fun r w' => r = .returned (.bool (decide (hasP a x y))) ∧ St β [] w' := by
  refine enter (n := 35) Tryz.func21 rfl Tryz.ntmps21 rfl ?_ hw
  refine c_seq ?_
  refine c_region ?_
  refine l_mv rfl rfl rfl (m_box (v := .agg (aC a)) rfl) ?_
  rintro _ _ ⟨b1, rfl, rfl⟩
  refine l_mv rfl rfl rfl (m_box (v := .agg #[Ix (x), Ix (y)]) rfl) ?_
  rintro _ _ ⟨b2, rfl, rfl⟩
  refine l_val (v := .bool false) rfl rfl rfl (e_assign) ?_
  refine l_nil ?_
  refine f_then ?_
  refine c_seq ?_
  refine c_region ?_
  refine l_val (v := .pointer (some ⟨b1, 0, none⟩)) rfl rfl rfl (e_fieldPt (b := b1) (o := 0) rfl tp0) ?_
  refine l_val (v := .pointer (some ⟨b1, 0, none⟩)) rfl rfl rfl (e_fieldPt (b := b1) (o := 0) rfl tp1) ?_
  refine l_val (v := Ix (a.lx)) rfl rfl rfl (e_load1 tp2 (v := Ix (a.lx)) rfl (k_pt 1 (cs := (aC a)) (vs := [Ix (a.lx)]) rfl rfl)) ?_
  refine l_val (v := .pointer (some ⟨b2, 0, none⟩)) rfl rfl rfl (e_fieldPt (b := b2) (o := 0) rfl tp1) ?_
  refine l_val (v := Ix (x)) rfl rfl rfl (e_load1 tp2 (v := Ix (x)) rfl (k_pt 0 (cs := #[Ix (x), Ix (y)]) (vs := [Ix (x)]) rfl rfl)) ?_
  refine l_val (v := .bool (decide ((a.lx) ≤ (x)))) rfl rfl rfl (e_leq (a := (a.lx)) (b := (x)) rfl rfl) ?_
  refine l_val (v := .bool (decide ((a.lx) ≤ (x)))) rfl rfl rfl (e_move) ?_
  refine l_split (s := 11) (p := (a.lx) ≤ (x)) rfl (fun hg3 => ?_) (fun hg3 => ?_)
  ·
    refine g_val (v := .pointer (some ⟨b2, 0, none⟩)) rfl rfl rfl rfl rfl (e_fieldPt (b := b2) (o := 0) rfl tp1) ?_
    refine g_val (v := Ix (x)) rfl rfl rfl rfl rfl (e_load1 tp2 (v := Ix (x)) rfl (k_pt 0 (cs := #[Ix (x), Ix (y)]) (vs := [Ix (x)]) rfl rfl)) ?_
    refine g_val (v := .pointer (some ⟨b1, 2, none⟩)) rfl rfl rfl rfl rfl (e_fieldPt (b := b1) (o := 0) rfl tp3) ?_
    refine g_val (v := .pointer (some ⟨b1, 2, none⟩)) rfl rfl rfl rfl rfl (e_fieldPt (b := b1) (o := 2) rfl tp1) ?_
    refine g_val (v := Ix (a.hx)) rfl rfl rfl rfl rfl (e_load1 tp2 (v := Ix (a.hx)) rfl (k_pt 1 (cs := (aC a)) (vs := [Ix (a.hx)]) rfl rfl)) ?_
    refine g_val (v := .bool (decide ((x) ≤ (a.hx)))) rfl rfl rfl rfl rfl (e_leq (a := (x)) (b := (a.hx)) rfl rfl) ?_
    refine l_val (v := .bool (decide ((x) ≤ (a.hx)))) rfl rfl rfl (e_pick_t rfl) ?_
    refine l_val (v := .bool (decide ((x) ≤ (a.hx)))) rfl rfl rfl (e_move) ?_
    refine l_split (s := 19) (p := (x) ≤ (a.hx)) rfl (fun hg4 => ?_) (fun hg4 => ?_)
    ·
      refine g_val (v := .pointer (some ⟨b1, 0, none⟩)) rfl rfl rfl rfl rfl (e_fieldPt (b := b1) (o := 0) rfl tp0) ?_
      refine g_val (v := .pointer (some ⟨b1, 1, none⟩)) rfl rfl rfl rfl rfl (e_fieldPt (b := b1) (o := 0) rfl tp4) ?_
      refine g_val (v := Ix (a.ly)) rfl rfl rfl rfl rfl (e_load1 tp2 (v := Ix (a.ly)) rfl (k_pt 1 (cs := (aC a)) (vs := [Ix (a.ly)]) rfl rfl)) ?_
      refine g_val (v := .pointer (some ⟨b2, 1, none⟩)) rfl rfl rfl rfl rfl (e_fieldPt (b := b2) (o := 0) rfl tp4) ?_
      refine g_val (v := Ix (y)) rfl rfl rfl rfl rfl (e_load1 tp2 (v := Ix (y)) rfl (k_pt 0 (cs := #[Ix (x), Ix (y)]) (vs := [Ix (y)]) rfl rfl)) ?_
      refine g_val (v := .bool (decide ((a.ly) ≤ (y)))) rfl rfl rfl rfl rfl (e_leq (a := (a.ly)) (b := (y)) rfl rfl) ?_
      refine l_val (v := .bool (decide ((a.ly) ≤ (y)))) rfl rfl rfl (e_pick_t rfl) ?_
      refine l_val (v := .bool (decide ((a.ly) ≤ (y)))) rfl rfl rfl (e_move) ?_
      refine l_split (s := 27) (p := (a.ly) ≤ (y)) rfl (fun hg5 => ?_) (fun hg5 => ?_)
      ·
        refine g_val (v := .pointer (some ⟨b2, 1, none⟩)) rfl rfl rfl rfl rfl (e_fieldPt (b := b2) (o := 0) rfl tp4) ?_
        refine g_val (v := Ix (y)) rfl rfl rfl rfl rfl (e_load1 tp2 (v := Ix (y)) rfl (k_pt 0 (cs := #[Ix (x), Ix (y)]) (vs := [Ix (y)]) rfl rfl)) ?_
        refine g_val (v := .pointer (some ⟨b1, 2, none⟩)) rfl rfl rfl rfl rfl (e_fieldPt (b := b1) (o := 0) rfl tp3) ?_
        refine g_val (v := .pointer (some ⟨b1, 3, none⟩)) rfl rfl rfl rfl rfl (e_fieldPt (b := b1) (o := 2) rfl tp4) ?_
        refine g_val (v := Ix (a.hy)) rfl rfl rfl rfl rfl (e_load1 tp2 (v := Ix (a.hy)) rfl (k_pt 1 (cs := (aC a)) (vs := [Ix (a.hy)]) rfl rfl)) ?_
        refine g_val (v := .bool (decide ((y) ≤ (a.hy)))) rfl rfl rfl rfl rfl (e_leq (a := (y)) (b := (a.hy)) rfl rfl) ?_
        refine l_val (v := .bool (decide ((y) ≤ (a.hy)))) rfl rfl rfl (e_pick_t rfl) ?_
        refine l_val (v := .bool (decide ((y) ≤ (a.hy)))) rfl rfl rfl (e_assign) ?_
        refine l_nil ?_
        refine f_then ?_
        refine c_ret ?_
        refine ret1 Tryz.results21 (v := .bool (decide ((y) ≤ (a.hy)))) rfl ?_
        intro w hw
        exact ⟨congrArg (fun b : Bool => Ending.returned (.bool b)) (decide_eq_decide.2 ⟨fun q => by unfold hasP; omega, fun q => by unfold hasP at q; omega⟩), st_mask [false, false] rfl hw⟩
      ·
        refine l_skip rfl rfl rfl rfl rfl rfl ?_
        refine l_skip rfl rfl rfl rfl rfl rfl ?_
        refine l_skip rfl rfl rfl rfl rfl rfl ?_
        refine l_skip rfl rfl rfl rfl rfl rfl ?_
        refine l_skip rfl rfl rfl rfl rfl rfl ?_
        refine l_skip rfl rfl rfl rfl rfl rfl ?_
        refine l_val (v := .bool false) rfl rfl rfl (e_pick_f rfl) ?_
        refine l_val (v := .bool false) rfl rfl rfl (e_assign) ?_
        refine l_nil ?_
        refine f_then ?_
        refine c_ret ?_
        refine ret1 Tryz.results21 (v := .bool false) rfl ?_
        intro w hw
        exact ⟨congrArg (fun b : Bool => Ending.returned (.bool b)) ((decide_eq_false (fun q => by unfold hasP at q; omega)).symm), st_mask [false, false] rfl hw⟩
    ·
      refine l_skip rfl rfl rfl rfl rfl rfl ?_
      refine l_skip rfl rfl rfl rfl rfl rfl ?_
      refine l_skip rfl rfl rfl rfl rfl rfl ?_
      refine l_skip rfl rfl rfl rfl rfl rfl ?_
      refine l_skip rfl rfl rfl rfl rfl rfl ?_
      refine l_skip rfl rfl rfl rfl rfl rfl ?_
      refine l_val (v := .bool false) rfl rfl rfl (e_pick_f rfl) ?_
      refine l_val (v := .bool false) rfl rfl rfl (e_move) ?_
      refine l_skip rfl rfl rfl rfl rfl rfl ?_
      refine l_skip rfl rfl rfl rfl rfl rfl ?_
      refine l_skip rfl rfl rfl rfl rfl rfl ?_
      refine l_skip rfl rfl rfl rfl rfl rfl ?_
      refine l_skip rfl rfl rfl rfl rfl rfl ?_
      refine l_skip rfl rfl rfl rfl rfl rfl ?_
      refine l_val (v := .bool false) rfl rfl rfl (e_pick_f rfl) ?_
      refine l_val (v := .bool false) rfl rfl rfl (e_assign) ?_
      refine l_nil ?_
      refine f_then ?_
      refine c_ret ?_
      refine ret1 Tryz.results21 (v := .bool false) rfl ?_
      intro w hw
      exact ⟨congrArg (fun b : Bool => Ending.returned (.bool b)) ((decide_eq_false (fun q => by unfold hasP at q; omega)).symm), st_mask [false, false] rfl hw⟩
  ·
    refine l_skip rfl rfl rfl rfl rfl rfl ?_
    refine l_skip rfl rfl rfl rfl rfl rfl ?_
    refine l_skip rfl rfl rfl rfl rfl rfl ?_
    refine l_skip rfl rfl rfl rfl rfl rfl ?_
    refine l_skip rfl rfl rfl rfl rfl rfl ?_
    refine l_skip rfl rfl rfl rfl rfl rfl ?_
    refine l_val (v := .bool false) rfl rfl rfl (e_pick_f rfl) ?_
    refine l_val (v := .bool false) rfl rfl rfl (e_move) ?_
    refine l_skip rfl rfl rfl rfl rfl rfl ?_
    refine l_skip rfl rfl rfl rfl rfl rfl ?_
    refine l_skip rfl rfl rfl rfl rfl rfl ?_
    refine l_skip rfl rfl rfl rfl rfl rfl ?_
    refine l_skip rfl rfl rfl rfl rfl rfl ?_
    refine l_skip rfl rfl rfl rfl rfl rfl ?_
    refine l_val (v := .bool false) rfl rfl rfl (e_pick_f rfl) ?_
    refine l_val (v := .bool false) rfl rfl rfl (e_move) ?_
    refine l_skip rfl rfl rfl rfl rfl rfl ?_
    refine l_skip rfl rfl rfl rfl rfl rfl ?_
    refine l_skip rfl rfl rfl rfl rfl rfl ?_
    refine l_skip rfl rfl rfl rfl rfl rfl ?_
    refine l_skip rfl rfl rfl rfl rfl rfl ?_
    refine l_skip rfl rfl rfl rfl rfl rfl ?_
    refine l_val (v := .bool false) rfl rfl rfl (e_pick_f rfl) ?_
    refine l_val (v := .bool false) rfl rfl rfl (e_assign) ?_
    refine l_nil ?_
    refine f_then ?_
    refine c_ret ?_
    refine ret1 Tryz.results21 (v := .bool false) rfl ?_
    intro w hw
    exact ⟨congrArg (fun b : Bool => Ending.returned (.bool b)) ((decide_eq_false (fun q => by unfold hasP at q; omega)).symm), st_mask [false, false] rfl hw⟩
theorem point_ok (β : Base) (w : World) (hw : St β [] w) (x y : Int) : Calls Tryz.prog 9 #[Ix x, Ix y] w fun r w' => r = .returned (.agg #[Ix x, Ix y]) ∧ St β [] w' := by
  refine enter (n := 8) Tryz.func9 rfl Tryz.ntmps9 rfl ?_ hw
  refine c_seq ?_
  refine c_region ?_
  refine l_mv rfl rfl rfl (m_alloc tp5) ?_
  rintro _ _ ⟨b1, rfl, rfl⟩
  refine l_nil ?_
  refine f_then ?_
  refine c_seq ?_
  refine c_region ?_
  refine l_val (v := Ix (x)) rfl rfl rfl (e_move) ?_
  refine l_val (v := Ix (y)) rfl rfl rfl (e_move) ?_
  refine l_val (v := .agg #[Ix (x), Ix (y)]) rfl rfl rfl (e_build tp5 tp6 (vs := [(0, Ix (x)), (1, Ix (y))]) (cells := #[Ix (x), Ix (y)]) rfl rfl) ?_
  refine l_mu rfl rfl (m_store 0 tp7 (b := b1) (o := 0) (T := 27) (cs := #[.int .i64 (0), .int .i64 (0)]) (cs' := #[Ix (x), Ix (y)]) (v := .agg #[Ix (x), Ix (y)]) rfl rfl rfl rfl rfl rfl rfl) ?_
  refine l_nil ?_
  refine f_then ?_
  refine c_ret ?_
  refine retG (l := [.cell 4 27]) (m := [.agg #[Ix (x), Ix (y)]]) (v := .agg #[Ix (x), Ix (y)]) Tryz.results9 ⟨rd_cell tp7 (cs := [Ix (x), Ix (y)]) rfl (k_pt 0 (cs := #[Ix (x), Ix (y)]) (vs := [Ix (x), Ix (y)]) rfl rfl) rfl, trivial⟩ rfl ?_
  intro w hw
  exact ⟨rfl, st_mask [false] rfl hw⟩
theorem room_ok (β : Base) (w : World) (hw : St β [] w) (x y u v : Int) : Calls Tryz.prog 6 #[Ix x, Ix y, Ix u, Ix v] w fun r w' => r = .returned (.agg (aC (⟨x, y, u, v⟩))) ∧ St β [] w' := by
  refine enter (n := 16) Tryz.func6 rfl Tryz.ntmps6 rfl ?_ hw
  refine c_seq ?_
  refine c_region ?_
  refine l_mv rfl rfl rfl (m_alloc tp8) ?_
  rintro _ _ ⟨b1, rfl, rfl⟩
  refine l_nil ?_
  refine f_then ?_
  refine c_seq ?_
  refine c_region ?_
  refine l_val (v := Ix (x)) rfl rfl rfl (e_move) ?_
  refine l_val (v := Ix (y)) rfl rfl rfl (e_move) ?_
  refine l_val (v := .agg #[Ix (x), Ix (y)]) rfl rfl rfl (e_build tp5 tp6 (vs := [(0, Ix (x)), (1, Ix (y))]) (cells := #[Ix (x), Ix (y)]) rfl rfl) ?_
  refine l_val (v := Ix (u)) rfl rfl rfl (e_move) ?_
  refine l_val (v := Ix (v)) rfl rfl rfl (e_move) ?_
  refine l_val (v := .agg #[Ix (u), Ix (v)]) rfl rfl rfl (e_build tp5 tp6 (vs := [(0, Ix (u)), (1, Ix (v))]) (cells := #[Ix (u), Ix (v)]) rfl rfl) ?_
  refine l_val (v := .agg #[Ix (x), Ix (y), Ix (u), Ix (v)]) rfl rfl rfl (e_build tp8 tp9 (vs := [(0, .agg #[Ix (x), Ix (y)]), (1, .agg #[Ix (u), Ix (v)])]) (cells := #[Ix (x), Ix (y), Ix (u), Ix (v)]) rfl rfl) ?_
  refine l_mu rfl rfl (m_store 0 tp10 (b := b1) (o := 0) (T := 29) (cs := #[.int .i64 (0), .int .i64 (0), .int .i64 (0), .int .i64 (0)]) (cs' := #[Ix (x), Ix (y), Ix (u), Ix (v)]) (v := .agg #[Ix (x), Ix (y), Ix (u), Ix (v)]) rfl rfl rfl rfl rfl rfl rfl) ?_
  refine l_nil ?_
  refine f_then ?_
  refine c_ret ?_
  refine retG (l := [.cell 8 29]) (m := [.agg #[Ix (x), Ix (y), Ix (u), Ix (v)]]) (v := .agg #[Ix (x), Ix (y), Ix (u), Ix (v)]) Tryz.results6 ⟨rd_cell tp10 (cs := [Ix (x), Ix (y), Ix (u), Ix (v)]) rfl (k_pt 0 (cs := #[Ix (x), Ix (y), Ix (u), Ix (v)]) (vs := [Ix (x), Ix (y), Ix (u), Ix (v)]) rfl rfl) rfl, trivial⟩ rfl ?_
  intro w hw
  exact ⟨rfl, st_mask [false] rfl hw⟩
theorem bad_fn (β : Base) : FnV Tryz.prog β (.func (.func 28) #[] #[]) (fun z : KA => [.agg (aC z)]) (fun _ => True) (fun z => .bool (decide (¬ roomOk z))) := by
  refine ⟨28, [], [], rfl, by kernel_rfl, fun β₁ sb0 z_ hz_ w hw => ?_⟩
  obtain ⟨y, hy⟩ : ∃ y, y = z_ := ⟨_, rfl⟩
  subst hy
  refine enter (n := 10) Tryz.func28 rfl Tryz.ntmps28 rfl ?_ hw
  refine c_seq ?_
  refine c_region ?_
  refine l_mv rfl rfl rfl (m_box (v := .agg (aC y)) rfl) ?_
  rintro _ _ ⟨b1, rfl, rfl⟩
  refine l_val (v := .bool false) rfl rfl rfl (e_assign) ?_
  refine l_nil ?_
  refine f_then ?_
  refine c_seq ?_
  refine c_region ?_
  refine l_val (v := .agg (aC y)) rfl rfl rfl (e_load tp10 (cs := (areaE y)) rfl (k_pt 0 (cs := (aC y)) (vs := (areaE y)) rfl rfl) rfl) ?_
  refine l_call rfl rfl rfl (cl_value (fst := []) (cap := []) (vs := [.agg (aC y)]) (all := [.agg (aC y)]) tp11 rfl rfl rfl) ?_
  intro w hw
  obtain ⟨β1, sb, kn, hw1, back⟩ := St.frame_all hw
  refine (avalid_ok β1 w hw1 y).mono ?_
  rintro e w' ⟨rfl, hw'⟩
  refine ⟨_, rfl, _, back _ _ hw', ?_⟩
  clear hw hw1 hw' back kn sb
  refine l_val (v := .bool (decide (¬ (okA y)))) rfl rfl rfl (e_not_p (p := okA y) rfl) ?_
  refine l_val (v := .bool (decide (¬ (okA y)))) rfl rfl rfl (e_move) ?_
  refine l_split (s := 6) (p := ¬ (okA y)) rfl (fun hg2 => ?_) (fun hg2 => ?_)
  ·
    refine l_skip rfl rfl rfl rfl rfl rfl ?_
    refine l_skip rfl rfl rfl rfl rfl rfl ?_
    refine l_val (v := .bool true) rfl rfl rfl (e_pick_t rfl) ?_
    refine l_val (v := .bool true) rfl rfl rfl (e_assign) ?_
    refine l_nil ?_
    refine f_then ?_
    refine c_ret ?_
    refine ret1 Tryz.results28 (v := .bool true) rfl ?_
    intro w hw
    exact ⟨congrArg (fun b : Bool => Ending.returned (.bool b)) (show true = decide (¬ roomOk y) by unfold roomOk; simp_all), st_mask [false] rfl hw⟩
  ·
    refine g_val (v := .agg (aC y)) rfl rfl rfl rfl rfl (e_load tp10 (cs := (areaE y)) rfl (k_pt 0 (cs := (aC y)) (vs := (areaE y)) rfl rfl) rfl) ?_
    refine g_call rfl rfl rfl rfl rfl (cl_value (fst := []) (cap := []) (vs := [.agg (aC y)]) (all := [.agg (aC y)]) tp12 rfl rfl rfl) ?_
    intro w hw
    obtain ⟨β1, sb, kn, hw1, back⟩ := St.frame_all hw
    refine (flat_ok β1 w hw1 y).mono ?_
    rintro e w' ⟨rfl, hw'⟩
    refine ⟨_, rfl, _, back _ _ hw', ?_⟩
    clear hw hw1 hw' back kn sb
    refine l_val (v := .bool (decide (flatA y))) rfl rfl rfl (e_pick_f rfl) ?_
    refine l_val (v := .bool (decide (flatA y))) rfl rfl rfl (e_assign) ?_
    refine l_nil ?_
    refine f_then ?_
    refine c_ret ?_
    refine ret1 Tryz.results28 (v := .bool (decide (flatA y))) rfl ?_
    intro w hw
    exact ⟨congrArg (fun b : Bool => Ending.returned (.bool b)) (show decide (flatA y) = decide (¬ roomOk y) by unfold roomOk; simp_all), st_mask [false] rfl hw⟩
set_option maxHeartbeats 4000000 in
theorem indexA_ok (β : Base) (w : World) (hw : St β [] w) (v : Value) (xs : List KA) (hs : Sl AreaF.R β.heap v xs) (S : KA → Prop) (hS : ∀ x ∈ xs, S x) (fn : Value) (p : KA → Bool) (hfn : FnV Tryz.prog β fn (fun z : KA => [.agg (aC z)]) S (fun z => .bool (p z))) : Calls Tryz.prog 47 #[v, fn] w fun r w' => r = .returned (Ix (idxI p xs)) ∧ St β [] w' := by
  obtain ⟨va, vc, rfl, vl, vm, ve⟩ := hs.get
  obtain ⟨gg, fst, cap, rfl, hcf, hf⟩ := hfn
  refine enter (n := 19) Tryz.func47 rfl Tryz.ntmps47 rfl ?_ hw
  refine c_seq ?_
  refine c_region ?_
  refine l_val (v := .int .i64 (0)) rfl rfl rfl (e_assign) ?_
  refine l_nil ?_
  refine f_then ?_
  refine c_seq ?_
  refine c_seq ?_
  refine c_region ?_
  refine l_val (v := .slice va (xs.length) (vc)) rfl rfl rfl (e_move) ?_
  refine l_val (v := Nx (xs.length)) rfl rfl rfl (e_len (a := va) (n := xs.length) (c := vc) rfl tp13) ?_
  refine l_val (v := .int .i64 (0)) rfl rfl rfl (e_move) ?_
  refine l_nil ?_
  refine f_then ?_
  refine c_block ?_
  refine c_loop (fun (k : Nat) (f : Fm) (L : List Res) => (f 0 = .slice va (xs.length) (vc) ∧ f 1 = .func (.func gg) fst.toArray cap.toArray ∧ f 7 = Nx (xs.length) ∧ f 8 = Nx (k)) ∧ L = [] ∧ (k ≤ xs.length ∧ ∀ y ∈ xs.take k, p y = false)) (fun (k : Nat) => xs.length - k) 0 ?_ ?_
  · exact ⟨⟨rfl, rfl, rfl, rfl⟩, rfl, ⟨by omega, fun y hy => by simp at hy⟩⟩
  rintro k f0 L0 ⟨⟨hs0, hs1, hs7, hs8⟩, hL, ⟨hk, hp⟩⟩
  subst L0
  refine rebase (d := 0) hs0 ?_
  refine rebase (d := 1) hs1 ?_
  refine rebase (d := 7) hs7 ?_
  refine rebase (d := 8) hs8 ?_
  clear hs0 hs1 hs7 hs8
  refine c_seq ?_
  refine c_region ?_
  refine l_val (v := .bool (decide (((k : Nat) : Int) < ((xs.length : Nat) : Int)))) rfl rfl rfl (e_lss (a := ((k : Nat) : Int)) (b := ((xs.length : Nat) : Int)) rfl rfl) ?_
  refine l_nil ?_
  refine f_then ?_
  refine c_seq ?_
  refine c_if (((k : Nat) : Int) < ((xs.length : Nat) : Int)) rfl (fun hc1 => ?_) (fun hc1 => ?_)
  ·
    refine c_skip ?_
    refine f_then ?_
    refine c_seq ?_
    refine c_block ?_
    refine c_seq ?_
    refine c_region ?_
    refine l_val (v := Nx (k)) rfl rfl rfl (e_move) ?_
    refine l_val (v := Nx (k)) rfl rfl rfl (e_assign) ?_
    refine l_nil ?_
    refine f_then ?_
    refine c_seq ?_
    refine c_region ?_
    refine l_val (v := .func (.func gg) fst.toArray cap.toArray) rfl rfl rfl (e_move) ?_
    refine l_val (v := .slice va (xs.length) (vc)) rfl rfl rfl (e_move) ?_
    refine l_val (v := Nx (k)) rfl rfl rfl (e_move) ?_
    obtain ⟨x2, hx2⟩ : ∃ x_, (xs)[k]? = some x_ := ⟨_, List.getElem?_eq_getElem (by omega)⟩
    obtain ⟨ha4, cs5, hc6, rfl⟩ := ve _ _ hx2
    refine l_val (v := .pointer (some ((ba va).add (k * 4)))) rfl rfl rfl (e_indexAddr (k := k) (len := xs.length) (cap := vc) (a := va) rfl rfl tp14 (by omega) ha4) ?_
    refine l_val (v := .agg (aC x2)) rfl rfl rfl (e_load tp10 (cs := (areaE x2)) rfl (Knows.of_base (Cs.mono _ _) hc6) rfl) ?_
    refine l_call rfl rfl rfl (cl_value (fst := fst) (cap := cap) (vs := [.agg (aC x2)]) (all := fst ++ [.agg (aC x2)] ++ cap) hcf rfl rfl rfl) ?_
    intro w hw
    obtain ⟨β1, sb, kn, hw1, back⟩ := St.frame_all hw
    refine (hf β1 sb x2 (hS _ (List.mem_of_getElem? (by assumption))) w hw1).mono ?_
    rintro e w' ⟨rfl, hw'⟩
    refine ⟨_, rfl, _, back _ _ hw', ?_⟩
    clear hw hw1 hw' back kn sb
    refine l_nil ?_
    refine f_then ?_
    refine c_ifb (p x2) rfl (fun hc8 => ?_) (fun hc8 => ?_)
    ·
      refine c_seq ?_
      refine c_region ?_
      refine l_val (v := Nx (k)) rfl rfl rfl (e_move) ?_
      refine l_val (v := Nx (k)) rfl rfl rfl (e_assign) ?_
      refine l_nil ?_
      refine f_then ?_
      refine c_ret ?_
      refine f_block_ret ?_
      refine f_then_ret ?_
      refine f_then_ret ?_
      refine f_block_ret ?_
      refine f_then_ret ?_
      refine ret1 Tryz.results47 (v := Nx (k)) rfl ?_
      intro w hw
      exact ⟨congrArg (fun z : Int => Ending.returned (Ix z)) (idx_found hx2 hc8 hp).symm, st_mask [] rfl hw⟩
    ·
      refine c_skip ?_
      refine f_block ?_
      refine f_then ?_
      refine c_region ?_
      refine l_val (v := Nx (k + 1)) rfl rfl rfl (e_add (a := ((k : Nat) : Int)) (b := (1 : Int)) rfl rfl (i64n (by omega) (by omega))) ?_
      refine l_val (v := Nx (k + 1)) rfl rfl rfl (e_move) ?_
      refine l_nil ?_
      exact f_cut ⟨k + 1, ⟨⟨rfl, rfl, rfl, rfl⟩, rfl, ⟨by omega, idx_next hx2 hc8 hp⟩⟩, (show xs.length - (k + 1) < xs.length - k from by omega)⟩
  ·
    refine c_exit ?_
    refine f_then_exit ?_
    refine f_then_exit ?_
    refine f_exit ?_
    refine f_then ?_
    refine c_seq ?_
    refine c_region ?_
    refine l_val (v := .int .i64 (-1)) rfl rfl rfl (e_assign) ?_
    refine l_nil ?_
    refine f_then ?_
    refine c_ret ?_
    refine ret1 Tryz.results47 (v := .int .i64 (-1)) rfl ?_
    intro w hw
    exact ⟨congrArg (fun z : Int => Ending.returned (Ix z)) (idx_none (by omega) hp).symm, st_mask [] rfl hw⟩
theorem contA_ok (β : Base) (w : World) (hw : St β [] w) (v : Value) (xs : List KA) (hs : Sl AreaF.R β.heap v xs) (S : KA → Prop) (hS : ∀ x ∈ xs, S x) (fn : Value) (p : KA → Bool) (hfn : FnV Tryz.prog β fn (fun z : KA => [.agg (aC z)]) S (fun z => .bool (p z))) : Calls Tryz.prog 27 #[v, fn] w fun r w' => r = .returned (.bool (xs.any p)) ∧ St β [] w' := by
  refine enter (n := 9) Tryz.func27 rfl Tryz.ntmps27 rfl ?_ hw
  refine c_seq ?_
  refine c_region ?_
  refine l_val (v := .bool false) rfl rfl rfl (e_assign) ?_
  refine l_nil ?_
  refine f_then ?_
  refine c_seq ?_
  refine c_region ?_
  refine l_val (v := v) rfl rfl rfl (e_move) ?_
  refine l_val (v := fn) rfl rfl rfl (e_move) ?_
  refine l_call rfl rfl rfl (cl_value (fst := []) (cap := []) (vs := [v, fn]) (all := [v, fn]) tp15 rfl rfl rfl) ?_
  intro w hw
  obtain ⟨β1, sb, kn, hw1, back⟩ := St.frame_all hw
  have hs_ := Sl.mono _ _ _ _ _ sb hs
  refine (indexA_ok β1 w hw1 _ xs hs_ S hS _ p (hfn.mono sb)).mono ?_
  rintro e w' ⟨rfl, hw'⟩
  refine ⟨_, rfl, _, back _ _ hw', ?_⟩
  clear hw hw1 hw' back kn sb
  refine l_val (v := .bool (decide ((0 : Int) ≤ (idxI p xs)))) rfl rfl rfl (e_geq (a := (idxI p xs)) (b := (0 : Int)) rfl rfl) ?_
  refine l_val (v := .bool (decide ((0 : Int) ≤ (idxI p xs)))) rfl rfl rfl (e_assign) ?_
  refine l_nil ?_
  refine f_then ?_
  refine c_ret ?_
  refine ret1 Tryz.results27 (v := .bool (decide ((0 : Int) ≤ (idxI p xs)))) rfl ?_
  intro w hw
  exact ⟨congrArg Ending.returned (congrArg Value.bool (idx_any p xs)), st_mask [] rfl hw⟩
set_option maxHeartbeats 4000000 in
theorem indexP_ok (β : Base) (w : World) (hw : St β [] w) (v : Value) (xs : List KP) (hs : Sl PairF.R β.heap v xs) (S : KP → Prop) (hS : ∀ x ∈ xs, S x) (fn : Value) (p : KP → Bool) (hfn : FnV Tryz.prog β fn (fun z : KP => [.agg #[Ix (z.a), Ix (z.b)]]) S (fun z => .bool (p z))) : Calls Tryz.prog 49 #[v, fn] w fun r w' => r = .returned (Ix (idxI p xs)) ∧ St β [] w' := by
  obtain ⟨va, vc, rfl, vl, vm, ve⟩ := hs.get
  obtain ⟨gg, fst, cap, rfl, hcf, hf⟩ := hfn
  refine enter (n := 19) Tryz.func49 rfl Tryz.ntmps49 rfl ?_ hw
  refine c_seq ?_
  refine c_region ?_
  refine l_val (v := .int .i64 (0)) rfl rfl rfl (e_assign) ?_
  refine l_nil ?_
  refine f_then ?_
  refine c_seq ?_
  refine c_seq ?_
  refine c_region ?_
  refine l_val (v := .slice va (xs.length) (vc)) rfl rfl rfl (e_move) ?_
  refine l_val (v := Nx (xs.length)) rfl rfl rfl (e_len (a := va) (n := xs.length) (c := vc) rfl tp16) ?_
  refine l_val (v := .int .i64 (0)) rfl rfl rfl (e_move) ?_
  refine l_nil ?_
  refine f_then ?_
  refine c_block ?_
  refine c_loop (fun (k : Nat) (f : Fm) (L : List Res) => (f 0 = .slice va (xs.length) (vc) ∧ f 1 = .func (.func gg) fst.toArray cap.toArray ∧ f 7 = Nx (xs.length) ∧ f 8 = Nx (k)) ∧ L = [] ∧ (k ≤ xs.length ∧ ∀ y ∈ xs.take k, p y = false)) (fun (k : Nat) => xs.length - k) 0 ?_ ?_
  · exact ⟨⟨rfl, rfl, rfl, rfl⟩, rfl, ⟨by omega, fun y hy => by simp at hy⟩⟩
  rintro k f0 L0 ⟨⟨hs0, hs1, hs7, hs8⟩, hL, ⟨hk, hp⟩⟩
  subst L0
  refine rebase (d := 0) hs0 ?_
  refine rebase (d := 1) hs1 ?_
  refine rebase (d := 7) hs7 ?_
  refine rebase (d := 8) hs8 ?_
  clear hs0 hs1 hs7 hs8
  refine c_seq ?_
  refine c_region ?_
  refine l_val (v := .bool (decide (((k : Nat) : Int) < ((xs.length : Nat) : Int)))) rfl rfl rfl (e_lss (a := ((k : Nat) : Int)) (b := ((xs.length : Nat) : Int)) rfl rfl) ?_
  refine l_nil ?_
  refine f_then ?_
  refine c_seq ?_
  refine c_if (((k : Nat) : Int) < ((xs.length : Nat) : Int)) rfl (fun hc1 => ?_) (fun hc1 => ?_)
  ·
    refine c_skip ?_
    refine f_then ?_
    refine c_seq ?_
    refine c_block ?_
    refine c_seq ?_
    refine c_region ?_
    refine l_val (v := Nx (k)) rfl rfl rfl (e_move) ?_
    refine l_val (v := Nx (k)) rfl rfl rfl (e_assign) ?_
    refine l_nil ?_
    refine f_then ?_
    refine c_seq ?_
    refine c_region ?_
    refine l_val (v := .func (.func gg) fst.toArray cap.toArray) rfl rfl rfl (e_move) ?_
    refine l_val (v := .slice va (xs.length) (vc)) rfl rfl rfl (e_move) ?_
    refine l_val (v := Nx (k)) rfl rfl rfl (e_move) ?_
    obtain ⟨x2, hx2⟩ : ∃ x_, (xs)[k]? = some x_ := ⟨_, List.getElem?_eq_getElem (by omega)⟩
    obtain ⟨ha4, cs5, hc6, rfl⟩ := ve _ _ hx2
    refine l_val (v := .pointer (some ((ba va).add (k * 2)))) rfl rfl rfl (e_indexAddr (k := k) (len := xs.length) (cap := vc) (a := va) rfl rfl tp17 (by omega) ha4) ?_
    refine l_val (v := .agg #[Ix (x2.a), Ix (x2.b)]) rfl rfl rfl (e_load tp18 (cs := [Ix (x2.a), Ix (x2.b)]) rfl (Knows.of_base (Cs.mono _ _) hc6) rfl) ?_
    refine l_call rfl rfl rfl (cl_value (fst := fst) (cap := cap) (vs := [.agg #[Ix (x2.a), Ix (x2.b)]]) (all := fst ++ [.agg #[Ix (x2.a), Ix (x2.b)]] ++ cap) hcf rfl rfl rfl) ?_
    intro w hw
    obtain ⟨β1, sb, kn, hw1, back⟩ := St.frame_all hw
    refine (hf β1 sb x2 (hS _ (List.mem_of_getElem? (by assumption))) w hw1).mono ?_
    rintro e w' ⟨rfl, hw'⟩
    refine ⟨_, rfl, _, back _ _ hw', ?_⟩
    clear hw hw1 hw' back kn sb
    refine l_nil ?_
    refine f_then ?_
    refine c_ifb (p x2) rfl (fun hc8 => ?_) (fun hc8 => ?_)
    ·
      refine c_seq ?_
      refine c_region ?_
      refine l_val (v := Nx (k)) rfl rfl rfl (e_move) ?_
      refine l_val (v := Nx (k)) rfl rfl rfl (e_assign) ?_
      refine l_nil ?_
      refine f_then ?_
      refine c_ret ?_
      refine f_block_ret ?_
      refine f_then_ret ?_
      refine f_then_ret ?_
      refine f_block_ret ?_
      refine f_then_ret ?_
      refine ret1 Tryz.results49 (v := Nx (k)) rfl ?_
      intro w hw
      exact ⟨congrArg (fun z : Int => Ending.returned (Ix z)) (idx_found hx2 hc8 hp).symm, st_mask [] rfl hw⟩
    ·
      refine c_skip ?_
      refine f_block ?_
      refine f_then ?_
      refine c_region ?_
      refine l_val (v := Nx (k + 1)) rfl rfl rfl (e_add (a := ((k : Nat) : Int)) (b := (1 : Int)) rfl rfl (i64n (by omega) (by omega))) ?_
      refine l_val (v := Nx (k + 1)) rfl rfl rfl (e_move) ?_
      refine l_nil ?_
      exact f_cut ⟨k + 1, ⟨⟨rfl, rfl, rfl, rfl⟩, rfl, ⟨by omega, idx_next hx2 hc8 hp⟩⟩, (show xs.length - (k + 1) < xs.length - k from by omega)⟩
  ·
    refine c_exit ?_
    refine f_then_exit ?_
    refine f_then_exit ?_
    refine f_exit ?_
    refine f_then ?_
    refine c_seq ?_
    refine c_region ?_
    refine l_val (v := .int .i64 (-1)) rfl rfl rfl (e_assign) ?_
    refine l_nil ?_
    refine f_then ?_
    refine c_ret ?_
    refine ret1 Tryz.results49 (v := .int .i64 (-1)) rfl ?_
    intro w hw
    exact ⟨congrArg (fun z : Int => Ending.returned (Ix z)) (idx_none (by omega) hp).symm, st_mask [] rfl hw⟩
theorem contP_ok (β : Base) (w : World) (hw : St β [] w) (v : Value) (xs : List KP) (hs : Sl PairF.R β.heap v xs) (S : KP → Prop) (hS : ∀ x ∈ xs, S x) (fn : Value) (p : KP → Bool) (hfn : FnV Tryz.prog β fn (fun z : KP => [.agg #[Ix (z.a), Ix (z.b)]]) S (fun z => .bool (p z))) : Calls Tryz.prog 31 #[v, fn] w fun r w' => r = .returned (.bool (xs.any p)) ∧ St β [] w' := by
  refine enter (n := 9) Tryz.func31 rfl Tryz.ntmps31 rfl ?_ hw
  refine c_seq ?_
  refine c_region ?_
  refine l_val (v := .bool false) rfl rfl rfl (e_assign) ?_
  refine l_nil ?_
  refine f_then ?_
  refine c_seq ?_
  refine c_region ?_
  refine l_val (v := v) rfl rfl rfl (e_move) ?_
  refine l_val (v := fn) rfl rfl rfl (e_move) ?_
  refine l_call rfl rfl rfl (cl_value (fst := []) (cap := []) (vs := [v, fn]) (all := [v, fn]) tp19 rfl rfl rfl) ?_
  intro w hw
  obtain ⟨β1, sb, kn, hw1, back⟩ := St.frame_all hw
  have hs_ := Sl.mono _ _ _ _ _ sb hs
  refine (indexP_ok β1 w hw1 _ xs hs_ S hS _ p (hfn.mono sb)).mono ?_
  rintro e w' ⟨rfl, hw'⟩
  refine ⟨_, rfl, _, back _ _ hw', ?_⟩
  clear hw hw1 hw' back kn sb
  refine l_val (v := .bool (decide ((0 : Int) ≤ (idxI p xs)))) rfl rfl rfl (e_geq (a := (idxI p xs)) (b := (0 : Int)) rfl rfl) ?_
  refine l_val (v := .bool (decide ((0 : Int) ≤ (idxI p xs)))) rfl rfl rfl (e_assign) ?_
  refine l_nil ?_
  refine f_then ?_
  refine c_ret ?_
  refine ret1 Tryz.results31 (v := .bool (decide ((0 : Int) ≤ (idxI p xs)))) rfl ?_
  intro w hw
  exact ⟨congrArg Ending.returned (congrArg Value.bool (idx_any p xs)), st_mask [] rfl hw⟩
end Go.Proofs
