/-
  BroadAll: walked. Printed by a program of my own.
-/
import Derived.Test.YtmgpmgckbcjalaaBr11
namespace Go.Brd
theorem pos_le {l : List KA} {T : List KP} (hT : pairsT (things l 0) = T) {i k : Nat} (hi : i < l.length) (h : i + 1 ≤ k) (hk : k ≤ l.length) : posP l i k ≤ T.length := by
  rw [← hT, headP_drop (things l 0) (i + 1) (by rw [things_len]; omega), ← rowP_end, List.length_append]
  have h2 : (rowP (things l 0) i k).length ≤ (rowP (things l 0) i (things l 0).length).length := by
    unfold rowP
    split
    · rename_i x _
      unfold hitsT
      rw [List.length_map, List.length_map]
      refine (List.Sublist.filter _ ?_).length_le
      rw [things_len]
      have e : ((things l 0).drop (i + 1)).take (k - (i + 1)) = (((things l 0).drop (i + 1)).take (l.length - (i + 1))).take (k - (i + 1)) := by rw [List.take_take, Nat.min_eq_left (by omega)]
      rw [e]; exact List.take_sublist _ _
    · exact Nat.le_refl _
  unfold posP
  rw [List.length_append, List.length_append]
  omega
theorem scale_at {T : List KP} {n i k : Nat} {v : KP} (hv : (T.map (scaleP 3))[n]? = some v) (hq : T[n]? = some ⟨(i : Int), (k : Int)⟩) : v = ⟨((3 * i : Nat) : Int), ((3 * k : Nat) : Int)⟩ := by
  rw [List.getElem?_map, hq] at hv
  injection hv with hv
  rw [← hv]
  unfold scaleP
  simp only
  congr 1 <;> omega
end Go.Brd
namespace Go.Proofs
open Go Go.Sl Go.Brd

set_option maxHeartbeats 4000000 in
theorem all_ok (β : Base) (w : World) (hw : St β [] w) (v : Value) (fs : List KF) (hs : Sl FormF.R β.heap v fs) : Calls Try.prog 4 #[v] w fun r w' => r = .returned (.bool true) ∧ St β [] w' := by
  obtain ⟨va, vc, rfl, vl, vm, ve⟩ := hs.get
  refine enter (n := 102) Try.func4 rfl Try.ntmps4 rfl ?_ hw
  refine c_seq ?_
  refine c_region ?_
  refine l_val (v := .bool false) rfl rfl rfl (e_assign) ?_
  refine l_nil ?_
  refine f_then ?_
  refine c_seq ?_
  refine c_seq ?_
  refine c_region ?_
  refine l_call rfl rfl rfl (cl_value (fst := []) (cap := []) (vs := []) (all := []) tf98 rfl rfl rfl) ?_
  intro w hw
  obtain ⟨β1, sb, kn, hw1, back⟩ := St.frame_all hw
  refine (awake_ok β1 w hw1).mono ?_
  rintro e w' ⟨rfl, hw'⟩
  refine ⟨_, rfl, _, back _ _ hw', ?_⟩
  clear hw hw1 hw' back kn sb
  refine l_val (v := .bool false) rfl rfl rfl (e_not (a := true) rfl) ?_
  refine l_nil ?_
  refine f_then ?_
  refine c_no rfl ?_
  refine c_skip ?_
  refine f_then ?_
  refine c_seq ?_
  refine c_region ?_
  refine l_val (v := .slice va (fs.length) (vc)) rfl rfl rfl (e_move) ?_
  refine l_call rfl rfl rfl (cl_value (fst := []) (cap := []) (vs := [.slice va (fs.length) (vc)]) (all := [.slice va (fs.length) (vc)]) tf102 rfl rfl rfl) ?_
  intro w hw
  obtain ⟨β1, sb, kn, hw1, back⟩ := St.frame_all hw
  refine (list_ok β1 w hw1 _ fs (Sl.mono _ _ _ _ _ sb (⟨⟨_, _, rfl, vl, vm, ve⟩⟩ : Sl FormF.R _ _ fs))).mono ?_
  rintro e w' ⟨p1, c2, rfl, hw'⟩
  refine ⟨_, rfl, _, back _ _ hw', ?_⟩
  clear hw hw1 hw' back kn sb
  refine l_val (v := .slice p1 ((listA fs).length) c2) rfl rfl rfl (e_assign) ?_
  refine l_nil ?_
  refine f_then ?_
  refine c_seq ?_
  generalize hlE : listA fs = l
  have hl40 : l.length ≤ 40 := hlE ▸ listA_len fs
  have hok : ∀ z ∈ l, okA z := fun z hz => listA_ok (l := fs) (hlE ▸ hz)
  refine c_region ?_
  refine l_val (v := .slice p1 (l.length) c2) rfl rfl rfl (e_move) ?_
  refine l_call rfl rfl rfl (cl_value (fst := []) (cap := []) (vs := [.slice p1 (l.length) c2]) (all := [.slice p1 (l.length) c2]) tf73 rfl rfl rfl) ?_
  intro w hw
  obtain ⟨β1, sb, kn, hw1, back⟩ := St.frame_all hw
  refine (pairs_ok β1 w hw1 _ l (kn _ (k_flN 0 (F := AreaF) (m := l.length) rfl rfl)) (by omega)).mono ?_
  rintro e w' ⟨p3, c4, rfl, hw'⟩
  refine ⟨_, rfl, _, back _ _ hw', ?_⟩
  clear hw hw1 hw' back kn sb
  refine l_val (v := .tuple #[.slice p3 ((pairsX l).length) c4, Ix (errP l)]) rfl rfl rfl (e_move) ?_
  refine l_val (v := .slice p3 ((pairsX l).length) c4) rfl rfl rfl (e_extract (vs := #[.slice p3 ((pairsX l).length) c4, Ix (errP l)]) rfl rfl) ?_
  refine l_val (v := Ix (errP l)) rfl rfl rfl (e_extract (vs := #[.slice p3 ((pairsX l).length) c4, Ix (errP l)]) rfl rfl) ?_
  refine l_val (v := .slice p3 ((pairsX l).length) c4) rfl rfl rfl (e_assign) ?_
  refine l_val (v := Ix (errP l)) rfl rfl rfl (e_assign) ?_
  refine l_nil ?_
  refine f_then ?_
  refine c_seq ?_
  refine c_region ?_
  refine l_val (v := .slice p1 (l.length) c2) rfl rfl rfl (e_move) ?_
  refine l_call rfl rfl rfl (cl_value (fst := []) (cap := []) (vs := [.slice p1 (l.length) c2, .int .i64 (3)]) (all := [.slice p1 (l.length) c2, .int .i64 (3)]) tf103 rfl rfl rfl) ?_
  intro w hw
  obtain ⟨β1, sb, kn, hw1, back⟩ := St.frame_all hw
  refine (filled_ok β1 w hw1 _ l 3 (kn _ (k_flN 1 (F := AreaF) (m := l.length) rfl rfl)) (by decide) (by decide) hl40 hok).mono ?_
  rintro e w' ⟨b5, rfl, hw'⟩
  refine ⟨_, rfl, _, back _ _ hw', ?_⟩
  clear hw hw1 hw' back kn sb
  refine l_val (v := .tuple #[.pointer (some ⟨b5, 0, none⟩), .bool true]) rfl rfl rfl (e_move) ?_
  refine l_val (v := .pointer (some ⟨b5, 0, none⟩)) rfl rfl rfl (e_extract (vs := #[.pointer (some ⟨b5, 0, none⟩), .bool true]) rfl rfl) ?_
  refine l_val (v := .bool true) rfl rfl rfl (e_extract (vs := #[.pointer (some ⟨b5, 0, none⟩), .bool true]) rfl rfl) ?_
  refine l_val (v := .pointer (some ⟨b5, 0, none⟩)) rfl rfl rfl (e_assign) ?_
  refine l_val (v := .bool true) rfl rfl rfl (e_assign) ?_
  refine l_nil ?_
  refine f_then ?_
  refine c_seq ?_
  refine c_seq ?_
  refine c_region ?_
  refine l_val (v := Ix (errP l)) rfl rfl rfl (e_move) ?_
  refine l_val (v := .bool (decide ((errP l) ≠ (0 : Int)))) rfl rfl rfl (e_neq (a := (errP l)) (b := (0 : Int)) rfl rfl) ?_
  refine l_val (v := .bool (decide ((errP l) ≠ (0 : Int)))) rfl rfl rfl (e_move) ?_
  refine l_split (s := 28) (p := (errP l) ≠ (0 : Int)) rfl (fun h => ?_) (fun h => ?_)
  exact absurd h (fun q => q (errP_ok ⟨hok, by omega⟩))
  refine g_val (v := .bool true) rfl rfl rfl rfl rfl (e_move) ?_
  refine g_val (v := .bool false) rfl rfl rfl rfl rfl (e_not (a := true) rfl) ?_
  refine l_val (v := .bool false) rfl rfl rfl (e_pick_f rfl) ?_
  refine l_nil ?_
  refine f_then ?_
  refine c_no rfl ?_
  refine c_skip ?_
  refine f_then ?_
  refine c_seq ?_
  refine c_region ?_
  refine l_val (v := .pointer (some ⟨b5, 0, none⟩)) rfl rfl rfl (e_move) ?_
  refine l_call rfl rfl rfl (cl_value (fst := []) (cap := []) (vs := [.pointer (some ⟨b5, 0, none⟩)]) (all := [.pointer (some ⟨b5, 0, none⟩)]) tf76 rfl rfl rfl) ?_
  intro w hw
  replace hw := hw.perm (L' := _ :: _ :: _ :: []) (by exact (((perm_front 2 rfl).trans (perm_front 2 rfl)).trans (perm_front 2 rfl)))
  obtain ⟨β1, sb, kn, hw1, back⟩ := St.frame (L := [_]) (M := _ :: _ :: []) hw
  refine (spairsx_ok β1 w b5 (fillS l 3) hw1 (fill_okS (by decide) (by omega) hok)).mono ?_
  rintro e w' ⟨p6, c7, rfl, hw'⟩
  refine ⟨_, rfl, _, back _ _ hw', ?_⟩
  clear hw hw1 hw' back kn sb
  refine l_val (v := .slice p6 ((pairsS (fillS l 3)).length) c7) rfl rfl rfl (e_assign) ?_
  refine l_nil ?_
  refine f_then ?_
  refine c_seq ?_
  rw [show pairsX l = pairsT (things l 0) from (pairsX_ok ⟨hok, by omega⟩).trans (pairsA_eq l), pairs_fill (by decide)]
  have hT40 := pairs_len hl40
  generalize hTE : pairsT (things l 0) = T
  rw [hTE] at hT40
  have hTm : (T.map (scaleP 3)).length = T.length := List.length_map _
  refine c_region ?_
  refine l_val (v := .int .i64 (0)) rfl rfl rfl (e_assign) ?_
  refine l_nil ?_
  refine f_then ?_
  refine c_seq ?_
  refine c_seq ?_
  refine c_region ?_
  refine l_val (v := .slice p1 (l.length) c2) rfl rfl rfl (e_move) ?_
  refine l_val (v := Nx (l.length)) rfl rfl rfl (e_len (a := p1) (n := l.length) (c := c2) rfl tf42) ?_
  refine l_val (v := .int .i64 (0)) rfl rfl rfl (e_move) ?_
  refine l_nil ?_
  refine f_then ?_
  refine c_block ?_
  refine c_loop (fun (x_ : Nat × Nat) (f : Fm) (L : List Res) => match x_ with | (i, n) => (f 3 = .slice p1 (l.length) c2 ∧ f 4 = .slice p3 (T.length) c4 ∧ f 8 = .slice p6 ((T.map (scaleP 3)).length) c7 ∧ f 9 = Nx (n) ∧ f 35 = Nx (l.length) ∧ f 36 = Nx (i)) ∧ L = [rowF PairF 40 p6 c7 (T.map (scaleP 3)), spcR b5 (fillS l 3), rowF PairF 40 p3 c4 T, rowF AreaF 25 p1 c2 l] ∧ (i ≤ l.length ∧ n = posP l i (i + 1))) (fun (x_ : Nat × Nat) => match x_ with | (i, n) => l.length - i) (0, 0) ?_ ?_
  · exact ⟨⟨rfl, rfl, rfl, rfl, rfl, rfl⟩, rfl, ⟨by omega, pos_start l⟩⟩
  rintro ⟨i, n⟩ f0 L0 ⟨⟨hs3, hs4, hs8, hs9, hs35, hs36⟩, hL, ⟨hi, hn0⟩⟩
  subst L0
  refine rebase (d := 3) hs3 ?_
  refine rebase (d := 4) hs4 ?_
  refine rebase (d := 8) hs8 ?_
  refine rebase (d := 9) hs9 ?_
  refine rebase (d := 35) hs35 ?_
  refine rebase (d := 36) hs36 ?_
  clear hs3 hs4 hs8 hs9 hs35 hs36
  refine c_seq ?_
  refine c_region ?_
  refine l_val (v := .bool (decide (((i : Nat) : Int) < ((l.length : Nat) : Int)))) rfl rfl rfl (e_lss (a := ((i : Nat) : Int)) (b := ((l.length : Nat) : Int)) rfl rfl) ?_
  refine l_nil ?_
  refine f_then ?_
  refine c_seq ?_
  refine c_if (((i : Nat) : Int) < ((l.length : Nat) : Int)) rfl (fun hc8 => ?_) (fun hc8 => ?_)
  ·
    refine c_skip ?_
    refine f_then ?_
    refine c_seq ?_
    refine c_block ?_
    refine c_seq ?_
    refine c_region ?_
    refine l_val (v := Nx (i)) rfl rfl rfl (e_move) ?_
    refine l_val (v := Nx (i)) rfl rfl rfl (e_assign) ?_
    refine l_nil ?_
    refine f_then ?_
    refine c_seq ?_
    refine c_region ?_
    refine l_val (v := Nx (i)) rfl rfl rfl (e_move) ?_
    refine l_val (v := Nx (i + 1)) rfl rfl rfl (e_add (a := ((i : Nat) : Int)) (b := (1 : Int)) rfl rfl (i64n (by omega) (by omega))) ?_
    refine l_val (v := Nx (i + 1)) rfl rfl rfl (e_assign) ?_
    refine l_nil ?_
    refine f_then ?_
    refine c_block ?_
    refine c_loop (fun (x_ : Nat × Nat) (f : Fm) (L : List Res) => match x_ with | (k, n) => (f 3 = .slice p1 (l.length) c2 ∧ f 4 = .slice p3 (T.length) c4 ∧ f 8 = .slice p6 ((T.map (scaleP 3)).length) c7 ∧ f 9 = Nx (n) ∧ f 10 = Nx (i) ∧ f 11 = Nx (k) ∧ f 35 = Nx (l.length) ∧ f 36 = Nx (i)) ∧ L = [rowF PairF 40 p6 c7 (T.map (scaleP 3)), spcR b5 (fillS l 3), rowF PairF 40 p3 c4 T, rowF AreaF 25 p1 c2 l] ∧ (i + 1 ≤ k ∧ k ≤ l.length ∧ n = posP l i k)) (fun (x_ : Nat × Nat) => match x_ with | (k, n) => l.length - k) ((i + 1), n) ?_ ?_
    · exact ⟨⟨rfl, rfl, rfl, rfl, rfl, rfl, rfl, rfl⟩, rfl, ⟨by omega, by omega, hn0⟩⟩
    rintro ⟨k, n⟩ f0 L0 ⟨⟨hs3, hs4, hs8, hs9, hs10, hs11, hs35, hs36⟩, hL, ⟨hik, hk, hn⟩⟩
    subst L0
    refine rebase (d := 3) hs3 ?_
    refine rebase (d := 4) hs4 ?_
    refine rebase (d := 8) hs8 ?_
    refine rebase (d := 9) hs9 ?_
    refine rebase (d := 10) hs10 ?_
    refine rebase (d := 11) hs11 ?_
    refine rebase (d := 35) hs35 ?_
    refine rebase (d := 36) hs36 ?_
    clear hs3 hs4 hs8 hs9 hs10 hs11 hs35 hs36
    have hp1 : n ≤ 1600 := by have := pos_le hTE (i := i) (k := k) (by omega) hik (by omega); omega
    refine c_seq ?_
    refine c_seq ?_
    refine c_region ?_
    refine l_val (v := Nx (k)) rfl rfl rfl (e_move) ?_
    refine l_val (v := .slice p1 (l.length) c2) rfl rfl rfl (e_move) ?_
    refine l_val (v := Nx (l.length)) rfl rfl rfl (e_len (a := p1) (n := l.length) (c := c2) rfl tf42) ?_
    refine l_val (v := .bool (decide (((k : Nat) : Int) < ((l.length : Nat) : Int)))) rfl rfl rfl (e_lss (a := ((k : Nat) : Int)) (b := ((l.length : Nat) : Int)) rfl rfl) ?_
    refine l_nil ?_
    refine f_then ?_
    refine c_if (((k : Nat) : Int) < ((l.length : Nat) : Int)) rfl (fun hc9 => ?_) (fun hc9 => ?_)
    ·
      refine c_skip ?_
      refine f_then ?_
      refine c_seq ?_
      refine c_block ?_
      refine c_seq ?_
      refine c_seq ?_
      refine c_quiet (by kernel_rfl) (by kernel_rfl) ?_
      refine q_val (v := .slice p1 (l.length) c2) rfl rfl rfl (e_move) ?_
      refine q_val (v := Nx (i)) rfl rfl rfl (e_move) ?_
      refine q_val (v := .pointer (some ((ba p1).add (i * 4)))) rfl rfl rfl (e_indexFlN 3 (F := AreaF) (j := i) (m := l.length) (xs := l) rfl rfl rfl tf43 (by omega) rfl) ?_
      obtain ⟨x, hx⟩ : ∃ x_, l[i]? = some x_ := ⟨_, List.getElem?_eq_getElem (by omega)⟩
      refine q_val (v := .agg (aC x)) rfl rfl rfl (e_load tf10 (cs := (areaE x)) rfl (k_flAt 3 (F := AreaF) rfl hx) rfl) ?_
      refine q_val (v := .slice p1 (l.length) c2) rfl rfl rfl (e_move) ?_
      refine q_val (v := Nx (k)) rfl rfl rfl (e_move) ?_
      refine q_val (v := .pointer (some ((ba p1).add (k * 4)))) rfl rfl rfl (e_indexFlN 3 (F := AreaF) (j := k) (m := l.length) (xs := l) rfl rfl rfl tf43 (by omega) rfl) ?_
      obtain ⟨y, hy⟩ : ∃ x_, l[k]? = some x_ := ⟨_, List.getElem?_eq_getElem (by omega)⟩
      refine q_val (v := .agg (aC y)) rfl rfl rfl (e_load tf10 (cs := (areaE y)) rfl (k_flAt 3 (F := AreaF) rfl hy) rfl) ?_
      refine q_call (v := .bool (decide (touchA x y))) rfl rfl rfl (cl_value (fst := []) (cap := []) (vs := [.agg (aC x), .agg (aC y)]) (all := [.agg (aC x), .agg (aC y)]) tf100 rfl rfl rfl) (fun w hw => ?_) ?_
      · obtain ⟨β1, sb, kn, hw1, back⟩ := St.frame_all hw
        exact (touch_ok β1 w hw1 x y).mono (fun e w' ⟨he, hw'⟩ => ⟨he, st_mask [true, true, true, true] rfl (back _ _ hw')⟩)
      refine q_val (v := .bool (decide (¬ (touchA x y)))) rfl rfl rfl (e_not_p (p := touchA x y) rfl) ?_
      refine q_nil ?_
      refine f_then ?_
      refine c_if (¬ (touchA x y)) rfl (fun hc10 => ?_) (fun hc10 => ?_)
      ·
        refine c_exit ?_
        refine f_then_exit ?_
        refine f_exit ?_
        refine f_then ?_
        refine c_region ?_
        refine l_val (v := Nx (k)) rfl rfl rfl (e_move) ?_
        refine l_val (v := Nx (k + 1)) rfl rfl rfl (e_add (a := ((k : Nat) : Int)) (b := (1 : Int)) rfl rfl (i64n (by omega) (by omega))) ?_
        refine l_val (v := Nx (k + 1)) rfl rfl rfl (e_assign) ?_
        refine l_nil ?_
        exact f_cut ⟨(k + 1, n), ⟨⟨rfl, rfl, rfl, rfl, rfl, rfl, rfl, rfl⟩, rfl, ⟨by omega, by omega, pos_no hx hy hik hc10 hn⟩⟩, (show l.length - (k + 1) < l.length - k from by omega)⟩
      ·
        refine c_skip ?_
        refine f_then ?_
        refine c_seq ?_
        refine c_seq ?_
        obtain ⟨hq1, hq2⟩ := pos_yes hx hy hik (Decidable.not_not.1 hc10) hn
        rw [hTE] at hq1
        have hlt := (List.getElem?_eq_some_iff.1 hq1).1
        refine c_region ?_
        refine l_val (v := Nx (n)) rfl rfl rfl (e_move) ?_
        refine l_val (v := .slice p3 (T.length) c4) rfl rfl rfl (e_move) ?_
        refine l_val (v := Nx (T.length)) rfl rfl rfl (e_len (a := p3) (n := T.length) (c := c4) rfl tf65) ?_
        refine l_val (v := .bool (decide (((T.length : Nat) : Int) ≤ ((n : Nat) : Int)))) rfl rfl rfl (e_geq (a := ((n : Nat) : Int)) (b := ((T.length : Nat) : Int)) rfl rfl) ?_
        refine l_val (v := .bool (decide (((T.length : Nat) : Int) ≤ ((n : Nat) : Int)))) rfl rfl rfl (e_move) ?_
        refine l_split (s := 61) (p := ((T.length : Nat) : Int) ≤ ((n : Nat) : Int)) rfl (fun h => ?_) (fun h => ?_)
        exact absurd h (fun q => by omega)
        refine g_val (v := Nx (n)) rfl rfl rfl rfl rfl (e_move) ?_
        refine g_val (v := .slice p6 ((T.map (scaleP 3)).length) c7) rfl rfl rfl rfl rfl (e_move) ?_
        refine g_val (v := Nx ((T.map (scaleP 3)).length)) rfl rfl rfl rfl rfl (e_len (a := p6) (n := (T.map (scaleP 3)).length) (c := c7) rfl tf65) ?_
        refine g_val (v := .bool (decide ((((T.map (scaleP 3)).length : Nat) : Int) ≤ ((n : Nat) : Int)))) rfl rfl rfl rfl rfl (e_geq (a := ((n : Nat) : Int)) (b := (((T.map (scaleP 3)).length : Nat) : Int)) rfl rfl) ?_
        refine l_val (v := .bool (decide ((((T.map (scaleP 3)).length : Nat) : Int) ≤ ((n : Nat) : Int)))) rfl rfl rfl (e_pick_f rfl) ?_
        refine l_val (v := .bool (decide ((((T.map (scaleP 3)).length : Nat) : Int) ≤ ((n : Nat) : Int)))) rfl rfl rfl (e_move) ?_
        refine l_split (s := 67) (p := (((T.map (scaleP 3)).length : Nat) : Int) ≤ ((n : Nat) : Int)) rfl (fun h => ?_) (fun h => ?_)
        exact absurd h (fun q => by omega)
        refine g_val (v := .slice p3 (T.length) c4) rfl rfl rfl rfl rfl (e_move) ?_
        refine g_val (v := Nx (n)) rfl rfl rfl rfl rfl (e_move) ?_
        refine g_val (v := .pointer (some ((ba p3).add (n * 2)))) rfl rfl rfl rfl rfl (e_indexFlN 2 (F := PairF) (j := n) (m := T.length) (xs := T) rfl rfl rfl tf37 (by omega) rfl) ?_
        obtain ⟨u, hu⟩ : ∃ x_, T[n]? = some x_ := ⟨_, List.getElem?_eq_getElem (by omega)⟩
        refine g_val (v := .agg #[Ix (u.a), Ix (u.b)]) rfl rfl rfl rfl rfl (e_load tf35 (cs := [Ix (u.a), Ix (u.b)]) rfl (k_flAt 2 (F := PairF) rfl hu) rfl) ?_
        refine g_val (v := Nx (i)) rfl rfl rfl rfl rfl (e_move) ?_
        refine g_val (v := Nx (k)) rfl rfl rfl rfl rfl (e_move) ?_
        refine g_val (v := .agg #[Nx (i), Nx (k)]) rfl rfl rfl rfl rfl (e_build tf33 tf32 (vs := [(0, Nx (i)), (1, Nx (k))]) (cells := #[Nx (i), Nx (k)]) rfl rfl) ?_
        refine g_val (v := .bool (decide (¬ (u = (⟨((i : Nat) : Int), ((k : Nat) : Int)⟩ : KP))))) rfl rfl rfl rfl rfl (e_neq_t (xs := pairE u) (ys := pairE (⟨((i : Nat) : Int), ((k : Nat) : Int)⟩ : KP)) tf68 tf69 tf70 rfl rfl rfl rfl (not_congr (pair_eq (x := u) (y := (⟨((i : Nat) : Int), ((k : Nat) : Int)⟩ : KP))))) ?_
        refine l_val (v := .bool (decide (¬ (u = (⟨((i : Nat) : Int), ((k : Nat) : Int)⟩ : KP))))) rfl rfl rfl (e_pick_f rfl) ?_
        refine l_val (v := .bool (decide (¬ (u = (⟨((i : Nat) : Int), ((k : Nat) : Int)⟩ : KP))))) rfl rfl rfl (e_move) ?_
        refine l_split (s := 77) (p := ¬ (u = (⟨((i : Nat) : Int), ((k : Nat) : Int)⟩ : KP))) rfl (fun h => ?_) (fun h => ?_)
        exact absurd h (fun q => q (by have e := hu.symm.trans hq1; injection e))
        refine g_val (v := .slice p6 ((T.map (scaleP 3)).length) c7) rfl rfl rfl rfl rfl (e_move) ?_
        refine g_val (v := Nx (n)) rfl rfl rfl rfl rfl (e_move) ?_
        refine g_val (v := .pointer (some ((ba p6).add (n * 2)))) rfl rfl rfl rfl rfl (e_indexFlN 0 (F := PairF) (j := n) (m := (T.map (scaleP 3)).length) (xs := (T.map (scaleP 3))) rfl rfl rfl tf37 (by omega) rfl) ?_
        obtain ⟨v, hv⟩ : ∃ x_, (T.map (scaleP 3))[n]? = some x_ := ⟨_, List.getElem?_eq_getElem (by omega)⟩
        refine g_val (v := .agg #[Ix (v.a), Ix (v.b)]) rfl rfl rfl rfl rfl (e_load tf35 (cs := [Ix (v.a), Ix (v.b)]) rfl (k_flAt 0 (F := PairF) rfl hv) rfl) ?_
        refine g_val (v := Nx (i)) rfl rfl rfl rfl rfl (e_move) ?_
        refine g_val (v := Nx (3 * i)) rfl rfl rfl rfl rfl (e_mul (a := (3 : Int)) (b := ((i : Nat) : Int)) rfl rfl (i64n (by omega) (by omega))) ?_
        refine g_val (v := Nx (k)) rfl rfl rfl rfl rfl (e_move) ?_
        refine g_val (v := Nx (3 * k)) rfl rfl rfl rfl rfl (e_mul (a := (3 : Int)) (b := ((k : Nat) : Int)) rfl rfl (i64n (by omega) (by omega))) ?_
        refine g_val (v := .agg #[Nx (3 * i), Nx (3 * k)]) rfl rfl rfl rfl rfl (e_build tf33 tf32 (vs := [(0, Nx (3 * i)), (1, Nx (3 * k))]) (cells := #[Nx (3 * i), Nx (3 * k)]) rfl rfl) ?_
        refine g_val (v := .bool (decide (¬ (v = (⟨((3 * i : Nat) : Int), ((3 * k : Nat) : Int)⟩ : KP))))) rfl rfl rfl rfl rfl (e_neq_t (xs := pairE v) (ys := pairE (⟨((3 * i : Nat) : Int), ((3 * k : Nat) : Int)⟩ : KP)) tf68 tf69 tf70 rfl rfl rfl rfl (not_congr (pair_eq (x := v) (y := (⟨((3 * i : Nat) : Int), ((3 * k : Nat) : Int)⟩ : KP))))) ?_
        refine l_val (v := .bool (decide (¬ (v = (⟨((3 * i : Nat) : Int), ((3 * k : Nat) : Int)⟩ : KP))))) rfl rfl rfl (e_pick_f rfl) ?_
        refine l_nil ?_
        refine f_then ?_
        refine c_if (¬ (v = (⟨((3 * i : Nat) : Int), ((3 * k : Nat) : Int)⟩ : KP))) rfl (fun hc11 => ?_) (fun hc11 => ?_)
        ·
          exact absurd hc11 (fun q => q (scale_at hv hq1))
        ·
          refine c_skip ?_
          refine f_then ?_
          refine c_region ?_
          refine l_val (v := Nx (n)) rfl rfl rfl (e_move) ?_
          refine l_val (v := Nx (n + 1)) rfl rfl rfl (e_add (a := ((n : Nat) : Int)) (b := (1 : Int)) rfl rfl (i64n (by omega) (by omega))) ?_
          refine l_val (v := Nx (n + 1)) rfl rfl rfl (e_assign) ?_
          refine l_nil ?_
          refine f_block ?_
          refine f_then ?_
          refine c_region ?_
          refine l_val (v := Nx (k)) rfl rfl rfl (e_move) ?_
          refine l_val (v := Nx (k + 1)) rfl rfl rfl (e_add (a := ((k : Nat) : Int)) (b := (1 : Int)) rfl rfl (i64n (by omega) (by omega))) ?_
          refine l_val (v := Nx (k + 1)) rfl rfl rfl (e_assign) ?_
          refine l_nil ?_
          exact f_cut ⟨(k + 1, n + 1), ⟨⟨rfl, rfl, rfl, rfl, rfl, rfl, rfl, rfl⟩, rfl, ⟨by omega, by omega, hq2⟩⟩, (show l.length - (k + 1) < l.length - k from by omega)⟩
    ·
      refine c_exit ?_
      refine f_then_exit ?_
      refine f_then_exit ?_
      refine f_exit ?_
      refine f_block ?_
      refine f_then ?_
      refine c_region ?_
      refine l_val (v := Nx (i + 1)) rfl rfl rfl (e_add (a := ((i : Nat) : Int)) (b := (1 : Int)) rfl rfl (i64n (by omega) (by omega))) ?_
      refine l_val (v := Nx (i + 1)) rfl rfl rfl (e_move) ?_
      refine l_nil ?_
      exact f_cut ⟨(i + 1, n), ⟨⟨rfl, rfl, rfl, rfl, rfl, rfl⟩, rfl, ⟨by omega, by obtain rfl : k = l.length := (by omega); exact hn.trans (pos_row l i)⟩⟩, (show l.length - (i + 1) < l.length - i from by omega)⟩
  ·
    refine c_exit ?_
    refine f_then_exit ?_
    refine f_then_exit ?_
    refine f_exit ?_
    refine f_then ?_
    refine c_seq ?_
    obtain rfl : i = l.length := by omega
    have hne : n = T.length := (hn0.trans (pos_end l)).trans (by rw [hTE])
    refine c_region ?_
    refine l_val (v := Nx (n)) rfl rfl rfl (e_move) ?_
    refine l_val (v := .slice p3 (T.length) c4) rfl rfl rfl (e_move) ?_
    refine l_val (v := Nx (T.length)) rfl rfl rfl (e_len (a := p3) (n := T.length) (c := c4) rfl tf65) ?_
    refine l_val (v := .bool (decide (((n : Nat) : Int) = ((T.length : Nat) : Int)))) rfl rfl rfl (e_eql (a := ((n : Nat) : Int)) (b := ((T.length : Nat) : Int)) rfl rfl) ?_
    refine l_val (v := .bool (decide (((n : Nat) : Int) = ((T.length : Nat) : Int)))) rfl rfl rfl (e_move) ?_
    refine l_split (s := 96) (p := ((n : Nat) : Int) = ((T.length : Nat) : Int)) rfl (fun h => ?_) (fun h => ?_)
    rotate_left; exact absurd (by omega) h
    refine g_val (v := Nx (n)) rfl rfl rfl rfl rfl (e_move) ?_
    refine g_val (v := .slice p6 ((T.map (scaleP 3)).length) c7) rfl rfl rfl rfl rfl (e_move) ?_
    refine g_val (v := Nx ((T.map (scaleP 3)).length)) rfl rfl rfl rfl rfl (e_len (a := p6) (n := (T.map (scaleP 3)).length) (c := c7) rfl tf65) ?_
    refine g_val (v := .bool (decide (((n : Nat) : Int) = (((T.map (scaleP 3)).length : Nat) : Int)))) rfl rfl rfl rfl rfl (e_eql (a := ((n : Nat) : Int)) (b := (((T.map (scaleP 3)).length : Nat) : Int)) rfl rfl) ?_
    refine l_val (v := .bool (decide (((n : Nat) : Int) = (((T.map (scaleP 3)).length : Nat) : Int)))) rfl rfl rfl (e_pick_t rfl) ?_
    refine l_val (v := .bool (decide (((n : Nat) : Int) = (((T.map (scaleP 3)).length : Nat) : Int)))) rfl rfl rfl (e_assign) ?_
    refine l_nil ?_
    refine f_then ?_
    refine c_ret ?_
    refine ret1 Try.results4 (v := .bool (decide (((n : Nat) : Int) = (((T.map (scaleP 3)).length : Nat) : Int)))) rfl ?_
    intro w hw
    exact ⟨congrArg (fun b : Bool => Ending.returned (.bool b)) (decide_eq_true (by omega)), st_mask [false, false, false, false] rfl hw⟩
end Go.Proofs
