/-
  BroadOrder: walked. Printed by a program of my own.
-/
import Derived.Test.YtmgpmgckbcjalaaBr14
import Derived.Test.YtmgpmgckbcjalaaBrLaw3
namespace Go.Proofs
open Go Go.Sl Go.Brd
theorem tf117 : cfB Try.prog 28 = true := by kernel_rfl
set_option maxHeartbeats 4000000 in
theorem orderL_ok (β : Base) (w : World) (hw : St β [] w) (v : Value) (fs : List KF) (turn : UInt8) (hs : Sl FormF.R β.heap v fs) : Calls Try.prog 8 #[v, Bx turn] w fun r w' => r = .returned (.bool true) ∧ St β [] w' := by
  obtain ⟨va, vc, rfl, vl, vm, ve⟩ := hs.get
  refine enter (n := 173) Try.func8 rfl Try.ntmps8 rfl ?_ hw
  refine c_seq ?_
  refine c_region ?_
  refine l_val (v := .bool false) rfl rfl rfl (e_assign) ?_
  refine l_nil ?_
  refine f_then ?_
  refine c_seq ?_
  refine c_seq ?_
  refine c_region ?_
  refine l_call rfl rfl rfl (cl_value (fst := []) (cap := []) (vs := []) (all := []) tf98 rfl rfl rfl) ?_
  intro w hw
  obtain ⟨β1, sb, kn, hw1, back⟩ := St.frame_all hw
  refine (awake_ok β1 w hw1).mono ?_
  rintro e w' ⟨rfl, hw'⟩
  refine ⟨_, rfl, _, back _ _ hw', ?_⟩
  clear hw hw1 hw' back kn sb
  refine l_val (v := .bool false) rfl rfl rfl (e_not (a := true) rfl) ?_
  refine l_nil ?_
  refine f_then ?_
  refine c_no rfl ?_
  refine c_skip ?_
  refine f_then ?_
  refine c_seq ?_
  refine c_region ?_
  refine l_val (v := .slice va (fs.length) (vc)) rfl rfl rfl (e_move) ?_
  refine l_call rfl rfl rfl (cl_value (fst := []) (cap := []) (vs := [.slice va (fs.length) (vc)]) (all := [.slice va (fs.length) (vc)]) tf102 rfl rfl rfl) ?_
  intro w hw
  obtain ⟨β1, sb, kn, hw1, back⟩ := St.frame_all hw
  refine (list_ok β1 w hw1 _ fs (Sl.mono _ _ _ _ _ sb (⟨⟨_, _, rfl, vl, vm, ve⟩⟩ : Sl FormF.R _ _ fs))).mono ?_
  rintro e w' ⟨p1, c2, rfl, hw'⟩
  refine ⟨_, rfl, _, back _ _ hw', ?_⟩
  clear hw hw1 hw' back kn sb
  refine l_val (v := .slice p1 ((listA fs).length) c2) rfl rfl rfl (e_assign) ?_
  refine l_nil ?_
  refine f_then ?_
  refine c_seq ?_
  refine c_region ?_
  refine l_val (v := .slice p1 ((listA fs).length) c2) rfl rfl rfl (e_move) ?_
  refine l_val (v := Nx ((listA fs).length)) rfl rfl rfl (e_len (a := p1) (n := (listA fs).length) (c := c2) rfl tf42) ?_
  refine l_val (v := Nx (min ((listA fs).length) 30)) rfl rfl rfl (ev_eq (congrArg (Value.int .i64) (by omega)) (e_min (a := (((listA fs).length : Nat) : Int)) (b := (30 : Int)) rfl rfl)) ?_
  refine l_val (v := Nx (min ((listA fs).length) 30)) rfl rfl rfl (e_assign) ?_
  refine l_nil ?_
  refine f_then ?_
  refine c_seq ?_
  refine c_rowcap 0 rfl (fun hcl hcm => ?_)
  refine c_region ?_
  refine l_val (v := .slice p1 ((listA fs).length) c2) rfl rfl rfl (e_move) ?_
  refine l_val (v := Nx (min ((listA fs).length) 30)) rfl rfl rfl (e_move) ?_
  refine l_val (v := .slice p1 (min ((listA fs).length) 30) c2) rfl rfl rfl (e_slice_hi (a := p1) (len := (listA fs).length) (cap := c2) (h := min ((listA fs).length) 30) tf43 rfl rfl (by omega)) ?_
  refine l_val (v := .slice p1 (min ((listA fs).length) 30) c2) rfl rfl rfl (e_assign) ?_
  refine l_nil ?_
  refine f_then ?_
  refine c_seq ?_
  refine c_conseq 0 (r' := rowF AreaF 25 p1 c2 ((listA fs).take (min ((listA fs).length) 30))) rfl (fun a h => rowF_take (by omega) a h) ?_
  obtain ⟨l, hlE⟩ : ∃ z, z = (listA fs).take (min ((listA fs).length) 30) := ⟨_, rfl⟩
  have hln : l.length = min ((listA fs).length) 30 := by rw [hlE, List.length_take]; omega
  rw [← hlE, ← hln]
  have h30 : l.length ≤ 30 := by omega
  have hl40 : l.length ≤ 40 := by omega
  have hok : ∀ z ∈ l, okA z := fun z hz => listA_ok (l := fs) (List.mem_of_mem_take (hlE ▸ hz))
  have htu := u8_lt turn
  refine c_region ?_
  refine l_val (v := .slice p1 (l.length) c2) rfl rfl rfl (e_move) ?_
  refine l_call rfl rfl rfl (cl_value (fst := []) (cap := []) (vs := [.slice p1 (l.length) c2, .int .i64 (1)]) (all := [.slice p1 (l.length) c2, .int .i64 (1)]) tf103 rfl rfl rfl) ?_
  intro w hw
  obtain ⟨β1, sb, kn, hw1, back⟩ := St.frame_all hw
  refine (filled_ok β1 w hw1 _ l 1 (kn _ (k_flN 0 (F := AreaF) (m := l.length) rfl rfl)) (by decide) (by decide) hl40 hok).mono ?_
  rintro e w' ⟨b3, rfl, hw'⟩
  refine ⟨_, rfl, _, back _ _ hw', ?_⟩
  clear hw hw1 hw' back kn sb
  refine l_val (v := .tuple #[.pointer (some ⟨b3, 0, none⟩), .bool true]) rfl rfl rfl (e_move) ?_
  refine l_val (v := .pointer (some ⟨b3, 0, none⟩)) rfl rfl rfl (e_extract (vs := #[.pointer (some ⟨b3, 0, none⟩), .bool true]) rfl rfl) ?_
  refine l_val (v := .bool true) rfl rfl rfl (e_extract (vs := #[.pointer (some ⟨b3, 0, none⟩), .bool true]) rfl rfl) ?_
  refine l_val (v := .pointer (some ⟨b3, 0, none⟩)) rfl rfl rfl (e_assign) ?_
  refine l_val (v := .bool true) rfl rfl rfl (e_assign) ?_
  refine l_nil ?_
  refine f_then ?_
  refine c_seq ?_
  refine c_region ?_
  refine l_call rfl rfl rfl (cl_value (fst := []) (cap := []) (vs := []) (all := []) tf74 rfl rfl rfl) ?_
  intro w hw
  obtain ⟨β1, sb, kn, hw1, back⟩ := St.frame_all hw
  refine (new_ok β1 w hw1).mono ?_
  rintro e w' ⟨b4, rfl, hw'⟩
  refine ⟨_, rfl, _, back _ _ hw', ?_⟩
  clear hw hw1 hw' back kn sb
  refine l_val (v := .pointer (some ⟨b4, 0, none⟩)) rfl rfl rfl (e_assign) ?_
  refine l_nil ?_
  refine f_then ?_
  refine c_seq ?_
  refine c_region ?_
  refine l_val (v := .slice none 0 0) rfl rfl rfl (e_assign) ?_
  refine l_nil ?_
  refine f_then ?_
  refine c_seq ?_
  refine c_seq ?_
  refine c_re (L' := [spcR b4 (ordS l turn.toNat 0), spcR b3 (fillS l 1), rowF AreaF 25 p1 c2 l]) rfl ?_
  refine c_emp (r := rowF AreaF 25 none 0 []) (row_nil _ _ _) ?_
  refine c_region ?_
  refine l_val (v := .int .i64 (0)) rfl rfl rfl (e_assign) ?_
  refine l_nil ?_
  refine f_then ?_
  refine c_block ?_
  refine c_loop (fun (x_ : Nat × List KA × Option Addr × Nat) (f : Fm) (L : List Res) => match x_ with | (i, ts, tp, tc) => (f 1 = .int .u8 (((turn.toNat : Nat)) : Int) ∧ f 5 = .slice p1 (l.length) c2 ∧ f 6 = Nx (l.length) ∧ f 7 = .pointer (some ⟨b3, 0, none⟩) ∧ f 8 = .bool true ∧ f 9 = .pointer (some ⟨b4, 0, none⟩) ∧ f 10 = .slice tp (ts.length) tc ∧ f 11 = Nx (i)) ∧ L = [rowF AreaF 25 tp tc ts, spcR b4 (ordS l turn.toNat i), spcR b3 (fillS l 1), rowF AreaF 25 p1 c2 l] ∧ (i ≤ l.length ∧ ts = rotL l turn.toNat i)) (fun (x_ : Nat × List KA × Option Addr × Nat) => match x_ with | (i, ts, tp, tc) => l.length - i) (0, [], none, 0) ?_ ?_
  · exact ⟨⟨rfl, rfl, rfl, rfl, rfl, rfl, rfl, rfl⟩, rfl, ⟨by omega, rfl⟩⟩
  rintro ⟨i, ts, tp, tc⟩ f0 L0 ⟨⟨hs1, hs5, hs6, hs7, hs8, hs9, hs10, hs11⟩, hL, ⟨hi, hts⟩⟩
  subst L0
  refine rebase (d := 1) hs1 ?_
  refine rebase (d := 5) hs5 ?_
  refine rebase (d := 6) hs6 ?_
  refine rebase (d := 7) hs7 ?_
  refine rebase (d := 8) hs8 ?_
  refine rebase (d := 9) hs9 ?_
  refine rebase (d := 10) hs10 ?_
  refine rebase (d := 11) hs11 ?_
  clear hs1 hs5 hs6 hs7 hs8 hs9 hs10 hs11
  have htl : ts.length = i := by rw [hts, rotL_len]
  refine c_seq ?_
  refine c_seq ?_
  refine c_region ?_
  refine l_val (v := Nx (i)) rfl rfl rfl (e_move) ?_
  refine l_val (v := Nx (l.length)) rfl rfl rfl (e_move) ?_
  refine l_val (v := .bool (decide (((i : Nat) : Int) < ((l.length : Nat) : Int)))) rfl rfl rfl (e_lss (a := ((i : Nat) : Int)) (b := ((l.length : Nat) : Int)) rfl rfl) ?_
  refine l_nil ?_
  refine f_then ?_
  refine c_if (((i : Nat) : Int) < ((l.length : Nat) : Int)) rfl (fun hc5 => ?_) (fun hc5 => ?_)
  ·
    refine c_skip ?_
    refine f_then ?_
    refine c_seq ?_
    refine c_block ?_
    refine c_seq ?_
    have hr1 := Nat.mod_lt (i + turn.toNat) (show 0 < l.length by omega)
    have hr2 := Nat.mod_lt ((i + turn.toNat) % l.length + 1) (show 0 < l.length by omega)
    refine c_region ?_
    refine l_val (v := Nx (i)) rfl rfl rfl (e_move) ?_
    refine l_val (v := .int .u8 (((turn.toNat : Nat)) : Int)) rfl rfl rfl (e_move) ?_
    refine l_val (v := Nx (turn.toNat)) rfl rfl rfl (e_conv (a := ((turn.toNat : Nat) : Int)) rfl ⟨_, tf88⟩ tf89 (i64n rfl (by omega))) ?_
    refine l_val (v := Nx (i + turn.toNat)) rfl rfl rfl (e_add (a := ((i : Nat) : Int)) (b := ((turn.toNat : Nat) : Int)) rfl rfl (i64n (by omega) (by omega))) ?_
    refine l_val (v := Nx (l.length)) rfl rfl rfl (e_move) ?_
    refine l_val (v := Nx ((i + turn.toNat) % l.length)) rfl rfl rfl (e_rem (a := ((i + turn.toNat : Nat) : Int)) (b := ((l.length : Nat) : Int)) rfl rfl (by omega) (nat_tmod _ _)) ?_
    refine l_val (v := Nx ((i + turn.toNat) % l.length)) rfl rfl rfl (e_assign) ?_
    refine l_nil ?_
    refine f_then ?_
    refine c_seq ?_
    refine c_seq ?_
    obtain ⟨x1, hx1⟩ : ∃ x_, l[(((i + turn.toNat) % l.length) + 1) % l.length]? = some x_ := ⟨_, List.getElem?_eq_getElem (by omega)⟩
    obtain ⟨x2, hx2⟩ : ∃ x_, l[(i + turn.toNat) % l.length]? = some x_ := ⟨_, List.getElem?_eq_getElem (by omega)⟩
    obtain ⟨x3, hx3⟩ : ∃ x_, l[i]? = some x_ := ⟨_, List.getElem?_eq_getElem (by omega)⟩
    obtain ⟨he1, he2, he3, hS4⟩ := ord_step h30 hok (by omega) hx1 hx2 hx3
    refine c_region ?_
    refine l_val (v := .pointer (some ⟨b4, 0, none⟩)) rfl rfl rfl (e_move) ?_
    refine l_val (v := Nx ((i + turn.toNat) % l.length)) rfl rfl rfl (e_move) ?_
    refine l_val (v := .slice p1 (l.length) c2) rfl rfl rfl (e_move) ?_
    refine l_val (v := Nx ((i + turn.toNat) % l.length)) rfl rfl rfl (e_move) ?_
    refine l_val (v := Nx (((i + turn.toNat) % l.length) + 1)) rfl rfl rfl (e_add (a := (((i + turn.toNat) % l.length : Nat) : Int)) (b := (1 : Int)) rfl rfl (i64n (by omega) (by omega))) ?_
    refine l_val (v := Nx (l.length)) rfl rfl rfl (e_move) ?_
    refine l_val (v := Nx ((((i + turn.toNat) % l.length) + 1) % l.length)) rfl rfl rfl (e_rem (a := ((((i + turn.toNat) % l.length) + 1 : Nat) : Int)) (b := ((l.length : Nat) : Int)) rfl rfl (by omega) (nat_tmod _ _)) ?_
    refine l_val (v := .pointer (some ((ba p1).add (((((i + turn.toNat) % l.length) + 1) % l.length) * 4)))) rfl rfl rfl (e_indexFlN 3 (F := AreaF) (j := (((i + turn.toNat) % l.length) + 1) % l.length) (m := l.length) (xs := l) rfl rfl rfl tf43 (by omega) rfl) ?_
    refine l_val (v := .agg (aC x1)) rfl rfl rfl (e_load tf10 (cs := (areaE x1)) rfl (k_flAt 3 (F := AreaF) rfl hx1) rfl) ?_
    refine l_call rfl rfl rfl (cl_value (fst := []) (cap := []) (vs := [.pointer (some ⟨b4, 0, none⟩), Nx ((i + turn.toNat) % l.length), .agg (aC x1)]) (all := [.pointer (some ⟨b4, 0, none⟩), Nx ((i + turn.toNat) % l.length), .agg (aC x1)]) tf75 rfl rfl rfl) ?_
    intro w hw
    replace hw := hw.perm (L' := _ :: _ :: _ :: _ :: []) (by exact ((((perm_front 3 rfl).trans (perm_front 3 rfl)).trans (perm_front 2 rfl)).trans (perm_front 3 rfl)))
    obtain ⟨β1, sb, kn, hw1, back⟩ := St.frame (L := [_]) (M := _ :: _ :: _ :: []) hw
    refine (put_ok' β1 w b4 (ordS l turn.toNat i) hw1 (ord_okS h30 hok (by omega)) (((i + turn.toNat) % l.length : Nat) : Int) x1).mono ?_
    rintro e w' ⟨rfl, hw'⟩
    refine ⟨_, rfl, _, back _ _ hw', ?_⟩
    clear hw hw1 hw' back kn sb
    have hpe := errPut_le (ordS l turn.toNat i) (((i + turn.toNat) % l.length : Nat) : Int) x1
    refine l_val (v := .bool (decide ((errPut (ordS l turn.toNat i) (((i + turn.toNat) % l.length : Nat) : Int) x1) ≠ (0 : Int)))) rfl rfl rfl (e_neq (a := (errPut (ordS l turn.toNat i) (((i + turn.toNat) % l.length : Nat) : Int) x1)) (b := (0 : Int)) rfl rfl) ?_
    refine l_val (v := .bool (decide ((errPut (ordS l turn.toNat i) (((i + turn.toNat) % l.length : Nat) : Int) x1) ≠ (0 : Int)))) rfl rfl rfl (e_move) ?_
    refine l_split (s := 62) (p := (errPut (ordS l turn.toNat i) (((i + turn.toNat) % l.length : Nat) : Int) x1) ≠ (0 : Int)) rfl (fun h => ?_) (fun h => ?_)
    exact absurd h (fun q => q he1)
    refine g_val (v := .pointer (some ⟨b4, 0, none⟩)) rfl rfl rfl rfl rfl (e_move) ?_
    refine g_val (v := Nx ((i + turn.toNat) % l.length)) rfl rfl rfl rfl rfl (e_move) ?_
    refine g_val (v := .slice p1 (l.length) c2) rfl rfl rfl rfl rfl (e_move) ?_
    refine g_val (v := Nx ((i + turn.toNat) % l.length)) rfl rfl rfl rfl rfl (e_move) ?_
    refine g_val (v := .pointer (some ((ba p1).add (((i + turn.toNat) % l.length) * 4)))) rfl rfl rfl rfl rfl (e_indexFlN 3 (F := AreaF) (j := (i + turn.toNat) % l.length) (m := l.length) (xs := l) rfl rfl rfl tf43 (by omega) rfl) ?_
    refine g_val (v := .agg (aC x2)) rfl rfl rfl rfl rfl (e_load tf10 (cs := (areaE x2)) rfl (k_flAt 3 (F := AreaF) rfl hx2) rfl) ?_
    refine g_call rfl rfl rfl rfl rfl (cl_value (fst := []) (cap := []) (vs := [.pointer (some ⟨b4, 0, none⟩), Nx ((i + turn.toNat) % l.length), .agg (aC x2)]) (all := [.pointer (some ⟨b4, 0, none⟩), Nx ((i + turn.toNat) % l.length), .agg (aC x2)]) tf75 rfl rfl rfl) ?_
    intro w hw
    replace hw := hw.perm (L' := _ :: _ :: _ :: _ :: []) (by exact ((((perm_front 3 rfl).trans (perm_front 3 rfl)).trans (perm_front 3 rfl)).trans (perm_front 3 rfl)))
    obtain ⟨β1, sb, kn, hw1, back⟩ := St.frame (L := [_]) (M := _ :: _ :: _ :: []) hw
    refine (put_ok' β1 w b4 (putX (ordS l turn.toNat i) (((i + turn.toNat) % l.length : Nat) : Int) x1) hw1 (put_ok (ord_okS h30 hok (by omega)) _ _) (((i + turn.toNat) % l.length : Nat) : Int) x2).mono ?_
    rintro e w' ⟨rfl, hw'⟩
    refine ⟨_, rfl, _, back _ _ hw', ?_⟩
    clear hw hw1 hw' back kn sb
    have hpe := errPut_le (putX (ordS l turn.toNat i) (((i + turn.toNat) % l.length : Nat) : Int) x1) (((i + turn.toNat) % l.length : Nat) : Int) x2
    refine g_val (v := .bool (decide ((errPut (putX (ordS l turn.toNat i) (((i + turn.toNat) % l.length : Nat) : Int) x1) (((i + turn.toNat) % l.length : Nat) : Int) x2) ≠ (0 : Int)))) rfl rfl rfl rfl rfl (e_neq (a := (errPut (putX (ordS l turn.toNat i) (((i + turn.toNat) % l.length : Nat) : Int) x1) (((i + turn.toNat) % l.length : Nat) : Int) x2)) (b := (0 : Int)) rfl rfl) ?_
    refine l_val (v := .bool (decide ((errPut (putX (ordS l turn.toNat i) (((i + turn.toNat) % l.length : Nat) : Int) x1) (((i + turn.toNat) % l.length : Nat) : Int) x2) ≠ (0 : Int)))) rfl rfl rfl (e_pick_f rfl) ?_
    refine l_val (v := .bool (decide ((errPut (putX (ordS l turn.toNat i) (((i + turn.toNat) % l.length : Nat) : Int) x1) (((i + turn.toNat) % l.length : Nat) : Int) x2) ≠ (0 : Int)))) rfl rfl rfl (e_move) ?_
    refine l_split (s := 72) (p := (errPut (putX (ordS l turn.toNat i) (((i + turn.toNat) % l.length : Nat) : Int) x1) (((i + turn.toNat) % l.length : Nat) : Int) x2) ≠ (0 : Int)) rfl (fun h => ?_) (fun h => ?_)
    exact absurd h (fun q => q he2)
    refine g_val (v := .pointer (some ⟨b4, 0, none⟩)) rfl rfl rfl rfl rfl (e_move) ?_
    refine g_val (v := Nx (l.length)) rfl rfl rfl rfl rfl (e_move) ?_
    refine g_val (v := Nx (l.length + 7)) rfl rfl rfl rfl rfl (e_add (a := ((l.length : Nat) : Int)) (b := (7 : Int)) rfl rfl (i64n (by omega) (by omega))) ?_
    refine g_val (v := .slice p1 (l.length) c2) rfl rfl rfl rfl rfl (e_move) ?_
    refine g_val (v := Nx (i)) rfl rfl rfl rfl rfl (e_move) ?_
    refine g_val (v := .pointer (some ((ba p1).add (i * 4)))) rfl rfl rfl rfl rfl (e_indexFlN 3 (F := AreaF) (j := i) (m := l.length) (xs := l) rfl rfl rfl tf43 (by omega) rfl) ?_
    refine g_val (v := .agg (aC x3)) rfl rfl rfl rfl rfl (e_load tf10 (cs := (areaE x3)) rfl (k_flAt 3 (F := AreaF) rfl hx3) rfl) ?_
    refine g_call rfl rfl rfl rfl rfl (cl_value (fst := []) (cap := []) (vs := [.pointer (some ⟨b4, 0, none⟩), Nx (l.length + 7), .agg (aC x3)]) (all := [.pointer (some ⟨b4, 0, none⟩), Nx (l.length + 7), .agg (aC x3)]) tf75 rfl rfl rfl) ?_
    intro w hw
    replace hw := hw.perm (L' := _ :: _ :: _ :: _ :: []) (by exact ((((perm_front 3 rfl).trans (perm_front 3 rfl)).trans (perm_front 3 rfl)).trans (perm_front 3 rfl)))
    obtain ⟨β1, sb, kn, hw1, back⟩ := St.frame (L := [_]) (M := _ :: _ :: _ :: []) hw
    refine (put_ok' β1 w b4 (putX (putX (ordS l turn.toNat i) (((i + turn.toNat) % l.length : Nat) : Int) x1) (((i + turn.toNat) % l.length : Nat) : Int) x2) hw1 (put_ok (put_ok (ord_okS h30 hok (by omega)) _ _) _ _) ((l.length + 7 : Nat) : Int) x3).mono ?_
    rintro e w' ⟨rfl, hw'⟩
    refine ⟨_, rfl, _, back _ _ hw', ?_⟩
    clear hw hw1 hw' back kn sb
    have hpe := errPut_le (putX (putX (ordS l turn.toNat i) (((i + turn.toNat) % l.length : Nat) : Int) x1) (((i + turn.toNat) % l.length : Nat) : Int) x2) ((l.length + 7 : Nat) : Int) x3
    refine g_val (v := .bool (decide ((errPut (putX (putX (ordS l turn.toNat i) (((i + turn.toNat) % l.length : Nat) : Int) x1) (((i + turn.toNat) % l.length : Nat) : Int) x2) ((l.length + 7 : Nat) : Int) x3) ≠ (0 : Int)))) rfl rfl rfl rfl rfl (e_neq (a := (errPut (putX (putX (ordS l turn.toNat i) (((i + turn.toNat) % l.length : Nat) : Int) x1) (((i + turn.toNat) % l.length : Nat) : Int) x2) ((l.length + 7 : Nat) : Int) x3)) (b := (0 : Int)) rfl rfl) ?_
    refine l_val (v := .bool (decide ((errPut (putX (putX (ordS l turn.toNat i) (((i + turn.toNat) % l.length : Nat) : Int) x1) (((i + turn.toNat) % l.length : Nat) : Int) x2) ((l.length + 7 : Nat) : Int) x3) ≠ (0 : Int)))) rfl rfl rfl (e_pick_f rfl) ?_
    refine l_nil ?_
    refine f_then ?_
    refine c_if ((errPut (putX (putX (ordS l turn.toNat i) (((i + turn.toNat) % l.length : Nat) : Int) x1) (((i + turn.toNat) % l.length : Nat) : Int) x2) ((l.length + 7 : Nat) : Int) x3) ≠ (0 : Int)) rfl (fun hc6 => ?_) (fun hc6 => ?_)
    ·
      exact absurd hc6 (fun q => q he3)
    ·
      refine c_skip ?_
      refine f_then ?_
      refine c_region ?_
      refine l_val (v := .slice tp (ts.length) tc) rfl rfl rfl (e_move) ?_
      refine l_val (v := .slice p1 (l.length) c2) rfl rfl rfl (e_move) ?_
      refine l_val (v := Nx ((i + turn.toNat) % l.length)) rfl rfl rfl (e_move) ?_
      refine l_val (v := .pointer (some ((ba p1).add (((i + turn.toNat) % l.length) * 4)))) rfl rfl rfl (e_indexFlN 3 (F := AreaF) (j := (i + turn.toNat) % l.length) (m := l.length) (xs := l) rfl rfl rfl tf43 (by omega) rfl) ?_
      refine l_val (v := .agg (aC x2)) rfl rfl rfl (e_load tf10 (cs := (areaE x2)) rfl (k_flAt 3 (F := AreaF) rfl hx2) rfl) ?_
      refine l_mv rfl rfl rfl (m_slices tf43 tf6 (vs := [(0, .agg (aC x2))]) (cells := (aC x2)) rfl rfl rfl rfl) ?_
      rintro _ _ ⟨b7, rfl, rfl⟩
      refine l_mv rfl rfl rfl (m_appendFlN (F := AreaF) 2 tf43 tf97 (p := tp) (m := ts.length) (xs := ts) (ys := [x2]) (ao := (some ⟨b7, 0, none⟩)) (k := 1) (c := 1) rfl rfl rfl rfl rfl (k_ptFl (z := x2) 0 rfl rfl) (by first | omega | simp only [List.length_nil, List.length_cons, List.length_append, List.length_set]; omega) (by first | omega | simp only [List.length_nil, List.length_cons, List.length_append, List.length_set]; omega)) ?_
      rintro _ _ ⟨rp8, rc9, rfl, rfl⟩
      refine l_val (v := .slice rp8 ((ts ++ [x2]).length) rc9) rfl rfl rfl (e_assign) ?_
      refine l_nil ?_
      refine f_block ?_
      refine f_then ?_
      refine c_region ?_
      refine l_val (v := Nx (i)) rfl rfl rfl (e_move) ?_
      refine l_val (v := Nx (i + 1)) rfl rfl rfl (e_add (a := ((i : Nat) : Int)) (b := (1 : Int)) rfl rfl (i64n (by omega) (by omega))) ?_
      refine l_val (v := Nx (i + 1)) rfl rfl rfl (e_assign) ?_
      refine l_nil ?_
      refine f_perm (L' := [rowF AreaF 25 rp8 rc9 (ts ++ [x2]), spcR b4 (putX (putX (putX (ordS l turn.toNat i) (((i + turn.toNat) % l.length : Nat) : Int) x1) (((i + turn.toNat) % l.length : Nat) : Int) x2) ((l.length + 7 : Nat) : Int) x3), spcR b3 (fillS l 1), rowF AreaF 25 p1 c2 l, pt b7 (.cells (aC x2) 25)]) (perm_ix [2, 1, 3, 4, 0] 5 rfl (by kernel_rfl) (by kernel_rfl)) ?_
      refine f_mask (L' := [rowF AreaF 25 rp8 rc9 (ts ++ [x2]), spcR b4 (putX (putX (putX (ordS l turn.toNat i) (((i + turn.toNat) % l.length : Nat) : Int) x1) (((i + turn.toNat) % l.length : Nat) : Int) x2) ((l.length + 7 : Nat) : Int) x3), spcR b3 (fillS l 1), rowF AreaF 25 p1 c2 l]) [true, true, true, true, false] rfl ?_
      exact f_cut ⟨(i + 1, (ts ++ [x2]), rp8, rc9), ⟨⟨rfl, rfl, rfl, rfl, rfl, rfl, rfl, rfl⟩, by rw [hS4], ⟨by omega, by rw [hts]; exact rotL_next hx2⟩⟩, (show l.length - (i + 1) < l.length - i from by omega)⟩
  ·
    refine c_exit ?_
    refine f_then_exit ?_
    refine f_then_exit ?_
    refine f_exit ?_
    refine f_then ?_
    refine c_seq ?_
    refine c_seq ?_
    obtain rfl : i = l.length := by omega
    by_cases hn0 : 0 < l.length
    ·
      refine c_region ?_
      refine l_val (v := .bool true) rfl rfl rfl (e_move) ?_
      refine l_val (v := .bool false) rfl rfl rfl (e_not (a := true) rfl) ?_
      refine l_val (v := .bool false) rfl rfl rfl (e_move) ?_
      refine g_val (v := Nx (l.length)) rfl rfl rfl rfl rfl (e_move) ?_
      refine g_val (v := .bool (decide ((0 : Int) < ((l.length : Nat) : Int)))) rfl rfl rfl rfl rfl (e_gtr (a := ((l.length : Nat) : Int)) (b := (0 : Int)) rfl rfl) ?_
      refine g_val (v := .bool (decide ((0 : Int) < ((l.length : Nat) : Int)))) rfl rfl rfl rfl rfl (e_move) ?_
      refine l_split (s := 95) (p := (0 : Int) < ((l.length : Nat) : Int)) rfl (fun h => ?_) (fun h => ?_)
      rotate_left; exact absurd (by omega) h
      refine g_val (v := .pointer (some ⟨b4, 0, none⟩)) rfl rfl rfl rfl rfl (e_move) ?_
      refine g_val (v := Nx (l.length)) rfl rfl rfl rfl rfl (e_move) ?_
      refine g_val (v := Nx (l.length + 7)) rfl rfl rfl rfl rfl (e_add (a := ((l.length : Nat) : Int)) (b := (7 : Int)) rfl rfl (i64n (by omega) (by omega))) ?_
      refine g_call rfl rfl rfl rfl rfl (cl_value (fst := []) (cap := []) (vs := [.pointer (some ⟨b4, 0, none⟩), Nx (l.length + 7)]) (all := [.pointer (some ⟨b4, 0, none⟩), Nx (l.length + 7)]) tf112 rfl rfl rfl) ?_
      intro w hw
      replace hw := hw.perm (L' := _ :: _ :: _ :: _ :: []) (by exact ((((perm_front 3 rfl).trans (perm_front 3 rfl)).trans (perm_front 2 rfl)).trans (perm_front 3 rfl)))
      obtain ⟨β1, sb, kn, hw1, back⟩ := St.frame (L := [_]) (M := _ :: _ :: _ :: []) hw
      refine (drop_ok β1 w b4 (ordS l turn.toNat l.length) hw1 (ord_okS h30 hok (by omega)) ((l.length + 7 : Nat) : Int)).mono ?_
      rintro e w' ⟨rfl, hw'⟩
      refine ⟨_, rfl, _, back _ _ hw', ?_⟩
      clear hw hw1 hw' back kn sb
      rw [show delS (ordS l turn.toNat l.length) ((l.length + 7 : Nat) : Int) = entS l turn.toNat l.length from ord_drop (Nat.le_refl _)]
      refine g_val (v := .bool (decide ((errDrop (ordS l turn.toNat l.length) ((l.length + 7 : Nat) : Int)) ≠ (0 : Int)))) rfl rfl rfl rfl rfl (e_neq (a := (errDrop (ordS l turn.toNat l.length) ((l.length + 7 : Nat) : Int))) (b := (0 : Int)) rfl rfl) ?_
      refine g_val (v := .bool (decide ((errDrop (ordS l turn.toNat l.length) ((l.length + 7 : Nat) : Int)) ≠ (0 : Int)))) rfl rfl rfl rfl rfl (e_pick_t rfl) ?_
      refine l_val (v := .bool (decide ((errDrop (ordS l turn.toNat l.length) ((l.length + 7 : Nat) : Int)) ≠ (0 : Int)))) rfl rfl rfl (e_pick_f rfl) ?_
      refine l_val (v := .bool (decide ((errDrop (ordS l turn.toNat l.length) ((l.length + 7 : Nat) : Int)) ≠ (0 : Int)))) rfl rfl rfl (e_move) ?_
      refine l_split (s := 103) (p := (errDrop (ordS l turn.toNat l.length) ((l.length + 7 : Nat) : Int)) ≠ (0 : Int)) rfl (fun h => ?_) (fun h => ?_)
      exact absurd h (fun q => q (ord_has hn0))
      refine g_val (v := .pointer (some ⟨b3, 0, none⟩)) rfl rfl rfl rfl rfl (e_move) ?_
      refine g_call rfl rfl rfl rfl rfl (cl_value (fst := []) (cap := []) (vs := [.pointer (some ⟨b3, 0, none⟩)]) (all := [.pointer (some ⟨b3, 0, none⟩)]) tf76 rfl rfl rfl) ?_
      intro w hw
      replace hw := hw.perm (L' := _ :: _ :: _ :: _ :: []) (by exact ((((perm_front 3 rfl).trans (perm_front 2 rfl)).trans (perm_front 2 rfl)).trans (perm_front 3 rfl)))
      obtain ⟨β1, sb, kn, hw1, back⟩ := St.frame (L := [_]) (M := _ :: _ :: _ :: []) hw
      refine (spairsx_ok β1 w b3 (fillS l 1) hw1 (fill_okS (by decide) (by omega) hok)).mono ?_
      rintro e w' ⟨p10, c11, rfl, hw'⟩
      refine ⟨_, rfl, _, back _ _ hw', ?_⟩
      clear hw hw1 hw' back kn sb
      refine g_val (v := .pointer (some ⟨b4, 0, none⟩)) rfl rfl rfl rfl rfl (e_move) ?_
      refine g_call rfl rfl rfl rfl rfl (cl_value (fst := []) (cap := []) (vs := [.pointer (some ⟨b4, 0, none⟩)]) (all := [.pointer (some ⟨b4, 0, none⟩)]) tf76 rfl rfl rfl) ?_
      intro w hw
      replace hw := hw.perm (L' := _ :: _ :: _ :: _ :: _ :: []) (by exact (((((perm_front 4 rfl).trans (perm_front 4 rfl)).trans (perm_front 3 rfl)).trans (perm_front 3 rfl)).trans (perm_front 4 rfl)))
      obtain ⟨β1, sb, kn, hw1, back⟩ := St.frame (L := [_]) (M := _ :: _ :: _ :: _ :: []) hw
      refine (spairsx_ok β1 w b4 (entS l turn.toNat l.length) hw1 (ent_okS h30 hok (by omega))).mono ?_
      rintro e w' ⟨p12, c13, rfl, hw'⟩
      refine ⟨_, rfl, _, back _ _ hw', ?_⟩
      clear hw hw1 hw' back kn sb
      refine g_call rfl rfl rfl rfl rfl (cl_value (fst := []) (cap := []) (vs := [.slice p10 ((pairsS (fillS l 1)).length) c11, .slice p12 ((pairsS (entS l turn.toNat l.length)).length) c13]) (all := [.slice p10 ((pairsS (fillS l 1)).length) c11, .slice p12 ((pairsS (entS l turn.toNat l.length)).length) c13]) tf83 rfl rfl rfl) ?_
      intro w hw
      obtain ⟨β1, sb, kn, hw1, back⟩ := St.frame_all hw
      refine (same_ok β1 w hw1 _ _ (pairsS (fillS l 1)) (pairsS (entS l turn.toNat l.length)) (kn _ (k_flN 2 (F := PairF) (m := (pairsS (fillS l 1)).length) rfl rfl)) (kn _ (k_flN 0 (F := PairF) (m := (pairsS (entS l turn.toNat l.length)).length) rfl rfl))).mono ?_
      rintro e w' ⟨rfl, hw'⟩
      refine ⟨_, rfl, _, back _ _ hw', ?_⟩
      clear hw hw1 hw' back kn sb
      refine g_val (v := .bool (decide (¬ ((pairsS (fillS l 1)) = (pairsS (entS l turn.toNat l.length)))))) rfl rfl rfl rfl rfl (e_not_p (p := (pairsS (fillS l 1)) = (pairsS (entS l turn.toNat l.length))) rfl) ?_
      refine l_val (v := .bool (decide (¬ ((pairsS (fillS l 1)) = (pairsS (entS l turn.toNat l.length)))))) rfl rfl rfl (e_pick_f rfl) ?_
      refine l_nil ?_
      refine f_then ?_
      refine c_if (¬ ((pairsS (fillS l 1)) = (pairsS (entS l turn.toNat l.length)))) rfl (fun hc14 => ?_) (fun hc14 => ?_)
      ·
        exact absurd hc14 (fun q => q (ord_pairs l turn.toNat))
      ·
        refine c_skip ?_
        refine f_then ?_
        refine c_seq ?_
        refine c_region ?_
        refine l_val (v := .slice p1 (l.length) c2) rfl rfl rfl (e_move) ?_
        refine l_call rfl rfl rfl (cl_value (fst := []) (cap := []) (vs := [.slice p1 (l.length) c2]) (all := [.slice p1 (l.length) c2]) tf73 rfl rfl rfl) ?_
        intro w hw
        obtain ⟨β1, sb, kn, hw1, back⟩ := St.frame_all hw
        refine (pairs_ok β1 w hw1 _ l (kn _ (k_flN 5 (F := AreaF) (m := l.length) rfl rfl)) (by omega)).mono ?_
        rintro e w' ⟨p15, c16, rfl, hw'⟩
        refine ⟨_, rfl, _, back _ _ hw', ?_⟩
        clear hw hw1 hw' back kn sb
        refine l_val (v := .tuple #[.slice p15 ((pairsX l).length) c16, Ix (errP l)]) rfl rfl rfl (e_move) ?_
        refine l_val (v := .slice p15 ((pairsX l).length) c16) rfl rfl rfl (e_extract (vs := #[.slice p15 ((pairsX l).length) c16, Ix (errP l)]) rfl rfl) ?_
        refine l_val (v := Ix (errP l)) rfl rfl rfl (e_extract (vs := #[.slice p15 ((pairsX l).length) c16, Ix (errP l)]) rfl rfl) ?_
        refine l_val (v := .slice p15 ((pairsX l).length) c16) rfl rfl rfl (e_assign) ?_
        refine l_val (v := Ix (errP l)) rfl rfl rfl (e_assign) ?_
        refine l_nil ?_
        refine f_then ?_
        refine c_seq ?_
        refine c_region ?_
        refine l_val (v := .slice tp (ts.length) tc) rfl rfl rfl (e_move) ?_
        refine l_call rfl rfl rfl (cl_value (fst := []) (cap := []) (vs := [.slice tp (ts.length) tc]) (all := [.slice tp (ts.length) tc]) tf73 rfl rfl rfl) ?_
        intro w hw
        obtain ⟨β1, sb, kn, hw1, back⟩ := St.frame_all hw
        refine (pairs_ok β1 w hw1 _ ts (kn _ (k_flN 5 (F := AreaF) (m := ts.length) rfl rfl)) (by omega)).mono ?_
        rintro e w' ⟨p17, c18, rfl, hw'⟩
        refine ⟨_, rfl, _, back _ _ hw', ?_⟩
        clear hw hw1 hw' back kn sb
        refine l_val (v := .tuple #[.slice p17 ((pairsX ts).length) c18, Ix (errP ts)]) rfl rfl rfl (e_move) ?_
        refine l_val (v := .slice p17 ((pairsX ts).length) c18) rfl rfl rfl (e_extract (vs := #[.slice p17 ((pairsX ts).length) c18, Ix (errP ts)]) rfl rfl) ?_
        refine l_val (v := Ix (errP ts)) rfl rfl rfl (e_extract (vs := #[.slice p17 ((pairsX ts).length) c18, Ix (errP ts)]) rfl rfl) ?_
        refine l_val (v := .slice p17 ((pairsX ts).length) c18) rfl rfl rfl (e_assign) ?_
        refine l_val (v := Ix (errP ts)) rfl rfl rfl (e_assign) ?_
        refine l_nil ?_
        refine f_then ?_
        refine c_seq ?_
        have hrl := rotL_len l turn.toNat l.length
        have hpl : pairsX l = pairsT (things l 0) := (pairsX_ok ⟨hok, by omega⟩).trans (pairsA_eq l)
        have hpr : pairsX (rotL l turn.toNat l.length) = pairsT (things (rotL l turn.toNat l.length) 0) := (pairsX_ok ⟨rotL_ok hok (Nat.le_refl _), by omega⟩).trans (pairsA_eq _)
        have hel : errP l = 0 := errP_ok ⟨hok, by omega⟩
        have her : errP (rotL l turn.toNat l.length) = 0 := errP_ok ⟨rotL_ok hok (Nat.le_refl _), by omega⟩
        rw [hts, hpl, hpr, hel, her]
        have hp1 := pairs_len hl40
        have hp2 := pairs_len (l := rotL l turn.toNat l.length) (by omega)
        refine c_region ?_
        refine l_val (v := .slice none 0 0) rfl rfl rfl (e_assign) ?_
        refine l_nil ?_
        refine f_then ?_
        refine c_seq ?_
        refine c_seq ?_
        refine c_emp (r := rowF PairF 40 none 0 []) (row_nil _ _ _) ?_
        refine c_region ?_
        refine l_val (v := .slice p17 ((pairsT (things (rotL l turn.toNat l.length) 0)).length) c18) rfl rfl rfl (e_move) ?_
        refine l_val (v := Nx ((pairsT (things (rotL l turn.toNat l.length) 0)).length)) rfl rfl rfl (e_len (a := p17) (n := (pairsT (things (rotL l turn.toNat l.length) 0)).length) (c := c18) rfl tf65) ?_
        refine l_val (v := .int .i64 (0)) rfl rfl rfl (e_move) ?_
        refine l_nil ?_
        refine f_then ?_
        refine c_block ?_
        refine c_loop (fun (x_ : Nat × List KP × Option Addr × Nat) (f : Fm) (L : List Res) => match x_ with | (j, bs, bp, bc) => (f 1 = .int .u8 (((turn.toNat : Nat)) : Int) ∧ f 6 = Nx (l.length) ∧ f 13 = .slice p15 ((pairsT (things l 0)).length) c16 ∧ f 14 = .int .i64 (0) ∧ f 16 = .int .i64 (0) ∧ f 17 = .slice bp (bs.length) bc ∧ f 121 = .slice p17 ((pairsT (things (rotL l turn.toNat l.length) 0)).length) c18 ∧ f 122 = Nx ((pairsT (things (rotL l turn.toNat l.length) 0)).length) ∧ f 123 = Nx (j)) ∧ L = [rowF PairF 40 bp bc bs, rowF PairF 40 p17 c18 (pairsT (things (rotL l turn.toNat l.length) 0)), rowF PairF 40 p15 c16 (pairsT (things l 0)), rowF PairF 40 p12 c13 (pairsS (entS l turn.toNat l.length)), spcR b4 (entS l turn.toNat l.length), rowF PairF 40 p10 c11 (pairsS (fillS l 1)), spcR b3 (fillS l 1), rowF AreaF 25 tp tc (rotL l turn.toNat l.length), rowF AreaF 25 p1 c2 l] ∧ (j ≤ (pairsT (things (rotL l turn.toNat l.length) 0)).length ∧ bs = ((pairsT (things (rotL l turn.toNat l.length) 0)).take j).map (renP (turnF turn.toNat l.length)))) (fun (x_ : Nat × List KP × Option Addr × Nat) => match x_ with | (j, bs, bp, bc) => (pairsT (things (rotL l turn.toNat l.length) 0)).length - j) (0, [], none, 0) ?_ ?_
        · exact ⟨⟨rfl, rfl, rfl, rfl, rfl, rfl, rfl, rfl, rfl⟩, rfl, ⟨by omega, rfl⟩⟩
        rintro ⟨j, bs, bp, bc⟩ f0 L0 ⟨⟨hs1, hs6, hs13, hs14, hs16, hs17, hs121, hs122, hs123⟩, hL, ⟨hj, hbs⟩⟩
        subst L0
        refine rebase (d := 1) hs1 ?_
        refine rebase (d := 6) hs6 ?_
        refine rebase (d := 13) hs13 ?_
        refine rebase (d := 14) hs14 ?_
        refine rebase (d := 16) hs16 ?_
        refine rebase (d := 17) hs17 ?_
        refine rebase (d := 121) hs121 ?_
        refine rebase (d := 122) hs122 ?_
        refine rebase (d := 123) hs123 ?_
        clear hs1 hs6 hs13 hs14 hs16 hs17 hs121 hs122 hs123
        have hbl : bs.length = j := by rw [hbs, List.length_map, List.length_take]; omega
        refine c_seq ?_
        refine c_region ?_
        refine l_val (v := .bool (decide (((j : Nat) : Int) < (((pairsT (things (rotL l turn.toNat l.length) 0)).length : Nat) : Int)))) rfl rfl rfl (e_lss (a := ((j : Nat) : Int)) (b := (((pairsT (things (rotL l turn.toNat l.length) 0)).length : Nat) : Int)) rfl rfl) ?_
        refine l_nil ?_
        refine f_then ?_
        refine c_seq ?_
        refine c_if (((j : Nat) : Int) < (((pairsT (things (rotL l turn.toNat l.length) 0)).length : Nat) : Int)) rfl (fun hc19 => ?_) (fun hc19 => ?_)
        ·
          refine c_skip ?_
          refine f_then ?_
          refine c_seq ?_
          refine c_block ?_
          refine c_seq ?_
          refine c_region ?_
          refine l_val (v := .pointer (some ((ba p17).add (j * 2)))) rfl rfl rfl (e_indexFlN 1 (F := PairF) (j := j) (m := (pairsT (things (rotL l turn.toNat l.length) 0)).length) (xs := (pairsT (things (rotL l turn.toNat l.length) 0))) rfl rfl rfl tf37 (by omega) rfl) ?_
          obtain ⟨q, hq⟩ : ∃ x_, (pairsT (things (rotL l turn.toNat l.length) 0))[j]? = some x_ := ⟨_, List.getElem?_eq_getElem (by omega)⟩
          refine l_val (v := .agg #[Ix (q.a), Ix (q.b)]) rfl rfl rfl (e_load tf35 (cs := [Ix (q.a), Ix (q.b)]) rfl (k_flAt 1 (F := PairF) rfl hq) rfl) ?_
          refine l_mv rfl rfl rfl (m_alloc tf33) ?_
          rintro _ _ ⟨b20, rfl, rfl⟩
          refine l_mu rfl rfl (m_store 0 tf35 (b := b20) (o := 0) (T := 40) (cs := #[.int .i64 (0), .int .i64 (0)]) (cs' := #[Ix (q.a), Ix (q.b)]) (v := .agg #[Ix (q.a), Ix (q.b)]) rfl rfl rfl rfl rfl rfl rfl) ?_
          refine l_nil ?_
          refine f_then ?_
          refine c_seq ?_
          obtain ⟨hb1, hb2, hb3, hb4⟩ := pair_bd (List.mem_of_getElem? hq)
          refine c_quiet (by kernel_rfl) (by kernel_rfl) ?_
          refine q_val (v := .pointer (some ⟨b20, 0, none⟩)) rfl rfl rfl (e_fieldPt (b := b20) (o := 0) rfl tf19) ?_
          refine q_val (v := Ix (q.a)) rfl rfl rfl (e_load1 tf2 (v := Ix (q.a)) rfl (k_pt 0 (cs := #[Ix (q.a), Ix (q.b)]) (vs := [Ix (q.a)]) rfl rfl)) ?_
          refine q_val (v := .int .u8 (((turn.toNat : Nat)) : Int)) rfl rfl rfl (e_move) ?_
          refine q_val (v := Nx (turn.toNat)) rfl rfl rfl (e_conv (a := ((turn.toNat : Nat) : Int)) rfl ⟨_, tf88⟩ tf89 (i64n rfl (by omega))) ?_
          refine q_val (v := Ix ((q.a) + ((turn.toNat : Nat) : Int))) rfl rfl rfl (e_add (a := (q.a)) (b := ((turn.toNat : Nat) : Int)) rfl rfl (i64w (by omega))) ?_
          refine q_val (v := Nx (l.length)) rfl rfl rfl (e_move) ?_
          refine q_val (v := Ix (turnF turn.toNat l.length (q.a))) rfl rfl rfl (e_rem (a := ((q.a) + ((turn.toNat : Nat) : Int))) (b := ((l.length : Nat) : Int)) rfl rfl (by omega) rfl) ?_
          refine q_val (v := .pointer (some ⟨b20, 1, none⟩)) rfl rfl rfl (e_fieldPt (b := b20) (o := 0) rfl tf20) ?_
          refine q_val (v := Ix (q.b)) rfl rfl rfl (e_load1 tf2 (v := Ix (q.b)) rfl (k_pt 0 (cs := #[Ix (q.a), Ix (q.b)]) (vs := [Ix (q.b)]) rfl rfl)) ?_
          refine q_val (v := .int .u8 (((turn.toNat : Nat)) : Int)) rfl rfl rfl (e_move) ?_
          refine q_val (v := Nx (turn.toNat)) rfl rfl rfl (e_conv (a := ((turn.toNat : Nat) : Int)) rfl ⟨_, tf88⟩ tf89 (i64n rfl (by omega))) ?_
          refine q_val (v := Ix ((q.b) + ((turn.toNat : Nat) : Int))) rfl rfl rfl (e_add (a := (q.b)) (b := ((turn.toNat : Nat) : Int)) rfl rfl (i64w (by omega))) ?_
          refine q_val (v := Nx (l.length)) rfl rfl rfl (e_move) ?_
          refine q_val (v := Ix (turnF turn.toNat l.length (q.b))) rfl rfl rfl (e_rem (a := ((q.b) + ((turn.toNat : Nat) : Int))) (b := ((l.length : Nat) : Int)) rfl rfl (by omega) rfl) ?_
          refine q_val (v := Ix (turnF turn.toNat l.length (q.a))) rfl rfl rfl (e_assign) ?_
          refine q_val (v := Ix (turnF turn.toNat l.length (q.b))) rfl rfl rfl (e_assign) ?_
          refine q_nil ?_
          refine f_then ?_
          refine c_region ?_
          refine l_val (v := .slice bp (bs.length) bc) rfl rfl rfl (e_move) ?_
          refine l_val (v := Ix (turnF turn.toNat l.length (q.a))) rfl rfl rfl (e_move) ?_
          refine l_val (v := Ix (turnF turn.toNat l.length (q.b))) rfl rfl rfl (e_move) ?_
          refine l_val (v := Ix (min (turnF turn.toNat l.length (q.a)) (turnF turn.toNat l.length (q.b)))) rfl rfl rfl (e_min (a := (turnF turn.toNat l.length (q.a))) (b := (turnF turn.toNat l.length (q.b))) rfl rfl) ?_
          refine l_val (v := Ix (turnF turn.toNat l.length (q.a))) rfl rfl rfl (e_move) ?_
          refine l_val (v := Ix (turnF turn.toNat l.length (q.b))) rfl rfl rfl (e_move) ?_
          refine l_val (v := Ix (max (turnF turn.toNat l.length (q.a)) (turnF turn.toNat l.length (q.b)))) rfl rfl rfl (e_max (a := (turnF turn.toNat l.length (q.a))) (b := (turnF turn.toNat l.length (q.b))) rfl rfl) ?_
          refine l_val (v := .agg #[Ix (min (turnF turn.toNat l.length (q.a)) (turnF turn.toNat l.length (q.b))), Ix (max (turnF turn.toNat l.length (q.a)) (turnF turn.toNat l.length (q.b)))]) rfl rfl rfl (e_build tf33 tf32 (vs := [(0, Ix (min (turnF turn.toNat l.length (q.a)) (turnF turn.toNat l.length (q.b)))), (1, Ix (max (turnF turn.toNat l.length (q.a)) (turnF turn.toNat l.length (q.b))))]) (cells := #[Ix (min (turnF turn.toNat l.length (q.a)) (turnF turn.toNat l.length (q.b))), Ix (max (turnF turn.toNat l.length (q.a)) (turnF turn.toNat l.length (q.b)))]) rfl rfl) ?_
          refine l_mv rfl rfl rfl (m_slices tf37 tf33 (vs := [(0, .agg #[Ix (min (turnF turn.toNat l.length (q.a)) (turnF turn.toNat l.length (q.b))), Ix (max (turnF turn.toNat l.length (q.a)) (turnF turn.toNat l.length (q.b)))])]) (cells := #[Ix (min (turnF turn.toNat l.length (q.a)) (turnF turn.toNat l.length (q.b))), Ix (max (turnF turn.toNat l.length (q.a)) (turnF turn.toNat l.length (q.b)))]) rfl rfl rfl rfl) ?_
          rintro _ _ ⟨b21, rfl, rfl⟩
          refine l_mv rfl rfl rfl (m_appendFlN (F := PairF) 2 tf37 tf38 (p := bp) (m := bs.length) (xs := bs) (ys := [(⟨min (turnF turn.toNat l.length (q.a)) (turnF turn.toNat l.length (q.b)), max (turnF turn.toNat l.length (q.a)) (turnF turn.toNat l.length (q.b))⟩ : KP)]) (ao := (some ⟨b21, 0, none⟩)) (k := 1) (c := 1) rfl rfl rfl rfl rfl (k_ptFl (z := (⟨min (turnF turn.toNat l.length (q.a)) (turnF turn.toNat l.length (q.b)), max (turnF turn.toNat l.length (q.a)) (turnF turn.toNat l.length (q.b))⟩ : KP)) 0 rfl rfl) (by first | omega | simp only [List.length_nil, List.length_cons, List.length_append, List.length_set]; omega) (by first | omega | simp only [List.length_nil, List.length_cons, List.length_append, List.length_set]; omega)) ?_
          rintro _ _ ⟨rp22, rc23, rfl, rfl⟩
          refine l_val (v := .slice rp22 ((bs ++ [(⟨min (turnF turn.toNat l.length (q.a)) (turnF turn.toNat l.length (q.b)), max (turnF turn.toNat l.length (q.a)) (turnF turn.toNat l.length (q.b))⟩ : KP)]).length) rc23) rfl rfl rfl (e_assign) ?_
          refine l_nil ?_
          refine f_block ?_
          refine f_then ?_
          refine c_region ?_
          refine l_val (v := Nx (j + 1)) rfl rfl rfl (e_add (a := ((j : Nat) : Int)) (b := (1 : Int)) rfl rfl (i64n (by omega) (by omega))) ?_
          refine l_val (v := Nx (j + 1)) rfl rfl rfl (e_move) ?_
          refine l_nil ?_
          refine f_mask (L' := [rowF PairF 40 rp22 rc23 (bs ++ [(⟨min (turnF turn.toNat l.length (q.a)) (turnF turn.toNat l.length (q.b)), max (turnF turn.toNat l.length (q.a)) (turnF turn.toNat l.length (q.b))⟩ : KP)]), rowF PairF 40 p17 c18 (pairsT (things (rotL l turn.toNat l.length) 0)), rowF PairF 40 p15 c16 (pairsT (things l 0)), rowF PairF 40 p12 c13 (pairsS (entS l turn.toNat l.length)), spcR b4 (entS l turn.toNat l.length), rowF PairF 40 p10 c11 (pairsS (fillS l 1)), spcR b3 (fillS l 1), rowF AreaF 25 tp tc (rotL l turn.toNat l.length), rowF AreaF 25 p1 c2 l]) [false, false, true, true, true, true, true, true, true, true, true] rfl ?_
          exact f_cut ⟨(j + 1, (bs ++ [(⟨min (turnF turn.toNat l.length (q.a)) (turnF turn.toNat l.length (q.b)), max (turnF turn.toNat l.length (q.a)) (turnF turn.toNat l.length (q.b))⟩ : KP)]), rp22, rc23), ⟨⟨rfl, rfl, rfl, rfl, rfl, rfl, rfl, rfl, rfl⟩, rfl, ⟨by omega, by rw [hbs]; exact ren_next hq⟩⟩, (show (pairsT (things (rotL l turn.toNat l.length) 0)).length - (j + 1) < (pairsT (things (rotL l turn.toNat l.length) 0)).length - j from by omega)⟩
        ·
          refine c_exit ?_
          refine f_then_exit ?_
          refine f_then_exit ?_
          refine f_exit ?_
          refine f_then ?_
          refine c_seq ?_
          have hbl : bs.length = j := by rw [hbs, List.length_map, List.length_take]; omega
          rw [List.take_of_length_le (by omega)] at hbs
          have hper : bs.Perm (pairsT (things l 0)) := hbs ▸ back_perm
          obtain ⟨hz1, hz2⟩ := perm_none hper
          refine c_region ?_
          refine l_val (v := .slice p15 ((pairsT (things l 0)).length) c16) rfl rfl rfl (e_move) ?_
          refine l_val (v := .slice bp (bs.length) bc) rfl rfl rfl (e_move) ?_
          refine l_call rfl rfl rfl (cl_value (fst := []) (cap := []) (vs := [.slice p15 ((pairsT (things l 0)).length) c16, .slice bp (bs.length) bc]) (all := [.slice p15 ((pairsT (things l 0)).length) c16, .slice bp (bs.length) bc]) tf117 rfl rfl rfl) ?_
          intro w hw
          obtain ⟨β1, sb, kn, hw1, back⟩ := St.frame_all hw
          refine (without_ok β1 w hw1 _ _ (pairsT (things l 0)) bs (kn _ (k_flN 2 (F := PairF) (m := (pairsT (things l 0)).length) rfl rfl)) (kn _ (k_flN 0 (F := PairF) (m := bs.length) rfl rfl)) (by omega)).mono ?_
          rintro e w' ⟨p24, c25, rfl, hw'⟩
          refine ⟨_, rfl, _, back _ _ hw', ?_⟩
          clear hw hw1 hw' back kn sb
          refine l_val (v := .tuple #[.slice p24 ((beganL bs (pairsT (things l 0))).length) c25, Ix (inL (pairsT (things l 0)) bs)]) rfl rfl rfl (e_move) ?_
          refine l_val (v := .slice p24 ((beganL bs (pairsT (things l 0))).length) c25) rfl rfl rfl (e_extract (vs := #[.slice p24 ((beganL bs (pairsT (things l 0))).length) c25, Ix (inL (pairsT (things l 0)) bs)]) rfl rfl) ?_
          refine l_val (v := Ix (inL (pairsT (things l 0)) bs)) rfl rfl rfl (e_extract (vs := #[.slice p24 ((beganL bs (pairsT (things l 0))).length) c25, Ix (inL (pairsT (things l 0)) bs)]) rfl rfl) ?_
          refine l_val (v := .slice p24 ((beganL bs (pairsT (things l 0))).length) c25) rfl rfl rfl (e_assign) ?_
          refine l_val (v := Ix (inL (pairsT (things l 0)) bs)) rfl rfl rfl (e_assign) ?_
          refine l_nil ?_
          refine f_then ?_
          refine c_seq ?_
          refine c_region ?_
          refine l_val (v := .int .i64 (0)) rfl rfl rfl (e_move) ?_
          refine l_val (v := .int .i64 (0)) rfl rfl rfl (e_move) ?_
          refine l_val (v := .int .i64 (0)) rfl rfl rfl (e_add (a := (0 : Int)) (b := (0 : Int)) rfl rfl (by decide)) ?_
          refine l_val (v := .bool true) rfl rfl rfl (e_eql (a := (0 : Int)) (b := (0 : Int)) rfl rfl) ?_
          refine l_val (v := .bool true) rfl rfl rfl (e_move) ?_
          refine g_val (v := .slice p24 ((beganL bs (pairsT (things l 0))).length) c25) rfl rfl rfl rfl rfl (e_move) ?_
          refine g_val (v := Nx ((beganL bs (pairsT (things l 0))).length)) rfl rfl rfl rfl rfl (e_len (a := p24) (n := (beganL bs (pairsT (things l 0))).length) (c := c25) rfl tf65) ?_
          refine g_val (v := .bool (decide ((((beganL bs (pairsT (things l 0))).length : Nat) : Int) = (0 : Int)))) rfl rfl rfl rfl rfl (e_eql (a := (((beganL bs (pairsT (things l 0))).length : Nat) : Int)) (b := (0 : Int)) rfl rfl) ?_
          refine l_val (v := .bool (decide ((((beganL bs (pairsT (things l 0))).length : Nat) : Int) = (0 : Int)))) rfl rfl rfl (e_pick_t rfl) ?_
          refine l_val (v := .bool (decide ((((beganL bs (pairsT (things l 0))).length : Nat) : Int) = (0 : Int)))) rfl rfl rfl (e_move) ?_
          refine l_split (s := 167) (p := (((beganL bs (pairsT (things l 0))).length : Nat) : Int) = (0 : Int)) rfl (fun h => ?_) (fun h => ?_)
          rotate_left; exact absurd (by rw [hz1]; rfl) h
          refine g_val (v := Ix (inL (pairsT (things l 0)) bs)) rfl rfl rfl rfl rfl (e_move) ?_
          refine g_val (v := .slice bp (bs.length) bc) rfl rfl rfl rfl rfl (e_move) ?_
          refine g_val (v := Nx (bs.length)) rfl rfl rfl rfl rfl (e_len (a := bp) (n := bs.length) (c := bc) rfl tf65) ?_
          refine g_val (v := .bool (decide ((inL (pairsT (things l 0)) bs) = ((bs.length : Nat) : Int)))) rfl rfl rfl rfl rfl (e_eql (a := (inL (pairsT (things l 0)) bs)) (b := ((bs.length : Nat) : Int)) rfl rfl) ?_
          refine l_val (v := .bool (decide ((inL (pairsT (things l 0)) bs) = ((bs.length : Nat) : Int)))) rfl rfl rfl (e_pick_t rfl) ?_
          refine l_val (v := .bool (decide ((inL (pairsT (things l 0)) bs) = ((bs.length : Nat) : Int)))) rfl rfl rfl (e_assign) ?_
          refine l_nil ?_
          refine f_then ?_
          refine c_ret ?_
          refine ret1 Try.results8 (v := .bool (decide ((inL (pairsT (things l 0)) bs) = ((bs.length : Nat) : Int)))) rfl ?_
          intro w hw
          exact ⟨congrArg (fun b : Bool => Ending.returned (.bool b)) (decide_eq_true hz2), st_mask [false, false, false, false, false, false, false, false, false, false] rfl hw⟩
    ·
      have he0 : ordS l turn.toNat l.length = entS l turn.toNat l.length := by rw [show l.length = 0 by omega]; rfl
      rw [he0]
      refine c_region ?_
      refine l_val (v := .bool true) rfl rfl rfl (e_move) ?_
      refine l_val (v := .bool false) rfl rfl rfl (e_not (a := true) rfl) ?_
      refine l_val (v := .bool false) rfl rfl rfl (e_move) ?_
      refine g_val (v := Nx (l.length)) rfl rfl rfl rfl rfl (e_move) ?_
      refine g_val (v := .bool (decide ((0 : Int) < ((l.length : Nat) : Int)))) rfl rfl rfl rfl rfl (e_gtr (a := ((l.length : Nat) : Int)) (b := (0 : Int)) rfl rfl) ?_
      refine g_val (v := .bool (decide ((0 : Int) < ((l.length : Nat) : Int)))) rfl rfl rfl rfl rfl (e_move) ?_
      refine l_split (s := 95) (p := (0 : Int) < ((l.length : Nat) : Int)) rfl (fun h => ?_) (fun h => ?_)
      exact absurd h (fun q => hn0 (by omega))
      refine l_skip rfl rfl rfl rfl rfl rfl ?_
      refine l_skip rfl rfl rfl rfl rfl rfl ?_
      refine l_skip rfl rfl rfl rfl rfl rfl ?_
      refine l_skip rfl rfl rfl rfl rfl rfl ?_
      refine l_skip rfl rfl rfl rfl rfl rfl ?_
      refine g_val (v := .bool false) rfl rfl rfl rfl rfl (e_pick_f rfl) ?_
      refine l_val (v := .bool false) rfl rfl rfl (e_pick_f rfl) ?_
      refine l_val (v := .bool false) rfl rfl rfl (e_move) ?_
      refine g_val (v := .pointer (some ⟨b3, 0, none⟩)) rfl rfl rfl rfl rfl (e_move) ?_
      refine g_call rfl rfl rfl rfl rfl (cl_value (fst := []) (cap := []) (vs := [.pointer (some ⟨b3, 0, none⟩)]) (all := [.pointer (some ⟨b3, 0, none⟩)]) tf76 rfl rfl rfl) ?_
      intro w hw
      replace hw := hw.perm (L' := _ :: _ :: _ :: _ :: []) (by exact ((((perm_front 3 rfl).trans (perm_front 2 rfl)).trans (perm_front 2 rfl)).trans (perm_front 3 rfl)))
      obtain ⟨β1, sb, kn, hw1, back⟩ := St.frame (L := [_]) (M := _ :: _ :: _ :: []) hw
      refine (spairsx_ok β1 w b3 (fillS l 1) hw1 (fill_okS (by decide) (by omega) hok)).mono ?_
      rintro e w' ⟨p26, c27, rfl, hw'⟩
      refine ⟨_, rfl, _, back _ _ hw', ?_⟩
      clear hw hw1 hw' back kn sb
      refine g_val (v := .pointer (some ⟨b4, 0, none⟩)) rfl rfl rfl rfl rfl (e_move) ?_
      refine g_call rfl rfl rfl rfl rfl (cl_value (fst := []) (cap := []) (vs := [.pointer (some ⟨b4, 0, none⟩)]) (all := [.pointer (some ⟨b4, 0, none⟩)]) tf76 rfl rfl rfl) ?_
      intro w hw
      replace hw := hw.perm (L' := _ :: _ :: _ :: _ :: _ :: []) (by exact (((((perm_front 4 rfl).trans (perm_front 3 rfl)).trans (perm_front 3 rfl)).trans (perm_front 3 rfl)).trans (perm_front 4 rfl)))
      obtain ⟨β1, sb, kn, hw1, back⟩ := St.frame (L := [_]) (M := _ :: _ :: _ :: _ :: []) hw
      refine (spairsx_ok β1 w b4 (entS l turn.toNat l.length) hw1 (ent_okS h30 hok (by omega))).mono ?_
      rintro e w' ⟨p28, c29, rfl, hw'⟩
      refine ⟨_, rfl, _, back _ _ hw', ?_⟩
      clear hw hw1 hw' back kn sb
      refine g_call rfl rfl rfl rfl rfl (cl_value (fst := []) (cap := []) (vs := [.slice p26 ((pairsS (fillS l 1)).length) c27, .slice p28 ((pairsS (entS l turn.toNat l.length)).length) c29]) (all := [.slice p26 ((pairsS (fillS l 1)).length) c27, .slice p28 ((pairsS (entS l turn.toNat l.length)).length) c29]) tf83 rfl rfl rfl) ?_
      intro w hw
      obtain ⟨β1, sb, kn, hw1, back⟩ := St.frame_all hw
      refine (same_ok β1 w hw1 _ _ (pairsS (fillS l 1)) (pairsS (entS l turn.toNat l.length)) (kn _ (k_flN 2 (F := PairF) (m := (pairsS (fillS l 1)).length) rfl rfl)) (kn _ (k_flN 0 (F := PairF) (m := (pairsS (entS l turn.toNat l.length)).length) rfl rfl))).mono ?_
      rintro e w' ⟨rfl, hw'⟩
      refine ⟨_, rfl, _, back _ _ hw', ?_⟩
      clear hw hw1 hw' back kn sb
      refine g_val (v := .bool (decide (¬ ((pairsS (fillS l 1)) = (pairsS (entS l turn.toNat l.length)))))) rfl rfl rfl rfl rfl (e_not_p (p := (pairsS (fillS l 1)) = (pairsS (entS l turn.toNat l.length))) rfl) ?_
      refine l_val (v := .bool (decide (¬ ((pairsS (fillS l 1)) = (pairsS (entS l turn.toNat l.length)))))) rfl rfl rfl (e_pick_f rfl) ?_
      refine l_nil ?_
      refine f_then ?_
      refine c_if (¬ ((pairsS (fillS l 1)) = (pairsS (entS l turn.toNat l.length)))) rfl (fun hc30 => ?_) (fun hc30 => ?_)
      ·
        exact absurd hc30 (fun q => q (ord_pairs l turn.toNat))
      ·
        refine c_skip ?_
        refine f_then ?_
        refine c_seq ?_
        refine c_region ?_
        refine l_val (v := .slice p1 (l.length) c2) rfl rfl rfl (e_move) ?_
        refine l_call rfl rfl rfl (cl_value (fst := []) (cap := []) (vs := [.slice p1 (l.length) c2]) (all := [.slice p1 (l.length) c2]) tf73 rfl rfl rfl) ?_
        intro w hw
        obtain ⟨β1, sb, kn, hw1, back⟩ := St.frame_all hw
        refine (pairs_ok β1 w hw1 _ l (kn _ (k_flN 5 (F := AreaF) (m := l.length) rfl rfl)) (by omega)).mono ?_
        rintro e w' ⟨p31, c32, rfl, hw'⟩
        refine ⟨_, rfl, _, back _ _ hw', ?_⟩
        clear hw hw1 hw' back kn sb
        refine l_val (v := .tuple #[.slice p31 ((pairsX l).length) c32, Ix (errP l)]) rfl rfl rfl (e_move) ?_
        refine l_val (v := .slice p31 ((pairsX l).length) c32) rfl rfl rfl (e_extract (vs := #[.slice p31 ((pairsX l).length) c32, Ix (errP l)]) rfl rfl) ?_
        refine l_val (v := Ix (errP l)) rfl rfl rfl (e_extract (vs := #[.slice p31 ((pairsX l).length) c32, Ix (errP l)]) rfl rfl) ?_
        refine l_val (v := .slice p31 ((pairsX l).length) c32) rfl rfl rfl (e_assign) ?_
        refine l_val (v := Ix (errP l)) rfl rfl rfl (e_assign) ?_
        refine l_nil ?_
        refine f_then ?_
        refine c_seq ?_
        refine c_region ?_
        refine l_val (v := .slice tp (ts.length) tc) rfl rfl rfl (e_move) ?_
        refine l_call rfl rfl rfl (cl_value (fst := []) (cap := []) (vs := [.slice tp (ts.length) tc]) (all := [.slice tp (ts.length) tc]) tf73 rfl rfl rfl) ?_
        intro w hw
        obtain ⟨β1, sb, kn, hw1, back⟩ := St.frame_all hw
        refine (pairs_ok β1 w hw1 _ ts (kn _ (k_flN 5 (F := AreaF) (m := ts.length) rfl rfl)) (by omega)).mono ?_
        rintro e w' ⟨p33, c34, rfl, hw'⟩
        refine ⟨_, rfl, _, back _ _ hw', ?_⟩
        clear hw hw1 hw' back kn sb
        refine l_val (v := .tuple #[.slice p33 ((pairsX ts).length) c34, Ix (errP ts)]) rfl rfl rfl (e_move) ?_
        refine l_val (v := .slice p33 ((pairsX ts).length) c34) rfl rfl rfl (e_extract (vs := #[.slice p33 ((pairsX ts).length) c34, Ix (errP ts)]) rfl rfl) ?_
        refine l_val (v := Ix (errP ts)) rfl rfl rfl (e_extract (vs := #[.slice p33 ((pairsX ts).length) c34, Ix (errP ts)]) rfl rfl) ?_
        refine l_val (v := .slice p33 ((pairsX ts).length) c34) rfl rfl rfl (e_assign) ?_
        refine l_val (v := Ix (errP ts)) rfl rfl rfl (e_assign) ?_
        refine l_nil ?_
        refine f_then ?_
        refine c_seq ?_
        have hrl := rotL_len l turn.toNat l.length
        have hpl : pairsX l = pairsT (things l 0) := (pairsX_ok ⟨hok, by omega⟩).trans (pairsA_eq l)
        have hpr : pairsX (rotL l turn.toNat l.length) = pairsT (things (rotL l turn.toNat l.length) 0) := (pairsX_ok ⟨rotL_ok hok (Nat.le_refl _), by omega⟩).trans (pairsA_eq _)
        have hel : errP l = 0 := errP_ok ⟨hok, by omega⟩
        have her : errP (rotL l turn.toNat l.length) = 0 := errP_ok ⟨rotL_ok hok (Nat.le_refl _), by omega⟩
        rw [hts, hpl, hpr, hel, her]
        have hp1 := pairs_len hl40
        have hp2 := pairs_len (l := rotL l turn.toNat l.length) (by omega)
        refine c_region ?_
        refine l_val (v := .slice none 0 0) rfl rfl rfl (e_assign) ?_
        refine l_nil ?_
        refine f_then ?_
        refine c_seq ?_
        refine c_seq ?_
        refine c_emp (r := rowF PairF 40 none 0 []) (row_nil _ _ _) ?_
        refine c_region ?_
        refine l_val (v := .slice p33 ((pairsT (things (rotL l turn.toNat l.length) 0)).length) c34) rfl rfl rfl (e_move) ?_
        refine l_val (v := Nx ((pairsT (things (rotL l turn.toNat l.length) 0)).length)) rfl rfl rfl (e_len (a := p33) (n := (pairsT (things (rotL l turn.toNat l.length) 0)).length) (c := c34) rfl tf65) ?_
        refine l_val (v := .int .i64 (0)) rfl rfl rfl (e_move) ?_
        refine l_nil ?_
        refine f_then ?_
        refine c_block ?_
        refine c_loop (fun (x_ : Nat × List KP × Option Addr × Nat) (f : Fm) (L : List Res) => match x_ with | (j, bs, bp, bc) => (f 1 = .int .u8 (((turn.toNat : Nat)) : Int) ∧ f 6 = Nx (l.length) ∧ f 13 = .slice p31 ((pairsT (things l 0)).length) c32 ∧ f 14 = .int .i64 (0) ∧ f 16 = .int .i64 (0) ∧ f 17 = .slice bp (bs.length) bc ∧ f 121 = .slice p33 ((pairsT (things (rotL l turn.toNat l.length) 0)).length) c34 ∧ f 122 = Nx ((pairsT (things (rotL l turn.toNat l.length) 0)).length) ∧ f 123 = Nx (j)) ∧ L = [rowF PairF 40 bp bc bs, rowF PairF 40 p33 c34 (pairsT (things (rotL l turn.toNat l.length) 0)), rowF PairF 40 p31 c32 (pairsT (things l 0)), rowF PairF 40 p28 c29 (pairsS (entS l turn.toNat l.length)), spcR b4 (entS l turn.toNat l.length), rowF PairF 40 p26 c27 (pairsS (fillS l 1)), spcR b3 (fillS l 1), rowF AreaF 25 tp tc (rotL l turn.toNat l.length), rowF AreaF 25 p1 c2 l] ∧ (j ≤ (pairsT (things (rotL l turn.toNat l.length) 0)).length ∧ bs = ((pairsT (things (rotL l turn.toNat l.length) 0)).take j).map (renP (turnF turn.toNat l.length)))) (fun (x_ : Nat × List KP × Option Addr × Nat) => match x_ with | (j, bs, bp, bc) => (pairsT (things (rotL l turn.toNat l.length) 0)).length - j) (0, [], none, 0) ?_ ?_
        · exact ⟨⟨rfl, rfl, rfl, rfl, rfl, rfl, rfl, rfl, rfl⟩, rfl, ⟨by omega, rfl⟩⟩
        rintro ⟨j, bs, bp, bc⟩ f0 L0 ⟨⟨hs1, hs6, hs13, hs14, hs16, hs17, hs121, hs122, hs123⟩, hL, ⟨hj, hbs⟩⟩
        subst L0
        refine rebase (d := 1) hs1 ?_
        refine rebase (d := 6) hs6 ?_
        refine rebase (d := 13) hs13 ?_
        refine rebase (d := 14) hs14 ?_
        refine rebase (d := 16) hs16 ?_
        refine rebase (d := 17) hs17 ?_
        refine rebase (d := 121) hs121 ?_
        refine rebase (d := 122) hs122 ?_
        refine rebase (d := 123) hs123 ?_
        clear hs1 hs6 hs13 hs14 hs16 hs17 hs121 hs122 hs123
        have hbl : bs.length = j := by rw [hbs, List.length_map, List.length_take]; omega
        refine c_seq ?_
        refine c_region ?_
        refine l_val (v := .bool (decide (((j : Nat) : Int) < (((pairsT (things (rotL l turn.toNat l.length) 0)).length : Nat) : Int)))) rfl rfl rfl (e_lss (a := ((j : Nat) : Int)) (b := (((pairsT (things (rotL l turn.toNat l.length) 0)).length : Nat) : Int)) rfl rfl) ?_
        refine l_nil ?_
        refine f_then ?_
        refine c_seq ?_
        refine c_if (((j : Nat) : Int) < (((pairsT (things (rotL l turn.toNat l.length) 0)).length : Nat) : Int)) rfl (fun hc35 => ?_) (fun hc35 => ?_)
        ·
          refine c_skip ?_
          refine f_then ?_
          refine c_seq ?_
          refine c_block ?_
          refine c_seq ?_
          refine c_region ?_
          refine l_val (v := .pointer (some ((ba p33).add (j * 2)))) rfl rfl rfl (e_indexFlN 1 (F := PairF) (j := j) (m := (pairsT (things (rotL l turn.toNat l.length) 0)).length) (xs := (pairsT (things (rotL l turn.toNat l.length) 0))) rfl rfl rfl tf37 (by omega) rfl) ?_
          obtain ⟨q, hq⟩ : ∃ x_, (pairsT (things (rotL l turn.toNat l.length) 0))[j]? = some x_ := ⟨_, List.getElem?_eq_getElem (by omega)⟩
          refine l_val (v := .agg #[Ix (q.a), Ix (q.b)]) rfl rfl rfl (e_load tf35 (cs := [Ix (q.a), Ix (q.b)]) rfl (k_flAt 1 (F := PairF) rfl hq) rfl) ?_
          refine l_mv rfl rfl rfl (m_alloc tf33) ?_
          rintro _ _ ⟨b36, rfl, rfl⟩
          refine l_mu rfl rfl (m_store 0 tf35 (b := b36) (o := 0) (T := 40) (cs := #[.int .i64 (0), .int .i64 (0)]) (cs' := #[Ix (q.a), Ix (q.b)]) (v := .agg #[Ix (q.a), Ix (q.b)]) rfl rfl rfl rfl rfl rfl rfl) ?_
          refine l_nil ?_
          refine f_then ?_
          refine c_seq ?_
          obtain ⟨hb1, hb2, hb3, hb4⟩ := pair_bd (List.mem_of_getElem? hq)
          refine c_quiet (by kernel_rfl) (by kernel_rfl) ?_
          refine q_val (v := .pointer (some ⟨b36, 0, none⟩)) rfl rfl rfl (e_fieldPt (b := b36) (o := 0) rfl tf19) ?_
          refine q_val (v := Ix (q.a)) rfl rfl rfl (e_load1 tf2 (v := Ix (q.a)) rfl (k_pt 0 (cs := #[Ix (q.a), Ix (q.b)]) (vs := [Ix (q.a)]) rfl rfl)) ?_
          refine q_val (v := .int .u8 (((turn.toNat : Nat)) : Int)) rfl rfl rfl (e_move) ?_
          refine q_val (v := Nx (turn.toNat)) rfl rfl rfl (e_conv (a := ((turn.toNat : Nat) : Int)) rfl ⟨_, tf88⟩ tf89 (i64n rfl (by omega))) ?_
          refine q_val (v := Ix ((q.a) + ((turn.toNat : Nat) : Int))) rfl rfl rfl (e_add (a := (q.a)) (b := ((turn.toNat : Nat) : Int)) rfl rfl (i64w (by omega))) ?_
          refine q_val (v := Nx (l.length)) rfl rfl rfl (e_move) ?_
          refine q_val (v := Ix (turnF turn.toNat l.length (q.a))) rfl rfl rfl (e_rem (a := ((q.a) + ((turn.toNat : Nat) : Int))) (b := ((l.length : Nat) : Int)) rfl rfl (by omega) rfl) ?_
          refine q_val (v := .pointer (some ⟨b36, 1, none⟩)) rfl rfl rfl (e_fieldPt (b := b36) (o := 0) rfl tf20) ?_
          refine q_val (v := Ix (q.b)) rfl rfl rfl (e_load1 tf2 (v := Ix (q.b)) rfl (k_pt 0 (cs := #[Ix (q.a), Ix (q.b)]) (vs := [Ix (q.b)]) rfl rfl)) ?_
          refine q_val (v := .int .u8 (((turn.toNat : Nat)) : Int)) rfl rfl rfl (e_move) ?_
          refine q_val (v := Nx (turn.toNat)) rfl rfl rfl (e_conv (a := ((turn.toNat : Nat) : Int)) rfl ⟨_, tf88⟩ tf89 (i64n rfl (by omega))) ?_
          refine q_val (v := Ix ((q.b) + ((turn.toNat : Nat) : Int))) rfl rfl rfl (e_add (a := (q.b)) (b := ((turn.toNat : Nat) : Int)) rfl rfl (i64w (by omega))) ?_
          refine q_val (v := Nx (l.length)) rfl rfl rfl (e_move) ?_
          refine q_val (v := Ix (turnF turn.toNat l.length (q.b))) rfl rfl rfl (e_rem (a := ((q.b) + ((turn.toNat : Nat) : Int))) (b := ((l.length : Nat) : Int)) rfl rfl (by omega) rfl) ?_
          refine q_val (v := Ix (turnF turn.toNat l.length (q.a))) rfl rfl rfl (e_assign) ?_
          refine q_val (v := Ix (turnF turn.toNat l.length (q.b))) rfl rfl rfl (e_assign) ?_
          refine q_nil ?_
          refine f_then ?_
          refine c_region ?_
          refine l_val (v := .slice bp (bs.length) bc) rfl rfl rfl (e_move) ?_
          refine l_val (v := Ix (turnF turn.toNat l.length (q.a))) rfl rfl rfl (e_move) ?_
          refine l_val (v := Ix (turnF turn.toNat l.length (q.b))) rfl rfl rfl (e_move) ?_
          refine l_val (v := Ix (min (turnF turn.toNat l.length (q.a)) (turnF turn.toNat l.length (q.b)))) rfl rfl rfl (e_min (a := (turnF turn.toNat l.length (q.a))) (b := (turnF turn.toNat l.length (q.b))) rfl rfl) ?_
          refine l_val (v := Ix (turnF turn.toNat l.length (q.a))) rfl rfl rfl (e_move) ?_
          refine l_val (v := Ix (turnF turn.toNat l.length (q.b))) rfl rfl rfl (e_move) ?_
          refine l_val (v := Ix (max (turnF turn.toNat l.length (q.a)) (turnF turn.toNat l.length (q.b)))) rfl rfl rfl (e_max (a := (turnF turn.toNat l.length (q.a))) (b := (turnF turn.toNat l.length (q.b))) rfl rfl) ?_
          refine l_val (v := .agg #[Ix (min (turnF turn.toNat l.length (q.a)) (turnF turn.toNat l.length (q.b))), Ix (max (turnF turn.toNat l.length (q.a)) (turnF turn.toNat l.length (q.b)))]) rfl rfl rfl (e_build tf33 tf32 (vs := [(0, Ix (min (turnF turn.toNat l.length (q.a)) (turnF turn.toNat l.length (q.b)))), (1, Ix (max (turnF turn.toNat l.length (q.a)) (turnF turn.toNat l.length (q.b))))]) (cells := #[Ix (min (turnF turn.toNat l.length (q.a)) (turnF turn.toNat l.length (q.b))), Ix (max (turnF turn.toNat l.length (q.a)) (turnF turn.toNat l.length (q.b)))]) rfl rfl) ?_
          refine l_mv rfl rfl rfl (m_slices tf37 tf33 (vs := [(0, .agg #[Ix (min (turnF turn.toNat l.length (q.a)) (turnF turn.toNat l.length (q.b))), Ix (max (turnF turn.toNat l.length (q.a)) (turnF turn.toNat l.length (q.b)))])]) (cells := #[Ix (min (turnF turn.toNat l.length (q.a)) (turnF turn.toNat l.length (q.b))), Ix (max (turnF turn.toNat l.length (q.a)) (turnF turn.toNat l.length (q.b)))]) rfl rfl rfl rfl) ?_
          rintro _ _ ⟨b37, rfl, rfl⟩
          refine l_mv rfl rfl rfl (m_appendFlN (F := PairF) 2 tf37 tf38 (p := bp) (m := bs.length) (xs := bs) (ys := [(⟨min (turnF turn.toNat l.length (q.a)) (turnF turn.toNat l.length (q.b)), max (turnF turn.toNat l.length (q.a)) (turnF turn.toNat l.length (q.b))⟩ : KP)]) (ao := (some ⟨b37, 0, none⟩)) (k := 1) (c := 1) rfl rfl rfl rfl rfl (k_ptFl (z := (⟨min (turnF turn.toNat l.length (q.a)) (turnF turn.toNat l.length (q.b)), max (turnF turn.toNat l.length (q.a)) (turnF turn.toNat l.length (q.b))⟩ : KP)) 0 rfl rfl) (by first | omega | simp only [List.length_nil, List.length_cons, List.length_append, List.length_set]; omega) (by first | omega | simp only [List.length_nil, List.length_cons, List.length_append, List.length_set]; omega)) ?_
          rintro _ _ ⟨rp38, rc39, rfl, rfl⟩
          refine l_val (v := .slice rp38 ((bs ++ [(⟨min (turnF turn.toNat l.length (q.a)) (turnF turn.toNat l.length (q.b)), max (turnF turn.toNat l.length (q.a)) (turnF turn.toNat l.length (q.b))⟩ : KP)]).length) rc39) rfl rfl rfl (e_assign) ?_
          refine l_nil ?_
          refine f_block ?_
          refine f_then ?_
          refine c_region ?_
          refine l_val (v := Nx (j + 1)) rfl rfl rfl (e_add (a := ((j : Nat) : Int)) (b := (1 : Int)) rfl rfl (i64n (by omega) (by omega))) ?_
          refine l_val (v := Nx (j + 1)) rfl rfl rfl (e_move) ?_
          refine l_nil ?_
          refine f_mask (L' := [rowF PairF 40 rp38 rc39 (bs ++ [(⟨min (turnF turn.toNat l.length (q.a)) (turnF turn.toNat l.length (q.b)), max (turnF turn.toNat l.length (q.a)) (turnF turn.toNat l.length (q.b))⟩ : KP)]), rowF PairF 40 p33 c34 (pairsT (things (rotL l turn.toNat l.length) 0)), rowF PairF 40 p31 c32 (pairsT (things l 0)), rowF PairF 40 p28 c29 (pairsS (entS l turn.toNat l.length)), spcR b4 (entS l turn.toNat l.length), rowF PairF 40 p26 c27 (pairsS (fillS l 1)), spcR b3 (fillS l 1), rowF AreaF 25 tp tc (rotL l turn.toNat l.length), rowF AreaF 25 p1 c2 l]) [false, false, true, true, true, true, true, true, true, true, true] rfl ?_
          exact f_cut ⟨(j + 1, (bs ++ [(⟨min (turnF turn.toNat l.length (q.a)) (turnF turn.toNat l.length (q.b)), max (turnF turn.toNat l.length (q.a)) (turnF turn.toNat l.length (q.b))⟩ : KP)]), rp38, rc39), ⟨⟨rfl, rfl, rfl, rfl, rfl, rfl, rfl, rfl, rfl⟩, rfl, ⟨by omega, by rw [hbs]; exact ren_next hq⟩⟩, (show (pairsT (things (rotL l turn.toNat l.length) 0)).length - (j + 1) < (pairsT (things (rotL l turn.toNat l.length) 0)).length - j from by omega)⟩
        ·
          refine c_exit ?_
          refine f_then_exit ?_
          refine f_then_exit ?_
          refine f_exit ?_
          refine f_then ?_
          refine c_seq ?_
          have hbl : bs.length = j := by rw [hbs, List.length_map, List.length_take]; omega
          rw [List.take_of_length_le (by omega)] at hbs
          have hper : bs.Perm (pairsT (things l 0)) := hbs ▸ back_perm
          obtain ⟨hz1, hz2⟩ := perm_none hper
          refine c_region ?_
          refine l_val (v := .slice p31 ((pairsT (things l 0)).length) c32) rfl rfl rfl (e_move) ?_
          refine l_val (v := .slice bp (bs.length) bc) rfl rfl rfl (e_move) ?_
          refine l_call rfl rfl rfl (cl_value (fst := []) (cap := []) (vs := [.slice p31 ((pairsT (things l 0)).length) c32, .slice bp (bs.length) bc]) (all := [.slice p31 ((pairsT (things l 0)).length) c32, .slice bp (bs.length) bc]) tf117 rfl rfl rfl) ?_
          intro w hw
          obtain ⟨β1, sb, kn, hw1, back⟩ := St.frame_all hw
          refine (without_ok β1 w hw1 _ _ (pairsT (things l 0)) bs (kn _ (k_flN 2 (F := PairF) (m := (pairsT (things l 0)).length) rfl rfl)) (kn _ (k_flN 0 (F := PairF) (m := bs.length) rfl rfl)) (by omega)).mono ?_
          rintro e w' ⟨p40, c41, rfl, hw'⟩
          refine ⟨_, rfl, _, back _ _ hw', ?_⟩
          clear hw hw1 hw' back kn sb
          refine l_val (v := .tuple #[.slice p40 ((beganL bs (pairsT (things l 0))).length) c41, Ix (inL (pairsT (things l 0)) bs)]) rfl rfl rfl (e_move) ?_
          refine l_val (v := .slice p40 ((beganL bs (pairsT (things l 0))).length) c41) rfl rfl rfl (e_extract (vs := #[.slice p40 ((beganL bs (pairsT (things l 0))).length) c41, Ix (inL (pairsT (things l 0)) bs)]) rfl rfl) ?_
          refine l_val (v := Ix (inL (pairsT (things l 0)) bs)) rfl rfl rfl (e_extract (vs := #[.slice p40 ((beganL bs (pairsT (things l 0))).length) c41, Ix (inL (pairsT (things l 0)) bs)]) rfl rfl) ?_
          refine l_val (v := .slice p40 ((beganL bs (pairsT (things l 0))).length) c41) rfl rfl rfl (e_assign) ?_
          refine l_val (v := Ix (inL (pairsT (things l 0)) bs)) rfl rfl rfl (e_assign) ?_
          refine l_nil ?_
          refine f_then ?_
          refine c_seq ?_
          refine c_region ?_
          refine l_val (v := .int .i64 (0)) rfl rfl rfl (e_move) ?_
          refine l_val (v := .int .i64 (0)) rfl rfl rfl (e_move) ?_
          refine l_val (v := .int .i64 (0)) rfl rfl rfl (e_add (a := (0 : Int)) (b := (0 : Int)) rfl rfl (by decide)) ?_
          refine l_val (v := .bool true) rfl rfl rfl (e_eql (a := (0 : Int)) (b := (0 : Int)) rfl rfl) ?_
          refine l_val (v := .bool true) rfl rfl rfl (e_move) ?_
          refine g_val (v := .slice p40 ((beganL bs (pairsT (things l 0))).length) c41) rfl rfl rfl rfl rfl (e_move) ?_
          refine g_val (v := Nx ((beganL bs (pairsT (things l 0))).length)) rfl rfl rfl rfl rfl (e_len (a := p40) (n := (beganL bs (pairsT (things l 0))).length) (c := c41) rfl tf65) ?_
          refine g_val (v := .bool (decide ((((beganL bs (pairsT (things l 0))).length : Nat) : Int) = (0 : Int)))) rfl rfl rfl rfl rfl (e_eql (a := (((beganL bs (pairsT (things l 0))).length : Nat) : Int)) (b := (0 : Int)) rfl rfl) ?_
          refine l_val (v := .bool (decide ((((beganL bs (pairsT (things l 0))).length : Nat) : Int) = (0 : Int)))) rfl rfl rfl (e_pick_t rfl) ?_
          refine l_val (v := .bool (decide ((((beganL bs (pairsT (things l 0))).length : Nat) : Int) = (0 : Int)))) rfl rfl rfl (e_move) ?_
          refine l_split (s := 167) (p := (((beganL bs (pairsT (things l 0))).length : Nat) : Int) = (0 : Int)) rfl (fun h => ?_) (fun h => ?_)
          rotate_left; exact absurd (by rw [hz1]; rfl) h
          refine g_val (v := Ix (inL (pairsT (things l 0)) bs)) rfl rfl rfl rfl rfl (e_move) ?_
          refine g_val (v := .slice bp (bs.length) bc) rfl rfl rfl rfl rfl (e_move) ?_
          refine g_val (v := Nx (bs.length)) rfl rfl rfl rfl rfl (e_len (a := bp) (n := bs.length) (c := bc) rfl tf65) ?_
          refine g_val (v := .bool (decide ((inL (pairsT (things l 0)) bs) = ((bs.length : Nat) : Int)))) rfl rfl rfl rfl rfl (e_eql (a := (inL (pairsT (things l 0)) bs)) (b := ((bs.length : Nat) : Int)) rfl rfl) ?_
          refine l_val (v := .bool (decide ((inL (pairsT (things l 0)) bs) = ((bs.length : Nat) : Int)))) rfl rfl rfl (e_pick_t rfl) ?_
          refine l_val (v := .bool (decide ((inL (pairsT (things l 0)) bs) = ((bs.length : Nat) : Int)))) rfl rfl rfl (e_assign) ?_
          refine l_nil ?_
          refine f_then ?_
          refine c_ret ?_
          refine ret1 Try.results8 (v := .bool (decide ((inL (pairsT (things l 0)) bs) = ((bs.length : Nat) : Int)))) rfl ?_
          intro w hw
          exact ⟨congrArg (fun b : Bool => Ending.returned (.bool b)) (decide_eq_true hz2), st_mask [false, false, false, false, false, false, false, false, false, false] rfl hw⟩
end Go.Proofs
