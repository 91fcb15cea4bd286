/-
 JournalWrong, walked. Printed by a program of my own.
-/
import Derived.Test.YtkpdcajddpiknaaJn15
import Derived.Test.YtkpdcajddpiknaaJnIdx
import Derived.Test.YtkpdcajddpiknaaJnFill
namespace Go.Proofs
open Go Go.Sl Go.Jn
def wK : KS := ⟨[], [], [], 5⟩
def wK1 : KS := cutS (powS wK) aI0.epoch aI0.size
def wK2 : KS := { wK1 with power := 0 }
theorem wK_inv : Inv wK aI0 0 true := inv_empty (p := 5) (by decide)
theorem tf119 : cfB Try.prog 67 = true := by kernel_rfl
theorem tf120 : arB Try.prog 82 4 32 4 = true := by kernel_rfl
theorem tf121 : (Try.prog.info? 82).bind (·.zero) = some (.agg #[.slice none 0 0, .slice none 0 0, .slice none 0 0, .int .i64 (0), .slice none 0 0, .slice none 0 0, .slice none 0 0, .int .i64 (0), .slice none 0 0, .slice none 0 0, .slice none 0 0, .int .i64 (0), .slice none 0 0, .slice none 0 0, .slice none 0 0, .int .i64 (0)]) := by kernel_rfl
theorem tf122 : cfB Try.prog 28 = true := by kernel_rfl
theorem tf123 : slB Try.prog 85 43 1 = true := by kernel_rfl
theorem tf124 : Try.prog.underlying 85 = some (.slice 43) := by kernel_rfl
set_option maxHeartbeats 4000000 in
theorem sameb_ok (β : Base) (w : World) (hw : St β [] w) (xs ys : Bs) (v u : Value) (hx : Sl U8R β.heap v xs) (hy : Sl U8R β.heap u ys) : Calls Try.prog 67 #[v, u] w fun r w' => r = .returned (.bool (decide (xs = ys))) ∧ St β [] w' := by
 obtain ⟨va, vc, rfl, vl, vm, ve⟩ := hx.get
 obtain ⟨ua, uc, rfl, ul, um, ue⟩ := hy.get
 refine enter (n := 26) Try.func67 rfl Try.ntmps67 rfl ?_ hw
 refine c_seq ?_
 refine c_region ?_
 refine l_val (v := .bool false) rfl rfl rfl (e_assign) ?_
 refine l_nil ?_
 refine f_then ?_
 refine c_seq ?_
 refine c_seq ?_
 refine c_region ?_
 refine l_val (v := .slice va (xs.length) (vc)) rfl rfl rfl (e_move) ?_
 refine l_val (v := Nx (xs.length)) rfl rfl rfl (e_len (a := va) (n := xs.length) (c := vc) rfl tf11) ?_
 refine l_val (v := .slice ua (ys.length) (uc)) rfl rfl rfl (e_move) ?_
 refine l_val (v := Nx (ys.length)) rfl rfl rfl (e_len (a := ua) (n := ys.length) (c := uc) rfl tf11) ?_
 refine l_val (v := .bool (decide (((xs.length : Nat) : Int) ≠ ((ys.length : Nat) : Int)))) rfl rfl rfl (e_neq (a := ((xs.length : Nat) : Int)) (b := ((ys.length : Nat) : Int)) rfl rfl) ?_
 refine l_nil ?_
 refine f_then ?_
 refine c_if (((xs.length : Nat) : Int) ≠ ((ys.length : Nat) : Int)) rfl (fun hc1 => ?_) (fun hc1 => ?_)
 ·
  refine c_seq ?_
  refine c_region ?_
  refine l_val (v := .bool false) rfl rfl rfl (e_assign) ?_
  refine l_nil ?_
  refine f_then ?_
  refine c_ret ?_
  refine f_then_ret ?_
  refine ret1 Try.results67 (v := .bool false) rfl ?_
  intro w hw
  exact ⟨bool_f (fun h => by subst h; omega), st_mask [] rfl hw⟩
 ·
  refine c_skip ?_
  refine f_then ?_
  refine c_seq ?_
  refine c_seq ?_
  refine c_region ?_
  refine l_val (v := .int .i64 (0)) rfl rfl rfl (e_assign) ?_
  refine l_nil ?_
  refine f_then ?_
  refine c_block ?_
  refine c_loop (fun (k : Nat) (f : Fm) (L : List Res) => (f 0 = .slice va (xs.length) (vc) ∧ f 1 = .slice ua (ys.length) (uc) ∧ f 5 = Nx (k)) ∧ L = [] ∧ (k ≤ xs.length ∧ xs.take k = ys.take k)) (fun (k : Nat) => xs.length - k) 0 ?_ ?_
  ·exact ⟨⟨rfl, rfl, rfl⟩, rfl, ⟨by omega, rfl⟩⟩
  rintro k f0 L0 ⟨⟨hs0, hs1, hs5⟩, hL, ⟨hp1, hp2⟩⟩
  subst L0
  refine rebase (d := 0) hs0 ?_
  refine rebase (d := 1) hs1 ?_
  refine rebase (d := 5) hs5 ?_
  clear hs0 hs1 hs5
  refine c_seq ?_
  refine c_seq ?_
  refine c_region ?_
  refine l_val (v := Nx (k)) rfl rfl rfl (e_move) ?_
  refine l_val (v := .slice va (xs.length) (vc)) rfl rfl rfl (e_move) ?_
  refine l_val (v := Nx (xs.length)) rfl rfl rfl (e_len (a := va) (n := xs.length) (c := vc) rfl tf11) ?_
  refine l_val (v := .bool (decide (((k : Nat) : Int) < ((xs.length : Nat) : Int)))) rfl rfl rfl (e_lss (a := ((k : Nat) : Int)) (b := ((xs.length : Nat) : Int)) rfl rfl) ?_
  refine l_nil ?_
  refine f_then ?_
  refine c_if (((k : Nat) : Int) < ((xs.length : Nat) : Int)) rfl (fun hc2 => ?_) (fun hc2 => ?_)
  ·
   refine c_skip ?_
   refine f_then ?_
   refine c_seq ?_
   refine c_block ?_
   refine c_seq ?_
   refine c_quiet (by kernel_rfl) (by kernel_rfl) ?_
   refine q_val (v := .slice va (xs.length) (vc)) rfl rfl rfl (e_move) ?_
   refine q_val (v := Nx (k)) rfl rfl rfl (e_move) ?_
   obtain ⟨x3, hx4⟩ : ∃ x_, (xs)[k]? = some x_ := ⟨_, List.getElem?_eq_getElem (by omega)⟩
   obtain ⟨ha5, cs6, hc7, rfl⟩ := ve _ _ hx4
   refine q_val (v := .pointer (some ((ba va).add (k * 1)))) rfl rfl rfl (e_indexAddr (k := k) (len := xs.length) (cap := vc) (a := va) rfl rfl tf12 (by omega) ha5) ?_
   refine q_val (v := Bx (x3)) rfl rfl rfl (e_load1 tf13 (v := Bx (x3)) rfl (Knows.of_base (Cs.mono _ _) hc7)) ?_
   refine q_val (v := .slice ua (ys.length) (uc)) rfl rfl rfl (e_move) ?_
   refine q_val (v := Nx (k)) rfl rfl rfl (e_move) ?_
   obtain ⟨x9, hx10⟩ : ∃ x_, (ys)[k]? = some x_ := ⟨_, List.getElem?_eq_getElem (by omega)⟩
   obtain ⟨ha11, cs12, hc13, rfl⟩ := ue _ _ hx10
   refine q_val (v := .pointer (some ((ba ua).add (k * 1)))) rfl rfl rfl (e_indexAddr (k := k) (len := ys.length) (cap := uc) (a := ua) rfl rfl tf12 (by omega) ha11) ?_
   refine q_val (v := Bx (x9)) rfl rfl rfl (e_load1 tf13 (v := Bx (x9)) rfl (Knows.of_base (Cs.mono _ _) hc13)) ?_
   refine q_val (v := .bool (decide (((x3).toNat : Int) ≠ ((x9).toNat : Int)))) rfl rfl rfl (e_neq (a := ((x3).toNat : Int)) (b := ((x9).toNat : Int)) rfl rfl) ?_
   refine q_nil ?_
   refine f_then ?_
   refine c_if (((x3).toNat : Int) ≠ ((x9).toNat : Int)) rfl (fun hc15 => ?_) (fun hc15 => ?_)
   ·
    refine c_seq ?_
    refine c_region ?_
    refine l_val (v := .bool false) rfl rfl rfl (e_assign) ?_
    refine l_nil ?_
    refine f_then ?_
    refine c_ret ?_
    refine f_block_ret ?_
    refine f_then_ret ?_
    refine f_then_ret ?_
    refine f_block_ret ?_
    refine f_then_ret ?_
    refine ret1 Try.results67 (v := .bool false) rfl ?_
    intro w hw
    exact ⟨bool_f (list_ne hx4 hx10 (fun h => hc15 (by rw [h]))), st_mask [] rfl hw⟩
   ·
    refine c_skip ?_
    refine f_block ?_
    refine f_then ?_
    refine c_region ?_
    refine l_val (v := Nx (k)) rfl rfl rfl (e_move) ?_
    refine l_val (v := Nx (k + 1)) rfl rfl rfl (e_add (a := ((k : Nat) : Int)) (b := (1 : Int)) rfl rfl (i64n (by omega) (by omega))) ?_
    refine l_val (v := Nx (k + 1)) rfl rfl rfl (e_assign) ?_
    refine l_nil ?_
    exact f_cut ⟨k + 1, ⟨⟨rfl, rfl, rfl⟩, rfl, ⟨by omega, take_next hx4 (by rw [hx10, UInt8.toNat_inj.1 (Int.ofNat.inj (Decidable.not_not.1 hc15))]) hp2⟩⟩, (show xs.length - (k + 1) < xs.length - k from by omega)⟩
  ·
   refine c_exit ?_
   refine f_then_exit ?_
   refine f_then_exit ?_
   refine f_exit ?_
   refine f_then ?_
   refine c_seq ?_
   refine c_region ?_
   refine l_val (v := .bool true) rfl rfl rfl (e_assign) ?_
   refine l_nil ?_
   refine f_then ?_
   refine c_ret ?_
   refine ret1 Try.results67 (v := .bool true) rfl ?_
   intro w hw
   exact ⟨bool_t (take_all hp2 (by omega) (by omega)), st_mask [] rfl hw⟩
theorem sames_ok (β : Base) (w : World) (hw : St β [] w) (k : KS) (vh va vb : Value) (hH : Sl U8R β.heap vh k.head) (hA : Sl U8R β.heap va k.a) (hB : Sl U8R β.heap vb k.b) (uh ua ub : Value) (gH : Sl U8R β.heap uh k.head) (gA : Sl U8R β.heap ua k.a) (gB : Sl U8R β.heap ub k.b) : Calls Try.prog 28 #[.agg #[vh, va, vb, Ix k.power], .agg #[uh, ua, ub, Ix k.power]] w fun r w' => r = .returned (.bool true) ∧ St β [] w' := by
 obtain ⟨vha, vhc, rfl, vhl, vhm, vhe⟩ := hH.get
 obtain ⟨vaa, vac, rfl, val, vam, vae⟩ := hA.get
 obtain ⟨vba, vbc, rfl, vbl, vbm, vbe⟩ := hB.get
 obtain ⟨uha, uhc, rfl, uhl, uhm, uhe⟩ := gH.get
 obtain ⟨uaa, uac, rfl, ual, uam, uae⟩ := gA.get
 obtain ⟨uba, ubc, rfl, ubl, ubm, ube⟩ := gB.get
 refine enter (n := 31) Try.func28 rfl Try.ntmps28 rfl ?_ hw
 refine c_seq ?_
 refine c_region ?_
 refine l_mv rfl rfl rfl (m_box (v := .agg #[.slice vha (k.head.length) (vhc), .slice vaa (k.a.length) (vac), .slice vba (k.b.length) (vbc), Ix (k.power)]) rfl) ?_
 rintro _ _ ⟨b1, rfl, rfl⟩
 refine l_mv rfl rfl rfl (m_box (v := .agg #[.slice uha (k.head.length) (uhc), .slice uaa (k.a.length) (uac), .slice uba (k.b.length) (ubc), Ix (k.power)]) rfl) ?_
 rintro _ _ ⟨b2, rfl, rfl⟩
 refine l_val (v := .bool false) rfl rfl rfl (e_assign) ?_
 refine l_nil ?_
 refine f_then ?_
 refine c_seq ?_
 refine c_region ?_
 refine l_val (v := .pointer (some ⟨b1, 0, none⟩)) rfl rfl rfl (e_fieldPt (b := b1) (o := 0) rfl tf20) ?_
 refine l_val (v := .slice vha (k.head.length) (vhc)) rfl rfl rfl (e_load1 tf21 (v := .slice vha (k.head.length) (vhc)) rfl (k_pt 1 (cs := #[.slice vha (k.head.length) (vhc), .slice vaa (k.a.length) (vac), .slice vba (k.b.length) (vbc), Ix (k.power)]) (vs := [.slice vha (k.head.length) (vhc)]) rfl rfl)) ?_
 refine l_val (v := .pointer (some ⟨b2, 0, none⟩)) rfl rfl rfl (e_fieldPt (b := b2) (o := 0) rfl tf20) ?_
 refine l_val (v := .slice uha (k.head.length) (uhc)) rfl rfl rfl (e_load1 tf21 (v := .slice uha (k.head.length) (uhc)) rfl (k_pt 0 (cs := #[.slice uha (k.head.length) (uhc), .slice uaa (k.a.length) (uac), .slice uba (k.b.length) (ubc), Ix (k.power)]) (vs := [.slice uha (k.head.length) (uhc)]) rfl rfl)) ?_
 refine l_call rfl rfl rfl (cl_value (fst := []) (cap := []) (vs := [.slice vha (k.head.length) (vhc), .slice uha (k.head.length) (uhc)]) (all := [.slice vha (k.head.length) (vhc), .slice uha (k.head.length) (uhc)]) tf119 rfl rfl rfl) ?_
 intro w hw
 obtain ⟨β1, sb, kn, hw1, back⟩ := St.frame_all hw
 refine (sameb_ok β1 w hw1 k.head k.head _ _ (Sl.mono _ _ _ _ _ sb (⟨⟨_, _, rfl, vhl, vhm, vhe⟩⟩ : Sl U8R _ _ k.head)) (Sl.mono _ _ _ _ _ sb (⟨⟨_, _, rfl, uhl, uhm, uhe⟩⟩ : Sl U8R _ _ k.head))).mono ?_
 rintro e w' ⟨rfl, hw'⟩
 refine ⟨_, rfl, _, back _ _ hw', ?_⟩
 clear hw hw1 hw' back kn sb
 refine l_val (v := .bool (decide (k.head = k.head))) rfl rfl rfl (e_move) ?_
 refine l_split (s := 10) (p := k.head = k.head) rfl (fun h => ?_) (fun h => ?_)
 rotate_left; exact absurd rfl h
 refine g_val (v := .pointer (some ⟨b1, 1, none⟩)) rfl rfl rfl rfl rfl (e_fieldPt (b := b1) (o := 0) rfl tf22) ?_
 refine g_val (v := .slice vaa (k.a.length) (vac)) rfl rfl rfl rfl rfl (e_load1 tf21 (v := .slice vaa (k.a.length) (vac)) rfl (k_pt 1 (cs := #[.slice vha (k.head.length) (vhc), .slice vaa (k.a.length) (vac), .slice vba (k.b.length) (vbc), Ix (k.power)]) (vs := [.slice vaa (k.a.length) (vac)]) rfl rfl)) ?_
 refine g_val (v := .pointer (some ⟨b2, 1, none⟩)) rfl rfl rfl rfl rfl (e_fieldPt (b := b2) (o := 0) rfl tf22) ?_
 refine g_val (v := .slice uaa (k.a.length) (uac)) rfl rfl rfl rfl rfl (e_load1 tf21 (v := .slice uaa (k.a.length) (uac)) rfl (k_pt 0 (cs := #[.slice uha (k.head.length) (uhc), .slice uaa (k.a.length) (uac), .slice uba (k.b.length) (ubc), Ix (k.power)]) (vs := [.slice uaa (k.a.length) (uac)]) rfl rfl)) ?_
 refine g_call rfl rfl rfl rfl rfl (cl_value (fst := []) (cap := []) (vs := [.slice vaa (k.a.length) (vac), .slice uaa (k.a.length) (uac)]) (all := [.slice vaa (k.a.length) (vac), .slice uaa (k.a.length) (uac)]) tf119 rfl rfl rfl) ?_
 intro w hw
 obtain ⟨β1, sb, kn, hw1, back⟩ := St.frame_all hw
 refine (sameb_ok β1 w hw1 k.a k.a _ _ (Sl.mono _ _ _ _ _ sb (⟨⟨_, _, rfl, val, vam, vae⟩⟩ : Sl U8R _ _ k.a)) (Sl.mono _ _ _ _ _ sb (⟨⟨_, _, rfl, ual, uam, uae⟩⟩ : Sl U8R _ _ k.a))).mono ?_
 rintro e w' ⟨rfl, hw'⟩
 refine ⟨_, rfl, _, back _ _ hw', ?_⟩
 clear hw hw1 hw' back kn sb
 refine l_val (v := .bool (decide (k.a = k.a))) rfl rfl rfl (e_pick_t rfl) ?_
 refine l_val (v := .bool (decide (k.a = k.a))) rfl rfl rfl (e_move) ?_
 refine l_split (s := 17) (p := k.a = k.a) rfl (fun h => ?_) (fun h => ?_)
 rotate_left; exact absurd rfl h
 refine g_val (v := .pointer (some ⟨b1, 2, none⟩)) rfl rfl rfl rfl rfl (e_fieldPt (b := b1) (o := 0) rfl tf23) ?_
 refine g_val (v := .slice vba (k.b.length) (vbc)) rfl rfl rfl rfl rfl (e_load1 tf21 (v := .slice vba (k.b.length) (vbc)) rfl (k_pt 1 (cs := #[.slice vha (k.head.length) (vhc), .slice vaa (k.a.length) (vac), .slice vba (k.b.length) (vbc), Ix (k.power)]) (vs := [.slice vba (k.b.length) (vbc)]) rfl rfl)) ?_
 refine g_val (v := .pointer (some ⟨b2, 2, none⟩)) rfl rfl rfl rfl rfl (e_fieldPt (b := b2) (o := 0) rfl tf23) ?_
 refine g_val (v := .slice uba (k.b.length) (ubc)) rfl rfl rfl rfl rfl (e_load1 tf21 (v := .slice uba (k.b.length) (ubc)) rfl (k_pt 0 (cs := #[.slice uha (k.head.length) (uhc), .slice uaa (k.a.length) (uac), .slice uba (k.b.length) (ubc), Ix (k.power)]) (vs := [.slice uba (k.b.length) (ubc)]) rfl rfl)) ?_
 refine g_call rfl rfl rfl rfl rfl (cl_value (fst := []) (cap := []) (vs := [.slice vba (k.b.length) (vbc), .slice uba (k.b.length) (ubc)]) (all := [.slice vba (k.b.length) (vbc), .slice uba (k.b.length) (ubc)]) tf119 rfl rfl rfl) ?_
 intro w hw
 obtain ⟨β1, sb, kn, hw1, back⟩ := St.frame_all hw
 refine (sameb_ok β1 w hw1 k.b k.b _ _ (Sl.mono _ _ _ _ _ sb (⟨⟨_, _, rfl, vbl, vbm, vbe⟩⟩ : Sl U8R _ _ k.b)) (Sl.mono _ _ _ _ _ sb (⟨⟨_, _, rfl, ubl, ubm, ube⟩⟩ : Sl U8R _ _ k.b))).mono ?_
 rintro e w' ⟨rfl, hw'⟩
 refine ⟨_, rfl, _, back _ _ hw', ?_⟩
 clear hw hw1 hw' back kn sb
 refine l_val (v := .bool (decide (k.b = k.b))) rfl rfl rfl (e_pick_t rfl) ?_
 refine l_val (v := .bool (decide (k.b = k.b))) rfl rfl rfl (e_move) ?_
 refine l_split (s := 24) (p := k.b = k.b) rfl (fun h => ?_) (fun h => ?_)
 rotate_left; exact absurd rfl h
 refine g_val (v := .pointer (some ⟨b1, 3, none⟩)) rfl rfl rfl rfl rfl (e_fieldPt (b := b1) (o := 0) rfl tf24) ?_
 refine g_val (v := Ix (k.power)) rfl rfl rfl rfl rfl (e_load1 tf25 (v := Ix (k.power)) rfl (k_pt 1 (cs := #[.slice vha (k.head.length) (vhc), .slice vaa (k.a.length) (vac), .slice vba (k.b.length) (vbc), Ix (k.power)]) (vs := [Ix (k.power)]) rfl rfl)) ?_
 refine g_val (v := .pointer (some ⟨b2, 3, none⟩)) rfl rfl rfl rfl rfl (e_fieldPt (b := b2) (o := 0) rfl tf24) ?_
 refine g_val (v := Ix (k.power)) rfl rfl rfl rfl rfl (e_load1 tf25 (v := Ix (k.power)) rfl (k_pt 0 (cs := #[.slice uha (k.head.length) (uhc), .slice uaa (k.a.length) (uac), .slice uba (k.b.length) (ubc), Ix (k.power)]) (vs := [Ix (k.power)]) rfl rfl)) ?_
 refine g_val (v := .bool (decide ((k.power) = (k.power)))) rfl rfl rfl rfl rfl (e_eql (a := (k.power)) (b := (k.power)) rfl rfl) ?_
 refine l_val (v := .bool (decide ((k.power) = (k.power)))) rfl rfl rfl (e_pick_t rfl) ?_
 refine l_val (v := .bool (decide ((k.power) = (k.power)))) rfl rfl rfl (e_assign) ?_
 refine l_nil ?_
 refine f_then ?_
 refine c_ret ?_
 refine ret1 Try.results28 (v := .bool (decide ((k.power) = (k.power)))) rfl ?_
 intro w hw
 exact ⟨by first | rfl | simp, st_mask [false, false] rfl hw⟩
set_option maxHeartbeats 4000000 in
theorem wrong_ok (β : Base) (w : World) (hw : St β [] w) (xs : Bs) (v : Value) (hs : Sl U8R β.heap v xs) (num : Int) (hn : -9223372036854775808 ≤ num ∧ num ≤ 9223372036854775807) (by_ : UInt8) : Calls Try.prog 10 #[v, Ix num, Bx by_] w fun r w' => r = .returned (.bool true) ∧ St β [] w' := by
 obtain ⟨va, vc, rfl, vl, vm, ve⟩ := hs.get
 refine enter (n := 218) Try.func10 rfl Try.ntmps10 rfl ?_ hw
 refine c_seq ?_
 refine c_region ?_
 refine l_val (v := .bool false) rfl rfl rfl (e_assign) ?_
 refine l_nil ?_
 refine f_then ?_
 refine c_seq ?_
 refine c_region ?_
 refine l_val (v := .slice va (xs.length) (vc)) rfl rfl rfl (e_move) ?_
 refine l_val (v := .slice va (xs.length) (vc)) rfl rfl rfl (e_move) ?_
 refine l_val (v := Nx (xs.length)) rfl rfl rfl (e_len (a := va) (n := xs.length) (c := vc) rfl tf11) ?_
 refine l_val (v := Nx (min xs.length 30)) rfl rfl rfl (ev_eq (congrArg (Value.int .i64) (by omega)) (e_min (a := ((xs.length : Nat) : Int)) (b := (30 : Int)) rfl rfl)) ?_
 obtain ⟨zs1, hz2⟩ : ∃ zs, zs = (xs.take (min xs.length 30)) := ⟨_, rfl⟩
 have zl3 : zs1.length = min (min xs.length 30) (xs).length - 0 := by rw [hz2]; simp; try omega
 have ze4 := (Elems.take (min xs.length 30) ve)
 rw [← hz2] at ze4
 refine l_val (v := .slice va (zs1.length) (vc)) rfl rfl rfl (ev_eq (by rw [show zs1.length = min xs.length 30 by omega]) (e_slice_hi (a := va) (len := xs.length) (cap := vc) (h := min xs.length 30) tf12 rfl rfl (by omega))) ?_
 refine l_val (v := .slice va (zs1.length) (vc)) rfl rfl rfl (e_assign) ?_
 refine l_nil ?_
 refine f_then ?_
 have hb8 : by_.toNat < 256 := by_.toNat_lt
 obtain ⟨rA, hrA⟩ : ∃ z : Bs, z = List.replicate (262145 + by_.toNat) 0 := ⟨_, rfl⟩
 obtain ⟨rB, hrB⟩ : ∃ z : Bs, z = List.replicate (262145) 0 := ⟨_, rfl⟩
 obtain ⟨rC, hrC⟩ : ∃ z : Bs, z = List.replicate (65537 + by_.toNat) 0 := ⟨_, rfl⟩
 have hlrA : rA.length = 262145 + by_.toNat := by rw [hrA, List.length_replicate]
 have hlrB : rB.length = 262145 := by rw [hrB, List.length_replicate]
 have hlrC : rC.length = 65537 + by_.toNat := by rw [hrC, List.length_replicate]
 refine c_seq_cut (fun (f : Fm) (L : List Res) => ∃ (b : Nat) (K0 : KS), (f 0 = .slice va (zs1.length) (vc) ∧ f 1 = Ix num ∧ f 2 = Bx by_ ∧ f 7 = .pointer (some ⟨b, 0, none⟩)) ∧ L = [storeR b K0] ∧ K0.head.length ≤ 1048576 ∧ K0.a.length ≤ 1048576 ∧ K0.b.length ≤ 1048576 ∧ ¬ K0.okP) ?_ ?_
 ·
  have hwy : by_.toNat % 4 = 0 ∨ by_.toNat % 4 = 1 ∨ by_.toNat % 4 = 2 ∨ by_.toNat % 4 = 3 := by omega
  rcases hwy with hway | hway | hway | hway
  ·
   refine c_any [⟨[], [], [], [30], fun f => f 30 = .slice (some ⟨(blk (f 30)), 0, none⟩) 0 0⟩, ⟨[], [], [0], [31], fun f => f 31 = .slice va (zs1.length) (vc)⟩, ⟨[0, 1], [0, 1], [], [32], fun f => f 32 = .slice (sla (f 32)) ([] ++ zs1).length (slc (f 32))⟩, ⟨[], [], [], [33], fun f => f 33 = .slice (some ⟨(blk (f 33)), 0, none⟩) 1 1⟩, ⟨[0, 1, 2, 3], [2, 3], [], [34], fun f => f 34 = .slice (sla (f 34)) (([] ++ zs1) ++ [(1 : UInt8)]).length (slc (f 34))⟩, ⟨[0, 1, 2, 3, 4], [4], [], [34, 35], fun f => f 35 = .agg #[.slice (sla (f 34)) (([] ++ zs1) ++ [(1 : UInt8)]).length (slc (f 34)), .slice none 0 0, .slice none 0 0, .int .i64 (-1)]⟩, ⟨[], [], [1], [36], fun f => f 36 = Ix (num)⟩, ⟨[6], [6], [], [37], fun f => f 37 = Ix (min (num) (-2 : Int))⟩, ⟨[6, 7], [7], [], [38], fun f => f 38 = .agg #[.slice none 0 0, .slice none 0 0, .slice none 0 0, Ix (min (num) (-2 : Int))]⟩, ⟨[], [], [2], [39], fun f => f 39 = Bx (by_)⟩, ⟨[9], [9], [], [40], fun f => f 40 = Nx (by_.toNat)⟩, ⟨[9, 10], [10], [], [41], fun f => f 41 = Nx (262145 + by_.toNat)⟩, ⟨[9, 10, 11], [11], [], [42], fun f => f 42 = .slice (some ⟨(blk (f 42)), 0, none⟩) (rA).length (262145 + by_.toNat)⟩, ⟨[9, 10, 11, 12], [12], [], [42, 43], fun f => f 43 = .agg #[.slice none 0 0, .slice (some ⟨(blk (f 42)), 0, none⟩) (rA).length (262145 + by_.toNat), .slice none 0 0, .int .i64 (-1)]⟩, ⟨[], [], [], [44], fun f => f 44 = .slice (some ⟨(blk (f 44)), 0, none⟩) (rB).length 262145⟩, ⟨[], [], [1], [45], fun f => f 45 = Ix (num)⟩, ⟨[14, 15], [14, 15], [], [44, 46], fun f => f 46 = .agg #[.slice none 0 0, .slice none 0 0, .slice (some ⟨(blk (f 44)), 0, none⟩) (rB).length 262145, Ix (num)]⟩, ⟨[0, 1, 2, 3, 4, 5, 6, 7, 8, 9, 10, 11, 12, 13, 14, 15, 16], [5, 8, 13, 16], [], [34, 42, 44, 47], fun f => f 47 = .agg #[.slice (sla (f 34)) (([] ++ zs1) ++ [(1 : UInt8)]).length (slc (f 34)), .slice none 0 0, .slice none 0 0, .int .i64 (-1), .slice none 0 0, .slice none 0 0, .slice none 0 0, Ix (min (num) (-2 : Int)), .slice none 0 0, .slice (some ⟨(blk (f 42)), 0, none⟩) (rA).length (262145 + by_.toNat), .slice none 0 0, .int .i64 (-1), .slice none 0 0, .slice none 0 0, .slice (some ⟨(blk (f 44)), 0, none⟩) (rB).length 262145, Ix (num)]⟩, ⟨[], [], [2], [48], fun f => f 48 = Bx (by_)⟩, ⟨[18], [18], [], [49], fun f => f 49 = .int .u8 (0)⟩, ⟨[0, 1, 2, 3, 4, 5, 6, 7, 8, 9, 10, 11, 12, 13, 14, 15, 16, 17, 18, 19], [17, 19], [], [34, 50], fun f => f 50 = .agg #[.slice (sla (f 34)) (([] ++ zs1) ++ [(1 : UInt8)]).length (slc (f 34)), .slice none 0 0, .slice none 0 0, .int .i64 (-1)]⟩, ⟨[], [], [], [7], fun f => f 7 = .pointer (some ⟨(blk (f 7)), 0, none⟩)⟩, ⟨[0, 1, 2, 3, 4, 5, 6, 7, 8, 9, 10, 11, 12, 13, 14, 15, 16, 17, 18, 19, 20, 21], [21, 20], [], [], fun _ => True⟩] [⟨(some 0), (some 2), [2], [30], fun f => pt (blk (f 30)) (.cells #[] 5)⟩, ⟨(some 2), (some 4), [4], [32], fun f => row (.slice (sla (f 32)) ([] ++ zs1).length (slc (f 32))) 5 1 (([] ++ zs1).length) (BX ([] ++ zs1))⟩, ⟨(some 3), none, [4], [33], fun f => pt (blk (f 33)) (.cells #[.int .u8 (1)] 5)⟩, ⟨(some 4), none, [], [34], fun f => row (.slice (sla (f 34)) (([] ++ zs1) ++ [(1 : UInt8)]).length (slc (f 34))) 5 1 ((([] ++ zs1) ++ [(1 : UInt8)]).length) (BX (([] ++ zs1) ++ [(1 : UInt8)]))⟩, ⟨(some 12), none, [], [42], fun f => row (.slice (some ⟨(blk (f 42)), 0, none⟩) (rA).length (262145 + by_.toNat)) 5 1 ((rA).length) (BX rA)⟩, ⟨(some 14), none, [], [44], fun f => row (.slice (some ⟨(blk (f 44)), 0, none⟩) (rB).length 262145) 5 1 ((rB).length) (BX rB)⟩, ⟨(some 21), (some 22), [22], [7], fun f => pt (blk (f 7)) (.cells #[.slice none 0 0, .slice none 0 0, .slice none 0 0, .int .i64 (0)] 32)⟩, ⟨(some 22), none, [], [7, 34], fun f => pt (blk (f 7)) (.cells #[.slice (sla (f 34)) (([] ++ zs1) ++ [(1 : UInt8)]).length (slc (f 34)), .slice none 0 0, .slice none 0 0, .int .i64 (-1)] 32)⟩] [(0, .slice va (zs1.length) (vc)), (1, Ix (num)), (2, Bx (by_))] [0, 1, 2] [] (by kernel_rfl) (by kernel_rfl) (by kernel_rfl) (by kernel_rfl) rfl ⟨rfl, rfl, rfl, trivial⟩ ⟨?_, ?_, ?_, ?_, ?_, ?_, ?_, ?_, ?_, ?_, ?_, ?_, ?_, ?_, ?_, ?_, ?_, ?_, ?_, ?_, ?_, ?_, ?_, trivial⟩ ?_
   ·rintro f M - -
    refine ob_start (L' := M) (by rfl) rfl ?_
    refine l_mv rfl rfl rfl (m_slice0 tf12) ?_
    rintro _ _ ⟨b6, rfl, rfl⟩
    refine l_nil ?_
    exact f_owes_d rfl rfl (perm_front 0 rfl)
   ·rintro f M - ⟨i0, -⟩
    have hs0 : f 0 = .slice va (zs1.length) (vc) := i0
    refine ob_start (L' := M) (by rfl) (up_cons rfl hs0) ?_
    refine l_val (v := .slice va (zs1.length) (vc)) rfl rfl rfl (e_move) ?_
    refine l_nil ?_
    exact f_owes_d (up_cons rfl hs0) rfl (List.Perm.refl _)
   ·rintro f M ⟨k0, k1, -⟩ -
    have hs30 : f 30 = .slice (some ⟨(blk (f 30)), 0, none⟩) 0 0 := k0
    have hs31 : f 31 = .slice va (zs1.length) (vc) := k1
    refine ob_start (L' := pt (blk (f 30)) (.cells #[] 5) :: M) (by rfl) (up_cons (up_cons rfl hs30) hs31) ?_
    refine l_conseq 0 (r' := row (.slice (some ⟨(blk (f 30)), 0, none⟩) 0 0) 5 1 0 (BX [])) rfl (fun a h => pt_row (m := 0) (by decide) rfl a h) ?_
    refine l_mv rfl rfl rfl (m_appendE (enc := fun c : UInt8 => Bx c) 0 bx_cell tf12 tf15 (v := .slice (some ⟨(blk (f 30)), 0, none⟩) 0 0) (xs := []) (ys := zs1) (ao := va) (c := vc) rfl rfl (by first | rfl | simp) rfl (by first | rfl | simp) (Knows.of_base (Elems.mono _ _ _) ze4) (by first | omega | (simp only [List.length_append, List.length_nil, List.length_cons, be_length] at *; omega)) (by first | omega | (simp only [List.length_append, List.length_nil, List.length_cons, be_length] at *; omega))) ?_
    rintro _ _ ⟨rp9, rc10, rfl, rfl⟩
    refine l_nil ?_
    exact f_owes_d (up_cons (up_cons rfl hs30) hs31) rfl (perm_front 0 rfl)
   ·rintro f M - -
    refine ob_start (L' := M) (by rfl) rfl ?_
    refine l_mv rfl rfl rfl (m_slices tf12 tf14 (vs := [(0, .int .u8 (1))]) (cells := #[.int .u8 (1)]) rfl rfl rfl rfl) ?_
    rintro _ _ ⟨b12, rfl, rfl⟩
    refine l_nil ?_
    exact f_owes_d rfl rfl (perm_front 0 rfl)
   ·rintro f M ⟨k0, k1, -⟩ -
    have hs32 : f 32 = .slice (sla (f 32)) ([] ++ zs1).length (slc (f 32)) := k0
    have hs33 : f 33 = .slice (some ⟨(blk (f 33)), 0, none⟩) 1 1 := k1
    refine ob_start (L' := row (.slice (sla (f 32)) ([] ++ zs1).length (slc (f 32))) 5 1 (([] ++ zs1).length) (BX ([] ++ zs1)) :: pt (blk (f 33)) (.cells #[.int .u8 (1)] 5) :: M) (by rfl) (up_cons (up_cons rfl hs32) hs33) ?_
    refine l_mv rfl rfl rfl (m_appendE (enc := fun c : UInt8 => Bx c) 0 bx_cell tf12 tf15 (v := .slice (sla (f 32)) ([] ++ zs1).length (slc (f 32))) (xs := [] ++ zs1) (ys := [(1 : UInt8)]) (ao := some ⟨(blk (f 33)), 0, none⟩) (c := 1) rfl rfl (by first | rfl | simp) rfl (by first | rfl | simp) (k_ptE 1 (xs := [(1 : UInt8)]) rfl) (by first | omega | (simp only [List.length_append, List.length_nil, List.length_cons, be_length] at *; omega)) (by first | omega | (simp only [List.length_append, List.length_nil, List.length_cons, be_length] at *; omega))) ?_
    rintro _ _ ⟨rp15, rc16, rfl, rfl⟩
    refine l_nil ?_
    exact f_owes_d (up_cons (up_cons rfl hs32) hs33) rfl ((perm_front 0 rfl).trans (perm_front 1 rfl))
   ·rintro f M ⟨k0, -⟩ -
    have hs34 : f 34 = .slice (sla (f 34)) (([] ++ zs1) ++ [(1 : UInt8)]).length (slc (f 34)) := k0
    refine ob_start (L' := M) (by rfl) (up_cons rfl hs34) ?_
    refine l_val (v := .agg #[.slice (sla (f 34)) (([] ++ zs1) ++ [(1 : UInt8)]).length (slc (f 34)), .slice none 0 0, .slice none 0 0, .int .i64 (-1)]) rfl rfl rfl (e_build tf106 tf105 (vs := [(0, .slice (sla (f 34)) (([] ++ zs1) ++ [(1 : UInt8)]).length (slc (f 34))), (3, .int .i64 (-1))]) (cells := #[.slice (sla (f 34)) (([] ++ zs1) ++ [(1 : UInt8)]).length (slc (f 34)), .slice none 0 0, .slice none 0 0, .int .i64 (-1)]) rfl rfl) ?_
    refine l_nil ?_
    exact f_owes_d (up_cons rfl hs34) rfl (List.Perm.refl _)
   ·rintro f M - ⟨i0, -⟩
    have hs1 : f 1 = Ix (num) := i0
    refine ob_start (L' := M) (by rfl) (up_cons rfl hs1) ?_
    refine l_val (v := Ix (num)) rfl rfl rfl (e_move) ?_
    refine l_nil ?_
    exact f_owes_d (up_cons rfl hs1) rfl (List.Perm.refl _)
   ·rintro f M ⟨k0, -⟩ -
    have hs36 : f 36 = Ix (num) := k0
    refine ob_start (L' := M) (by rfl) (up_cons rfl hs36) ?_
    refine l_val (v := Ix (min (num) (-2 : Int))) rfl rfl rfl (e_min (a := (num)) (b := (-2 : Int)) rfl rfl) ?_
    refine l_nil ?_
    exact f_owes_d (up_cons rfl hs36) rfl (List.Perm.refl _)
   ·rintro f M ⟨k0, -⟩ -
    have hs37 : f 37 = Ix (min (num) (-2 : Int)) := k0
    refine ob_start (L' := M) (by rfl) (up_cons rfl hs37) ?_
    refine l_val (v := .agg #[.slice none 0 0, .slice none 0 0, .slice none 0 0, Ix (min (num) (-2 : Int))]) rfl rfl rfl (e_build tf106 tf105 (vs := [(3, Ix (min (num) (-2 : Int)))]) (cells := #[.slice none 0 0, .slice none 0 0, .slice none 0 0, Ix (min (num) (-2 : Int))]) rfl rfl) ?_
    refine l_nil ?_
    exact f_owes_d (up_cons rfl hs37) rfl (List.Perm.refl _)
   ·rintro f M - ⟨i0, -⟩
    have hs2 : f 2 = Bx (by_) := i0
    refine ob_start (L' := M) (by rfl) (up_cons rfl hs2) ?_
    refine l_val (v := Bx (by_)) rfl rfl rfl (e_move) ?_
    refine l_nil ?_
    exact f_owes_d (up_cons rfl hs2) rfl (List.Perm.refl _)
   ·rintro f M ⟨k0, -⟩ -
    have hs39 : f 39 = Bx (by_) := k0
    refine ob_start (L' := M) (by rfl) (up_cons rfl hs39) ?_
    refine l_val (v := Nx (by_.toNat)) rfl rfl rfl (e_conv (a := ((by_).toNat : Int)) rfl ⟨_, tf8⟩ tf1 (i64n rfl (by have := (by_).toNat_lt; omega))) ?_
    refine l_nil ?_
    exact f_owes_d (up_cons rfl hs39) rfl (List.Perm.refl _)
   ·rintro f M ⟨k0, -⟩ -
    have hs40 : f 40 = Nx (by_.toNat) := k0
    refine ob_start (L' := M) (by rfl) (up_cons rfl hs40) ?_
    refine l_val (v := Nx (262145 + by_.toNat)) rfl rfl rfl (e_add (a := (262145 : Int)) (b := ((by_.toNat : Nat) : Int)) rfl rfl (i64n (by omega) (by omega))) ?_
    refine l_nil ?_
    exact f_owes_d (up_cons rfl hs40) rfl (List.Perm.refl _)
   ·rintro f M ⟨k0, -⟩ -
    have hs41 : f 41 = Nx (262145 + by_.toNat) := k0
    refine ob_start (L' := M) (by rfl) (up_cons rfl hs41) ?_
    refine l_mv rfl rfl rfl (m_makeZ (c := 262145 + by_.toNat) hrA tf12 tf15 tf14 rfl rfl (by omega) (by omega)) ?_
    rintro _ _ ⟨b18, rfl, rfl⟩
    refine l_nil ?_
    exact f_owes_d (up_cons rfl hs41) rfl (perm_front 0 rfl)
   ·rintro f M ⟨k0, -⟩ -
    have hs42 : f 42 = .slice (some ⟨(blk (f 42)), 0, none⟩) (rA).length (262145 + by_.toNat) := k0
    refine ob_start (L' := M) (by rfl) (up_cons rfl hs42) ?_
    refine l_val (v := .agg #[.slice none 0 0, .slice (some ⟨(blk (f 42)), 0, none⟩) (rA).length (262145 + by_.toNat), .slice none 0 0, .int .i64 (-1)]) rfl rfl rfl (e_build tf106 tf105 (vs := [(1, .slice (some ⟨(blk (f 42)), 0, none⟩) (rA).length (262145 + by_.toNat)), (3, .int .i64 (-1))]) (cells := #[.slice none 0 0, .slice (some ⟨(blk (f 42)), 0, none⟩) (rA).length (262145 + by_.toNat), .slice none 0 0, .int .i64 (-1)]) rfl rfl) ?_
    refine l_nil ?_
    exact f_owes_d (up_cons rfl hs42) rfl (List.Perm.refl _)
   ·rintro f M - -
    refine ob_start (L' := M) (by rfl) rfl ?_
    refine l_mv rfl rfl rfl (m_makeZ (c := 262145) hrB tf12 tf15 tf14 rfl rfl (by omega) (by omega)) ?_
    rintro _ _ ⟨b20, rfl, rfl⟩
    refine l_nil ?_
    exact f_owes_d rfl rfl (perm_front 0 rfl)
   ·rintro f M - ⟨i0, -⟩
    have hs1 : f 1 = Ix (num) := i0
    refine ob_start (L' := M) (by rfl) (up_cons rfl hs1) ?_
    refine l_val (v := Ix (num)) rfl rfl rfl (e_move) ?_
    refine l_nil ?_
    exact f_owes_d (up_cons rfl hs1) rfl (List.Perm.refl _)
   ·rintro f M ⟨k0, k1, -⟩ -
    have hs44 : f 44 = .slice (some ⟨(blk (f 44)), 0, none⟩) (rB).length 262145 := k0
    have hs45 : f 45 = Ix (num) := k1
    refine ob_start (L' := M) (by rfl) (up_cons (up_cons rfl hs44) hs45) ?_
    refine l_val (v := .agg #[.slice none 0 0, .slice none 0 0, .slice (some ⟨(blk (f 44)), 0, none⟩) (rB).length 262145, Ix (num)]) rfl rfl rfl (e_build tf106 tf105 (vs := [(2, .slice (some ⟨(blk (f 44)), 0, none⟩) (rB).length 262145), (3, Ix (num))]) (cells := #[.slice none 0 0, .slice none 0 0, .slice (some ⟨(blk (f 44)), 0, none⟩) (rB).length 262145, Ix (num)]) rfl rfl) ?_
    refine l_nil ?_
    exact f_owes_d (up_cons (up_cons rfl hs44) hs45) rfl (List.Perm.refl _)
   ·rintro f M ⟨k0, k1, k2, k3, -⟩ -
    have hs35 : f 35 = .agg #[.slice (sla (f 34)) (([] ++ zs1) ++ [(1 : UInt8)]).length (slc (f 34)), .slice none 0 0, .slice none 0 0, .int .i64 (-1)] := k0
    have hs38 : f 38 = .agg #[.slice none 0 0, .slice none 0 0, .slice none 0 0, Ix (min (num) (-2 : Int))] := k1
    have hs43 : f 43 = .agg #[.slice none 0 0, .slice (some ⟨(blk (f 42)), 0, none⟩) (rA).length (262145 + by_.toNat), .slice none 0 0, .int .i64 (-1)] := k2
    have hs46 : f 46 = .agg #[.slice none 0 0, .slice none 0 0, .slice (some ⟨(blk (f 44)), 0, none⟩) (rB).length 262145, Ix (num)] := k3
    refine ob_start (L' := M) (by rfl) (up_cons (up_cons (up_cons (up_cons rfl hs35) hs38) hs43) hs46) ?_
    refine l_val (v := .agg #[.slice (sla (f 34)) (([] ++ zs1) ++ [(1 : UInt8)]).length (slc (f 34)), .slice none 0 0, .slice none 0 0, .int .i64 (-1), .slice none 0 0, .slice none 0 0, .slice none 0 0, Ix (min (num) (-2 : Int)), .slice none 0 0, .slice (some ⟨(blk (f 42)), 0, none⟩) (rA).length (262145 + by_.toNat), .slice none 0 0, .int .i64 (-1), .slice none 0 0, .slice none 0 0, .slice (some ⟨(blk (f 44)), 0, none⟩) (rB).length 262145, Ix (num)]) rfl rfl rfl (e_build_a tf121 tf120 (vs := [(0, .agg #[.slice (sla (f 34)) (([] ++ zs1) ++ [(1 : UInt8)]).length (slc (f 34)), .slice none 0 0, .slice none 0 0, .int .i64 (-1)]), (1, .agg #[.slice none 0 0, .slice none 0 0, .slice none 0 0, Ix (min (num) (-2 : Int))]), (2, .agg #[.slice none 0 0, .slice (some ⟨(blk (f 42)), 0, none⟩) (rA).length (262145 + by_.toNat), .slice none 0 0, .int .i64 (-1)]), (3, .agg #[.slice none 0 0, .slice none 0 0, .slice (some ⟨(blk (f 44)), 0, none⟩) (rB).length 262145, Ix (num)])]) (cells := #[.slice (sla (f 34)) (([] ++ zs1) ++ [(1 : UInt8)]).length (slc (f 34)), .slice none 0 0, .slice none 0 0, .int .i64 (-1), .slice none 0 0, .slice none 0 0, .slice none 0 0, Ix (min (num) (-2 : Int)), .slice none 0 0, .slice (some ⟨(blk (f 42)), 0, none⟩) (rA).length (262145 + by_.toNat), .slice none 0 0, .int .i64 (-1), .slice none 0 0, .slice none 0 0, .slice (some ⟨(blk (f 44)), 0, none⟩) (rB).length 262145, Ix (num)]) rfl (fill4 _ _ _ _ _ _ _ _ _ _ _ _ _ _ _ _ _ _ rfl)) ?_
    refine l_nil ?_
    exact f_owes_d (up_cons (up_cons (up_cons (up_cons rfl hs35) hs38) hs43) hs46) rfl (List.Perm.refl _)
   ·rintro f M - ⟨i0, -⟩
    have hs2 : f 2 = Bx (by_) := i0
    refine ob_start (L' := M) (by rfl) (up_cons rfl hs2) ?_
    refine l_val (v := Bx (by_)) rfl rfl rfl (e_move) ?_
    refine l_nil ?_
    exact f_owes_d (up_cons rfl hs2) rfl (List.Perm.refl _)
   ·rintro f M ⟨k0, -⟩ -
    have hs48 : f 48 = Bx (by_) := k0
    refine ob_start (L' := M) (by rfl) (up_cons rfl hs48) ?_
    refine l_val (v := .int .u8 (0)) rfl rfl rfl (e_rem (a := ((by_).toNat : Int)) (b := ((4 : Nat) : Int)) rfl rfl (by decide) ((nat_tmod _ 4).trans (congrArg (fun z : Nat => (z : Int)) hway))) ?_
    refine l_nil ?_
    exact f_owes_d (up_cons rfl hs48) rfl (List.Perm.refl _)
   ·rintro f M ⟨k0, k1, -⟩ -
    have hs47 : f 47 = .agg #[.slice (sla (f 34)) (([] ++ zs1) ++ [(1 : UInt8)]).length (slc (f 34)), .slice none 0 0, .slice none 0 0, .int .i64 (-1), .slice none 0 0, .slice none 0 0, .slice none 0 0, Ix (min (num) (-2 : Int)), .slice none 0 0, .slice (some ⟨(blk (f 42)), 0, none⟩) (rA).length (262145 + by_.toNat), .slice none 0 0, .int .i64 (-1), .slice none 0 0, .slice none 0 0, .slice (some ⟨(blk (f 44)), 0, none⟩) (rB).length 262145, Ix (num)] := k0
    have hs49 : f 49 = .int .u8 (0) := k1
    refine ob_start (L' := M) (by rfl) (up_cons (up_cons rfl hs47) hs49) ?_
    refine l_val (v := .agg #[.slice (sla (f 34)) (([] ++ zs1) ++ [(1 : UInt8)]).length (slc (f 34)), .slice none 0 0, .slice none 0 0, .int .i64 (-1)]) rfl rfl rfl (e_index_n (cs := #[.slice (sla (f 34)) (([] ++ zs1) ++ [(1 : UInt8)]).length (slc (f 34)), .slice none 0 0, .slice none 0 0, .int .i64 (-1), .slice none 0 0, .slice none 0 0, .slice none 0 0, Ix (min (num) (-2 : Int)), .slice none 0 0, .slice (some ⟨(blk (f 42)), 0, none⟩) (rA).length (262145 + by_.toNat), .slice none 0 0, .int .i64 (-1), .slice none 0 0, .slice none 0 0, .slice (some ⟨(blk (f 44)), 0, none⟩) (rB).length 262145, Ix (num)]) (k := 0) (m := 4) rfl rfl tf120 (by decide) tf56 (by kernel_rfl)) ?_
    refine l_nil ?_
    exact f_owes_d (up_cons (up_cons rfl hs47) hs49) rfl (List.Perm.refl _)
   ·rintro f M - -
    refine ob_start (L' := M) (by rfl) rfl ?_
    refine l_mv rfl rfl rfl (m_alloc tf106) ?_
    rintro _ _ ⟨b22, rfl, rfl⟩
    refine l_nil ?_
    exact f_owes_d rfl rfl (perm_front 0 rfl)
   ·rintro f M ⟨k0, k1, -⟩ -
    have hs7 : f 7 = .pointer (some ⟨(blk (f 7)), 0, none⟩) := k0
    have hs50 : f 50 = .agg #[.slice (sla (f 34)) (([] ++ zs1) ++ [(1 : UInt8)]).length (slc (f 34)), .slice none 0 0, .slice none 0 0, .int .i64 (-1)] := k1
    refine ob_start (L' := pt (blk (f 7)) (.cells #[.slice none 0 0, .slice none 0 0, .slice none 0 0, .int .i64 (0)] 32) :: M) (by rfl) (up_cons (up_cons rfl hs7) hs50) ?_
    refine l_mu rfl rfl (m_store 0 tf56 (b := (blk (f 7))) (o := 0) (T := 32) (cs := #[.slice none 0 0, .slice none 0 0, .slice none 0 0, .int .i64 (0)]) (cs' := #[.slice (sla (f 34)) (([] ++ zs1) ++ [(1 : UInt8)]).length (slc (f 34)), .slice none 0 0, .slice none 0 0, .int .i64 (-1)]) (v := .agg #[.slice (sla (f 34)) (([] ++ zs1) ++ [(1 : UInt8)]).length (slc (f 34)), .slice none 0 0, .slice none 0 0, .int .i64 (-1)]) rfl rfl rfl rfl rfl rfl rfl) ?_
    refine l_nil ?_
    exact f_owes_n (up_cons (up_cons rfl hs7) hs50) trivial (perm_front 0 rfl)
   rintro fa23 ⟨-, -, -, -, -, -, -, -, -, -, -, -, -, -, -, -, -, -, -, -, -, k21, -, -⟩ ⟨j0, j1, j2, -⟩
   refine f_re (L' := [pt (blk (fa23 33)) (.cells #[.int .u8 (1)] 5), row (.slice (sla (fa23 34)) (([] ++ zs1) ++ [(1 : UInt8)]).length (slc (fa23 34))) 5 1 ((([] ++ zs1) ++ [(1 : UInt8)]).length) (BX (([] ++ zs1) ++ [(1 : UInt8)])), row (.slice (some ⟨(blk (fa23 42)), 0, none⟩) (rA).length (262145 + by_.toNat)) 5 1 ((rA).length) (BX rA), row (.slice (some ⟨(blk (fa23 44)), 0, none⟩) (rB).length 262145) 5 1 ((rB).length) (BX rB), pt (blk (fa23 7)) (.cells #[.slice (sla (fa23 34)) (([] ++ zs1) ++ [(1 : UInt8)]).length (slc (fa23 34)), .slice none 0 0, .slice none 0 0, .int .i64 (-1)] 32)]) (by rfl) ?_
   refine f_rebase (d := 0) (v := .slice va (zs1.length) (vc)) j0 ?_
   refine f_rebase (d := 1) (v := Ix (num)) j1 ?_
   refine f_rebase (d := 2) (v := Bx (by_)) j2 ?_
   refine f_rebase (d := 7) (v := .pointer (some ⟨(blk (fa23 7)), 0, none⟩)) k21 ?_
   obtain ⟨K0, hK0⟩ : ∃ z, z = (⟨([] ++ zs1) ++ [(1 : UInt8)], [], [], -1⟩ : KS) := ⟨_, rfl⟩
   have hfhead : K0.head.length ≤ 1048576 := by rw [hK0]; simp; try omega
   have hfa : K0.a.length ≤ 1048576 := by rw [hK0]; simp; try omega
   have hfb : K0.b.length ≤ 1048576 := by rw [hK0]; simp; try omega
   have hno : ¬ K0.okP := by rw [hK0]; unfold KS.okP; simp; try omega
   refine f_emp (r := row (.slice none 0 0) 5 1 0 (BX [])) (row_nil _ _ _) ?_
   refine f_emp (r := row (.slice none 0 0) 5 1 0 (BX [])) (row_nil _ _ _) ?_
   refine f_perm (L' := [pt (blk (fa23 7)) (.cells #[.slice (sla (fa23 34)) (([] ++ zs1) ++ [(1 : UInt8)]).length (slc (fa23 34)), .slice none 0 0, .slice none 0 0, .int .i64 (-1)] 32), row (.slice (sla (fa23 34)) (([] ++ zs1) ++ [(1 : UInt8)]).length (slc (fa23 34))) 5 1 ((([] ++ zs1) ++ [(1 : UInt8)]).length) (BX (([] ++ zs1) ++ [(1 : UInt8)])), row (.slice none 0 0) 5 1 (0) (BX []), row (.slice none 0 0) 5 1 (0) (BX []), pt (blk (fa23 33)) (.cells #[.int .u8 (1)] 5), row (.slice (some ⟨(blk (fa23 42)), 0, none⟩) (rA).length (262145 + by_.toNat)) 5 1 ((rA).length) (BX rA), row (.slice (some ⟨(blk (fa23 44)), 0, none⟩) (rB).length 262145) 5 1 ((rB).length) (BX rB)]) (by exact (((((((perm_front 5 rfl).trans (perm_front 5 rfl)).trans (perm_front 4 rfl)).trans (perm_front 3 rfl)).trans (perm_front 4 rfl)).trans (perm_front 5 rfl)).trans (perm_front 6 rfl))) ?_
   refine f_closeStore (S := (blk (fa23 7))) (k := K0) (pH := (sla (fa23 34))) (pA := none) (pB := none) (cH := (slc (fa23 34))) (cA := 0) (cB := 0) (M := (pt (blk (fa23 33)) (.cells #[.int .u8 (1)] 5) :: row (.slice (some ⟨(blk (fa23 42)), 0, none⟩) (rA).length (262145 + by_.toNat)) 5 1 ((rA).length) (BX rA) :: row (.slice (some ⟨(blk (fa23 44)), 0, none⟩) (rB).length 262145) 5 1 ((rB).length) (BX rB) :: [])) (by rw [hK0]; rfl) ?_
   refine f_mask [true, false, false, false] rfl ?_
   exact f_cut ⟨_, K0, ⟨rfl, rfl, rfl, rfl⟩, rfl, hfhead, hfa, hfb, hno⟩
  ·
   refine c_any [⟨[], [], [], [30], fun f => f 30 = .slice (some ⟨(blk (f 30)), 0, none⟩) 0 0⟩, ⟨[], [], [0], [31], fun f => f 31 = .slice va (zs1.length) (vc)⟩, ⟨[0, 1], [0, 1], [], [32], fun f => f 32 = .slice (sla (f 32)) ([] ++ zs1).length (slc (f 32))⟩, ⟨[], [], [], [33], fun f => f 33 = .slice (some ⟨(blk (f 33)), 0, none⟩) 1 1⟩, ⟨[0, 1, 2, 3], [2, 3], [], [34], fun f => f 34 = .slice (sla (f 34)) (([] ++ zs1) ++ [(1 : UInt8)]).length (slc (f 34))⟩, ⟨[0, 1, 2, 3, 4], [4], [], [34, 35], fun f => f 35 = .agg #[.slice (sla (f 34)) (([] ++ zs1) ++ [(1 : UInt8)]).length (slc (f 34)), .slice none 0 0, .slice none 0 0, .int .i64 (-1)]⟩, ⟨[], [], [1], [36], fun f => f 36 = Ix (num)⟩, ⟨[6], [6], [], [37], fun f => f 37 = Ix (min (num) (-2 : Int))⟩, ⟨[6, 7], [7], [], [38], fun f => f 38 = .agg #[.slice none 0 0, .slice none 0 0, .slice none 0 0, Ix (min (num) (-2 : Int))]⟩, ⟨[], [], [2], [39], fun f => f 39 = Bx (by_)⟩, ⟨[9], [9], [], [40], fun f => f 40 = Nx (by_.toNat)⟩, ⟨[9, 10], [10], [], [41], fun f => f 41 = Nx (262145 + by_.toNat)⟩, ⟨[9, 10, 11], [11], [], [42], fun f => f 42 = .slice (some ⟨(blk (f 42)), 0, none⟩) (rA).length (262145 + by_.toNat)⟩, ⟨[9, 10, 11, 12], [12], [], [42, 43], fun f => f 43 = .agg #[.slice none 0 0, .slice (some ⟨(blk (f 42)), 0, none⟩) (rA).length (262145 + by_.toNat), .slice none 0 0, .int .i64 (-1)]⟩, ⟨[], [], [], [44], fun f => f 44 = .slice (some ⟨(blk (f 44)), 0, none⟩) (rB).length 262145⟩, ⟨[], [], [1], [45], fun f => f 45 = Ix (num)⟩, ⟨[14, 15], [14, 15], [], [44, 46], fun f => f 46 = .agg #[.slice none 0 0, .slice none 0 0, .slice (some ⟨(blk (f 44)), 0, none⟩) (rB).length 262145, Ix (num)]⟩, ⟨[0, 1, 2, 3, 4, 5, 6, 7, 8, 9, 10, 11, 12, 13, 14, 15, 16], [5, 8, 13, 16], [], [34, 42, 44, 47], fun f => f 47 = .agg #[.slice (sla (f 34)) (([] ++ zs1) ++ [(1 : UInt8)]).length (slc (f 34)), .slice none 0 0, .slice none 0 0, .int .i64 (-1), .slice none 0 0, .slice none 0 0, .slice none 0 0, Ix (min (num) (-2 : Int)), .slice none 0 0, .slice (some ⟨(blk (f 42)), 0, none⟩) (rA).length (262145 + by_.toNat), .slice none 0 0, .int .i64 (-1), .slice none 0 0, .slice none 0 0, .slice (some ⟨(blk (f 44)), 0, none⟩) (rB).length 262145, Ix (num)]⟩, ⟨[], [], [2], [48], fun f => f 48 = Bx (by_)⟩, ⟨[18], [18], [], [49], fun f => f 49 = .int .u8 (1)⟩, ⟨[0, 1, 2, 3, 4, 5, 6, 7, 8, 9, 10, 11, 12, 13, 14, 15, 16, 17, 18, 19], [17, 19], [], [50], fun f => f 50 = .agg #[.slice none 0 0, .slice none 0 0, .slice none 0 0, Ix (min (num) (-2 : Int))]⟩, ⟨[], [], [], [7], fun f => f 7 = .pointer (some ⟨(blk (f 7)), 0, none⟩)⟩, ⟨[0, 1, 2, 3, 4, 5, 6, 7, 8, 9, 10, 11, 12, 13, 14, 15, 16, 17, 18, 19, 20, 21], [21, 20], [], [], fun _ => True⟩] [⟨(some 0), (some 2), [2], [30], fun f => pt (blk (f 30)) (.cells #[] 5)⟩, ⟨(some 2), (some 4), [4], [32], fun f => row (.slice (sla (f 32)) ([] ++ zs1).length (slc (f 32))) 5 1 (([] ++ zs1).length) (BX ([] ++ zs1))⟩, ⟨(some 3), none, [4], [33], fun f => pt (blk (f 33)) (.cells #[.int .u8 (1)] 5)⟩, ⟨(some 4), none, [], [34], fun f => row (.slice (sla (f 34)) (([] ++ zs1) ++ [(1 : UInt8)]).length (slc (f 34))) 5 1 ((([] ++ zs1) ++ [(1 : UInt8)]).length) (BX (([] ++ zs1) ++ [(1 : UInt8)]))⟩, ⟨(some 12), none, [], [42], fun f => row (.slice (some ⟨(blk (f 42)), 0, none⟩) (rA).length (262145 + by_.toNat)) 5 1 ((rA).length) (BX rA)⟩, ⟨(some 14), none, [], [44], fun f => row (.slice (some ⟨(blk (f 44)), 0, none⟩) (rB).length 262145) 5 1 ((rB).length) (BX rB)⟩, ⟨(some 21), (some 22), [22], [7], fun f => pt (blk (f 7)) (.cells #[.slice none 0 0, .slice none 0 0, .slice none 0 0, .int .i64 (0)] 32)⟩, ⟨(some 22), none, [], [7], fun f => pt (blk (f 7)) (.cells #[.slice none 0 0, .slice none 0 0, .slice none 0 0, Ix (min (num) (-2 : Int))] 32)⟩] [(0, .slice va (zs1.length) (vc)), (1, Ix (num)), (2, Bx (by_))] [0, 1, 2] [] (by kernel_rfl) (by kernel_rfl) (by kernel_rfl) (by kernel_rfl) rfl ⟨rfl, rfl, rfl, trivial⟩ ⟨?_, ?_, ?_, ?_, ?_, ?_, ?_, ?_, ?_, ?_, ?_, ?_, ?_, ?_, ?_, ?_, ?_, ?_, ?_, ?_, ?_, ?_, ?_, trivial⟩ ?_
   ·rintro f M - -
    refine ob_start (L' := M) (by rfl) rfl ?_
    refine l_mv rfl rfl rfl (m_slice0 tf12) ?_
    rintro _ _ ⟨b25, rfl, rfl⟩
    refine l_nil ?_
    exact f_owes_d rfl rfl (perm_front 0 rfl)
   ·rintro f M - ⟨i0, -⟩
    have hs0 : f 0 = .slice va (zs1.length) (vc) := i0
    refine ob_start (L' := M) (by rfl) (up_cons rfl hs0) ?_
    refine l_val (v := .slice va (zs1.length) (vc)) rfl rfl rfl (e_move) ?_
    refine l_nil ?_
    exact f_owes_d (up_cons rfl hs0) rfl (List.Perm.refl _)
   ·rintro f M ⟨k0, k1, -⟩ -
    have hs30 : f 30 = .slice (some ⟨(blk (f 30)), 0, none⟩) 0 0 := k0
    have hs31 : f 31 = .slice va (zs1.length) (vc) := k1
    refine ob_start (L' := pt (blk (f 30)) (.cells #[] 5) :: M) (by rfl) (up_cons (up_cons rfl hs30) hs31) ?_
    refine l_conseq 0 (r' := row (.slice (some ⟨(blk (f 30)), 0, none⟩) 0 0) 5 1 0 (BX [])) rfl (fun a h => pt_row (m := 0) (by decide) rfl a h) ?_
    refine l_mv rfl rfl rfl (m_appendE (enc := fun c : UInt8 => Bx c) 0 bx_cell tf12 tf15 (v := .slice (some ⟨(blk (f 30)), 0, none⟩) 0 0) (xs := []) (ys := zs1) (ao := va) (c := vc) rfl rfl (by first | rfl | simp) rfl (by first | rfl | simp) (Knows.of_base (Elems.mono _ _ _) ze4) (by first | omega | (simp only [List.length_append, List.length_nil, List.length_cons, be_length] at *; omega)) (by first | omega | (simp only [List.length_append, List.length_nil, List.length_cons, be_length] at *; omega))) ?_
    rintro _ _ ⟨rp28, rc29, rfl, rfl⟩
    refine l_nil ?_
    exact f_owes_d (up_cons (up_cons rfl hs30) hs31) rfl (perm_front 0 rfl)
   ·rintro f M - -
    refine ob_start (L' := M) (by rfl) rfl ?_
    refine l_mv rfl rfl rfl (m_slices tf12 tf14 (vs := [(0, .int .u8 (1))]) (cells := #[.int .u8 (1)]) rfl rfl rfl rfl) ?_
    rintro _ _ ⟨b31, rfl, rfl⟩
    refine l_nil ?_
    exact f_owes_d rfl rfl (perm_front 0 rfl)
   ·rintro f M ⟨k0, k1, -⟩ -
    have hs32 : f 32 = .slice (sla (f 32)) ([] ++ zs1).length (slc (f 32)) := k0
    have hs33 : f 33 = .slice (some ⟨(blk (f 33)), 0, none⟩) 1 1 := k1
    refine ob_start (L' := row (.slice (sla (f 32)) ([] ++ zs1).length (slc (f 32))) 5 1 (([] ++ zs1).length) (BX ([] ++ zs1)) :: pt (blk (f 33)) (.cells #[.int .u8 (1)] 5) :: M) (by rfl) (up_cons (up_cons rfl hs32) hs33) ?_
    refine l_mv rfl rfl rfl (m_appendE (enc := fun c : UInt8 => Bx c) 0 bx_cell tf12 tf15 (v := .slice (sla (f 32)) ([] ++ zs1).length (slc (f 32))) (xs := [] ++ zs1) (ys := [(1 : UInt8)]) (ao := some ⟨(blk (f 33)), 0, none⟩) (c := 1) rfl rfl (by first | rfl | simp) rfl (by first | rfl | simp) (k_ptE 1 (xs := [(1 : UInt8)]) rfl) (by first | omega | (simp only [List.length_append, List.length_nil, List.length_cons, be_length] at *; omega)) (by first | omega | (simp only [List.length_append, List.length_nil, List.length_cons, be_length] at *; omega))) ?_
    rintro _ _ ⟨rp34, rc35, rfl, rfl⟩
    refine l_nil ?_
    exact f_owes_d (up_cons (up_cons rfl hs32) hs33) rfl ((perm_front 0 rfl).trans (perm_front 1 rfl))
   ·rintro f M ⟨k0, -⟩ -
    have hs34 : f 34 = .slice (sla (f 34)) (([] ++ zs1) ++ [(1 : UInt8)]).length (slc (f 34)) := k0
    refine ob_start (L' := M) (by rfl) (up_cons rfl hs34) ?_
    refine l_val (v := .agg #[.slice (sla (f 34)) (([] ++ zs1) ++ [(1 : UInt8)]).length (slc (f 34)), .slice none 0 0, .slice none 0 0, .int .i64 (-1)]) rfl rfl rfl (e_build tf106 tf105 (vs := [(0, .slice (sla (f 34)) (([] ++ zs1) ++ [(1 : UInt8)]).length (slc (f 34))), (3, .int .i64 (-1))]) (cells := #[.slice (sla (f 34)) (([] ++ zs1) ++ [(1 : UInt8)]).length (slc (f 34)), .slice none 0 0, .slice none 0 0, .int .i64 (-1)]) rfl rfl) ?_
    refine l_nil ?_
    exact f_owes_d (up_cons rfl hs34) rfl (List.Perm.refl _)
   ·rintro f M - ⟨i0, -⟩
    have hs1 : f 1 = Ix (num) := i0
    refine ob_start (L' := M) (by rfl) (up_cons rfl hs1) ?_
    refine l_val (v := Ix (num)) rfl rfl rfl (e_move) ?_
    refine l_nil ?_
    exact f_owes_d (up_cons rfl hs1) rfl (List.Perm.refl _)
   ·rintro f M ⟨k0, -⟩ -
    have hs36 : f 36 = Ix (num) := k0
    refine ob_start (L' := M) (by rfl) (up_cons rfl hs36) ?_
    refine l_val (v := Ix (min (num) (-2 : Int))) rfl rfl rfl (e_min (a := (num)) (b := (-2 : Int)) rfl rfl) ?_
    refine l_nil ?_
    exact f_owes_d (up_cons rfl hs36) rfl (List.Perm.refl _)
   ·rintro f M ⟨k0, -⟩ -
    have hs37 : f 37 = Ix (min (num) (-2 : Int)) := k0
    refine ob_start (L' := M) (by rfl) (up_cons rfl hs37) ?_
    refine l_val (v := .agg #[.slice none 0 0, .slice none 0 0, .slice none 0 0, Ix (min (num) (-2 : Int))]) rfl rfl rfl (e_build tf106 tf105 (vs := [(3, Ix (min (num) (-2 : Int)))]) (cells := #[.slice none 0 0, .slice none 0 0, .slice none 0 0, Ix (min (num) (-2 : Int))]) rfl rfl) ?_
    refine l_nil ?_
    exact f_owes_d (up_cons rfl hs37) rfl (List.Perm.refl _)
   ·rintro f M - ⟨i0, -⟩
    have hs2 : f 2 = Bx (by_) := i0
    refine ob_start (L' := M) (by rfl) (up_cons rfl hs2) ?_
    refine l_val (v := Bx (by_)) rfl rfl rfl (e_move) ?_
    refine l_nil ?_
    exact f_owes_d (up_cons rfl hs2) rfl (List.Perm.refl _)
   ·rintro f M ⟨k0, -⟩ -
    have hs39 : f 39 = Bx (by_) := k0
    refine ob_start (L' := M) (by rfl) (up_cons rfl hs39) ?_
    refine l_val (v := Nx (by_.toNat)) rfl rfl rfl (e_conv (a := ((by_).toNat : Int)) rfl ⟨_, tf8⟩ tf1 (i64n rfl (by have := (by_).toNat_lt; omega))) ?_
    refine l_nil ?_
    exact f_owes_d (up_cons rfl hs39) rfl (List.Perm.refl _)
   ·rintro f M ⟨k0, -⟩ -
    have hs40 : f 40 = Nx (by_.toNat) := k0
    refine ob_start (L' := M) (by rfl) (up_cons rfl hs40) ?_
    refine l_val (v := Nx (262145 + by_.toNat)) rfl rfl rfl (e_add (a := (262145 : Int)) (b := ((by_.toNat : Nat) : Int)) rfl rfl (i64n (by omega) (by omega))) ?_
    refine l_nil ?_
    exact f_owes_d (up_cons rfl hs40) rfl (List.Perm.refl _)
   ·rintro f M ⟨k0, -⟩ -
    have hs41 : f 41 = Nx (262145 + by_.toNat) := k0
    refine ob_start (L' := M) (by rfl) (up_cons rfl hs41) ?_
    refine l_mv rfl rfl rfl (m_makeZ (c := 262145 + by_.toNat) hrA tf12 tf15 tf14 rfl rfl (by omega) (by omega)) ?_
    rintro _ _ ⟨b37, rfl, rfl⟩
    refine l_nil ?_
    exact f_owes_d (up_cons rfl hs41) rfl (perm_front 0 rfl)
   ·rintro f M ⟨k0, -⟩ -
    have hs42 : f 42 = .slice (some ⟨(blk (f 42)), 0, none⟩) (rA).length (262145 + by_.toNat) := k0
    refine ob_start (L' := M) (by rfl) (up_cons rfl hs42) ?_
    refine l_val (v := .agg #[.slice none 0 0, .slice (some ⟨(blk (f 42)), 0, none⟩) (rA).length (262145 + by_.toNat), .slice none 0 0, .int .i64 (-1)]) rfl rfl rfl (e_build tf106 tf105 (vs := [(1, .slice (some ⟨(blk (f 42)), 0, none⟩) (rA).length (262145 + by_.toNat)), (3, .int .i64 (-1))]) (cells := #[.slice none 0 0, .slice (some ⟨(blk (f 42)), 0, none⟩) (rA).length (262145 + by_.toNat), .slice none 0 0, .int .i64 (-1)]) rfl rfl) ?_
    refine l_nil ?_
    exact f_owes_d (up_cons rfl hs42) rfl (List.Perm.refl _)
   ·rintro f M - -
    refine ob_start (L' := M) (by rfl) rfl ?_
    refine l_mv rfl rfl rfl (m_makeZ (c := 262145) hrB tf12 tf15 tf14 rfl rfl (by omega) (by omega)) ?_
    rintro _ _ ⟨b39, rfl, rfl⟩
    refine l_nil ?_
    exact f_owes_d rfl rfl (perm_front 0 rfl)
   ·rintro f M - ⟨i0, -⟩
    have hs1 : f 1 = Ix (num) := i0
    refine ob_start (L' := M) (by rfl) (up_cons rfl hs1) ?_
    refine l_val (v := Ix (num)) rfl rfl rfl (e_move) ?_
    refine l_nil ?_
    exact f_owes_d (up_cons rfl hs1) rfl (List.Perm.refl _)
   ·rintro f M ⟨k0, k1, -⟩ -
    have hs44 : f 44 = .slice (some ⟨(blk (f 44)), 0, none⟩) (rB).length 262145 := k0
    have hs45 : f 45 = Ix (num) := k1
    refine ob_start (L' := M) (by rfl) (up_cons (up_cons rfl hs44) hs45) ?_
    refine l_val (v := .agg #[.slice none 0 0, .slice none 0 0, .slice (some ⟨(blk (f 44)), 0, none⟩) (rB).length 262145, Ix (num)]) rfl rfl rfl (e_build tf106 tf105 (vs := [(2, .slice (some ⟨(blk (f 44)), 0, none⟩) (rB).length 262145), (3, Ix (num))]) (cells := #[.slice none 0 0, .slice none 0 0, .slice (some ⟨(blk (f 44)), 0, none⟩) (rB).length 262145, Ix (num)]) rfl rfl) ?_
    refine l_nil ?_
    exact f_owes_d (up_cons (up_cons rfl hs44) hs45) rfl (List.Perm.refl _)
   ·rintro f M ⟨k0, k1, k2, k3, -⟩ -
    have hs35 : f 35 = .agg #[.slice (sla (f 34)) (([] ++ zs1) ++ [(1 : UInt8)]).length (slc (f 34)), .slice none 0 0, .slice none 0 0, .int .i64 (-1)] := k0
    have hs38 : f 38 = .agg #[.slice none 0 0, .slice none 0 0, .slice none 0 0, Ix (min (num) (-2 : Int))] := k1
    have hs43 : f 43 = .agg #[.slice none 0 0, .slice (some ⟨(blk (f 42)), 0, none⟩) (rA).length (262145 + by_.toNat), .slice none 0 0, .int .i64 (-1)] := k2
    have hs46 : f 46 = .agg #[.slice none 0 0, .slice none 0 0, .slice (some ⟨(blk (f 44)), 0, none⟩) (rB).length 262145, Ix (num)] := k3
    refine ob_start (L' := M) (by rfl) (up_cons (up_cons (up_cons (up_cons rfl hs35) hs38) hs43) hs46) ?_
    refine l_val (v := .agg #[.slice (sla (f 34)) (([] ++ zs1) ++ [(1 : UInt8)]).length (slc (f 34)), .slice none 0 0, .slice none 0 0, .int .i64 (-1), .slice none 0 0, .slice none 0 0, .slice none 0 0, Ix (min (num) (-2 : Int)), .slice none 0 0, .slice (some ⟨(blk (f 42)), 0, none⟩) (rA).length (262145 + by_.toNat), .slice none 0 0, .int .i64 (-1), .slice none 0 0, .slice none 0 0, .slice (some ⟨(blk (f 44)), 0, none⟩) (rB).length 262145, Ix (num)]) rfl rfl rfl (e_build_a tf121 tf120 (vs := [(0, .agg #[.slice (sla (f 34)) (([] ++ zs1) ++ [(1 : UInt8)]).length (slc (f 34)), .slice none 0 0, .slice none 0 0, .int .i64 (-1)]), (1, .agg #[.slice none 0 0, .slice none 0 0, .slice none 0 0, Ix (min (num) (-2 : Int))]), (2, .agg #[.slice none 0 0, .slice (some ⟨(blk (f 42)), 0, none⟩) (rA).length (262145 + by_.toNat), .slice none 0 0, .int .i64 (-1)]), (3, .agg #[.slice none 0 0, .slice none 0 0, .slice (some ⟨(blk (f 44)), 0, none⟩) (rB).length 262145, Ix (num)])]) (cells := #[.slice (sla (f 34)) (([] ++ zs1) ++ [(1 : UInt8)]).length (slc (f 34)), .slice none 0 0, .slice none 0 0, .int .i64 (-1), .slice none 0 0, .slice none 0 0, .slice none 0 0, Ix (min (num) (-2 : Int)), .slice none 0 0, .slice (some ⟨(blk (f 42)), 0, none⟩) (rA).length (262145 + by_.toNat), .slice none 0 0, .int .i64 (-1), .slice none 0 0, .slice none 0 0, .slice (some ⟨(blk (f 44)), 0, none⟩) (rB).length 262145, Ix (num)]) rfl (fill4 _ _ _ _ _ _ _ _ _ _ _ _ _ _ _ _ _ _ rfl)) ?_
    refine l_nil ?_
    exact f_owes_d (up_cons (up_cons (up_cons (up_cons rfl hs35) hs38) hs43) hs46) rfl (List.Perm.refl _)
   ·rintro f M - ⟨i0, -⟩
    have hs2 : f 2 = Bx (by_) := i0
    refine ob_start (L' := M) (by rfl) (up_cons rfl hs2) ?_
    refine l_val (v := Bx (by_)) rfl rfl rfl (e_move) ?_
    refine l_nil ?_
    exact f_owes_d (up_cons rfl hs2) rfl (List.Perm.refl _)
   ·rintro f M ⟨k0, -⟩ -
    have hs48 : f 48 = Bx (by_) := k0
    refine ob_start (L' := M) (by rfl) (up_cons rfl hs48) ?_
    refine l_val (v := .int .u8 (1)) rfl rfl rfl (e_rem (a := ((by_).toNat : Int)) (b := ((4 : Nat) : Int)) rfl rfl (by decide) ((nat_tmod _ 4).trans (congrArg (fun z : Nat => (z : Int)) hway))) ?_
    refine l_nil ?_
    exact f_owes_d (up_cons rfl hs48) rfl (List.Perm.refl _)
   ·rintro f M ⟨k0, k1, -⟩ -
    have hs47 : f 47 = .agg #[.slice (sla (f 34)) (([] ++ zs1) ++ [(1 : UInt8)]).length (slc (f 34)), .slice none 0 0, .slice none 0 0, .int .i64 (-1), .slice none 0 0, .slice none 0 0, .slice none 0 0, Ix (min (num) (-2 : Int)), .slice none 0 0, .slice (some ⟨(blk (f 42)), 0, none⟩) (rA).length (262145 + by_.toNat), .slice none 0 0, .int .i64 (-1), .slice none 0 0, .slice none 0 0, .slice (some ⟨(blk (f 44)), 0, none⟩) (rB).length 262145, Ix (num)] := k0
    have hs49 : f 49 = .int .u8 (1) := k1
    refine ob_start (L' := M) (by rfl) (up_cons (up_cons rfl hs47) hs49) ?_
    refine l_val (v := .agg #[.slice none 0 0, .slice none 0 0, .slice none 0 0, Ix (min (num) (-2 : Int))]) rfl rfl rfl (e_index_n (cs := #[.slice (sla (f 34)) (([] ++ zs1) ++ [(1 : UInt8)]).length (slc (f 34)), .slice none 0 0, .slice none 0 0, .int .i64 (-1), .slice none 0 0, .slice none 0 0, .slice none 0 0, Ix (min (num) (-2 : Int)), .slice none 0 0, .slice (some ⟨(blk (f 42)), 0, none⟩) (rA).length (262145 + by_.toNat), .slice none 0 0, .int .i64 (-1), .slice none 0 0, .slice none 0 0, .slice (some ⟨(blk (f 44)), 0, none⟩) (rB).length 262145, Ix (num)]) (k := 1) (m := 4) rfl rfl tf120 (by decide) tf56 (by kernel_rfl)) ?_
    refine l_nil ?_
    exact f_owes_d (up_cons (up_cons rfl hs47) hs49) rfl (List.Perm.refl _)
   ·rintro f M - -
    refine ob_start (L' := M) (by rfl) rfl ?_
    refine l_mv rfl rfl rfl (m_alloc tf106) ?_
    rintro _ _ ⟨b41, rfl, rfl⟩
    refine l_nil ?_
    exact f_owes_d rfl rfl (perm_front 0 rfl)
   ·rintro f M ⟨k0, k1, -⟩ -
    have hs7 : f 7 = .pointer (some ⟨(blk (f 7)), 0, none⟩) := k0
    have hs50 : f 50 = .agg #[.slice none 0 0, .slice none 0 0, .slice none 0 0, Ix (min (num) (-2 : Int))] := k1
    refine ob_start (L' := pt (blk (f 7)) (.cells #[.slice none 0 0, .slice none 0 0, .slice none 0 0, .int .i64 (0)] 32) :: M) (by rfl) (up_cons (up_cons rfl hs7) hs50) ?_
    refine l_mu rfl rfl (m_store 0 tf56 (b := (blk (f 7))) (o := 0) (T := 32) (cs := #[.slice none 0 0, .slice none 0 0, .slice none 0 0, .int .i64 (0)]) (cs' := #[.slice none 0 0, .slice none 0 0, .slice none 0 0, Ix (min (num) (-2 : Int))]) (v := .agg #[.slice none 0 0, .slice none 0 0, .slice none 0 0, Ix (min (num) (-2 : Int))]) rfl rfl rfl rfl rfl rfl rfl) ?_
    refine l_nil ?_
    exact f_owes_n (up_cons (up_cons rfl hs7) hs50) trivial (perm_front 0 rfl)
   rintro fa42 ⟨-, -, -, -, -, -, -, -, -, -, -, -, -, -, -, -, -, -, -, -, -, k21, -, -⟩ ⟨j0, j1, j2, -⟩
   refine f_re (L' := [pt (blk (fa42 33)) (.cells #[.int .u8 (1)] 5), row (.slice (sla (fa42 34)) (([] ++ zs1) ++ [(1 : UInt8)]).length (slc (fa42 34))) 5 1 ((([] ++ zs1) ++ [(1 : UInt8)]).length) (BX (([] ++ zs1) ++ [(1 : UInt8)])), row (.slice (some ⟨(blk (fa42 42)), 0, none⟩) (rA).length (262145 + by_.toNat)) 5 1 ((rA).length) (BX rA), row (.slice (some ⟨(blk (fa42 44)), 0, none⟩) (rB).length 262145) 5 1 ((rB).length) (BX rB), pt (blk (fa42 7)) (.cells #[.slice none 0 0, .slice none 0 0, .slice none 0 0, Ix (min (num) (-2 : Int))] 32)]) (by rfl) ?_
   refine f_rebase (d := 0) (v := .slice va (zs1.length) (vc)) j0 ?_
   refine f_rebase (d := 1) (v := Ix (num)) j1 ?_
   refine f_rebase (d := 2) (v := Bx (by_)) j2 ?_
   refine f_rebase (d := 7) (v := .pointer (some ⟨(blk (fa42 7)), 0, none⟩)) k21 ?_
   obtain ⟨K0, hK0⟩ : ∃ z, z = (⟨[], [], [], min num (-2 : Int)⟩ : KS) := ⟨_, rfl⟩
   have hfhead : K0.head.length ≤ 1048576 := by rw [hK0]; simp; try omega
   have hfa : K0.a.length ≤ 1048576 := by rw [hK0]; simp; try omega
   have hfb : K0.b.length ≤ 1048576 := by rw [hK0]; simp; try omega
   have hno : ¬ K0.okP := by rw [hK0]; unfold KS.okP; simp; try omega
   refine f_emp (r := row (.slice none 0 0) 5 1 0 (BX [])) (row_nil _ _ _) ?_
   refine f_emp (r := row (.slice none 0 0) 5 1 0 (BX [])) (row_nil _ _ _) ?_
   refine f_emp (r := row (.slice none 0 0) 5 1 0 (BX [])) (row_nil _ _ _) ?_
   refine f_perm (L' := [pt (blk (fa42 7)) (.cells #[.slice none 0 0, .slice none 0 0, .slice none 0 0, Ix (min (num) (-2 : Int))] 32), row (.slice none 0 0) 5 1 (0) (BX []), row (.slice none 0 0) 5 1 (0) (BX []), row (.slice none 0 0) 5 1 (0) (BX []), pt (blk (fa42 33)) (.cells #[.int .u8 (1)] 5), row (.slice (sla (fa42 34)) (([] ++ zs1) ++ [(1 : UInt8)]).length (slc (fa42 34))) 5 1 ((([] ++ zs1) ++ [(1 : UInt8)]).length) (BX (([] ++ zs1) ++ [(1 : UInt8)])), row (.slice (some ⟨(blk (fa42 42)), 0, none⟩) (rA).length (262145 + by_.toNat)) 5 1 ((rA).length) (BX rA), row (.slice (some ⟨(blk (fa42 44)), 0, none⟩) (rB).length 262145) 5 1 ((rB).length) (BX rB)]) (by exact ((((((((perm_front 6 rfl).trans (perm_front 6 rfl)).trans (perm_front 6 rfl)).trans (perm_front 6 rfl)).trans (perm_front 4 rfl)).trans (perm_front 5 rfl)).trans (perm_front 6 rfl)).trans (perm_front 7 rfl))) ?_
   refine f_closeStore (S := (blk (fa42 7))) (k := K0) (pH := none) (pA := none) (pB := none) (cH := 0) (cA := 0) (cB := 0) (M := (pt (blk (fa42 33)) (.cells #[.int .u8 (1)] 5) :: row (.slice (sla (fa42 34)) (([] ++ zs1) ++ [(1 : UInt8)]).length (slc (fa42 34))) 5 1 ((([] ++ zs1) ++ [(1 : UInt8)]).length) (BX (([] ++ zs1) ++ [(1 : UInt8)])) :: row (.slice (some ⟨(blk (fa42 42)), 0, none⟩) (rA).length (262145 + by_.toNat)) 5 1 ((rA).length) (BX rA) :: row (.slice (some ⟨(blk (fa42 44)), 0, none⟩) (rB).length 262145) 5 1 ((rB).length) (BX rB) :: [])) (by rw [hK0]; rfl) ?_
   refine f_mask [true, false, false, false, false] rfl ?_
   exact f_cut ⟨_, K0, ⟨rfl, rfl, rfl, rfl⟩, rfl, hfhead, hfa, hfb, hno⟩
  ·
   refine c_any [⟨[], [], [], [30], fun f => f 30 = .slice (some ⟨(blk (f 30)), 0, none⟩) 0 0⟩, ⟨[], [], [0], [31], fun f => f 31 = .slice va (zs1.length) (vc)⟩, ⟨[0, 1], [0, 1], [], [32], fun f => f 32 = .slice (sla (f 32)) ([] ++ zs1).length (slc (f 32))⟩, ⟨[], [], [], [33], fun f => f 33 = .slice (some ⟨(blk (f 33)), 0, none⟩) 1 1⟩, ⟨[0, 1, 2, 3], [2, 3], [], [34], fun f => f 34 = .slice (sla (f 34)) (([] ++ zs1) ++ [(1 : UInt8)]).length (slc (f 34))⟩, ⟨[0, 1, 2, 3, 4], [4], [], [34, 35], fun f => f 35 = .agg #[.slice (sla (f 34)) (([] ++ zs1) ++ [(1 : UInt8)]).length (slc (f 34)), .slice none 0 0, .slice none 0 0, .int .i64 (-1)]⟩, ⟨[], [], [1], [36], fun f => f 36 = Ix (num)⟩, ⟨[6], [6], [], [37], fun f => f 37 = Ix (min (num) (-2 : Int))⟩, ⟨[6, 7], [7], [], [38], fun f => f 38 = .agg #[.slice none 0 0, .slice none 0 0, .slice none 0 0, Ix (min (num) (-2 : Int))]⟩, ⟨[], [], [2], [39], fun f => f 39 = Bx (by_)⟩, ⟨[9], [9], [], [40], fun f => f 40 = Nx (by_.toNat)⟩, ⟨[9, 10], [10], [], [41], fun f => f 41 = Nx (262145 + by_.toNat)⟩, ⟨[9, 10, 11], [11], [], [42], fun f => f 42 = .slice (some ⟨(blk (f 42)), 0, none⟩) (rA).length (262145 + by_.toNat)⟩, ⟨[9, 10, 11, 12], [12], [], [42, 43], fun f => f 43 = .agg #[.slice none 0 0, .slice (some ⟨(blk (f 42)), 0, none⟩) (rA).length (262145 + by_.toNat), .slice none 0 0, .int .i64 (-1)]⟩, ⟨[], [], [], [44], fun f => f 44 = .slice (some ⟨(blk (f 44)), 0, none⟩) (rB).length 262145⟩, ⟨[], [], [1], [45], fun f => f 45 = Ix (num)⟩, ⟨[14, 15], [14, 15], [], [44, 46], fun f => f 46 = .agg #[.slice none 0 0, .slice none 0 0, .slice (some ⟨(blk (f 44)), 0, none⟩) (rB).length 262145, Ix (num)]⟩, ⟨[0, 1, 2, 3, 4, 5, 6, 7, 8, 9, 10, 11, 12, 13, 14, 15, 16], [5, 8, 13, 16], [], [34, 42, 44, 47], fun f => f 47 = .agg #[.slice (sla (f 34)) (([] ++ zs1) ++ [(1 : UInt8)]).length (slc (f 34)), .slice none 0 0, .slice none 0 0, .int .i64 (-1), .slice none 0 0, .slice none 0 0, .slice none 0 0, Ix (min (num) (-2 : Int)), .slice none 0 0, .slice (some ⟨(blk (f 42)), 0, none⟩) (rA).length (262145 + by_.toNat), .slice none 0 0, .int .i64 (-1), .slice none 0 0, .slice none 0 0, .slice (some ⟨(blk (f 44)), 0, none⟩) (rB).length 262145, Ix (num)]⟩, ⟨[], [], [2], [48], fun f => f 48 = Bx (by_)⟩, ⟨[18], [18], [], [49], fun f => f 49 = .int .u8 (2)⟩, ⟨[0, 1, 2, 3, 4, 5, 6, 7, 8, 9, 10, 11, 12, 13, 14, 15, 16, 17, 18, 19], [17, 19], [], [42, 50], fun f => f 50 = .agg #[.slice none 0 0, .slice (some ⟨(blk (f 42)), 0, none⟩) (rA).length (262145 + by_.toNat), .slice none 0 0, .int .i64 (-1)]⟩, ⟨[], [], [], [7], fun f => f 7 = .pointer (some ⟨(blk (f 7)), 0, none⟩)⟩, ⟨[0, 1, 2, 3, 4, 5, 6, 7, 8, 9, 10, 11, 12, 13, 14, 15, 16, 17, 18, 19, 20, 21], [21, 20], [], [], fun _ => True⟩] [⟨(some 0), (some 2), [2], [30], fun f => pt (blk (f 30)) (.cells #[] 5)⟩, ⟨(some 2), (some 4), [4], [32], fun f => row (.slice (sla (f 32)) ([] ++ zs1).length (slc (f 32))) 5 1 (([] ++ zs1).length) (BX ([] ++ zs1))⟩, ⟨(some 3), none, [4], [33], fun f => pt (blk (f 33)) (.cells #[.int .u8 (1)] 5)⟩, ⟨(some 4), none, [], [34], fun f => row (.slice (sla (f 34)) (([] ++ zs1) ++ [(1 : UInt8)]).length (slc (f 34))) 5 1 ((([] ++ zs1) ++ [(1 : UInt8)]).length) (BX (([] ++ zs1) ++ [(1 : UInt8)]))⟩, ⟨(some 12), none, [], [42], fun f => row (.slice (some ⟨(blk (f 42)), 0, none⟩) (rA).length (262145 + by_.toNat)) 5 1 ((rA).length) (BX rA)⟩, ⟨(some 14), none, [], [44], fun f => row (.slice (some ⟨(blk (f 44)), 0, none⟩) (rB).length 262145) 5 1 ((rB).length) (BX rB)⟩, ⟨(some 21), (some 22), [22], [7], fun f => pt (blk (f 7)) (.cells #[.slice none 0 0, .slice none 0 0, .slice none 0 0, .int .i64 (0)] 32)⟩, ⟨(some 22), none, [], [7, 42], fun f => pt (blk (f 7)) (.cells #[.slice none 0 0, .slice (some ⟨(blk (f 42)), 0, none⟩) (rA).length (262145 + by_.toNat), .slice none 0 0, .int .i64 (-1)] 32)⟩] [(0, .slice va (zs1.length) (vc)), (1, Ix (num)), (2, Bx (by_))] [0, 1, 2] [] (by kernel_rfl) (by kernel_rfl) (by kernel_rfl) (by kernel_rfl) rfl ⟨rfl, rfl, rfl, trivial⟩ ⟨?_, ?_, ?_, ?_, ?_, ?_, ?_, ?_, ?_, ?_, ?_, ?_, ?_, ?_, ?_, ?_, ?_, ?_, ?_, ?_, ?_, ?_, ?_, trivial⟩ ?_
   ·rintro f M - -
    refine ob_start (L' := M) (by rfl) rfl ?_
    refine l_mv rfl rfl rfl (m_slice0 tf12) ?_
    rintro _ _ ⟨b44, rfl, rfl⟩
    refine l_nil ?_
    exact f_owes_d rfl rfl (perm_front 0 rfl)
   ·rintro f M - ⟨i0, -⟩
    have hs0 : f 0 = .slice va (zs1.length) (vc) := i0
    refine ob_start (L' := M) (by rfl) (up_cons rfl hs0) ?_
    refine l_val (v := .slice va (zs1.length) (vc)) rfl rfl rfl (e_move) ?_
    refine l_nil ?_
    exact f_owes_d (up_cons rfl hs0) rfl (List.Perm.refl _)
   ·rintro f M ⟨k0, k1, -⟩ -
    have hs30 : f 30 = .slice (some ⟨(blk (f 30)), 0, none⟩) 0 0 := k0
    have hs31 : f 31 = .slice va (zs1.length) (vc) := k1
    refine ob_start (L' := pt (blk (f 30)) (.cells #[] 5) :: M) (by rfl) (up_cons (up_cons rfl hs30) hs31) ?_
    refine l_conseq 0 (r' := row (.slice (some ⟨(blk (f 30)), 0, none⟩) 0 0) 5 1 0 (BX [])) rfl (fun a h => pt_row (m := 0) (by decide) rfl a h) ?_
    refine l_mv rfl rfl rfl (m_appendE (enc := fun c : UInt8 => Bx c) 0 bx_cell tf12 tf15 (v := .slice (some ⟨(blk (f 30)), 0, none⟩) 0 0) (xs := []) (ys := zs1) (ao := va) (c := vc) rfl rfl (by first | rfl | simp) rfl (by first | rfl | simp) (Knows.of_base (Elems.mono _ _ _) ze4) (by first | omega | (simp only [List.length_append, List.length_nil, List.length_cons, be_length] at *; omega)) (by first | omega | (simp only [List.length_append, List.length_nil, List.length_cons, be_length] at *; omega))) ?_
    rintro _ _ ⟨rp47, rc48, rfl, rfl⟩
    refine l_nil ?_
    exact f_owes_d (up_cons (up_cons rfl hs30) hs31) rfl (perm_front 0 rfl)
   ·rintro f M - -
    refine ob_start (L' := M) (by rfl) rfl ?_
    refine l_mv rfl rfl rfl (m_slices tf12 tf14 (vs := [(0, .int .u8 (1))]) (cells := #[.int .u8 (1)]) rfl rfl rfl rfl) ?_
    rintro _ _ ⟨b50, rfl, rfl⟩
    refine l_nil ?_
    exact f_owes_d rfl rfl (perm_front 0 rfl)
   ·rintro f M ⟨k0, k1, -⟩ -
    have hs32 : f 32 = .slice (sla (f 32)) ([] ++ zs1).length (slc (f 32)) := k0
    have hs33 : f 33 = .slice (some ⟨(blk (f 33)), 0, none⟩) 1 1 := k1
    refine ob_start (L' := row (.slice (sla (f 32)) ([] ++ zs1).length (slc (f 32))) 5 1 (([] ++ zs1).length) (BX ([] ++ zs1)) :: pt (blk (f 33)) (.cells #[.int .u8 (1)] 5) :: M) (by rfl) (up_cons (up_cons rfl hs32) hs33) ?_
    refine l_mv rfl rfl rfl (m_appendE (enc := fun c : UInt8 => Bx c) 0 bx_cell tf12 tf15 (v := .slice (sla (f 32)) ([] ++ zs1).length (slc (f 32))) (xs := [] ++ zs1) (ys := [(1 : UInt8)]) (ao := some ⟨(blk (f 33)), 0, none⟩) (c := 1) rfl rfl (by first | rfl | simp) rfl (by first | rfl | simp) (k_ptE 1 (xs := [(1 : UInt8)]) rfl) (by first | omega | (simp only [List.length_append, List.length_nil, List.length_cons, be_length] at *; omega)) (by first | omega | (simp only [List.length_append, List.length_nil, List.length_cons, be_length] at *; omega))) ?_
    rintro _ _ ⟨rp53, rc54, rfl, rfl⟩
    refine l_nil ?_
    exact f_owes_d (up_cons (up_cons rfl hs32) hs33) rfl ((perm_front 0 rfl).trans (perm_front 1 rfl))
   ·rintro f M ⟨k0, -⟩ -
    have hs34 : f 34 = .slice (sla (f 34)) (([] ++ zs1) ++ [(1 : UInt8)]).length (slc (f 34)) := k0
    refine ob_start (L' := M) (by rfl) (up_cons rfl hs34) ?_
    refine l_val (v := .agg #[.slice (sla (f 34)) (([] ++ zs1) ++ [(1 : UInt8)]).length (slc (f 34)), .slice none 0 0, .slice none 0 0, .int .i64 (-1)]) rfl rfl rfl (e_build tf106 tf105 (vs := [(0, .slice (sla (f 34)) (([] ++ zs1) ++ [(1 : UInt8)]).length (slc (f 34))), (3, .int .i64 (-1))]) (cells := #[.slice (sla (f 34)) (([] ++ zs1) ++ [(1 : UInt8)]).length (slc (f 34)), .slice none 0 0, .slice none 0 0, .int .i64 (-1)]) rfl rfl) ?_
    refine l_nil ?_
    exact f_owes_d (up_cons rfl hs34) rfl (List.Perm.refl _)
   ·rintro f M - ⟨i0, -⟩
    have hs1 : f 1 = Ix (num) := i0
    refine ob_start (L' := M) (by rfl) (up_cons rfl hs1) ?_
    refine l_val (v := Ix (num)) rfl rfl rfl (e_move) ?_
    refine l_nil ?_
    exact f_owes_d (up_cons rfl hs1) rfl (List.Perm.refl _)
   ·rintro f M ⟨k0, -⟩ -
    have hs36 : f 36 = Ix (num) := k0
    refine ob_start (L' := M) (by rfl) (up_cons rfl hs36) ?_
    refine l_val (v := Ix (min (num) (-2 : Int))) rfl rfl rfl (e_min (a := (num)) (b := (-2 : Int)) rfl rfl) ?_
    refine l_nil ?_
    exact f_owes_d (up_cons rfl hs36) rfl (List.Perm.refl _)
   ·rintro f M ⟨k0, -⟩ -
    have hs37 : f 37 = Ix (min (num) (-2 : Int)) := k0
    refine ob_start (L' := M) (by rfl) (up_cons rfl hs37) ?_
    refine l_val (v := .agg #[.slice none 0 0, .slice none 0 0, .slice none 0 0, Ix (min (num) (-2 : Int))]) rfl rfl rfl (e_build tf106 tf105 (vs := [(3, Ix (min (num) (-2 : Int)))]) (cells := #[.slice none 0 0, .slice none 0 0, .slice none 0 0, Ix (min (num) (-2 : Int))]) rfl rfl) ?_
    refine l_nil ?_
    exact f_owes_d (up_cons rfl hs37) rfl (List.Perm.refl _)
   ·rintro f M - ⟨i0, -⟩
    have hs2 : f 2 = Bx (by_) := i0
    refine ob_start (L' := M) (by rfl) (up_cons rfl hs2) ?_
    refine l_val (v := Bx (by_)) rfl rfl rfl (e_move) ?_
    refine l_nil ?_
    exact f_owes_d (up_cons rfl hs2) rfl (List.Perm.refl _)
   ·rintro f M ⟨k0, -⟩ -
    have hs39 : f 39 = Bx (by_) := k0
    refine ob_start (L' := M) (by rfl) (up_cons rfl hs39) ?_
    refine l_val (v := Nx (by_.toNat)) rfl rfl rfl (e_conv (a := ((by_).toNat : Int)) rfl ⟨_, tf8⟩ tf1 (i64n rfl (by have := (by_).toNat_lt; omega))) ?_
    refine l_nil ?_
    exact f_owes_d (up_cons rfl hs39) rfl (List.Perm.refl _)
   ·rintro f M ⟨k0, -⟩ -
    have hs40 : f 40 = Nx (by_.toNat) := k0
    refine ob_start (L' := M) (by rfl) (up_cons rfl hs40) ?_
    refine l_val (v := Nx (262145 + by_.toNat)) rfl rfl rfl (e_add (a := (262145 : Int)) (b := ((by_.toNat : Nat) : Int)) rfl rfl (i64n (by omega) (by omega))) ?_
    refine l_nil ?_
    exact f_owes_d (up_cons rfl hs40) rfl (List.Perm.refl _)
   ·rintro f M ⟨k0, -⟩ -
    have hs41 : f 41 = Nx (262145 + by_.toNat) := k0
    refine ob_start (L' := M) (by rfl) (up_cons rfl hs41) ?_
    refine l_mv rfl rfl rfl (m_makeZ (c := 262145 + by_.toNat) hrA tf12 tf15 tf14 rfl rfl (by omega) (by omega)) ?_
    rintro _ _ ⟨b56, rfl, rfl⟩
    refine l_nil ?_
    exact f_owes_d (up_cons rfl hs41) rfl (perm_front 0 rfl)
   ·rintro f M ⟨k0, -⟩ -
    have hs42 : f 42 = .slice (some ⟨(blk (f 42)), 0, none⟩) (rA).length (262145 + by_.toNat) := k0
    refine ob_start (L' := M) (by rfl) (up_cons rfl hs42) ?_
    refine l_val (v := .agg #[.slice none 0 0, .slice (some ⟨(blk (f 42)), 0, none⟩) (rA).length (262145 + by_.toNat), .slice none 0 0, .int .i64 (-1)]) rfl rfl rfl (e_build tf106 tf105 (vs := [(1, .slice (some ⟨(blk (f 42)), 0, none⟩) (rA).length (262145 + by_.toNat)), (3, .int .i64 (-1))]) (cells := #[.slice none 0 0, .slice (some ⟨(blk (f 42)), 0, none⟩) (rA).length (262145 + by_.toNat), .slice none 0 0, .int .i64 (-1)]) rfl rfl) ?_
    refine l_nil ?_
    exact f_owes_d (up_cons rfl hs42) rfl (List.Perm.refl _)
   ·rintro f M - -
    refine ob_start (L' := M) (by rfl) rfl ?_
    refine l_mv rfl rfl rfl (m_makeZ (c := 262145) hrB tf12 tf15 tf14 rfl rfl (by omega) (by omega)) ?_
    rintro _ _ ⟨b58, rfl, rfl⟩
    refine l_nil ?_
    exact f_owes_d rfl rfl (perm_front 0 rfl)
   ·rintro f M - ⟨i0, -⟩
    have hs1 : f 1 = Ix (num) := i0
    refine ob_start (L' := M) (by rfl) (up_cons rfl hs1) ?_
    refine l_val (v := Ix (num)) rfl rfl rfl (e_move) ?_
    refine l_nil ?_
    exact f_owes_d (up_cons rfl hs1) rfl (List.Perm.refl _)
   ·rintro f M ⟨k0, k1, -⟩ -
    have hs44 : f 44 = .slice (some ⟨(blk (f 44)), 0, none⟩) (rB).length 262145 := k0
    have hs45 : f 45 = Ix (num) := k1
    refine ob_start (L' := M) (by rfl) (up_cons (up_cons rfl hs44) hs45) ?_
    refine l_val (v := .agg #[.slice none 0 0, .slice none 0 0, .slice (some ⟨(blk (f 44)), 0, none⟩) (rB).length 262145, Ix (num)]) rfl rfl rfl (e_build tf106 tf105 (vs := [(2, .slice (some ⟨(blk (f 44)), 0, none⟩) (rB).length 262145), (3, Ix (num))]) (cells := #[.slice none 0 0, .slice none 0 0, .slice (some ⟨(blk (f 44)), 0, none⟩) (rB).length 262145, Ix (num)]) rfl rfl) ?_
    refine l_nil ?_
    exact f_owes_d (up_cons (up_cons rfl hs44) hs45) rfl (List.Perm.refl _)
   ·rintro f M ⟨k0, k1, k2, k3, -⟩ -
    have hs35 : f 35 = .agg #[.slice (sla (f 34)) (([] ++ zs1) ++ [(1 : UInt8)]).length (slc (f 34)), .slice none 0 0, .slice none 0 0, .int .i64 (-1)] := k0
    have hs38 : f 38 = .agg #[.slice none 0 0, .slice none 0 0, .slice none 0 0, Ix (min (num) (-2 : Int))] := k1
    have hs43 : f 43 = .agg #[.slice none 0 0, .slice (some ⟨(blk (f 42)), 0, none⟩) (rA).length (262145 + by_.toNat), .slice none 0 0, .int .i64 (-1)] := k2
    have hs46 : f 46 = .agg #[.slice none 0 0, .slice none 0 0, .slice (some ⟨(blk (f 44)), 0, none⟩) (rB).length 262145, Ix (num)] := k3
    refine ob_start (L' := M) (by rfl) (up_cons (up_cons (up_cons (up_cons rfl hs35) hs38) hs43) hs46) ?_
    refine l_val (v := .agg #[.slice (sla (f 34)) (([] ++ zs1) ++ [(1 : UInt8)]).length (slc (f 34)), .slice none 0 0, .slice none 0 0, .int .i64 (-1), .slice none 0 0, .slice none 0 0, .slice none 0 0, Ix (min (num) (-2 : Int)), .slice none 0 0, .slice (some ⟨(blk (f 42)), 0, none⟩) (rA).length (262145 + by_.toNat), .slice none 0 0, .int .i64 (-1), .slice none 0 0, .slice none 0 0, .slice (some ⟨(blk (f 44)), 0, none⟩) (rB).length 262145, Ix (num)]) rfl rfl rfl (e_build_a tf121 tf120 (vs := [(0, .agg #[.slice (sla (f 34)) (([] ++ zs1) ++ [(1 : UInt8)]).length (slc (f 34)), .slice none 0 0, .slice none 0 0, .int .i64 (-1)]), (1, .agg #[.slice none 0 0, .slice none 0 0, .slice none 0 0, Ix (min (num) (-2 : Int))]), (2, .agg #[.slice none 0 0, .slice (some ⟨(blk (f 42)), 0, none⟩) (rA).length (262145 + by_.toNat), .slice none 0 0, .int .i64 (-1)]), (3, .agg #[.slice none 0 0, .slice none 0 0, .slice (some ⟨(blk (f 44)), 0, none⟩) (rB).length 262145, Ix (num)])]) (cells := #[.slice (sla (f 34)) (([] ++ zs1) ++ [(1 : UInt8)]).length (slc (f 34)), .slice none 0 0, .slice none 0 0, .int .i64 (-1), .slice none 0 0, .slice none 0 0, .slice none 0 0, Ix (min (num) (-2 : Int)), .slice none 0 0, .slice (some ⟨(blk (f 42)), 0, none⟩) (rA).length (262145 + by_.toNat), .slice none 0 0, .int .i64 (-1), .slice none 0 0, .slice none 0 0, .slice (some ⟨(blk (f 44)), 0, none⟩) (rB).length 262145, Ix (num)]) rfl (fill4 _ _ _ _ _ _ _ _ _ _ _ _ _ _ _ _ _ _ rfl)) ?_
    refine l_nil ?_
    exact f_owes_d (up_cons (up_cons (up_cons (up_cons rfl hs35) hs38) hs43) hs46) rfl (List.Perm.refl _)
   ·rintro f M - ⟨i0, -⟩
    have hs2 : f 2 = Bx (by_) := i0
    refine ob_start (L' := M) (by rfl) (up_cons rfl hs2) ?_
    refine l_val (v := Bx (by_)) rfl rfl rfl (e_move) ?_
    refine l_nil ?_
    exact f_owes_d (up_cons rfl hs2) rfl (List.Perm.refl _)
   ·rintro f M ⟨k0, -⟩ -
    have hs48 : f 48 = Bx (by_) := k0
    refine ob_start (L' := M) (by rfl) (up_cons rfl hs48) ?_
    refine l_val (v := .int .u8 (2)) rfl rfl rfl (e_rem (a := ((by_).toNat : Int)) (b := ((4 : Nat) : Int)) rfl rfl (by decide) ((nat_tmod _ 4).trans (congrArg (fun z : Nat => (z : Int)) hway))) ?_
    refine l_nil ?_
    exact f_owes_d (up_cons rfl hs48) rfl (List.Perm.refl _)
   ·rintro f M ⟨k0, k1, -⟩ -
    have hs47 : f 47 = .agg #[.slice (sla (f 34)) (([] ++ zs1) ++ [(1 : UInt8)]).length (slc (f 34)), .slice none 0 0, .slice none 0 0, .int .i64 (-1), .slice none 0 0, .slice none 0 0, .slice none 0 0, Ix (min (num) (-2 : Int)), .slice none 0 0, .slice (some ⟨(blk (f 42)), 0, none⟩) (rA).length (262145 + by_.toNat), .slice none 0 0, .int .i64 (-1), .slice none 0 0, .slice none 0 0, .slice (some ⟨(blk (f 44)), 0, none⟩) (rB).length 262145, Ix (num)] := k0
    have hs49 : f 49 = .int .u8 (2) := k1
    refine ob_start (L' := M) (by rfl) (up_cons (up_cons rfl hs47) hs49) ?_
    refine l_val (v := .agg #[.slice none 0 0, .slice (some ⟨(blk (f 42)), 0, none⟩) (rA).length (262145 + by_.toNat), .slice none 0 0, .int .i64 (-1)]) rfl rfl rfl (e_index_n (cs := #[.slice (sla (f 34)) (([] ++ zs1) ++ [(1 : UInt8)]).length (slc (f 34)), .slice none 0 0, .slice none 0 0, .int .i64 (-1), .slice none 0 0, .slice none 0 0, .slice none 0 0, Ix (min (num) (-2 : Int)), .slice none 0 0, .slice (some ⟨(blk (f 42)), 0, none⟩) (rA).length (262145 + by_.toNat), .slice none 0 0, .int .i64 (-1), .slice none 0 0, .slice none 0 0, .slice (some ⟨(blk (f 44)), 0, none⟩) (rB).length 262145, Ix (num)]) (k := 2) (m := 4) rfl rfl tf120 (by decide) tf56 (by kernel_rfl)) ?_
    refine l_nil ?_
    exact f_owes_d (up_cons (up_cons rfl hs47) hs49) rfl (List.Perm.refl _)
   ·rintro f M - -
    refine ob_start (L' := M) (by rfl) rfl ?_
    refine l_mv rfl rfl rfl (m_alloc tf106) ?_
    rintro _ _ ⟨b60, rfl, rfl⟩
    refine l_nil ?_
    exact f_owes_d rfl rfl (perm_front 0 rfl)
   ·rintro f M ⟨k0, k1, -⟩ -
    have hs7 : f 7 = .pointer (some ⟨(blk (f 7)), 0, none⟩) := k0
    have hs50 : f 50 = .agg #[.slice none 0 0, .slice (some ⟨(blk (f 42)), 0, none⟩) (rA).length (262145 + by_.toNat), .slice none 0 0, .int .i64 (-1)] := k1
    refine ob_start (L' := pt (blk (f 7)) (.cells #[.slice none 0 0, .slice none 0 0, .slice none 0 0, .int .i64 (0)] 32) :: M) (by rfl) (up_cons (up_cons rfl hs7) hs50) ?_
    refine l_mu rfl rfl (m_store 0 tf56 (b := (blk (f 7))) (o := 0) (T := 32) (cs := #[.slice none 0 0, .slice none 0 0, .slice none 0 0, .int .i64 (0)]) (cs' := #[.slice none 0 0, .slice (some ⟨(blk (f 42)), 0, none⟩) (rA).length (262145 + by_.toNat), .slice none 0 0, .int .i64 (-1)]) (v := .agg #[.slice none 0 0, .slice (some ⟨(blk (f 42)), 0, none⟩) (rA).length (262145 + by_.toNat), .slice none 0 0, .int .i64 (-1)]) rfl rfl rfl rfl rfl rfl rfl) ?_
    refine l_nil ?_
    exact f_owes_n (up_cons (up_cons rfl hs7) hs50) trivial (perm_front 0 rfl)
   rintro fa61 ⟨-, -, -, -, -, -, -, -, -, -, -, -, -, -, -, -, -, -, -, -, -, k21, -, -⟩ ⟨j0, j1, j2, -⟩
   refine f_re (L' := [pt (blk (fa61 33)) (.cells #[.int .u8 (1)] 5), row (.slice (sla (fa61 34)) (([] ++ zs1) ++ [(1 : UInt8)]).length (slc (fa61 34))) 5 1 ((([] ++ zs1) ++ [(1 : UInt8)]).length) (BX (([] ++ zs1) ++ [(1 : UInt8)])), row (.slice (some ⟨(blk (fa61 42)), 0, none⟩) (rA).length (262145 + by_.toNat)) 5 1 ((rA).length) (BX rA), row (.slice (some ⟨(blk (fa61 44)), 0, none⟩) (rB).length 262145) 5 1 ((rB).length) (BX rB), pt (blk (fa61 7)) (.cells #[.slice none 0 0, .slice (some ⟨(blk (fa61 42)), 0, none⟩) (rA).length (262145 + by_.toNat), .slice none 0 0, .int .i64 (-1)] 32)]) (by rfl) ?_
   refine f_rebase (d := 0) (v := .slice va (zs1.length) (vc)) j0 ?_
   refine f_rebase (d := 1) (v := Ix (num)) j1 ?_
   refine f_rebase (d := 2) (v := Bx (by_)) j2 ?_
   refine f_rebase (d := 7) (v := .pointer (some ⟨(blk (fa61 7)), 0, none⟩)) k21 ?_
   obtain ⟨K0, hK0⟩ : ∃ z, z = (⟨[], rA, [], -1⟩ : KS) := ⟨_, rfl⟩
   have hfhead : K0.head.length ≤ 1048576 := by rw [hK0]; simp; try omega
   have hfa : K0.a.length ≤ 1048576 := by rw [hK0]; simp; try omega
   have hfb : K0.b.length ≤ 1048576 := by rw [hK0]; simp; try omega
   have hno : ¬ K0.okP := by rw [hK0]; unfold KS.okP; simp; try omega
   refine f_emp (r := row (.slice none 0 0) 5 1 0 (BX [])) (row_nil _ _ _) ?_
   refine f_emp (r := row (.slice none 0 0) 5 1 0 (BX [])) (row_nil _ _ _) ?_
   refine f_perm (L' := [pt (blk (fa61 7)) (.cells #[.slice none 0 0, .slice (some ⟨(blk (fa61 42)), 0, none⟩) (rA).length (262145 + by_.toNat), .slice none 0 0, .int .i64 (-1)] 32), row (.slice none 0 0) 5 1 (0) (BX []), row (.slice (some ⟨(blk (fa61 42)), 0, none⟩) (rA).length (262145 + by_.toNat)) 5 1 ((rA).length) (BX rA), row (.slice none 0 0) 5 1 (0) (BX []), pt (blk (fa61 33)) (.cells #[.int .u8 (1)] 5), row (.slice (sla (fa61 34)) (([] ++ zs1) ++ [(1 : UInt8)]).length (slc (fa61 34))) 5 1 ((([] ++ zs1) ++ [(1 : UInt8)]).length) (BX (([] ++ zs1) ++ [(1 : UInt8)])), row (.slice (some ⟨(blk (fa61 44)), 0, none⟩) (rB).length 262145) 5 1 ((rB).length) (BX rB)]) (by exact (((((((perm_front 5 rfl).trans (perm_front 4 rfl)).trans (perm_front 4 rfl)).trans (perm_front 3 rfl)).trans (perm_front 5 rfl)).trans (perm_front 5 rfl)).trans (perm_front 6 rfl))) ?_
   refine f_closeStore (S := (blk (fa61 7))) (k := K0) (pH := none) (pA := (some ⟨(blk (fa61 42)), 0, none⟩)) (pB := none) (cH := 0) (cA := (262145 + by_.toNat)) (cB := 0) (M := (pt (blk (fa61 33)) (.cells #[.int .u8 (1)] 5) :: row (.slice (sla (fa61 34)) (([] ++ zs1) ++ [(1 : UInt8)]).length (slc (fa61 34))) 5 1 ((([] ++ zs1) ++ [(1 : UInt8)]).length) (BX (([] ++ zs1) ++ [(1 : UInt8)])) :: row (.slice (some ⟨(blk (fa61 44)), 0, none⟩) (rB).length 262145) 5 1 ((rB).length) (BX rB) :: [])) (by rw [hK0]; rfl) ?_
   refine f_mask [true, false, false, false] rfl ?_
   exact f_cut ⟨_, K0, ⟨rfl, rfl, rfl, rfl⟩, rfl, hfhead, hfa, hfb, hno⟩
  ·
   refine c_any [⟨[], [], [], [30], fun f => f 30 = .slice (some ⟨(blk (f 30)), 0, none⟩) 0 0⟩, ⟨[], [], [0], [31], fun f => f 31 = .slice va (zs1.length) (vc)⟩, ⟨[0, 1], [0, 1], [], [32], fun f => f 32 = .slice (sla (f 32)) ([] ++ zs1).length (slc (f 32))⟩, ⟨[], [], [], [33], fun f => f 33 = .slice (some ⟨(blk (f 33)), 0, none⟩) 1 1⟩, ⟨[0, 1, 2, 3], [2, 3], [], [34], fun f => f 34 = .slice (sla (f 34)) (([] ++ zs1) ++ [(1 : UInt8)]).length (slc (f 34))⟩, ⟨[0, 1, 2, 3, 4], [4], [], [34, 35], fun f => f 35 = .agg #[.slice (sla (f 34)) (([] ++ zs1) ++ [(1 : UInt8)]).length (slc (f 34)), .slice none 0 0, .slice none 0 0, .int .i64 (-1)]⟩, ⟨[], [], [1], [36], fun f => f 36 = Ix (num)⟩, ⟨[6], [6], [], [37], fun f => f 37 = Ix (min (num) (-2 : Int))⟩, ⟨[6, 7], [7], [], [38], fun f => f 38 = .agg #[.slice none 0 0, .slice none 0 0, .slice none 0 0, Ix (min (num) (-2 : Int))]⟩, ⟨[], [], [2], [39], fun f => f 39 = Bx (by_)⟩, ⟨[9], [9], [], [40], fun f => f 40 = Nx (by_.toNat)⟩, ⟨[9, 10], [10], [], [41], fun f => f 41 = Nx (262145 + by_.toNat)⟩, ⟨[9, 10, 11], [11], [], [42], fun f => f 42 = .slice (some ⟨(blk (f 42)), 0, none⟩) (rA).length (262145 + by_.toNat)⟩, ⟨[9, 10, 11, 12], [12], [], [42, 43], fun f => f 43 = .agg #[.slice none 0 0, .slice (some ⟨(blk (f 42)), 0, none⟩) (rA).length (262145 + by_.toNat), .slice none 0 0, .int .i64 (-1)]⟩, ⟨[], [], [], [44], fun f => f 44 = .slice (some ⟨(blk (f 44)), 0, none⟩) (rB).length 262145⟩, ⟨[], [], [1], [45], fun f => f 45 = Ix (num)⟩, ⟨[14, 15], [14, 15], [], [44, 46], fun f => f 46 = .agg #[.slice none 0 0, .slice none 0 0, .slice (some ⟨(blk (f 44)), 0, none⟩) (rB).length 262145, Ix (num)]⟩, ⟨[0, 1, 2, 3, 4, 5, 6, 7, 8, 9, 10, 11, 12, 13, 14, 15, 16], [5, 8, 13, 16], [], [34, 42, 44, 47], fun f => f 47 = .agg #[.slice (sla (f 34)) (([] ++ zs1) ++ [(1 : UInt8)]).length (slc (f 34)), .slice none 0 0, .slice none 0 0, .int .i64 (-1), .slice none 0 0, .slice none 0 0, .slice none 0 0, Ix (min (num) (-2 : Int)), .slice none 0 0, .slice (some ⟨(blk (f 42)), 0, none⟩) (rA).length (262145 + by_.toNat), .slice none 0 0, .int .i64 (-1), .slice none 0 0, .slice none 0 0, .slice (some ⟨(blk (f 44)), 0, none⟩) (rB).length 262145, Ix (num)]⟩, ⟨[], [], [2], [48], fun f => f 48 = Bx (by_)⟩, ⟨[18], [18], [], [49], fun f => f 49 = .int .u8 (3)⟩, ⟨[0, 1, 2, 3, 4, 5, 6, 7, 8, 9, 10, 11, 12, 13, 14, 15, 16, 17, 18, 19], [17, 19], [], [44, 50], fun f => f 50 = .agg #[.slice none 0 0, .slice none 0 0, .slice (some ⟨(blk (f 44)), 0, none⟩) (rB).length 262145, Ix (num)]⟩, ⟨[], [], [], [7], fun f => f 7 = .pointer (some ⟨(blk (f 7)), 0, none⟩)⟩, ⟨[0, 1, 2, 3, 4, 5, 6, 7, 8, 9, 10, 11, 12, 13, 14, 15, 16, 17, 18, 19, 20, 21], [21, 20], [], [], fun _ => True⟩] [⟨(some 0), (some 2), [2], [30], fun f => pt (blk (f 30)) (.cells #[] 5)⟩, ⟨(some 2), (some 4), [4], [32], fun f => row (.slice (sla (f 32)) ([] ++ zs1).length (slc (f 32))) 5 1 (([] ++ zs1).length) (BX ([] ++ zs1))⟩, ⟨(some 3), none, [4], [33], fun f => pt (blk (f 33)) (.cells #[.int .u8 (1)] 5)⟩, ⟨(some 4), none, [], [34], fun f => row (.slice (sla (f 34)) (([] ++ zs1) ++ [(1 : UInt8)]).length (slc (f 34))) 5 1 ((([] ++ zs1) ++ [(1 : UInt8)]).length) (BX (([] ++ zs1) ++ [(1 : UInt8)]))⟩, ⟨(some 12), none, [], [42], fun f => row (.slice (some ⟨(blk (f 42)), 0, none⟩) (rA).length (262145 + by_.toNat)) 5 1 ((rA).length) (BX rA)⟩, ⟨(some 14), none, [], [44], fun f => row (.slice (some ⟨(blk (f 44)), 0, none⟩) (rB).length 262145) 5 1 ((rB).length) (BX rB)⟩, ⟨(some 21), (some 22), [22], [7], fun f => pt (blk (f 7)) (.cells #[.slice none 0 0, .slice none 0 0, .slice none 0 0, .int .i64 (0)] 32)⟩, ⟨(some 22), none, [], [7, 44], fun f => pt (blk (f 7)) (.cells #[.slice none 0 0, .slice none 0 0, .slice (some ⟨(blk (f 44)), 0, none⟩) (rB).length 262145, Ix (num)] 32)⟩] [(0, .slice va (zs1.length) (vc)), (1, Ix (num)), (2, Bx (by_))] [0, 1, 2] [] (by kernel_rfl) (by kernel_rfl) (by kernel_rfl) (by kernel_rfl) rfl ⟨rfl, rfl, rfl, trivial⟩ ⟨?_, ?_, ?_, ?_, ?_, ?_, ?_, ?_, ?_, ?_, ?_, ?_, ?_, ?_, ?_, ?_, ?_, ?_, ?_, ?_, ?_, ?_, ?_, trivial⟩ ?_
   ·rintro f M - -
    refine ob_start (L' := M) (by rfl) rfl ?_
    refine l_mv rfl rfl rfl (m_slice0 tf12) ?_
    rintro _ _ ⟨b63, rfl, rfl⟩
    refine l_nil ?_
    exact f_owes_d rfl rfl (perm_front 0 rfl)
   ·rintro f M - ⟨i0, -⟩
    have hs0 : f 0 = .slice va (zs1.length) (vc) := i0
    refine ob_start (L' := M) (by rfl) (up_cons rfl hs0) ?_
    refine l_val (v := .slice va (zs1.length) (vc)) rfl rfl rfl (e_move) ?_
    refine l_nil ?_
    exact f_owes_d (up_cons rfl hs0) rfl (List.Perm.refl _)
   ·rintro f M ⟨k0, k1, -⟩ -
    have hs30 : f 30 = .slice (some ⟨(blk (f 30)), 0, none⟩) 0 0 := k0
    have hs31 : f 31 = .slice va (zs1.length) (vc) := k1
    refine ob_start (L' := pt (blk (f 30)) (.cells #[] 5) :: M) (by rfl) (up_cons (up_cons rfl hs30) hs31) ?_
    refine l_conseq 0 (r' := row (.slice (some ⟨(blk (f 30)), 0, none⟩) 0 0) 5 1 0 (BX [])) rfl (fun a h => pt_row (m := 0) (by decide) rfl a h) ?_
    refine l_mv rfl rfl rfl (m_appendE (enc := fun c : UInt8 => Bx c) 0 bx_cell tf12 tf15 (v := .slice (some ⟨(blk (f 30)), 0, none⟩) 0 0) (xs := []) (ys := zs1) (ao := va) (c := vc) rfl rfl (by first | rfl | simp) rfl (by first | rfl | simp) (Knows.of_base (Elems.mono _ _ _) ze4) (by first | omega | (simp only [List.length_append, List.length_nil, List.length_cons, be_length] at *; omega)) (by first | omega | (simp only [List.length_append, List.length_nil, List.length_cons, be_length] at *; omega))) ?_
    rintro _ _ ⟨rp66, rc67, rfl, rfl⟩
    refine l_nil ?_
    exact f_owes_d (up_cons (up_cons rfl hs30) hs31) rfl (perm_front 0 rfl)
   ·rintro f M - -
    refine ob_start (L' := M) (by rfl) rfl ?_
    refine l_mv rfl rfl rfl (m_slices tf12 tf14 (vs := [(0, .int .u8 (1))]) (cells := #[.int .u8 (1)]) rfl rfl rfl rfl) ?_
    rintro _ _ ⟨b69, rfl, rfl⟩
    refine l_nil ?_
    exact f_owes_d rfl rfl (perm_front 0 rfl)
   ·rintro f M ⟨k0, k1, -⟩ -
    have hs32 : f 32 = .slice (sla (f 32)) ([] ++ zs1).length (slc (f 32)) := k0
    have hs33 : f 33 = .slice (some ⟨(blk (f 33)), 0, none⟩) 1 1 := k1
    refine ob_start (L' := row (.slice (sla (f 32)) ([] ++ zs1).length (slc (f 32))) 5 1 (([] ++ zs1).length) (BX ([] ++ zs1)) :: pt (blk (f 33)) (.cells #[.int .u8 (1)] 5) :: M) (by rfl) (up_cons (up_cons rfl hs32) hs33) ?_
    refine l_mv rfl rfl rfl (m_appendE (enc := fun c : UInt8 => Bx c) 0 bx_cell tf12 tf15 (v := .slice (sla (f 32)) ([] ++ zs1).length (slc (f 32))) (xs := [] ++ zs1) (ys := [(1 : UInt8)]) (ao := some ⟨(blk (f 33)), 0, none⟩) (c := 1) rfl rfl (by first | rfl | simp) rfl (by first | rfl | simp) (k_ptE 1 (xs := [(1 : UInt8)]) rfl) (by first | omega | (simp only [List.length_append, List.length_nil, List.length_cons, be_length] at *; omega)) (by first | omega | (simp only [List.length_append, List.length_nil, List.length_cons, be_length] at *; omega))) ?_
    rintro _ _ ⟨rp72, rc73, rfl, rfl⟩
    refine l_nil ?_
    exact f_owes_d (up_cons (up_cons rfl hs32) hs33) rfl ((perm_front 0 rfl).trans (perm_front 1 rfl))
   ·rintro f M ⟨k0, -⟩ -
    have hs34 : f 34 = .slice (sla (f 34)) (([] ++ zs1) ++ [(1 : UInt8)]).length (slc (f 34)) := k0
    refine ob_start (L' := M) (by rfl) (up_cons rfl hs34) ?_
    refine l_val (v := .agg #[.slice (sla (f 34)) (([] ++ zs1) ++ [(1 : UInt8)]).length (slc (f 34)), .slice none 0 0, .slice none 0 0, .int .i64 (-1)]) rfl rfl rfl (e_build tf106 tf105 (vs := [(0, .slice (sla (f 34)) (([] ++ zs1) ++ [(1 : UInt8)]).length (slc (f 34))), (3, .int .i64 (-1))]) (cells := #[.slice (sla (f 34)) (([] ++ zs1) ++ [(1 : UInt8)]).length (slc (f 34)), .slice none 0 0, .slice none 0 0, .int .i64 (-1)]) rfl rfl) ?_
    refine l_nil ?_
    exact f_owes_d (up_cons rfl hs34) rfl (List.Perm.refl _)
   ·rintro f M - ⟨i0, -⟩
    have hs1 : f 1 = Ix (num) := i0
    refine ob_start (L' := M) (by rfl) (up_cons rfl hs1) ?_
    refine l_val (v := Ix (num)) rfl rfl rfl (e_move) ?_
    refine l_nil ?_
    exact f_owes_d (up_cons rfl hs1) rfl (List.Perm.refl _)
   ·rintro f M ⟨k0, -⟩ -
    have hs36 : f 36 = Ix (num) := k0
    refine ob_start (L' := M) (by rfl) (up_cons rfl hs36) ?_
    refine l_val (v := Ix (min (num) (-2 : Int))) rfl rfl rfl (e_min (a := (num)) (b := (-2 : Int)) rfl rfl) ?_
    refine l_nil ?_
    exact f_owes_d (up_cons rfl hs36) rfl (List.Perm.refl _)
   ·rintro f M ⟨k0, -⟩ -
    have hs37 : f 37 = Ix (min (num) (-2 : Int)) := k0
    refine ob_start (L' := M) (by rfl) (up_cons rfl hs37) ?_
    refine l_val (v := .agg #[.slice none 0 0, .slice none 0 0, .slice none 0 0, Ix (min (num) (-2 : Int))]) rfl rfl rfl (e_build tf106 tf105 (vs := [(3, Ix (min (num) (-2 : Int)))]) (cells := #[.slice none 0 0, .slice none 0 0, .slice none 0 0, Ix (min (num) (-2 : Int))]) rfl rfl) ?_
    refine l_nil ?_
    exact f_owes_d (up_cons rfl hs37) rfl (List.Perm.refl _)
   ·rintro f M - ⟨i0, -⟩
    have hs2 : f 2 = Bx (by_) := i0
    refine ob_start (L' := M) (by rfl) (up_cons rfl hs2) ?_
    refine l_val (v := Bx (by_)) rfl rfl rfl (e_move) ?_
    refine l_nil ?_
    exact f_owes_d (up_cons rfl hs2) rfl (List.Perm.refl _)
   ·rintro f M ⟨k0, -⟩ -
    have hs39 : f 39 = Bx (by_) := k0
    refine ob_start (L' := M) (by rfl) (up_cons rfl hs39) ?_
    refine l_val (v := Nx (by_.toNat)) rfl rfl rfl (e_conv (a := ((by_).toNat : Int)) rfl ⟨_, tf8⟩ tf1 (i64n rfl (by have := (by_).toNat_lt; omega))) ?_
    refine l_nil ?_
    exact f_owes_d (up_cons rfl hs39) rfl (List.Perm.refl _)
   ·rintro f M ⟨k0, -⟩ -
    have hs40 : f 40 = Nx (by_.toNat) := k0
    refine ob_start (L' := M) (by rfl) (up_cons rfl hs40) ?_
    refine l_val (v := Nx (262145 + by_.toNat)) rfl rfl rfl (e_add (a := (262145 : Int)) (b := ((by_.toNat : Nat) : Int)) rfl rfl (i64n (by omega) (by omega))) ?_
    refine l_nil ?_
    exact f_owes_d (up_cons rfl hs40) rfl (List.Perm.refl _)
   ·rintro f M ⟨k0, -⟩ -
    have hs41 : f 41 = Nx (262145 + by_.toNat) := k0
    refine ob_start (L' := M) (by rfl) (up_cons rfl hs41) ?_
    refine l_mv rfl rfl rfl (m_makeZ (c := 262145 + by_.toNat) hrA tf12 tf15 tf14 rfl rfl (by omega) (by omega)) ?_
    rintro _ _ ⟨b75, rfl, rfl⟩
    refine l_nil ?_
    exact f_owes_d (up_cons rfl hs41) rfl (perm_front 0 rfl)
   ·rintro f M ⟨k0, -⟩ -
    have hs42 : f 42 = .slice (some ⟨(blk (f 42)), 0, none⟩) (rA).length (262145 + by_.toNat) := k0
    refine ob_start (L' := M) (by rfl) (up_cons rfl hs42) ?_
    refine l_val (v := .agg #[.slice none 0 0, .slice (some ⟨(blk (f 42)), 0, none⟩) (rA).length (262145 + by_.toNat), .slice none 0 0, .int .i64 (-1)]) rfl rfl rfl (e_build tf106 tf105 (vs := [(1, .slice (some ⟨(blk (f 42)), 0, none⟩) (rA).length (262145 + by_.toNat)), (3, .int .i64 (-1))]) (cells := #[.slice none 0 0, .slice (some ⟨(blk (f 42)), 0, none⟩) (rA).length (262145 + by_.toNat), .slice none 0 0, .int .i64 (-1)]) rfl rfl) ?_
    refine l_nil ?_
    exact f_owes_d (up_cons rfl hs42) rfl (List.Perm.refl _)
   ·rintro f M - -
    refine ob_start (L' := M) (by rfl) rfl ?_
    refine l_mv rfl rfl rfl (m_makeZ (c := 262145) hrB tf12 tf15 tf14 rfl rfl (by omega) (by omega)) ?_
    rintro _ _ ⟨b77, rfl, rfl⟩
    refine l_nil ?_
    exact f_owes_d rfl rfl (perm_front 0 rfl)
   ·rintro f M - ⟨i0, -⟩
    have hs1 : f 1 = Ix (num) := i0
    refine ob_start (L' := M) (by rfl) (up_cons rfl hs1) ?_
    refine l_val (v := Ix (num)) rfl rfl rfl (e_move) ?_
    refine l_nil ?_
    exact f_owes_d (up_cons rfl hs1) rfl (List.Perm.refl _)
   ·rintro f M ⟨k0, k1, -⟩ -
    have hs44 : f 44 = .slice (some ⟨(blk (f 44)), 0, none⟩) (rB).length 262145 := k0
    have hs45 : f 45 = Ix (num) := k1
    refine ob_start (L' := M) (by rfl) (up_cons (up_cons rfl hs44) hs45) ?_
    refine l_val (v := .agg #[.slice none 0 0, .slice none 0 0, .slice (some ⟨(blk (f 44)), 0, none⟩) (rB).length 262145, Ix (num)]) rfl rfl rfl (e_build tf106 tf105 (vs := [(2, .slice (some ⟨(blk (f 44)), 0, none⟩) (rB).length 262145), (3, Ix (num))]) (cells := #[.slice none 0 0, .slice none 0 0, .slice (some ⟨(blk (f 44)), 0, none⟩) (rB).length 262145, Ix (num)]) rfl rfl) ?_
    refine l_nil ?_
    exact f_owes_d (up_cons (up_cons rfl hs44) hs45) rfl (List.Perm.refl _)
   ·rintro f M ⟨k0, k1, k2, k3, -⟩ -
    have hs35 : f 35 = .agg #[.slice (sla (f 34)) (([] ++ zs1) ++ [(1 : UInt8)]).length (slc (f 34)), .slice none 0 0, .slice none 0 0, .int .i64 (-1)] := k0
    have hs38 : f 38 = .agg #[.slice none 0 0, .slice none 0 0, .slice none 0 0, Ix (min (num) (-2 : Int))] := k1
    have hs43 : f 43 = .agg #[.slice none 0 0, .slice (some ⟨(blk (f 42)), 0, none⟩) (rA).length (262145 + by_.toNat), .slice none 0 0, .int .i64 (-1)] := k2
    have hs46 : f 46 = .agg #[.slice none 0 0, .slice none 0 0, .slice (some ⟨(blk (f 44)), 0, none⟩) (rB).length 262145, Ix (num)] := k3
    refine ob_start (L' := M) (by rfl) (up_cons (up_cons (up_cons (up_cons rfl hs35) hs38) hs43) hs46) ?_
    refine l_val (v := .agg #[.slice (sla (f 34)) (([] ++ zs1) ++ [(1 : UInt8)]).length (slc (f 34)), .slice none 0 0, .slice none 0 0, .int .i64 (-1), .slice none 0 0, .slice none 0 0, .slice none 0 0, Ix (min (num) (-2 : Int)), .slice none 0 0, .slice (some ⟨(blk (f 42)), 0, none⟩) (rA).length (262145 + by_.toNat), .slice none 0 0, .int .i64 (-1), .slice none 0 0, .slice none 0 0, .slice (some ⟨(blk (f 44)), 0, none⟩) (rB).length 262145, Ix (num)]) rfl rfl rfl (e_build_a tf121 tf120 (vs := [(0, .agg #[.slice (sla (f 34)) (([] ++ zs1) ++ [(1 : UInt8)]).length (slc (f 34)), .slice none 0 0, .slice none 0 0, .int .i64 (-1)]), (1, .agg #[.slice none 0 0, .slice none 0 0, .slice none 0 0, Ix (min (num) (-2 : Int))]), (2, .agg #[.slice none 0 0, .slice (some ⟨(blk (f 42)), 0, none⟩) (rA).length (262145 + by_.toNat), .slice none 0 0, .int .i64 (-1)]), (3, .agg #[.slice none 0 0, .slice none 0 0, .slice (some ⟨(blk (f 44)), 0, none⟩) (rB).length 262145, Ix (num)])]) (cells := #[.slice (sla (f 34)) (([] ++ zs1) ++ [(1 : UInt8)]).length (slc (f 34)), .slice none 0 0, .slice none 0 0, .int .i64 (-1), .slice none 0 0, .slice none 0 0, .slice none 0 0, Ix (min (num) (-2 : Int)), .slice none 0 0, .slice (some ⟨(blk (f 42)), 0, none⟩) (rA).length (262145 + by_.toNat), .slice none 0 0, .int .i64 (-1), .slice none 0 0, .slice none 0 0, .slice (some ⟨(blk (f 44)), 0, none⟩) (rB).length 262145, Ix (num)]) rfl (fill4 _ _ _ _ _ _ _ _ _ _ _ _ _ _ _ _ _ _ rfl)) ?_
    refine l_nil ?_
    exact f_owes_d (up_cons (up_cons (up_cons (up_cons rfl hs35) hs38) hs43) hs46) rfl (List.Perm.refl _)
   ·rintro f M - ⟨i0, -⟩
    have hs2 : f 2 = Bx (by_) := i0
    refine ob_start (L' := M) (by rfl) (up_cons rfl hs2) ?_
    refine l_val (v := Bx (by_)) rfl rfl rfl (e_move) ?_
    refine l_nil ?_
    exact f_owes_d (up_cons rfl hs2) rfl (List.Perm.refl _)
   ·rintro f M ⟨k0, -⟩ -
    have hs48 : f 48 = Bx (by_) := k0
    refine ob_start (L' := M) (by rfl) (up_cons rfl hs48) ?_
    refine l_val (v := .int .u8 (3)) rfl rfl rfl (e_rem (a := ((by_).toNat : Int)) (b := ((4 : Nat) : Int)) rfl rfl (by decide) ((nat_tmod _ 4).trans (congrArg (fun z : Nat => (z : Int)) hway))) ?_
    refine l_nil ?_
    exact f_owes_d (up_cons rfl hs48) rfl (List.Perm.refl _)
   ·rintro f M ⟨k0, k1, -⟩ -
    have hs47 : f 47 = .agg #[.slice (sla (f 34)) (([] ++ zs1) ++ [(1 : UInt8)]).length (slc (f 34)), .slice none 0 0, .slice none 0 0, .int .i64 (-1), .slice none 0 0, .slice none 0 0, .slice none 0 0, Ix (min (num) (-2 : Int)), .slice none 0 0, .slice (some ⟨(blk (f 42)), 0, none⟩) (rA).length (262145 + by_.toNat), .slice none 0 0, .int .i64 (-1), .slice none 0 0, .slice none 0 0, .slice (some ⟨(blk (f 44)), 0, none⟩) (rB).length 262145, Ix (num)] := k0
    have hs49 : f 49 = .int .u8 (3) := k1
    refine ob_start (L' := M) (by rfl) (up_cons (up_cons rfl hs47) hs49) ?_
    refine l_val (v := .agg #[.slice none 0 0, .slice none 0 0, .slice (some ⟨(blk (f 44)), 0, none⟩) (rB).length 262145, Ix (num)]) rfl rfl rfl (e_index_n (cs := #[.slice (sla (f 34)) (([] ++ zs1) ++ [(1 : UInt8)]).length (slc (f 34)), .slice none 0 0, .slice none 0 0, .int .i64 (-1), .slice none 0 0, .slice none 0 0, .slice none 0 0, Ix (min (num) (-2 : Int)), .slice none 0 0, .slice (some ⟨(blk (f 42)), 0, none⟩) (rA).length (262145 + by_.toNat), .slice none 0 0, .int .i64 (-1), .slice none 0 0, .slice none 0 0, .slice (some ⟨(blk (f 44)), 0, none⟩) (rB).length 262145, Ix (num)]) (k := 3) (m := 4) rfl rfl tf120 (by decide) tf56 (by kernel_rfl)) ?_
    refine l_nil ?_
    exact f_owes_d (up_cons (up_cons rfl hs47) hs49) rfl (List.Perm.refl _)
   ·rintro f M - -
    refine ob_start (L' := M) (by rfl) rfl ?_
    refine l_mv rfl rfl rfl (m_alloc tf106) ?_
    rintro _ _ ⟨b79, rfl, rfl⟩
    refine l_nil ?_
    exact f_owes_d rfl rfl (perm_front 0 rfl)
   ·rintro f M ⟨k0, k1, -⟩ -
    have hs7 : f 7 = .pointer (some ⟨(blk (f 7)), 0, none⟩) := k0
    have hs50 : f 50 = .agg #[.slice none 0 0, .slice none 0 0, .slice (some ⟨(blk (f 44)), 0, none⟩) (rB).length 262145, Ix (num)] := k1
    refine ob_start (L' := pt (blk (f 7)) (.cells #[.slice none 0 0, .slice none 0 0, .slice none 0 0, .int .i64 (0)] 32) :: M) (by rfl) (up_cons (up_cons rfl hs7) hs50) ?_
    refine l_mu rfl rfl (m_store 0 tf56 (b := (blk (f 7))) (o := 0) (T := 32) (cs := #[.slice none 0 0, .slice none 0 0, .slice none 0 0, .int .i64 (0)]) (cs' := #[.slice none 0 0, .slice none 0 0, .slice (some ⟨(blk (f 44)), 0, none⟩) (rB).length 262145, Ix (num)]) (v := .agg #[.slice none 0 0, .slice none 0 0, .slice (some ⟨(blk (f 44)), 0, none⟩) (rB).length 262145, Ix (num)]) rfl rfl rfl rfl rfl rfl rfl) ?_
    refine l_nil ?_
    exact f_owes_n (up_cons (up_cons rfl hs7) hs50) trivial (perm_front 0 rfl)
   rintro fa80 ⟨-, -, -, -, -, -, -, -, -, -, -, -, -, -, -, -, -, -, -, -, -, k21, -, -⟩ ⟨j0, j1, j2, -⟩
   refine f_re (L' := [pt (blk (fa80 33)) (.cells #[.int .u8 (1)] 5), row (.slice (sla (fa80 34)) (([] ++ zs1) ++ [(1 : UInt8)]).length (slc (fa80 34))) 5 1 ((([] ++ zs1) ++ [(1 : UInt8)]).length) (BX (([] ++ zs1) ++ [(1 : UInt8)])), row (.slice (some ⟨(blk (fa80 42)), 0, none⟩) (rA).length (262145 + by_.toNat)) 5 1 ((rA).length) (BX rA), row (.slice (some ⟨(blk (fa80 44)), 0, none⟩) (rB).length 262145) 5 1 ((rB).length) (BX rB), pt (blk (fa80 7)) (.cells #[.slice none 0 0, .slice none 0 0, .slice (some ⟨(blk (fa80 44)), 0, none⟩) (rB).length 262145, Ix (num)] 32)]) (by rfl) ?_
   refine f_rebase (d := 0) (v := .slice va (zs1.length) (vc)) j0 ?_
   refine f_rebase (d := 1) (v := Ix (num)) j1 ?_
   refine f_rebase (d := 2) (v := Bx (by_)) j2 ?_
   refine f_rebase (d := 7) (v := .pointer (some ⟨(blk (fa80 7)), 0, none⟩)) k21 ?_
   obtain ⟨K0, hK0⟩ : ∃ z, z = (⟨[], [], rB, num⟩ : KS) := ⟨_, rfl⟩
   have hfhead : K0.head.length ≤ 1048576 := by rw [hK0]; simp; try omega
   have hfa : K0.a.length ≤ 1048576 := by rw [hK0]; simp; try omega
   have hfb : K0.b.length ≤ 1048576 := by rw [hK0]; simp; try omega
   have hno : ¬ K0.okP := by rw [hK0]; unfold KS.okP; simp; try omega
   refine f_emp (r := row (.slice none 0 0) 5 1 0 (BX [])) (row_nil _ _ _) ?_
   refine f_emp (r := row (.slice none 0 0) 5 1 0 (BX [])) (row_nil _ _ _) ?_
   refine f_perm (L' := [pt (blk (fa80 7)) (.cells #[.slice none 0 0, .slice none 0 0, .slice (some ⟨(blk (fa80 44)), 0, none⟩) (rB).length 262145, Ix (num)] 32), row (.slice none 0 0) 5 1 (0) (BX []), row (.slice none 0 0) 5 1 (0) (BX []), row (.slice (some ⟨(blk (fa80 44)), 0, none⟩) (rB).length 262145) 5 1 ((rB).length) (BX rB), pt (blk (fa80 33)) (.cells #[.int .u8 (1)] 5), row (.slice (sla (fa80 34)) (([] ++ zs1) ++ [(1 : UInt8)]).length (slc (fa80 34))) 5 1 ((([] ++ zs1) ++ [(1 : UInt8)]).length) (BX (([] ++ zs1) ++ [(1 : UInt8)])), row (.slice (some ⟨(blk (fa80 42)), 0, none⟩) (rA).length (262145 + by_.toNat)) 5 1 ((rA).length) (BX rA)]) (by exact (((((((perm_front 4 rfl).trans (perm_front 4 rfl)).trans (perm_front 4 rfl)).trans (perm_front 5 rfl)).trans (perm_front 4 rfl)).trans (perm_front 5 rfl)).trans (perm_front 6 rfl))) ?_
   refine f_closeStore (S := (blk (fa80 7))) (k := K0) (pH := none) (pA := none) (pB := (some ⟨(blk (fa80 44)), 0, none⟩)) (cH := 0) (cA := 0) (cB := 262145) (M := (pt (blk (fa80 33)) (.cells #[.int .u8 (1)] 5) :: row (.slice (sla (fa80 34)) (([] ++ zs1) ++ [(1 : UInt8)]).length (slc (fa80 34))) 5 1 ((([] ++ zs1) ++ [(1 : UInt8)]).length) (BX (([] ++ zs1) ++ [(1 : UInt8)])) :: row (.slice (some ⟨(blk (fa80 42)), 0, none⟩) (rA).length (262145 + by_.toNat)) 5 1 ((rA).length) (BX rA) :: [])) (by rw [hK0]; rfl) ?_
   refine f_mask [true, false, false, false] rfl ?_
   exact f_cut ⟨_, K0, ⟨rfl, rfl, rfl, rfl⟩, rfl, hfhead, hfa, hfb, hno⟩
 rintro f0 L0 ⟨b7, K0, ⟨hs0, hs1, hs2, hs7⟩, hL, hfhead, hfa, hfb, hno⟩
 subst L0
 refine rebase (d := 0) hs0 ?_
 refine rebase (d := 1) hs1 ?_
 refine rebase (d := 2) hs2 ?_
 refine rebase (d := 7) hs7 ?_
 refine c_seq ?_
 refine c_perm (L' := [storeR b7 K0]) (by exact (perm_front 0 rfl)) ?_
 refine c_openStore rfl (fun pH81 pA82 pB83 cH84 cA85 cB86 => ?_)
 refine c_rowcap 1 rfl (fun hcl87 hcm88 => ?_)
 refine c_rowcap 2 rfl (fun hcl89 hcm90 => ?_)
 refine c_rowcap 3 rfl (fun hcl91 hcm92 => ?_)
 refine c_region ?_
 refine l_val (v := .agg #[.slice pH81 (K0.head).length cH84, .slice pA82 (K0.a).length cA85, .slice pB83 (K0.b).length cB86, Ix (K0.power)]) rfl rfl rfl (e_load tf56 (cs := [.slice pH81 (K0.head).length cH84, .slice pA82 (K0.a).length cA85, .slice pB83 (K0.b).length cB86, Ix (K0.power)]) rfl (k_pt 0 (cs := #[.slice pH81 (K0.head).length cH84, .slice pA82 (K0.a).length cA85, .slice pB83 (K0.b).length cB86, Ix (K0.power)]) (vs := [.slice pH81 (K0.head).length cH84, .slice pA82 (K0.a).length cA85, .slice pB83 (K0.b).length cB86, Ix (K0.power)]) rfl rfl) rfl) ?_
 refine l_call rfl rfl rfl (cl_value (fst := []) (cap := []) (vs := [.agg #[.slice pH81 (K0.head).length cH84, .slice pA82 (K0.a).length cA85, .slice pB83 (K0.b).length cB86, Ix (K0.power)]]) (all := [.agg #[.slice pH81 (K0.head).length cH84, .slice pA82 (K0.a).length cA85, .slice pB83 (K0.b).length cB86, Ix (K0.power)]]) tf118 rfl rfl rfl) ?_
 intro w hw
 obtain ⟨β1, sb, kn, hw1, back⟩ := St.frame_all hw
 refine (copys_ok β1 w hw1 K0 _ _ _ (kn _ (Knows.of_res 1 rfl (Sl.mono U8R _ _) fun _ h => row_u8 h)) (kn _ (Knows.of_res 2 rfl (Sl.mono U8R _ _) fun _ h => row_u8 h)) (kn _ (Knows.of_res 3 rfl (Sl.mono U8R _ _) fun _ h => row_u8 h)) (by omega) (by omega) (by omega)).mono ?_
 rintro e w' ⟨pH93, pA94, pB95, cH96, cA97, cB98, rfl, hw'⟩
 refine ⟨_, rfl, _, back _ _ hw', ?_⟩
 clear hw hw1 hw' back kn sb
 refine l_mv rfl rfl rfl (m_alloc tf106) ?_
 rintro _ _ ⟨b99, rfl, rfl⟩
 refine l_mu rfl rfl (m_store 0 tf56 (b := b99) (o := 0) (T := 32) (cs := #[.slice none 0 0, .slice none 0 0, .slice none 0 0, .int .i64 (0)]) (cs' := #[.slice pH93 (K0.head).length cH96, .slice pA94 (K0.a).length cA97, .slice pB95 (K0.b).length cB98, Ix (K0.power)]) (v := .agg #[.slice pH93 (K0.head).length cH96, .slice pA94 (K0.a).length cA97, .slice pB95 (K0.b).length cB98, Ix (K0.power)]) rfl rfl rfl rfl rfl rfl rfl) ?_
 refine l_nil ?_
 refine f_then ?_
 refine c_seq ?_
 refine c_region ?_
 refine l_val (v := .agg #[.slice pH81 (K0.head).length cH84, .slice pA82 (K0.a).length cA85, .slice pB83 (K0.b).length cB86, Ix (K0.power)]) rfl rfl rfl (e_load tf56 (cs := [.slice pH81 (K0.head).length cH84, .slice pA82 (K0.a).length cA85, .slice pB83 (K0.b).length cB86, Ix (K0.power)]) rfl (k_pt 4 (cs := #[.slice pH81 (K0.head).length cH84, .slice pA82 (K0.a).length cA85, .slice pB83 (K0.b).length cB86, Ix (K0.power)]) (vs := [.slice pH81 (K0.head).length cH84, .slice pA82 (K0.a).length cA85, .slice pB83 (K0.b).length cB86, Ix (K0.power)]) rfl rfl) rfl) ?_
 refine l_call rfl rfl rfl (cl_value (fst := []) (cap := []) (vs := [.agg #[.slice pH81 (K0.head).length cH84, .slice pA82 (K0.a).length cA85, .slice pB83 (K0.b).length cB86, Ix (K0.power)]]) (all := [.agg #[.slice pH81 (K0.head).length cH84, .slice pA82 (K0.a).length cA85, .slice pB83 (K0.b).length cB86, Ix (K0.power)]]) tf69 rfl rfl rfl) ?_
 intro w hw
 obtain ⟨β1, sb, kn, hw1, back⟩ := St.frame_all hw
 refine (readC_bad β1 w hw1 K0 _ _ _ (kn _ (Knows.of_res 5 rfl (Sl.mono U8R _ _) fun _ h => row_u8 h)) (kn _ (Knows.of_res 6 rfl (Sl.mono U8R _ _) fun _ h => row_u8 h)) (kn _ (Knows.of_res 7 rfl (Sl.mono U8R _ _) fun _ h => row_u8 h)) hno).mono ?_
 rintro e w' ⟨rfl, hw'⟩
 refine ⟨_, rfl, _, back _ _ hw', ?_⟩
 clear hw hw1 hw' back kn sb
 refine l_val (v := .tuple #[.agg #[.int .i64 (0), .int .i64 (0), .slice none 0 0, .slice none 0 0, .int .i64 (0)], .int .i64 (2)]) rfl rfl rfl (e_move) ?_
 refine l_val (v := .agg #[.int .i64 (0), .int .i64 (0), .slice none 0 0, .slice none 0 0, .int .i64 (0)]) rfl rfl rfl (e_extract (vs := #[.agg #[.int .i64 (0), .int .i64 (0), .slice none 0 0, .slice none 0 0, .int .i64 (0)], .int .i64 (2)]) rfl rfl) ?_
 refine l_val (v := .int .i64 (2)) rfl rfl rfl (e_extract (vs := #[.agg #[.int .i64 (0), .int .i64 (0), .slice none 0 0, .slice none 0 0, .int .i64 (0)], .int .i64 (2)]) rfl rfl) ?_
 refine l_mv rfl rfl rfl (m_alloc tf55) ?_
 rintro _ _ ⟨b100, rfl, rfl⟩
 refine l_mu rfl rfl (m_store 0 tf59 (b := b100) (o := 0) (T := 36) (cs := #[.int .i64 (0), .int .i64 (0), .slice none 0 0, .slice none 0 0, .int .i64 (0)]) (cs' := #[.int .i64 (0), .int .i64 (0), .slice none 0 0, .slice none 0 0, .int .i64 (0)]) (v := .agg #[.int .i64 (0), .int .i64 (0), .slice none 0 0, .slice none 0 0, .int .i64 (0)]) rfl rfl rfl rfl rfl rfl rfl) ?_
 refine l_val (v := .int .i64 (2)) rfl rfl rfl (e_assign) ?_
 refine l_nil ?_
 refine f_then ?_
 refine c_seq ?_
 refine c_perm (L' := [pt b7 (.cells #[.slice pH81 (K0.head).length cH84, .slice pA82 (K0.a).length cA85, .slice pB83 (K0.b).length cB86, Ix (K0.power)] 32), row (.slice pH81 (K0.head).length cH84) 5 1 ((K0.head).length) (BX K0.head), row (.slice pA82 (K0.a).length cA85) 5 1 ((K0.a).length) (BX K0.a), row (.slice pB83 (K0.b).length cB86) 5 1 ((K0.b).length) (BX K0.b), pt b100 (.cells #[.int .i64 (0), .int .i64 (0), .slice none 0 0, .slice none 0 0, .int .i64 (0)] 36), pt b99 (.cells #[.slice pH93 (K0.head).length cH96, .slice pA94 (K0.a).length cA97, .slice pB95 (K0.b).length cB98, Ix (K0.power)] 32), row (.slice pH93 (K0.head).length cH96) 5 1 ((K0.head).length) (BX K0.head), row (.slice pA94 (K0.a).length cA97) 5 1 ((K0.a).length) (BX K0.a), row (.slice pB95 (K0.b).length cB98) 5 1 ((K0.b).length) (BX K0.b)]) (by exact (((((((((perm_front 4 rfl).trans (perm_front 4 rfl)).trans (perm_front 4 rfl)).trans (perm_front 4 rfl)).trans (perm_front 4 rfl)).trans (perm_front 8 rfl)).trans (perm_front 8 rfl)).trans (perm_front 8 rfl)).trans (perm_front 8 rfl))) ?_
 refine c_closeStore (S := b7) (k := K0) (pH := pH81) (pA := pA82) (pB := pB83) (cH := cH84) (cA := cA85) (cB := cB86) (M := (pt b100 (.cells #[.int .i64 (0), .int .i64 (0), .slice none 0 0, .slice none 0 0, .int .i64 (0)] 36) :: pt b99 (.cells #[.slice pH93 (K0.head).length cH96, .slice pA94 (K0.a).length cA97, .slice pB95 (K0.b).length cB98, Ix (K0.power)] 32) :: row (.slice pH93 (K0.head).length cH96) 5 1 ((K0.head).length) (BX K0.head) :: row (.slice pA94 (K0.a).length cA97) 5 1 ((K0.a).length) (BX K0.a) :: row (.slice pB95 (K0.b).length cB98) 5 1 ((K0.b).length) (BX K0.b) :: [])) rfl ?_
 refine c_region ?_
 refine l_call rfl rfl rfl (cl_value (fst := []) (cap := []) (vs := [.pointer (some ⟨b7, 0, none⟩)]) (all := [.pointer (some ⟨b7, 0, none⟩)]) tf104 rfl rfl rfl) ?_
 intro w hw
 replace hw := hw.perm (L' := _ :: _ :: _ :: _ :: _ :: _ :: []) (by exact ((((((perm_front 5 rfl).trans (perm_front 5 rfl)).trans (perm_front 5 rfl)).trans (perm_front 5 rfl)).trans (perm_front 5 rfl)).trans (perm_front 5 rfl)))
 obtain ⟨β1, sb, kn, hw1, back⟩ := St.frame (L := [_]) (M := _ :: _ :: _ :: _ :: _ :: []) hw
 refine (open_bad β1 w b7 K0 hno hw1).mono ?_
 rintro e w' ⟨rfl, hw'⟩
 refine ⟨_, rfl, _, back _ _ hw', ?_⟩
 clear hw hw1 hw' back kn sb
 refine l_val (v := .tuple #[.pointer none, .int .i64 (2)]) rfl rfl rfl (e_move) ?_
 refine l_val (v := .pointer none) rfl rfl rfl (e_extract (vs := #[.pointer none, .int .i64 (2)]) rfl rfl) ?_
 refine l_val (v := .int .i64 (2)) rfl rfl rfl (e_extract (vs := #[.pointer none, .int .i64 (2)]) rfl rfl) ?_
 refine l_val (v := .pointer none) rfl rfl rfl (e_assign) ?_
 refine l_val (v := .int .i64 (2)) rfl rfl rfl (e_assign) ?_
 refine l_nil ?_
 refine f_then ?_
 refine c_seq ?_
 refine c_region ?_
 refine l_call rfl rfl rfl (cl_value (fst := []) (cap := []) (vs := [.pointer none]) (all := [.pointer none]) tf104 rfl rfl rfl) ?_
 intro w hw
 obtain ⟨β1, sb, kn, hw1, back⟩ := St.frame_all hw
 refine (open_nil β1 w hw1).mono ?_
 rintro e w' ⟨rfl, hw'⟩
 refine ⟨_, rfl, _, back _ _ hw', ?_⟩
 clear hw hw1 hw' back kn sb
 refine l_val (v := .tuple #[.pointer none, .int .i64 (1)]) rfl rfl rfl (e_move) ?_
 refine l_val (v := .pointer none) rfl rfl rfl (e_extract (vs := #[.pointer none, .int .i64 (1)]) rfl rfl) ?_
 refine l_val (v := .int .i64 (1)) rfl rfl rfl (e_extract (vs := #[.pointer none, .int .i64 (1)]) rfl rfl) ?_
 refine l_val (v := .pointer none) rfl rfl rfl (e_assign) ?_
 refine l_val (v := .int .i64 (1)) rfl rfl rfl (e_assign) ?_
 refine l_nil ?_
 refine f_then ?_
 refine c_seq ?_
 refine c_seq ?_
 refine c_perm (L' := [storeR b7 K0, pt b100 (.cells #[.int .i64 (0), .int .i64 (0), .slice none 0 0, .slice none 0 0, .int .i64 (0)] 36), pt b99 (.cells #[.slice pH93 (K0.head).length cH96, .slice pA94 (K0.a).length cA97, .slice pB95 (K0.b).length cB98, Ix (K0.power)] 32), row (.slice pH93 (K0.head).length cH96) 5 1 ((K0.head).length) (BX K0.head), row (.slice pA94 (K0.a).length cA97) 5 1 ((K0.a).length) (BX K0.a), row (.slice pB95 (K0.b).length cB98) 5 1 ((K0.b).length) (BX K0.b)]) (by exact ((((((perm_front 5 rfl).trans (perm_front 5 rfl)).trans (perm_front 5 rfl)).trans (perm_front 5 rfl)).trans (perm_front 5 rfl)).trans (perm_front 5 rfl))) ?_
 refine c_openStore rfl (fun pH101 pA102 pB103 cH104 cA105 cB106 => ?_)
 refine c_rowcap 1 rfl (fun hcl107 hcm108 => ?_)
 refine c_rowcap 2 rfl (fun hcl109 hcm110 => ?_)
 refine c_rowcap 3 rfl (fun hcl111 hcm112 => ?_)
 refine c_region ?_
 refine l_val (v := .int .i64 (2)) rfl rfl rfl (e_move) ?_
 refine l_val (v := .bool false) rfl rfl rfl (e_neq (a := (2 : Int)) (b := (2 : Int)) rfl rfl) ?_
 refine l_val (v := .bool false) rfl rfl rfl (e_move) ?_
 refine g_val (v := .int .i64 (2)) rfl rfl rfl rfl rfl (e_move) ?_
 refine g_val (v := .int .i64 (2)) rfl rfl rfl rfl rfl (e_move) ?_
 refine g_val (v := .bool false) rfl rfl rfl rfl rfl (e_neq (a := (2 : Int)) (b := (2 : Int)) rfl rfl) ?_
 refine l_val (v := .bool false) rfl rfl rfl (e_pick_f rfl) ?_
 refine l_val (v := .bool false) rfl rfl rfl (e_move) ?_
 refine g_val (v := .int .i64 (1)) rfl rfl rfl rfl rfl (e_move) ?_
 refine g_val (v := .bool false) rfl rfl rfl rfl rfl (e_neq (a := (1 : Int)) (b := (1 : Int)) rfl rfl) ?_
 refine l_val (v := .bool false) rfl rfl rfl (e_pick_f rfl) ?_
 refine l_val (v := .bool false) rfl rfl rfl (e_move) ?_
 refine g_val (v := .pointer none) rfl rfl rfl rfl rfl (e_move) ?_
 refine g_val (v := .bool false) rfl rfl rfl rfl rfl (e_neq_pnil (p := none) rfl rfl tf36) ?_
 refine l_val (v := .bool false) rfl rfl rfl (e_pick_f rfl) ?_
 refine l_val (v := .bool false) rfl rfl rfl (e_move) ?_
 refine g_val (v := .pointer (some ⟨b100, 0, none⟩)) rfl rfl rfl rfl rfl (e_fieldPt (b := b100) (o := 0) rfl tf48) ?_
 refine g_val (v := .int .i64 (0)) rfl rfl rfl rfl rfl (e_load1 tf25 (v := .int .i64 (0)) rfl (k_pt 4 (cs := #[.int .i64 (0), .int .i64 (0), .slice none 0 0, .slice none 0 0, .int .i64 (0)]) (vs := [.int .i64 (0)]) rfl rfl)) ?_
 refine g_val (v := .bool false) rfl rfl rfl rfl rfl (e_neq (a := (0 : Int)) (b := (0 : Int)) rfl rfl) ?_
 refine l_val (v := .bool false) rfl rfl rfl (e_pick_f rfl) ?_
 refine l_val (v := .bool false) rfl rfl rfl (e_move) ?_
 refine g_val (v := .pointer (some ⟨b100, 1, none⟩)) rfl rfl rfl rfl rfl (e_fieldPt (b := b100) (o := 0) rfl tf53) ?_
 refine g_val (v := .int .i64 (0)) rfl rfl rfl rfl rfl (e_load1 tf25 (v := .int .i64 (0)) rfl (k_pt 4 (cs := #[.int .i64 (0), .int .i64 (0), .slice none 0 0, .slice none 0 0, .int .i64 (0)]) (vs := [.int .i64 (0)]) rfl rfl)) ?_
 refine g_val (v := .bool false) rfl rfl rfl rfl rfl (e_neq (a := (0 : Int)) (b := (0 : Int)) rfl rfl) ?_
 refine l_val (v := .bool false) rfl rfl rfl (e_pick_f rfl) ?_
 refine l_val (v := .bool false) rfl rfl rfl (e_move) ?_
 refine g_val (v := .pointer (some ⟨b100, 4, none⟩)) rfl rfl rfl rfl rfl (e_fieldPt (b := b100) (o := 0) rfl tf50) ?_
 refine g_val (v := .int .i64 (0)) rfl rfl rfl rfl rfl (e_load1 tf25 (v := .int .i64 (0)) rfl (k_pt 4 (cs := #[.int .i64 (0), .int .i64 (0), .slice none 0 0, .slice none 0 0, .int .i64 (0)]) (vs := [.int .i64 (0)]) rfl rfl)) ?_
 refine g_val (v := .bool false) rfl rfl rfl rfl rfl (e_neq (a := (0 : Int)) (b := (0 : Int)) rfl rfl) ?_
 refine l_val (v := .bool false) rfl rfl rfl (e_pick_f rfl) ?_
 refine l_val (v := .bool false) rfl rfl rfl (e_move) ?_
 refine g_val (v := .pointer (some ⟨b100, 2, none⟩)) rfl rfl rfl rfl rfl (e_fieldPt (b := b100) (o := 0) rfl tf63) ?_
 refine g_val (v := .slice none 0 0) rfl rfl rfl rfl rfl (e_load1 tf21 (v := .slice none 0 0) rfl (k_pt 4 (cs := #[.int .i64 (0), .int .i64 (0), .slice none 0 0, .slice none 0 0, .int .i64 (0)]) (vs := [.slice none 0 0]) rfl rfl)) ?_
 refine g_val (v := .int .i64 (0)) rfl rfl rfl rfl rfl (e_len (n := 0) rfl tf11) ?_
 refine g_val (v := .pointer (some ⟨b100, 3, none⟩)) rfl rfl rfl rfl rfl (e_fieldPt (b := b100) (o := 0) rfl tf64) ?_
 refine g_val (v := .slice none 0 0) rfl rfl rfl rfl rfl (e_load1 tf65 (v := .slice none 0 0) rfl (k_pt 4 (cs := #[.int .i64 (0), .int .i64 (0), .slice none 0 0, .slice none 0 0, .int .i64 (0)]) (vs := [.slice none 0 0]) rfl rfl)) ?_
 refine g_val (v := .int .i64 (0)) rfl rfl rfl rfl rfl (e_len (n := 0) rfl tf77) ?_
 refine g_val (v := .int .i64 (0)) rfl rfl rfl rfl rfl (e_add (a := (0 : Int)) (b := (0 : Int)) rfl rfl (by decide)) ?_
 refine g_val (v := .bool false) rfl rfl rfl rfl rfl (e_neq (a := (0 : Int)) (b := (0 : Int)) rfl rfl) ?_
 refine l_val (v := .bool false) rfl rfl rfl (e_pick_f rfl) ?_
 refine l_val (v := .bool false) rfl rfl rfl (e_move) ?_
 refine g_val (v := .agg #[.slice pH101 (K0.head).length cH104, .slice pA102 (K0.a).length cA105, .slice pB103 (K0.b).length cB106, Ix (K0.power)]) rfl rfl rfl rfl rfl (e_load tf56 (cs := [.slice pH101 (K0.head).length cH104, .slice pA102 (K0.a).length cA105, .slice pB103 (K0.b).length cB106, Ix (K0.power)]) rfl (k_pt 0 (cs := #[.slice pH101 (K0.head).length cH104, .slice pA102 (K0.a).length cA105, .slice pB103 (K0.b).length cB106, Ix (K0.power)]) (vs := [.slice pH101 (K0.head).length cH104, .slice pA102 (K0.a).length cA105, .slice pB103 (K0.b).length cB106, Ix (K0.power)]) rfl rfl) rfl) ?_
 refine g_val (v := .agg #[.slice pH93 (K0.head).length cH96, .slice pA94 (K0.a).length cA97, .slice pB95 (K0.b).length cB98, Ix (K0.power)]) rfl rfl rfl rfl rfl (e_load tf56 (cs := [.slice pH93 (K0.head).length cH96, .slice pA94 (K0.a).length cA97, .slice pB95 (K0.b).length cB98, Ix (K0.power)]) rfl (k_pt 5 (cs := #[.slice pH93 (K0.head).length cH96, .slice pA94 (K0.a).length cA97, .slice pB95 (K0.b).length cB98, Ix (K0.power)]) (vs := [.slice pH93 (K0.head).length cH96, .slice pA94 (K0.a).length cA97, .slice pB95 (K0.b).length cB98, Ix (K0.power)]) rfl rfl) rfl) ?_
 refine g_call rfl rfl rfl rfl rfl (cl_value (fst := []) (cap := []) (vs := [.agg #[.slice pH101 (K0.head).length cH104, .slice pA102 (K0.a).length cA105, .slice pB103 (K0.b).length cB106, Ix (K0.power)], .agg #[.slice pH93 (K0.head).length cH96, .slice pA94 (K0.a).length cA97, .slice pB95 (K0.b).length cB98, Ix (K0.power)]]) (all := [.agg #[.slice pH101 (K0.head).length cH104, .slice pA102 (K0.a).length cA105, .slice pB103 (K0.b).length cB106, Ix (K0.power)], .agg #[.slice pH93 (K0.head).length cH96, .slice pA94 (K0.a).length cA97, .slice pB95 (K0.b).length cB98, Ix (K0.power)]]) tf122 rfl rfl rfl) ?_
 intro w hw
 obtain ⟨β1, sb, kn, hw1, back⟩ := St.frame_all hw
 refine (sames_ok β1 w hw1 K0 _ _ _ (kn _ (Knows.of_res 1 rfl (Sl.mono U8R _ _) fun _ h => row_u8 h)) (kn _ (Knows.of_res 2 rfl (Sl.mono U8R _ _) fun _ h => row_u8 h)) (kn _ (Knows.of_res 3 rfl (Sl.mono U8R _ _) fun _ h => row_u8 h)) _ _ _ (kn _ (Knows.of_res 6 rfl (Sl.mono U8R _ _) fun _ h => row_u8 h)) (kn _ (Knows.of_res 7 rfl (Sl.mono U8R _ _) fun _ h => row_u8 h)) (kn _ (Knows.of_res 8 rfl (Sl.mono U8R _ _) fun _ h => row_u8 h))).mono ?_
 rintro e w' ⟨rfl, hw'⟩
 refine ⟨_, rfl, _, back _ _ hw', ?_⟩
 clear hw hw1 hw' back kn sb
 refine g_val (v := .bool false) rfl rfl rfl rfl rfl (e_not (a := true) rfl) ?_
 refine l_val (v := .bool false) rfl rfl rfl (e_pick_f rfl) ?_
 refine l_nil ?_
 refine f_then ?_
 refine c_no rfl ?_
 refine c_skip ?_
 refine f_then ?_
 refine c_seq ?_
 refine c_seq ?_
 refine c_region ?_
 refine l_val (v := .agg #[.pointer none, .int .i64 (0), .int .i64 (0), .slice none 0 0, .slice none 0 0, .int .i64 (0), .bool false]) rfl rfl rfl (e_build tf71 tf70 (vs := []) (cells := #[.pointer none, .int .i64 (0), .int .i64 (0), .slice none 0 0, .slice none 0 0, .int .i64 (0), .bool false]) rfl rfl) ?_
 refine l_mv rfl rfl rfl (m_box (v := .agg #[.pointer none, .int .i64 (0), .int .i64 (0), .slice none 0 0, .slice none 0 0, .int .i64 (0), .bool false]) rfl) ?_
 rintro _ _ ⟨b113, rfl, rfl⟩
 refine l_mv rfl rfl rfl (m_slices tf123 tf72 (vs := [(0, .pointer none), (1, .pointer (some ⟨b113, 0, none⟩))]) (cells := #[.pointer none, .pointer (some ⟨b113, 0, none⟩)]) rfl rfl rfl rfl) ?_
 rintro _ _ ⟨b114, rfl, rfl⟩
 refine l_val (v := .int .i64 (2)) rfl rfl rfl (e_len (n := 2) rfl tf124) ?_
 refine l_val (v := .int .i64 (0)) rfl rfl rfl (e_move) ?_
 refine l_nil ?_
 refine f_then ?_
 refine c_block ?_
 refine c_unroll 3 ?_
 refine un_succ 2 ?_
 refine c_seq ?_
 refine c_region ?_
 refine l_val (v := .bool true) rfl rfl rfl (e_lss (a := (0 : Int)) (b := (2 : Int)) rfl rfl) ?_
 refine l_nil ?_
 refine f_then ?_
 refine c_seq ?_
 refine c_yes rfl ?_
 refine c_skip ?_
 refine f_then ?_
 refine c_seq ?_
 refine c_block ?_
 refine c_seq ?_
 refine c_region ?_
 refine l_val (v := .pointer (some ⟨b114, 0, none⟩)) rfl rfl rfl (e_indexPt (b := b114) (o := 0) (k := 0) (len := 2) (cap := 2) rfl rfl tf123 (by decide)) ?_
 refine l_val (v := .pointer none) rfl rfl rfl (e_load1 tf43 (v := .pointer none) rfl (k_pt 0 (cs := #[.pointer none, .pointer (some ⟨b113, 0, none⟩)]) (vs := [.pointer none]) rfl rfl)) ?_
 refine l_val (v := .pointer none) rfl rfl rfl (e_assign) ?_
 refine l_nil ?_
 refine f_then ?_
 refine c_seq ?_
 refine c_region ?_
 refine l_val (v := .pointer none) rfl rfl rfl (e_move) ?_
 refine l_val (v := .slice va (zs1.length) (vc)) rfl rfl rfl (e_move) ?_
 refine l_call rfl rfl rfl (cl_value (fst := []) (cap := []) (vs := [.pointer none, .slice va (zs1.length) (vc)]) (all := [.pointer none, .slice va (zs1.length) (vc)]) tf102 rfl rfl rfl) ?_
 intro w hw
 obtain ⟨β1, sb, kn, hw1, back⟩ := St.frame_all hw
 refine (append_nil β1 w hw1 _).mono ?_
 rintro e w' ⟨rfl, hw'⟩
 refine ⟨_, rfl, _, back _ _ hw', ?_⟩
 clear hw hw1 hw' back kn sb
 refine l_val (v := .tuple #[.int .i64 (0), .int .i64 (1)]) rfl rfl rfl (e_move) ?_
 refine l_val (v := .int .i64 (0)) rfl rfl rfl (e_extract (vs := #[.int .i64 (0), .int .i64 (1)]) rfl rfl) ?_
 refine l_val (v := .int .i64 (1)) rfl rfl rfl (e_extract (vs := #[.int .i64 (0), .int .i64 (1)]) rfl rfl) ?_
 refine l_val (v := .int .i64 (0)) rfl rfl rfl (e_assign) ?_
 refine l_val (v := .int .i64 (1)) rfl rfl rfl (e_assign) ?_
 refine l_nil ?_
 refine f_then ?_
 refine c_seq ?_
 refine c_region ?_
 refine l_val (v := .int .i64 (0)) rfl rfl rfl (e_move) ?_
 refine l_val (v := .bool false) rfl rfl rfl (e_neq (a := (0 : Int)) (b := (0 : Int)) rfl rfl) ?_
 refine l_val (v := .bool false) rfl rfl rfl (e_move) ?_
 refine g_val (v := .int .i64 (1)) rfl rfl rfl rfl rfl (e_move) ?_
 refine g_val (v := .bool false) rfl rfl rfl rfl rfl (e_neq (a := (1 : Int)) (b := (1 : Int)) rfl rfl) ?_
 refine l_val (v := .bool false) rfl rfl rfl (e_pick_f rfl) ?_
 refine l_val (v := .bool false) rfl rfl rfl (e_move) ?_
 refine g_val (v := .pointer none) rfl rfl rfl rfl rfl (e_move) ?_
 refine g_val (v := .slice va (zs1.length) (vc)) rfl rfl rfl rfl rfl (e_move) ?_
 refine g_call rfl rfl rfl rfl rfl (cl_value (fst := []) (cap := []) (vs := [.pointer none, .slice va (zs1.length) (vc)]) (all := [.pointer none, .slice va (zs1.length) (vc)]) tf103 rfl rfl rfl) ?_
 intro w hw
 obtain ⟨β1, sb, kn, hw1, back⟩ := St.frame_all hw
 refine (checkp_nil β1 w hw1 _ _ _).mono ?_
 rintro e w' ⟨rfl, hw'⟩
 refine ⟨_, rfl, _, back _ _ hw', ?_⟩
 clear hw hw1 hw' back kn sb
 refine g_val (v := .int .i64 (1)) rfl rfl rfl rfl rfl (e_move) ?_
 refine g_val (v := .bool false) rfl rfl rfl rfl rfl (e_neq (a := (1 : Int)) (b := (1 : Int)) rfl rfl) ?_
 refine l_val (v := .bool false) rfl rfl rfl (e_pick_f rfl) ?_
 refine l_val (v := .bool false) rfl rfl rfl (e_move) ?_
 refine g_val (v := .pointer none) rfl rfl rfl rfl rfl (e_move) ?_
 refine g_call rfl rfl rfl rfl rfl (cl_value (fst := []) (cap := []) (vs := [.pointer none]) (all := [.pointer none]) tf90 rfl rfl rfl) ?_
 intro w hw
 obtain ⟨β1, sb, kn, hw1, back⟩ := St.frame_all hw
 refine (next_nil β1 w hw1).mono ?_
 rintro e w' ⟨rfl, hw'⟩
 refine ⟨_, rfl, _, back _ _ hw', ?_⟩
 clear hw hw1 hw' back kn sb
 refine g_val (v := .bool false) rfl rfl rfl rfl rfl (e_neq (a := (0 : Int)) (b := (0 : Int)) rfl rfl) ?_
 refine l_val (v := .bool false) rfl rfl rfl (e_pick_f rfl) ?_
 refine l_val (v := .bool false) rfl rfl rfl (e_move) ?_
 refine g_val (v := .pointer none) rfl rfl rfl rfl rfl (e_move) ?_
 refine g_call rfl rfl rfl rfl rfl (cl_value (fst := []) (cap := []) (vs := [.pointer none]) (all := [.pointer none]) tf88 rfl rfl rfl) ?_
 intro w hw
 obtain ⟨β1, sb, kn, hw1, back⟩ := St.frame_all hw
 refine (epochm_nil β1 w hw1).mono ?_
 rintro e w' ⟨rfl, hw'⟩
 refine ⟨_, rfl, _, back _ _ hw', ?_⟩
 clear hw hw1 hw' back kn sb
 refine g_val (v := .bool false) rfl rfl rfl rfl rfl (e_neq (a := (0 : Int)) (b := (0 : Int)) rfl rfl) ?_
 refine l_val (v := .bool false) rfl rfl rfl (e_pick_f rfl) ?_
 refine l_val (v := .bool false) rfl rfl rfl (e_move) ?_
 refine g_val (v := .pointer none) rfl rfl rfl rfl rfl (e_move) ?_
 refine g_call rfl rfl rfl rfl rfl (cl_value (fst := []) (cap := []) (vs := [.pointer none]) (all := [.pointer none]) tf92 rfl rfl rfl) ?_
 intro w hw
 obtain ⟨β1, sb, kn, hw1, back⟩ := St.frame_all hw
 refine (state_nil β1 w hw1).mono ?_
 rintro e w' ⟨rfl, hw'⟩
 refine ⟨_, rfl, _, back _ _ hw', ?_⟩
 clear hw hw1 hw' back kn sb
 refine g_val (v := .int .i64 (0)) rfl rfl rfl rfl rfl (e_len (n := 0) rfl tf11) ?_
 refine g_val (v := .pointer none) rfl rfl rfl rfl rfl (e_move) ?_
 refine g_call rfl rfl rfl rfl rfl (cl_value (fst := []) (cap := []) (vs := [.pointer none]) (all := [.pointer none]) tf94 rfl rfl rfl) ?_
 intro w hw
 obtain ⟨β1, sb, kn, hw1, back⟩ := St.frame_all hw
 refine (records_nil β1 w hw1).mono ?_
 rintro e w' ⟨rfl, hw'⟩
 refine ⟨_, rfl, _, back _ _ hw', ?_⟩
 clear hw hw1 hw' back kn sb
 refine g_val (v := .int .i64 (0)) rfl rfl rfl rfl rfl (e_len (n := 0) rfl tf77) ?_
 refine g_val (v := .int .i64 (0)) rfl rfl rfl rfl rfl (e_add (a := (0 : Int)) (b := (0 : Int)) rfl rfl (by decide)) ?_
 refine g_val (v := .bool false) rfl rfl rfl rfl rfl (e_neq (a := (0 : Int)) (b := (0 : Int)) rfl rfl) ?_
 refine l_val (v := .bool false) rfl rfl rfl (e_pick_f rfl) ?_
 refine l_nil ?_
 refine f_then ?_
 refine c_no rfl ?_
 refine c_skip ?_
 refine f_block ?_
 refine f_then ?_
 refine c_region ?_
 refine l_val (v := .int .i64 (1)) rfl rfl rfl (e_add (a := (0 : Int)) (b := (1 : Int)) rfl rfl (by decide)) ?_
 refine l_val (v := .int .i64 (1)) rfl rfl rfl (e_move) ?_
 refine l_nil ?_
 refine f_cut ?_
 refine un_succ 1 ?_
 refine c_seq ?_
 refine c_region ?_
 refine l_val (v := .bool true) rfl rfl rfl (e_lss (a := (1 : Int)) (b := (2 : Int)) rfl rfl) ?_
 refine l_nil ?_
 refine f_then ?_
 refine c_seq ?_
 refine c_yes rfl ?_
 refine c_skip ?_
 refine f_then ?_
 refine c_seq ?_
 refine c_block ?_
 refine c_seq ?_
 refine c_region ?_
 refine l_val (v := .pointer (some ⟨b114, 1, none⟩)) rfl rfl rfl (e_indexPt (b := b114) (o := 0) (k := 1) (len := 2) (cap := 2) rfl rfl tf123 (by decide)) ?_
 refine l_val (v := .pointer (some ⟨b113, 0, none⟩)) rfl rfl rfl (e_load1 tf43 (v := .pointer (some ⟨b113, 0, none⟩)) rfl (k_pt 0 (cs := #[.pointer none, .pointer (some ⟨b113, 0, none⟩)]) (vs := [.pointer (some ⟨b113, 0, none⟩)]) rfl rfl)) ?_
 refine l_val (v := .pointer (some ⟨b113, 0, none⟩)) rfl rfl rfl (e_assign) ?_
 refine l_nil ?_
 refine f_then ?_
 refine c_seq ?_
 refine c_region ?_
 refine l_val (v := .pointer (some ⟨b113, 0, none⟩)) rfl rfl rfl (e_move) ?_
 refine l_val (v := .slice va (zs1.length) (vc)) rfl rfl rfl (e_move) ?_
 refine l_call rfl rfl rfl (cl_value (fst := []) (cap := []) (vs := [.pointer (some ⟨b113, 0, none⟩), .slice va (zs1.length) (vc)]) (all := [.pointer (some ⟨b113, 0, none⟩), .slice va (zs1.length) (vc)]) tf102 rfl rfl rfl) ?_
 intro w hw
 obtain ⟨β1, sb, kn, hw1, back⟩ := St.frame_all hw
 refine (append_zero β1 w hw1 b113 (kn _ (k_pt 1 (cs := #[.pointer none, .int .i64 (0), .int .i64 (0), .slice none 0 0, .slice none 0 0, .int .i64 (0), .bool false]) (vs := [.pointer none]) rfl rfl)) _).mono ?_
 rintro e w' ⟨rfl, hw'⟩
 refine ⟨_, rfl, _, back _ _ hw', ?_⟩
 clear hw hw1 hw' back kn sb
 refine l_val (v := .tuple #[.int .i64 (0), .int .i64 (1)]) rfl rfl rfl (e_move) ?_
 refine l_val (v := .int .i64 (0)) rfl rfl rfl (e_extract (vs := #[.int .i64 (0), .int .i64 (1)]) rfl rfl) ?_
 refine l_val (v := .int .i64 (1)) rfl rfl rfl (e_extract (vs := #[.int .i64 (0), .int .i64 (1)]) rfl rfl) ?_
 refine l_val (v := .int .i64 (0)) rfl rfl rfl (e_assign) ?_
 refine l_val (v := .int .i64 (1)) rfl rfl rfl (e_assign) ?_
 refine l_nil ?_
 refine f_then ?_
 refine c_seq ?_
 refine c_region ?_
 refine l_val (v := .int .i64 (0)) rfl rfl rfl (e_move) ?_
 refine l_val (v := .bool false) rfl rfl rfl (e_neq (a := (0 : Int)) (b := (0 : Int)) rfl rfl) ?_
 refine l_val (v := .bool false) rfl rfl rfl (e_move) ?_
 refine g_val (v := .int .i64 (1)) rfl rfl rfl rfl rfl (e_move) ?_
 refine g_val (v := .bool false) rfl rfl rfl rfl rfl (e_neq (a := (1 : Int)) (b := (1 : Int)) rfl rfl) ?_
 refine l_val (v := .bool false) rfl rfl rfl (e_pick_f rfl) ?_
 refine l_val (v := .bool false) rfl rfl rfl (e_move) ?_
 refine g_val (v := .pointer (some ⟨b113, 0, none⟩)) rfl rfl rfl rfl rfl (e_move) ?_
 refine g_val (v := .slice va (zs1.length) (vc)) rfl rfl rfl rfl rfl (e_move) ?_
 refine g_call rfl rfl rfl rfl rfl (cl_value (fst := []) (cap := []) (vs := [.pointer (some ⟨b113, 0, none⟩), .slice va (zs1.length) (vc)]) (all := [.pointer (some ⟨b113, 0, none⟩), .slice va (zs1.length) (vc)]) tf103 rfl rfl rfl) ?_
 intro w hw
 obtain ⟨β1, sb, kn, hw1, back⟩ := St.frame_all hw
 refine (checkp_zero β1 w hw1 b113 (kn _ (k_pt 1 (cs := #[.pointer none, .int .i64 (0), .int .i64 (0), .slice none 0 0, .slice none 0 0, .int .i64 (0), .bool false]) (vs := [.pointer none]) rfl rfl)) _ _ _).mono ?_
 rintro e w' ⟨rfl, hw'⟩
 refine ⟨_, rfl, _, back _ _ hw', ?_⟩
 clear hw hw1 hw' back kn sb
 refine g_val (v := .int .i64 (1)) rfl rfl rfl rfl rfl (e_move) ?_
 refine g_val (v := .bool false) rfl rfl rfl rfl rfl (e_neq (a := (1 : Int)) (b := (1 : Int)) rfl rfl) ?_
 refine l_val (v := .bool false) rfl rfl rfl (e_pick_f rfl) ?_
 refine l_val (v := .bool false) rfl rfl rfl (e_move) ?_
 refine g_val (v := .pointer (some ⟨b113, 0, none⟩)) rfl rfl rfl rfl rfl (e_move) ?_
 refine g_call rfl rfl rfl rfl rfl (cl_value (fst := []) (cap := []) (vs := [.pointer (some ⟨b113, 0, none⟩)]) (all := [.pointer (some ⟨b113, 0, none⟩)]) tf90 rfl rfl rfl) ?_
 intro w hw
 obtain ⟨β1, sb, kn, hw1, back⟩ := St.frame_all hw
 refine (next_zero β1 w hw1 b113 (kn _ (k_pt 1 (cs := #[.pointer none, .int .i64 (0), .int .i64 (0), .slice none 0 0, .slice none 0 0, .int .i64 (0), .bool false]) (vs := [.pointer none]) rfl rfl))).mono ?_
 rintro e w' ⟨rfl, hw'⟩
 refine ⟨_, rfl, _, back _ _ hw', ?_⟩
 clear hw hw1 hw' back kn sb
 refine g_val (v := .bool false) rfl rfl rfl rfl rfl (e_neq (a := (0 : Int)) (b := (0 : Int)) rfl rfl) ?_
 refine l_val (v := .bool false) rfl rfl rfl (e_pick_f rfl) ?_
 refine l_val (v := .bool false) rfl rfl rfl (e_move) ?_
 refine g_val (v := .pointer (some ⟨b113, 0, none⟩)) rfl rfl rfl rfl rfl (e_move) ?_
 refine g_call rfl rfl rfl rfl rfl (cl_value (fst := []) (cap := []) (vs := [.pointer (some ⟨b113, 0, none⟩)]) (all := [.pointer (some ⟨b113, 0, none⟩)]) tf88 rfl rfl rfl) ?_
 intro w hw
 obtain ⟨β1, sb, kn, hw1, back⟩ := St.frame_all hw
 refine (epochm_zero β1 w hw1 b113 (kn _ (k_pt 1 (cs := #[.pointer none, .int .i64 (0), .int .i64 (0), .slice none 0 0, .slice none 0 0, .int .i64 (0), .bool false]) (vs := [.pointer none]) rfl rfl))).mono ?_
 rintro e w' ⟨rfl, hw'⟩
 refine ⟨_, rfl, _, back _ _ hw', ?_⟩
 clear hw hw1 hw' back kn sb
 refine g_val (v := .bool false) rfl rfl rfl rfl rfl (e_neq (a := (0 : Int)) (b := (0 : Int)) rfl rfl) ?_
 refine l_val (v := .bool false) rfl rfl rfl (e_pick_f rfl) ?_
 refine l_val (v := .bool false) rfl rfl rfl (e_move) ?_
 refine g_val (v := .pointer (some ⟨b113, 0, none⟩)) rfl rfl rfl rfl rfl (e_move) ?_
 refine g_call rfl rfl rfl rfl rfl (cl_value (fst := []) (cap := []) (vs := [.pointer (some ⟨b113, 0, none⟩)]) (all := [.pointer (some ⟨b113, 0, none⟩)]) tf92 rfl rfl rfl) ?_
 intro w hw
 obtain ⟨β1, sb, kn, hw1, back⟩ := St.frame_all hw
 refine (state_zero β1 w hw1 b113 (kn _ (k_pt 1 (cs := #[.pointer none, .int .i64 (0), .int .i64 (0), .slice none 0 0, .slice none 0 0, .int .i64 (0), .bool false]) (vs := [.pointer none]) rfl rfl))).mono ?_
 rintro e w' ⟨rfl, hw'⟩
 refine ⟨_, rfl, _, back _ _ hw', ?_⟩
 clear hw hw1 hw' back kn sb
 refine g_val (v := .int .i64 (0)) rfl rfl rfl rfl rfl (e_len (n := 0) rfl tf11) ?_
 refine g_val (v := .pointer (some ⟨b113, 0, none⟩)) rfl rfl rfl rfl rfl (e_move) ?_
 refine g_call rfl rfl rfl rfl rfl (cl_value (fst := []) (cap := []) (vs := [.pointer (some ⟨b113, 0, none⟩)]) (all := [.pointer (some ⟨b113, 0, none⟩)]) tf94 rfl rfl rfl) ?_
 intro w hw
 obtain ⟨β1, sb, kn, hw1, back⟩ := St.frame_all hw
 refine (records_zero β1 w hw1 b113 (kn _ (k_pt 1 (cs := #[.pointer none, .int .i64 (0), .int .i64 (0), .slice none 0 0, .slice none 0 0, .int .i64 (0), .bool false]) (vs := [.pointer none]) rfl rfl))).mono ?_
 rintro e w' ⟨rfl, hw'⟩
 refine ⟨_, rfl, _, back _ _ hw', ?_⟩
 clear hw hw1 hw' back kn sb
 refine g_val (v := .int .i64 (0)) rfl rfl rfl rfl rfl (e_len (n := 0) rfl tf77) ?_
 refine g_val (v := .int .i64 (0)) rfl rfl rfl rfl rfl (e_add (a := (0 : Int)) (b := (0 : Int)) rfl rfl (by decide)) ?_
 refine g_val (v := .bool false) rfl rfl rfl rfl rfl (e_neq (a := (0 : Int)) (b := (0 : Int)) rfl rfl) ?_
 refine l_val (v := .bool false) rfl rfl rfl (e_pick_f rfl) ?_
 refine l_nil ?_
 refine f_then ?_
 refine c_no rfl ?_
 refine c_skip ?_
 refine f_block ?_
 refine f_then ?_
 refine c_region ?_
 refine l_val (v := .int .i64 (2)) rfl rfl rfl (e_add (a := (1 : Int)) (b := (1 : Int)) rfl rfl (by decide)) ?_
 refine l_val (v := .int .i64 (2)) rfl rfl rfl (e_move) ?_
 refine l_nil ?_
 refine f_cut ?_
 refine un_succ 0 ?_
 refine c_seq ?_
 refine c_region ?_
 refine l_val (v := .bool false) rfl rfl rfl (e_lss (a := (2 : Int)) (b := (2 : Int)) rfl rfl) ?_
 refine l_nil ?_
 refine f_then ?_
 refine c_seq ?_
 refine c_no rfl ?_
 refine c_exit ?_
 refine f_then_exit ?_
 refine f_then_exit ?_
 refine f_exit ?_
 refine f_then ?_
 refine c_seq ?_
 refine c_region ?_
 refine l_val (v := .agg #[.slice none 0 0, .slice none 0 0, .slice none 0 0, .int .i64 (5)]) rfl rfl rfl (e_build tf106 tf105 (vs := [(3, .int .i64 (5))]) (cells := #[.slice none 0 0, .slice none 0 0, .slice none 0 0, .int .i64 (5)]) rfl rfl) ?_
 refine l_mv rfl rfl rfl (m_box (v := .agg #[.slice none 0 0, .slice none 0 0, .slice none 0 0, .int .i64 (5)]) rfl) ?_
 rintro _ _ ⟨b115, rfl, rfl⟩
 refine l_val (v := .pointer (some ⟨b115, 0, none⟩)) rfl rfl rfl (e_assign) ?_
 refine l_nil ?_
 refine f_then ?_
 refine c_seq ?_
 refine c_emp (r := row (.slice none 0 0) 5 1 0 (BX [])) (row_nil _ _ _) ?_
 refine c_emp (r := row (.slice none 0 0) 5 1 0 (BX [])) (row_nil _ _ _) ?_
 refine c_emp (r := row (.slice none 0 0) 5 1 0 (BX [])) (row_nil _ _ _) ?_
 refine c_perm (L' := (pt b115 (.cells #[.slice none 0 0, .slice none 0 0, .slice none 0 0, .int .i64 (5)] 32) :: row (.slice none 0 0) 5 1 0 (BX []) :: row (.slice none 0 0) 5 1 0 (BX []) :: row (.slice none 0 0) 5 1 0 (BX []) :: pt b114 (.cells #[.pointer none, .pointer (some ⟨b113, 0, none⟩)] 43) :: pt b113 (.cells #[.pointer none, .int .i64 (0), .int .i64 (0), .slice none 0 0, .slice none 0 0, .int .i64 (0), .bool false] 84) :: pt b7 (.cells #[.slice pH101 (K0.head).length cH104, .slice pA102 (K0.a).length cA105, .slice pB103 (K0.b).length cB106, Ix (K0.power)] 32) :: row (.slice pH101 (K0.head).length cH104) 5 1 ((K0.head).length) (BX K0.head) :: row (.slice pA102 (K0.a).length cA105) 5 1 ((K0.a).length) (BX K0.a) :: row (.slice pB103 (K0.b).length cB106) 5 1 ((K0.b).length) (BX K0.b) :: pt b100 (.cells #[.int .i64 (0), .int .i64 (0), .slice none 0 0, .slice none 0 0, .int .i64 (0)] 36) :: pt b99 (.cells #[.slice pH93 (K0.head).length cH96, .slice pA94 (K0.a).length cA97, .slice pB95 (K0.b).length cB98, Ix (K0.power)] 32) :: row (.slice pH93 (K0.head).length cH96) 5 1 ((K0.head).length) (BX K0.head) :: row (.slice pA94 (K0.a).length cA97) 5 1 ((K0.a).length) (BX K0.a) :: row (.slice pB95 (K0.b).length cB98) 5 1 ((K0.b).length) (BX K0.b) :: [])) (by exact (((((((((((((((perm_front 14 rfl).trans (perm_front 14 rfl)).trans (perm_front 14 rfl)).trans (perm_front 14 rfl)).trans (perm_front 14 rfl)).trans (perm_front 14 rfl)).trans (perm_front 14 rfl)).trans (perm_front 14 rfl)).trans (perm_front 14 rfl)).trans (perm_front 14 rfl)).trans (perm_front 14 rfl)).trans (perm_front 13 rfl)).trans (perm_front 13 rfl)).trans (perm_front 13 rfl)).trans (perm_front 14 rfl))) ?_
 refine c_closeStore (S := b115) (k := wK) (pH := none) (pA := none) (pB := none) (cH := 0) (cA := 0) (cB := 0) (M := (pt b114 (.cells #[.pointer none, .pointer (some ⟨b113, 0, none⟩)] 43) :: pt b113 (.cells #[.pointer none, .int .i64 (0), .int .i64 (0), .slice none 0 0, .slice none 0 0, .int .i64 (0), .bool false] 84) :: pt b7 (.cells #[.slice pH101 (K0.head).length cH104, .slice pA102 (K0.a).length cA105, .slice pB103 (K0.b).length cB106, Ix (K0.power)] 32) :: row (.slice pH101 (K0.head).length cH104) 5 1 ((K0.head).length) (BX K0.head) :: row (.slice pA102 (K0.a).length cA105) 5 1 ((K0.a).length) (BX K0.a) :: row (.slice pB103 (K0.b).length cB106) 5 1 ((K0.b).length) (BX K0.b) :: pt b100 (.cells #[.int .i64 (0), .int .i64 (0), .slice none 0 0, .slice none 0 0, .int .i64 (0)] 36) :: pt b99 (.cells #[.slice pH93 (K0.head).length cH96, .slice pA94 (K0.a).length cA97, .slice pB95 (K0.b).length cB98, Ix (K0.power)] 32) :: row (.slice pH93 (K0.head).length cH96) 5 1 ((K0.head).length) (BX K0.head) :: row (.slice pA94 (K0.a).length cA97) 5 1 ((K0.a).length) (BX K0.a) :: row (.slice pB95 (K0.b).length cB98) 5 1 ((K0.b).length) (BX K0.b) :: [])) (by rfl) ?_
 refine c_region ?_
 refine l_val (v := .pointer (some ⟨b115, 0, none⟩)) rfl rfl rfl (e_move) ?_
 refine l_call rfl rfl rfl (cl_value (fst := []) (cap := []) (vs := [.pointer (some ⟨b115, 0, none⟩)]) (all := [.pointer (some ⟨b115, 0, none⟩)]) tf107 rfl rfl rfl) ?_
 intro w hw
 replace hw := hw.perm (L' := _ :: _ :: _ :: _ :: _ :: _ :: _ :: _ :: _ :: _ :: _ :: _ :: []) (by exact ((((((((((((perm_front 11 rfl).trans (perm_front 11 rfl)).trans (perm_front 11 rfl)).trans (perm_front 11 rfl)).trans (perm_front 11 rfl)).trans (perm_front 11 rfl)).trans (perm_front 11 rfl)).trans (perm_front 11 rfl)).trans (perm_front 11 rfl)).trans (perm_front 11 rfl)).trans (perm_front 11 rfl)).trans (perm_front 11 rfl)))
 obtain ⟨β1, sb, kn, hw1, back⟩ := St.frame (L := [_]) (M := _ :: _ :: _ :: _ :: _ :: _ :: _ :: _ :: _ :: _ :: _ :: []) hw
 refine (again_ok β1 w b115 wK ((wK_inv.pow (p := -1) (by decide) (by decide)).okP (by omega)) aI0 wK_inv.read hw1).mono ?_
 rintro e w' ⟨J116, rfl, hw'⟩
 refine ⟨_, rfl, _, back _ _ hw', ?_⟩
 clear hw hw1 hw' back kn sb
 refine l_val (v := .tuple #[.pointer (some ⟨J116, 0, none⟩), .bool true]) rfl rfl rfl (e_move) ?_
 refine l_val (v := .pointer (some ⟨J116, 0, none⟩)) rfl rfl rfl (e_extract (vs := #[.pointer (some ⟨J116, 0, none⟩), .bool true]) rfl rfl) ?_
 refine l_val (v := .bool true) rfl rfl rfl (e_extract (vs := #[.pointer (some ⟨J116, 0, none⟩), .bool true]) rfl rfl) ?_
 refine l_val (v := .pointer (some ⟨J116, 0, none⟩)) rfl rfl rfl (e_assign) ?_
 refine l_val (v := .bool true) rfl rfl rfl (e_assign) ?_
 refine l_nil ?_
 refine f_then ?_
 refine c_seq ?_
 refine c_seq ?_
 refine c_region ?_
 refine l_val (v := .bool true) rfl rfl rfl (e_move) ?_
 refine l_val (v := .bool false) rfl rfl rfl (e_not (a := true) rfl) ?_
 refine l_nil ?_
 refine f_then ?_
 refine c_no rfl ?_
 refine c_skip ?_
 refine f_then ?_
 refine c_seq ?_
 refine c_re (L' := [jourR J116 b115 aI0 false, storeR b115 wK1, pt b114 (.cells #[.pointer none, .pointer (some ⟨b113, 0, none⟩)] 43), pt b113 (.cells #[.pointer none, .int .i64 (0), .int .i64 (0), .slice none 0 0, .slice none 0 0, .int .i64 (0), .bool false] 84), pt b7 (.cells #[.slice pH101 (K0.head).length cH104, .slice pA102 (K0.a).length cA105, .slice pB103 (K0.b).length cB106, Ix (K0.power)] 32), row (.slice pH101 (K0.head).length cH104) 5 1 ((K0.head).length) (BX K0.head), row (.slice pA102 (K0.a).length cA105) 5 1 ((K0.a).length) (BX K0.a), row (.slice pB103 (K0.b).length cB106) 5 1 ((K0.b).length) (BX K0.b), pt b100 (.cells #[.int .i64 (0), .int .i64 (0), .slice none 0 0, .slice none 0 0, .int .i64 (0)] 36), pt b99 (.cells #[.slice pH93 (K0.head).length cH96, .slice pA94 (K0.a).length cA97, .slice pB95 (K0.b).length cB98, Ix (K0.power)] 32), row (.slice pH93 (K0.head).length cH96) 5 1 ((K0.head).length) (BX K0.head), row (.slice pA94 (K0.a).length cA97) 5 1 ((K0.a).length) (BX K0.a), row (.slice pB95 (K0.b).length cB98) 5 1 ((K0.b).length) (BX K0.b)]) (by rfl) ?_
 refine c_perm (L' := [storeR b115 wK1, jourR J116 b115 aI0 false, pt b114 (.cells #[.pointer none, .pointer (some ⟨b113, 0, none⟩)] 43), pt b113 (.cells #[.pointer none, .int .i64 (0), .int .i64 (0), .slice none 0 0, .slice none 0 0, .int .i64 (0), .bool false] 84), pt b7 (.cells #[.slice pH101 (K0.head).length cH104, .slice pA102 (K0.a).length cA105, .slice pB103 (K0.b).length cB106, Ix (K0.power)] 32), row (.slice pH101 (K0.head).length cH104) 5 1 ((K0.head).length) (BX K0.head), row (.slice pA102 (K0.a).length cA105) 5 1 ((K0.a).length) (BX K0.a), row (.slice pB103 (K0.b).length cB106) 5 1 ((K0.b).length) (BX K0.b), pt b100 (.cells #[.int .i64 (0), .int .i64 (0), .slice none 0 0, .slice none 0 0, .int .i64 (0)] 36), pt b99 (.cells #[.slice pH93 (K0.head).length cH96, .slice pA94 (K0.a).length cA97, .slice pB95 (K0.b).length cB98, Ix (K0.power)] 32), row (.slice pH93 (K0.head).length cH96) 5 1 ((K0.head).length) (BX K0.head), row (.slice pA94 (K0.a).length cA97) 5 1 ((K0.a).length) (BX K0.a), row (.slice pB95 (K0.b).length cB98) 5 1 ((K0.b).length) (BX K0.b)]) (by exact (((((((((((((perm_front 12 rfl).trans (perm_front 12 rfl)).trans (perm_front 12 rfl)).trans (perm_front 12 rfl)).trans (perm_front 12 rfl)).trans (perm_front 12 rfl)).trans (perm_front 12 rfl)).trans (perm_front 12 rfl)).trans (perm_front 12 rfl)).trans (perm_front 12 rfl)).trans (perm_front 12 rfl)).trans (perm_front 11 rfl)).trans (perm_front 12 rfl))) ?_
 refine c_openStore rfl (fun pH117 pA118 pB119 cH120 cA121 cB122 => ?_)
 refine c_rowcap 1 rfl (fun hcl123 hcm124 => ?_)
 refine c_rowcap 2 rfl (fun hcl125 hcm126 => ?_)
 refine c_rowcap 3 rfl (fun hcl127 hcm128 => ?_)
 refine c_region ?_
 refine l_val (v := .pointer (some ⟨b115, 0, none⟩)) rfl rfl rfl (e_move) ?_
 refine l_val (v := .pointer (some ⟨b115, 0, none⟩)) rfl rfl rfl (e_nil (a := ⟨b115, 0, none⟩) rfl) ?_
 refine l_val (v := .pointer (some ⟨b115, 3, none⟩)) rfl rfl rfl (e_fieldPt (b := b115) (o := 0) rfl tf24) ?_
 refine l_mu rfl rfl (m_store 0 tf25 (b := b115) (o := 3) (T := 32) (cs := #[.slice pH117 (wK1.head).length cH120, .slice pA118 (wK1.a).length cA121, .slice pB119 (wK1.b).length cB122, Ix (wK1.power)]) (cs' := #[.slice pH117 (wK1.head).length cH120, .slice pA118 (wK1.a).length cA121, .slice pB119 (wK1.b).length cB122, .int .i64 (0)]) (v := .int .i64 (0)) rfl rfl rfl rfl rfl rfl rfl) ?_
 refine l_nil ?_
 refine f_then ?_
 refine c_seq ?_
 refine c_region ?_
 refine l_val (v := Bx (by_)) rfl rfl rfl (e_move) ?_
 refine l_val (v := Nx (by_.toNat)) rfl rfl rfl (e_conv (a := ((by_).toNat : Int)) rfl ⟨_, tf8⟩ tf1 (i64n rfl (by have := (by_).toNat_lt; omega))) ?_
 refine l_val (v := Nx (65537 + by_.toNat)) rfl rfl rfl (e_add (a := (65537 : Int)) (b := ((by_.toNat : Nat) : Int)) rfl rfl (i64n (by omega) (by omega))) ?_
 refine l_mv rfl rfl rfl (m_makeZ (c := 65537 + by_.toNat) hrC tf12 tf15 tf14 rfl rfl (by omega) (by omega)) ?_
 rintro _ _ ⟨b129, rfl, rfl⟩
 refine l_val (v := .slice (some ⟨b129, 0, none⟩) (rC).length (65537 + by_.toNat)) rfl rfl rfl (e_assign) ?_
 refine l_nil ?_
 refine f_then ?_
 refine c_seq ?_
 refine c_perm (L' := [pt b115 (.cells #[.slice pH117 (wK1.head).length cH120, .slice pA118 (wK1.a).length cA121, .slice pB119 (wK1.b).length cB122, .int .i64 (0)] 32), row (.slice pH117 (wK1.head).length cH120) 5 1 ((wK1.head).length) (BX wK1.head), row (.slice pA118 (wK1.a).length cA121) 5 1 ((wK1.a).length) (BX wK1.a), row (.slice pB119 (wK1.b).length cB122) 5 1 ((wK1.b).length) (BX wK1.b), row (.slice (some ⟨b129, 0, none⟩) (rC).length (65537 + by_.toNat)) 5 1 ((rC).length) (BX rC), jourR J116 b115 aI0 false, pt b114 (.cells #[.pointer none, .pointer (some ⟨b113, 0, none⟩)] 43), pt b113 (.cells #[.pointer none, .int .i64 (0), .int .i64 (0), .slice none 0 0, .slice none 0 0, .int .i64 (0), .bool false] 84), pt b7 (.cells #[.slice pH101 (K0.head).length cH104, .slice pA102 (K0.a).length cA105, .slice pB103 (K0.b).length cB106, Ix (K0.power)] 32), row (.slice pH101 (K0.head).length cH104) 5 1 ((K0.head).length) (BX K0.head), row (.slice pA102 (K0.a).length cA105) 5 1 ((K0.a).length) (BX K0.a), row (.slice pB103 (K0.b).length cB106) 5 1 ((K0.b).length) (BX K0.b), pt b100 (.cells #[.int .i64 (0), .int .i64 (0), .slice none 0 0, .slice none 0 0, .int .i64 (0)] 36), pt b99 (.cells #[.slice pH93 (K0.head).length cH96, .slice pA94 (K0.a).length cA97, .slice pB95 (K0.b).length cB98, Ix (K0.power)] 32), row (.slice pH93 (K0.head).length cH96) 5 1 ((K0.head).length) (BX K0.head), row (.slice pA94 (K0.a).length cA97) 5 1 ((K0.a).length) (BX K0.a), row (.slice pB95 (K0.b).length cB98) 5 1 ((K0.b).length) (BX K0.b)]) (by exact (((((((((((((((((perm_front 16 rfl).trans (perm_front 16 rfl)).trans (perm_front 16 rfl)).trans (perm_front 16 rfl)).trans (perm_front 16 rfl)).trans (perm_front 16 rfl)).trans (perm_front 16 rfl)).trans (perm_front 16 rfl)).trans (perm_front 16 rfl)).trans (perm_front 16 rfl)).trans (perm_front 16 rfl)).trans (perm_front 16 rfl)).trans (perm_front 12 rfl)).trans (perm_front 16 rfl)).trans (perm_front 16 rfl)).trans (perm_front 16 rfl)).trans (perm_front 16 rfl))) ?_
 refine c_closeStore (S := b115) (k := wK2) (pH := pH117) (pA := pA118) (pB := pB119) (cH := cH120) (cA := cA121) (cB := cB122) (M := (row (.slice (some ⟨b129, 0, none⟩) (rC).length (65537 + by_.toNat)) 5 1 ((rC).length) (BX rC) :: jourR J116 b115 aI0 false :: pt b114 (.cells #[.pointer none, .pointer (some ⟨b113, 0, none⟩)] 43) :: pt b113 (.cells #[.pointer none, .int .i64 (0), .int .i64 (0), .slice none 0 0, .slice none 0 0, .int .i64 (0), .bool false] 84) :: pt b7 (.cells #[.slice pH101 (K0.head).length cH104, .slice pA102 (K0.a).length cA105, .slice pB103 (K0.b).length cB106, Ix (K0.power)] 32) :: row (.slice pH101 (K0.head).length cH104) 5 1 ((K0.head).length) (BX K0.head) :: row (.slice pA102 (K0.a).length cA105) 5 1 ((K0.a).length) (BX K0.a) :: row (.slice pB103 (K0.b).length cB106) 5 1 ((K0.b).length) (BX K0.b) :: pt b100 (.cells #[.int .i64 (0), .int .i64 (0), .slice none 0 0, .slice none 0 0, .int .i64 (0)] 36) :: pt b99 (.cells #[.slice pH93 (K0.head).length cH96, .slice pA94 (K0.a).length cA97, .slice pB95 (K0.b).length cB98, Ix (K0.power)] 32) :: row (.slice pH93 (K0.head).length cH96) 5 1 ((K0.head).length) (BX K0.head) :: row (.slice pA94 (K0.a).length cA97) 5 1 ((K0.a).length) (BX K0.a) :: row (.slice pB95 (K0.b).length cB98) 5 1 ((K0.b).length) (BX K0.b) :: [])) rfl ?_
 refine c_region ?_
 refine l_val (v := .pointer (some ⟨J116, 0, none⟩)) rfl rfl rfl (e_move) ?_
 refine l_val (v := .slice (some ⟨b129, 0, none⟩) (rC).length (65537 + by_.toNat)) rfl rfl rfl (e_move) ?_
 refine l_call rfl rfl rfl (cl_value (fst := []) (cap := []) (vs := [.pointer (some ⟨J116, 0, none⟩), .slice (some ⟨b129, 0, none⟩) (rC).length (65537 + by_.toNat)]) (all := [.pointer (some ⟨J116, 0, none⟩), .slice (some ⟨b129, 0, none⟩) (rC).length (65537 + by_.toNat)]) tf102 rfl rfl rfl) ?_
 intro w hw
 replace hw := hw.perm (L' := _ :: _ :: _ :: _ :: _ :: _ :: _ :: _ :: _ :: _ :: _ :: _ :: _ :: _ :: []) (by exact ((((((((((((((perm_front 13 rfl).trans (perm_front 13 rfl)).trans (perm_front 13 rfl)).trans (perm_front 13 rfl)).trans (perm_front 13 rfl)).trans (perm_front 13 rfl)).trans (perm_front 13 rfl)).trans (perm_front 13 rfl)).trans (perm_front 13 rfl)).trans (perm_front 13 rfl)).trans (perm_front 13 rfl)).trans (perm_front 12 rfl)).trans (perm_front 12 rfl)).trans (perm_front 13 rfl)))
 obtain ⟨β1, sb, kn, hw1, back⟩ := St.frame (L := [_]) (M := _ :: _ :: _ :: _ :: _ :: _ :: _ :: _ :: _ :: _ :: _ :: _ :: _ :: []) hw
 refine (append_long β1 w J116 b115 wK2 aI0 false rC (by omega) _ (kn _ (Knows.of_res 1 rfl (Sl.mono U8R _ _) fun _ h => row_u8 h)) hw1).mono ?_
 rintro e w' ⟨rfl, hw'⟩
 refine ⟨_, rfl, _, back _ _ hw', ?_⟩
 clear hw hw1 hw' back kn sb
 refine l_val (v := .tuple #[.int .i64 (0), .int .i64 (3)]) rfl rfl rfl (e_move) ?_
 refine l_val (v := .int .i64 (0)) rfl rfl rfl (e_extract (vs := #[.int .i64 (0), .int .i64 (3)]) rfl rfl) ?_
 refine l_val (v := .int .i64 (3)) rfl rfl rfl (e_extract (vs := #[.int .i64 (0), .int .i64 (3)]) rfl rfl) ?_
 refine l_val (v := .int .i64 (0)) rfl rfl rfl (e_assign) ?_
 refine l_val (v := .int .i64 (3)) rfl rfl rfl (e_assign) ?_
 refine l_nil ?_
 refine f_then ?_
 refine c_seq ?_
 have hwhead : wK2.head.length = 0 := by decide +kernel
 have hwa : wK2.a.length = 0 := by decide +kernel
 have hwb : wK2.b.length = 0 := by decide +kernel
 refine c_perm (L' := [storeR b115 wK2, jourR J116 b115 aI0 false, row (.slice (some ⟨b129, 0, none⟩) (rC).length (65537 + by_.toNat)) 5 1 ((rC).length) (BX rC), pt b114 (.cells #[.pointer none, .pointer (some ⟨b113, 0, none⟩)] 43), pt b113 (.cells #[.pointer none, .int .i64 (0), .int .i64 (0), .slice none 0 0, .slice none 0 0, .int .i64 (0), .bool false] 84), pt b7 (.cells #[.slice pH101 (K0.head).length cH104, .slice pA102 (K0.a).length cA105, .slice pB103 (K0.b).length cB106, Ix (K0.power)] 32), row (.slice pH101 (K0.head).length cH104) 5 1 ((K0.head).length) (BX K0.head), row (.slice pA102 (K0.a).length cA105) 5 1 ((K0.a).length) (BX K0.a), row (.slice pB103 (K0.b).length cB106) 5 1 ((K0.b).length) (BX K0.b), pt b100 (.cells #[.int .i64 (0), .int .i64 (0), .slice none 0 0, .slice none 0 0, .int .i64 (0)] 36), pt b99 (.cells #[.slice pH93 (K0.head).length cH96, .slice pA94 (K0.a).length cA97, .slice pB95 (K0.b).length cB98, Ix (K0.power)] 32), row (.slice pH93 (K0.head).length cH96) 5 1 ((K0.head).length) (BX K0.head), row (.slice pA94 (K0.a).length cA97) 5 1 ((K0.a).length) (BX K0.a), row (.slice pB95 (K0.b).length cB98) 5 1 ((K0.b).length) (BX K0.b)]) (by exact ((((((((((((((perm_front 13 rfl).trans (perm_front 13 rfl)).trans (perm_front 13 rfl)).trans (perm_front 13 rfl)).trans (perm_front 13 rfl)).trans (perm_front 13 rfl)).trans (perm_front 13 rfl)).trans (perm_front 13 rfl)).trans (perm_front 13 rfl)).trans (perm_front 13 rfl)).trans (perm_front 13 rfl)).trans (perm_front 13 rfl)).trans (perm_front 12 rfl)).trans (perm_front 13 rfl))) ?_
 refine c_openStore rfl (fun pH130 pA131 pB132 cH133 cA134 cB135 => ?_)
 refine c_rowcap 1 rfl (fun hcl136 hcm137 => ?_)
 refine c_rowcap 2 rfl (fun hcl138 hcm139 => ?_)
 refine c_rowcap 3 rfl (fun hcl140 hcm141 => ?_)
 refine c_any [⟨[], [], [0], [182], fun f => f 182 = .int .i64 (0)⟩, ⟨[0], [0], [], [183], fun f => f 183 = .bool true⟩, ⟨[0, 1], [1], [], [184], fun f => f 184 = .bool true⟩, ⟨[0, 1, 2], [2], [1], [185], fun f => f 185 = .int .i64 (3)⟩, ⟨[0, 1, 2, 3], [3, 2], [], [186], fun f => f 186 = .bool true⟩, ⟨[0, 1, 2, 3, 4], [2, 4], [], [187], fun f => f 187 = .bool true⟩, ⟨[0, 1, 2, 3, 4, 5], [5], [], [188], fun f => f 188 = .bool true⟩, ⟨[0, 1, 2, 3, 4, 5, 6], [6], [2], [189], fun f => f 189 = .pointer (some ⟨J116, 0, none⟩)⟩, ⟨[0, 1, 2, 3, 4, 5, 6], [6], [3], [190], fun f => f 190 = .slice (some ⟨b129, 0, none⟩) (rC).length (65537 + by_.toNat)⟩, ⟨[0, 1, 2, 3, 4, 5, 6, 7, 8], [7, 8, 6], [], [191], fun f => f 191 = .int .i64 (3)⟩, ⟨[0, 1, 2, 3, 4, 5, 6], [6], [1], [192], fun f => f 192 = .int .i64 (3)⟩, ⟨[0, 1, 2, 3, 4, 5, 6, 7, 8, 9, 10], [9, 10, 6], [], [193], fun f => f 193 = .bool true⟩, ⟨[0, 1, 2, 3, 4, 5, 6, 7, 8, 9, 10, 11], [6, 11], [], [194], fun f => f 194 = .bool true⟩, ⟨[0, 1, 2, 3, 4, 5, 6, 7, 8, 9, 10, 11, 12], [12], [], [195], fun f => f 195 = .bool true⟩, ⟨[0, 1, 2, 3, 4, 5, 6, 7, 8, 9, 10, 11, 12, 13], [13], [4], [196], fun f => f 196 = .pointer (some ⟨b115, 0, none⟩)⟩, ⟨[0, 1, 2, 3, 4, 5, 6, 7, 8, 9, 10, 11, 12, 13, 14], [14, 13], [], [197], fun f => f 197 = .pointer (some ⟨b115, 0, none⟩)⟩, ⟨[0, 1, 2, 3, 4, 5, 6, 7, 8, 9, 10, 11, 12, 13, 14, 15], [15, 13], [], [198], fun f => f 198 = .pointer (some ⟨b115, 0, none⟩)⟩, ⟨[0, 1, 2, 3, 4, 5, 6, 7, 8, 9, 10, 11, 12, 13, 14, 15, 16], [16, 13], [], [199], fun f => f 199 = .slice pH130 (wK2.head).length cH133⟩, ⟨[0, 1, 2, 3, 4, 5, 6, 7, 8, 9, 10, 11, 12, 13, 14, 15, 16, 17], [17, 13], [], [200], fun f => f 200 = Nx ((wK2.head).length)⟩, ⟨[0, 1, 2, 3, 4, 5, 6, 7, 8, 9, 10, 11, 12, 13], [13], [4], [201], fun f => f 201 = .pointer (some ⟨b115, 0, none⟩)⟩, ⟨[0, 1, 2, 3, 4, 5, 6, 7, 8, 9, 10, 11, 12, 13, 19], [19, 13], [], [202], fun f => f 202 = .pointer (some ⟨b115, 0, none⟩)⟩, ⟨[0, 1, 2, 3, 4, 5, 6, 7, 8, 9, 10, 11, 12, 13, 19, 20], [20, 13], [], [203], fun f => f 203 = .pointer (some ⟨b115, 1, none⟩)⟩, ⟨[0, 1, 2, 3, 4, 5, 6, 7, 8, 9, 10, 11, 12, 13, 19, 20, 21], [21, 13], [], [204], fun f => f 204 = .slice pA131 (wK2.a).length cA134⟩, ⟨[0, 1, 2, 3, 4, 5, 6, 7, 8, 9, 10, 11, 12, 13, 19, 20, 21, 22], [22, 13], [], [205], fun f => f 205 = Nx ((wK2.a).length)⟩, ⟨[0, 1, 2, 3, 4, 5, 6, 7, 8, 9, 10, 11, 12, 13, 14, 15, 16, 17, 18, 19, 20, 21, 22, 23], [18, 23, 13], [], [206], fun f => f 206 = Nx (((wK2.head).length) + ((wK2.a).length))⟩, ⟨[0, 1, 2, 3, 4, 5, 6, 7, 8, 9, 10, 11, 12, 13], [13], [4], [207], fun f => f 207 = .pointer (some ⟨b115, 0, none⟩)⟩, ⟨[0, 1, 2, 3, 4, 5, 6, 7, 8, 9, 10, 11, 12, 13, 25], [25, 13], [], [208], fun f => f 208 = .pointer (some ⟨b115, 0, none⟩)⟩, ⟨[0, 1, 2, 3, 4, 5, 6, 7, 8, 9, 10, 11, 12, 13, 25, 26], [26, 13], [], [209], fun f => f 209 = .pointer (some ⟨b115, 2, none⟩)⟩, ⟨[0, 1, 2, 3, 4, 5, 6, 7, 8, 9, 10, 11, 12, 13, 25, 26, 27], [27, 13], [], [210], fun f => f 210 = .slice pB132 (wK2.b).length cB135⟩, ⟨[0, 1, 2, 3, 4, 5, 6, 7, 8, 9, 10, 11, 12, 13, 25, 26, 27, 28], [28, 13], [], [211], fun f => f 211 = Nx ((wK2.b).length)⟩, ⟨[0, 1, 2, 3, 4, 5, 6, 7, 8, 9, 10, 11, 12, 13, 14, 15, 16, 17, 18, 19, 20, 21, 22, 23, 24, 25, 26, 27, 28, 29], [24, 29, 13], [], [212], fun f => f 212 = Nx ((((wK2.head).length) + ((wK2.a).length)) + ((wK2.b).length))⟩, ⟨[0, 1, 2, 3, 4, 5, 6, 7, 8, 9, 10, 11, 12, 13, 14, 15, 16, 17, 18, 19, 20, 21, 22, 23, 24, 25, 26, 27, 28, 29, 30], [30, 13], [], [213], fun f => f 213 = .bool true⟩, ⟨[0, 1, 2, 3, 4, 5, 6, 7, 8, 9, 10, 11, 12, 13, 14, 15, 16, 17, 18, 19, 20, 21, 22, 23, 24, 25, 26, 27, 28, 29, 30, 31], [13, 31], [], [214], fun f => f 214 = .bool true⟩, ⟨[0, 1, 2, 3, 4, 5, 6, 7, 8, 9, 10, 11, 12, 13, 14, 15, 16, 17, 18, 19, 20, 21, 22, 23, 24, 25, 26, 27, 28, 29, 30, 31, 32], [32], [], [215], fun f => f 215 = .bool true⟩, ⟨[0, 1, 2, 3, 4, 5, 6, 7, 8, 9, 10, 11, 12, 13, 14, 15, 16, 17, 18, 19, 20, 21, 22, 23, 24, 25, 26, 27, 28, 29, 30, 31, 32, 33], [33], [], [216], fun f => f 216 = .bool true⟩, ⟨[0, 1, 2, 3, 4, 5, 6, 7, 8, 9, 10, 11, 12, 13, 14, 15, 16, 17, 18, 19, 20, 21, 22, 23, 24, 25, 26, 27, 28, 29, 30, 31, 32, 33, 34], [33, 34], [], [217], fun f => f 217 = .bool true⟩, ⟨[0, 1, 2, 3, 4, 5, 6, 7, 8, 9, 10, 11, 12, 13, 14, 15, 16, 17, 18, 19, 20, 21, 22, 23, 24, 25, 26, 27, 28, 29, 30, 31, 32, 33, 34, 35], [35], [], [6], fun f => f 6 = .bool true⟩] [⟨none, none, [17, 22, 28], [], fun _ => pt b115 (.cells #[.slice pH130 (wK2.head).length cH133, .slice pA131 (wK2.a).length cA134, .slice pB132 (wK2.b).length cB135, Ix (wK2.power)] 32)⟩, ⟨none, none, [], [], fun _ => row (.slice pH130 (wK2.head).length cH133) 5 1 ((wK2.head).length) (BX wK2.head)⟩, ⟨none, none, [], [], fun _ => row (.slice pA131 (wK2.a).length cA134) 5 1 ((wK2.a).length) (BX wK2.a)⟩, ⟨none, none, [], [], fun _ => row (.slice pB132 (wK2.b).length cB135) 5 1 ((wK2.b).length) (BX wK2.b)⟩, ⟨none, none, [9], [], fun _ => jourR J116 b115 aI0 false⟩, ⟨none, none, [9], [], fun _ => row (.slice (some ⟨b129, 0, none⟩) (rC).length (65537 + by_.toNat)) 5 1 ((rC).length) (BX rC)⟩, ⟨none, none, [], [], fun _ => pt b114 (.cells #[.pointer none, .pointer (some ⟨b113, 0, none⟩)] 43)⟩, ⟨none, none, [], [], fun _ => pt b113 (.cells #[.pointer none, .int .i64 (0), .int .i64 (0), .slice none 0 0, .slice none 0 0, .int .i64 (0), .bool false] 84)⟩, ⟨none, none, [], [], fun _ => pt b7 (.cells #[.slice pH101 (K0.head).length cH104, .slice pA102 (K0.a).length cA105, .slice pB103 (K0.b).length cB106, Ix (K0.power)] 32)⟩, ⟨none, none, [], [], fun _ => row (.slice pH101 (K0.head).length cH104) 5 1 ((K0.head).length) (BX K0.head)⟩, ⟨none, none, [], [], fun _ => row (.slice pA102 (K0.a).length cA105) 5 1 ((K0.a).length) (BX K0.a)⟩, ⟨none, none, [], [], fun _ => row (.slice pB103 (K0.b).length cB106) 5 1 ((K0.b).length) (BX K0.b)⟩, ⟨none, none, [], [], fun _ => pt b100 (.cells #[.int .i64 (0), .int .i64 (0), .slice none 0 0, .slice none 0 0, .int .i64 (0)] 36)⟩, ⟨none, none, [], [], fun _ => pt b99 (.cells #[.slice pH93 (K0.head).length cH96, .slice pA94 (K0.a).length cA97, .slice pB95 (K0.b).length cB98, Ix (K0.power)] 32)⟩, ⟨none, none, [], [], fun _ => row (.slice pH93 (K0.head).length cH96) 5 1 ((K0.head).length) (BX K0.head)⟩, ⟨none, none, [], [], fun _ => row (.slice pA94 (K0.a).length cA97) 5 1 ((K0.a).length) (BX K0.a)⟩, ⟨none, none, [], [], fun _ => row (.slice pB95 (K0.b).length cB98) 5 1 ((K0.b).length) (BX K0.b)⟩] [(23, .int .i64 (0)), (24, .int .i64 (3)), (20, .pointer (some ⟨J116, 0, none⟩)), (22, .slice (some ⟨b129, 0, none⟩) (rC).length (65537 + by_.toNat)), (19, .pointer (some ⟨b115, 0, none⟩))] [] [] (by kernel_rfl) (by kernel_rfl) (by kernel_rfl) (by kernel_rfl) rfl ⟨rfl, rfl, rfl, rfl, rfl, trivial⟩ ⟨?_, ?_, ?_, ?_, ?_, ?_, ?_, ?_, ?_, ?_, ?_, ?_, ?_, ?_, ?_, ?_, ?_, ?_, ?_, ?_, ?_, ?_, ?_, ?_, ?_, ?_, ?_, ?_, ?_, ?_, ?_, ?_, ?_, ?_, ?_, ?_, ?_, trivial⟩ ?_
 ·rintro f M - ⟨i0, -⟩
  have hs23 : f 23 = .int .i64 (0) := i0
  refine ob_start (L' := M) (by rfl) (up_cons rfl hs23) ?_
  refine l_val (v := .int .i64 (0)) rfl rfl rfl (e_move) ?_
  refine l_nil ?_
  exact f_owes_d (up_cons rfl hs23) rfl (List.Perm.refl _)
 ·rintro f M ⟨k0, -⟩ -
  have hs182 : f 182 = .int .i64 (0) := k0
  refine ob_start (L' := M) (by rfl) (up_cons rfl hs182) ?_
  refine l_val (v := .bool true) rfl rfl rfl (e_eql (a := (0 : Int)) (b := (0 : Int)) rfl rfl) ?_
  refine l_nil ?_
  exact f_owes_d (up_cons rfl hs182) rfl (List.Perm.refl _)
 ·rintro f M ⟨k0, -⟩ -
  have hs183 : f 183 = .bool true := k0
  refine ob_start (L' := M) (by rfl) (up_cons rfl hs183) ?_
  refine l_val (v := .bool true) rfl rfl rfl (e_move) ?_
  refine l_nil ?_
  exact f_owes_d (up_cons rfl hs183) rfl (List.Perm.refl _)
 ·rintro f M ⟨k0, -⟩ ⟨i0, -⟩
  have hs24 : f 24 = .int .i64 (3) := i0
  have hs184 : f 184 = .bool true := k0
  refine ob_start (L' := M) (by rfl) (up_cons (up_cons rfl hs24) hs184) ?_
  refine g_val (v := .int .i64 (3)) rfl rfl rfl rfl rfl (e_move) ?_
  refine l_nil ?_
  exact f_owes_d (up_cons (up_cons rfl hs24) hs184) rfl (List.Perm.refl _)
 ·rintro f M ⟨k0, k1, -⟩ -
  have hs185 : f 185 = .int .i64 (3) := k0
  have hs184 : f 184 = .bool true := k1
  refine ob_start (L' := M) (by rfl) (up_cons (up_cons rfl hs185) hs184) ?_
  refine g_val (v := .bool true) rfl rfl rfl rfl rfl (e_eql (a := (3 : Int)) (b := (3 : Int)) rfl rfl) ?_
  refine l_nil ?_
  exact f_owes_d (up_cons (up_cons rfl hs185) hs184) rfl (List.Perm.refl _)
 ·rintro f M ⟨k0, k1, -⟩ -
  have hs184 : f 184 = .bool true := k0
  have hs186 : f 186 = .bool true := k1
  refine ob_start (L' := M) (by rfl) (up_cons (up_cons rfl hs184) hs186) ?_
  refine l_val (v := .bool true) rfl rfl rfl (e_pick_t rfl) ?_
  refine l_nil ?_
  exact f_owes_d (up_cons (up_cons rfl hs184) hs186) rfl (List.Perm.refl _)
 ·rintro f M ⟨k0, -⟩ -
  have hs187 : f 187 = .bool true := k0
  refine ob_start (L' := M) (by rfl) (up_cons rfl hs187) ?_
  refine l_val (v := .bool true) rfl rfl rfl (e_move) ?_
  refine l_nil ?_
  exact f_owes_d (up_cons rfl hs187) rfl (List.Perm.refl _)
 ·rintro f M ⟨k0, -⟩ ⟨i0, -⟩
  have hs20 : f 20 = .pointer (some ⟨J116, 0, none⟩) := i0
  have hs188 : f 188 = .bool true := k0
  refine ob_start (L' := M) (by rfl) (up_cons (up_cons rfl hs20) hs188) ?_
  refine g_val (v := .pointer (some ⟨J116, 0, none⟩)) rfl rfl rfl rfl rfl (e_move) ?_
  refine l_nil ?_
  exact f_owes_d (up_cons (up_cons rfl hs20) hs188) rfl (List.Perm.refl _)
 ·rintro f M ⟨k0, -⟩ ⟨i0, -⟩
  have hs22 : f 22 = .slice (some ⟨b129, 0, none⟩) (rC).length (65537 + by_.toNat) := i0
  have hs188 : f 188 = .bool true := k0
  refine ob_start (L' := M) (by rfl) (up_cons (up_cons rfl hs22) hs188) ?_
  refine g_val (v := .slice (some ⟨b129, 0, none⟩) (rC).length (65537 + by_.toNat)) rfl rfl rfl rfl rfl (e_move) ?_
  refine l_nil ?_
  exact f_owes_d (up_cons (up_cons rfl hs22) hs188) rfl (List.Perm.refl _)
 ·rintro f M ⟨k0, k1, k2, -⟩ -
  have hs189 : f 189 = .pointer (some ⟨J116, 0, none⟩) := k0
  have hs190 : f 190 = .slice (some ⟨b129, 0, none⟩) (rC).length (65537 + by_.toNat) := k1
  have hs188 : f 188 = .bool true := k2
  refine ob_start (L' := jourR J116 b115 aI0 false :: row (.slice (some ⟨b129, 0, none⟩) (rC).length (65537 + by_.toNat)) 5 1 ((rC).length) (BX rC) :: M) (by rfl) (up_cons (up_cons (up_cons rfl hs189) hs190) hs188) ?_
  refine g_call rfl rfl rfl rfl rfl (cl_value (fst := []) (cap := []) (vs := [.pointer (some ⟨J116, 0, none⟩), .slice (some ⟨b129, 0, none⟩) (rC).length (65537 + by_.toNat)]) (all := [.pointer (some ⟨J116, 0, none⟩), .slice (some ⟨b129, 0, none⟩) (rC).length (65537 + by_.toNat)]) tf103 rfl rfl rfl) ?_
  intro w hw
  replace hw := hw.perm (L' := _ :: _ :: M) (by exact ((perm_front 1 rfl).trans (perm_front 1 rfl)))
  obtain ⟨β1, sb, kn, hw1, back⟩ := St.frame (L := [_]) (M := _ :: M) hw
  refine (checkp_long β1 w J116 b115 wK2 aI0 false rC (by omega) _ (kn _ (Knows.of_res 0 rfl (Sl.mono U8R _ _) fun _ h => row_u8 h)) hw1).mono ?_
  rintro e w' ⟨rfl, hw'⟩
  refine ⟨_, rfl, _, back _ _ hw', ?_⟩
  clear hw hw1 hw' back kn sb
  refine l_nil ?_
  exact f_owes_d (up_cons (up_cons (up_cons rfl hs189) hs190) hs188) rfl ((perm_front 1 rfl).trans (perm_front 1 rfl))
 ·rintro f M ⟨k0, -⟩ ⟨i0, -⟩
  have hs24 : f 24 = .int .i64 (3) := i0
  have hs188 : f 188 = .bool true := k0
  refine ob_start (L' := M) (by rfl) (up_cons (up_cons rfl hs24) hs188) ?_
  refine g_val (v := .int .i64 (3)) rfl rfl rfl rfl rfl (e_move) ?_
  refine l_nil ?_
  exact f_owes_d (up_cons (up_cons rfl hs24) hs188) rfl (List.Perm.refl _)
 ·rintro f M ⟨k0, k1, k2, -⟩ -
  have hs191 : f 191 = .int .i64 (3) := k0
  have hs192 : f 192 = .int .i64 (3) := k1
  have hs188 : f 188 = .bool true := k2
  refine ob_start (L' := M) (by rfl) (up_cons (up_cons (up_cons rfl hs191) hs192) hs188) ?_
  refine g_val (v := .bool true) rfl rfl rfl rfl rfl (e_eql (a := (3 : Int)) (b := (3 : Int)) rfl rfl) ?_
  refine l_nil ?_
  exact f_owes_d (up_cons (up_cons (up_cons rfl hs191) hs192) hs188) rfl (List.Perm.refl _)
 ·rintro f M ⟨k0, k1, -⟩ -
  have hs188 : f 188 = .bool true := k0
  have hs193 : f 193 = .bool true := k1
  refine ob_start (L' := M) (by rfl) (up_cons (up_cons rfl hs188) hs193) ?_
  refine l_val (v := .bool true) rfl rfl rfl (e_pick_t rfl) ?_
  refine l_nil ?_
  exact f_owes_d (up_cons (up_cons rfl hs188) hs193) rfl (List.Perm.refl _)
 ·rintro f M ⟨k0, -⟩ -
  have hs194 : f 194 = .bool true := k0
  refine ob_start (L' := M) (by rfl) (up_cons rfl hs194) ?_
  refine l_val (v := .bool true) rfl rfl rfl (e_move) ?_
  refine l_nil ?_
  exact f_owes_d (up_cons rfl hs194) rfl (List.Perm.refl _)
 ·rintro f M ⟨k0, -⟩ ⟨i0, -⟩
  have hs19 : f 19 = .pointer (some ⟨b115, 0, none⟩) := i0
  have hs195 : f 195 = .bool true := k0
  refine ob_start (L' := M) (by rfl) (up_cons (up_cons rfl hs19) hs195) ?_
  refine g_val (v := .pointer (some ⟨b115, 0, none⟩)) rfl rfl rfl rfl rfl (e_move) ?_
  refine l_nil ?_
  exact f_owes_d (up_cons (up_cons rfl hs19) hs195) rfl (List.Perm.refl _)
 ·rintro f M ⟨k0, k1, -⟩ -
  have hs196 : f 196 = .pointer (some ⟨b115, 0, none⟩) := k0
  have hs195 : f 195 = .bool true := k1
  refine ob_start (L' := M) (by rfl) (up_cons (up_cons rfl hs196) hs195) ?_
  refine g_val (v := .pointer (some ⟨b115, 0, none⟩)) rfl rfl rfl rfl rfl (e_nil (a := ⟨b115, 0, none⟩) rfl) ?_
  refine l_nil ?_
  exact f_owes_d (up_cons (up_cons rfl hs196) hs195) rfl (List.Perm.refl _)
 ·rintro f M ⟨k0, k1, -⟩ -
  have hs197 : f 197 = .pointer (some ⟨b115, 0, none⟩) := k0
  have hs195 : f 195 = .bool true := k1
  refine ob_start (L' := M) (by rfl) (up_cons (up_cons rfl hs197) hs195) ?_
  refine g_val (v := .pointer (some ⟨b115, 0, none⟩)) rfl rfl rfl rfl rfl (e_fieldPt (b := b115) (o := 0) rfl tf20) ?_
  refine l_nil ?_
  exact f_owes_d (up_cons (up_cons rfl hs197) hs195) rfl (List.Perm.refl _)
 ·rintro f M ⟨k0, k1, -⟩ -
  have hs198 : f 198 = .pointer (some ⟨b115, 0, none⟩) := k0
  have hs195 : f 195 = .bool true := k1
  refine ob_start (L' := pt b115 (.cells #[.slice pH130 (wK2.head).length cH133, .slice pA131 (wK2.a).length cA134, .slice pB132 (wK2.b).length cB135, Ix (wK2.power)] 32) :: M) (by rfl) (up_cons (up_cons rfl hs198) hs195) ?_
  refine g_val (v := .slice pH130 (wK2.head).length cH133) rfl rfl rfl rfl rfl (e_load1 tf21 (v := .slice pH130 (wK2.head).length cH133) rfl (k_pt 0 (cs := #[.slice pH130 (wK2.head).length cH133, .slice pA131 (wK2.a).length cA134, .slice pB132 (wK2.b).length cB135, Ix (wK2.power)]) (vs := [.slice pH130 (wK2.head).length cH133]) rfl rfl)) ?_
  refine l_nil ?_
  exact f_owes_d (up_cons (up_cons rfl hs198) hs195) rfl (perm_front 0 rfl)
 ·rintro f M ⟨k0, k1, -⟩ -
  have hs199 : f 199 = .slice pH130 (wK2.head).length cH133 := k0
  have hs195 : f 195 = .bool true := k1
  refine ob_start (L' := M) (by rfl) (up_cons (up_cons rfl hs199) hs195) ?_
  refine g_val (v := Nx ((wK2.head).length)) rfl rfl rfl rfl rfl (e_len (a := pH130) (n := (wK2.head).length) (c := cH133) rfl tf11) ?_
  refine l_nil ?_
  exact f_owes_d (up_cons (up_cons rfl hs199) hs195) rfl (List.Perm.refl _)
 ·rintro f M ⟨k0, -⟩ ⟨i0, -⟩
  have hs19 : f 19 = .pointer (some ⟨b115, 0, none⟩) := i0
  have hs195 : f 195 = .bool true := k0
  refine ob_start (L' := M) (by rfl) (up_cons (up_cons rfl hs19) hs195) ?_
  refine g_val (v := .pointer (some ⟨b115, 0, none⟩)) rfl rfl rfl rfl rfl (e_move) ?_
  refine l_nil ?_
  exact f_owes_d (up_cons (up_cons rfl hs19) hs195) rfl (List.Perm.refl _)
 ·rintro f M ⟨k0, k1, -⟩ -
  have hs201 : f 201 = .pointer (some ⟨b115, 0, none⟩) := k0
  have hs195 : f 195 = .bool true := k1
  refine ob_start (L' := M) (by rfl) (up_cons (up_cons rfl hs201) hs195) ?_
  refine g_val (v := .pointer (some ⟨b115, 0, none⟩)) rfl rfl rfl rfl rfl (e_nil (a := ⟨b115, 0, none⟩) rfl) ?_
  refine l_nil ?_
  exact f_owes_d (up_cons (up_cons rfl hs201) hs195) rfl (List.Perm.refl _)
 ·rintro f M ⟨k0, k1, -⟩ -
  have hs202 : f 202 = .pointer (some ⟨b115, 0, none⟩) := k0
  have hs195 : f 195 = .bool true := k1
  refine ob_start (L' := M) (by rfl) (up_cons (up_cons rfl hs202) hs195) ?_
  refine g_val (v := .pointer (some ⟨b115, 1, none⟩)) rfl rfl rfl rfl rfl (e_fieldPt (b := b115) (o := 0) rfl tf22) ?_
  refine l_nil ?_
  exact f_owes_d (up_cons (up_cons rfl hs202) hs195) rfl (List.Perm.refl _)
 ·rintro f M ⟨k0, k1, -⟩ -
  have hs203 : f 203 = .pointer (some ⟨b115, 1, none⟩) := k0
  have hs195 : f 195 = .bool true := k1
  refine ob_start (L' := pt b115 (.cells #[.slice pH130 (wK2.head).length cH133, .slice pA131 (wK2.a).length cA134, .slice pB132 (wK2.b).length cB135, Ix (wK2.power)] 32) :: M) (by rfl) (up_cons (up_cons rfl hs203) hs195) ?_
  refine g_val (v := .slice pA131 (wK2.a).length cA134) rfl rfl rfl rfl rfl (e_load1 tf21 (v := .slice pA131 (wK2.a).length cA134) rfl (k_pt 0 (cs := #[.slice pH130 (wK2.head).length cH133, .slice pA131 (wK2.a).length cA134, .slice pB132 (wK2.b).length cB135, Ix (wK2.power)]) (vs := [.slice pA131 (wK2.a).length cA134]) rfl rfl)) ?_
  refine l_nil ?_
  exact f_owes_d (up_cons (up_cons rfl hs203) hs195) rfl (perm_front 0 rfl)
 ·rintro f M ⟨k0, k1, -⟩ -
  have hs204 : f 204 = .slice pA131 (wK2.a).length cA134 := k0
  have hs195 : f 195 = .bool true := k1
  refine ob_start (L' := M) (by rfl) (up_cons (up_cons rfl hs204) hs195) ?_
  refine g_val (v := Nx ((wK2.a).length)) rfl rfl rfl rfl rfl (e_len (a := pA131) (n := (wK2.a).length) (c := cA134) rfl tf11) ?_
  refine l_nil ?_
  exact f_owes_d (up_cons (up_cons rfl hs204) hs195) rfl (List.Perm.refl _)
 ·rintro f M ⟨k0, k1, k2, -⟩ -
  have hs200 : f 200 = Nx ((wK2.head).length) := k0
  have hs205 : f 205 = Nx ((wK2.a).length) := k1
  have hs195 : f 195 = .bool true := k2
  refine ob_start (L' := M) (by rfl) (up_cons (up_cons (up_cons rfl hs200) hs205) hs195) ?_
  refine g_val (v := Nx (((wK2.head).length) + ((wK2.a).length))) rfl rfl rfl rfl rfl (e_add (a := (((wK2.head).length : Nat) : Int)) (b := (((wK2.a).length : Nat) : Int)) rfl rfl (i64n (by omega) (by omega))) ?_
  refine l_nil ?_
  exact f_owes_d (up_cons (up_cons (up_cons rfl hs200) hs205) hs195) rfl (List.Perm.refl _)
 ·rintro f M ⟨k0, -⟩ ⟨i0, -⟩
  have hs19 : f 19 = .pointer (some ⟨b115, 0, none⟩) := i0
  have hs195 : f 195 = .bool true := k0
  refine ob_start (L' := M) (by rfl) (up_cons (up_cons rfl hs19) hs195) ?_
  refine g_val (v := .pointer (some ⟨b115, 0, none⟩)) rfl rfl rfl rfl rfl (e_move) ?_
  refine l_nil ?_
  exact f_owes_d (up_cons (up_cons rfl hs19) hs195) rfl (List.Perm.refl _)
 ·rintro f M ⟨k0, k1, -⟩ -
  have hs207 : f 207 = .pointer (some ⟨b115, 0, none⟩) := k0
  have hs195 : f 195 = .bool true := k1
  refine ob_start (L' := M) (by rfl) (up_cons (up_cons rfl hs207) hs195) ?_
  refine g_val (v := .pointer (some ⟨b115, 0, none⟩)) rfl rfl rfl rfl rfl (e_nil (a := ⟨b115, 0, none⟩) rfl) ?_
  refine l_nil ?_
  exact f_owes_d (up_cons (up_cons rfl hs207) hs195) rfl (List.Perm.refl _)
 ·rintro f M ⟨k0, k1, -⟩ -
  have hs208 : f 208 = .pointer (some ⟨b115, 0, none⟩) := k0
  have hs195 : f 195 = .bool true := k1
  refine ob_start (L' := M) (by rfl) (up_cons (up_cons rfl hs208) hs195) ?_
  refine g_val (v := .pointer (some ⟨b115, 2, none⟩)) rfl rfl rfl rfl rfl (e_fieldPt (b := b115) (o := 0) rfl tf23) ?_
  refine l_nil ?_
  exact f_owes_d (up_cons (up_cons rfl hs208) hs195) rfl (List.Perm.refl _)
 ·rintro f M ⟨k0, k1, -⟩ -
  have hs209 : f 209 = .pointer (some ⟨b115, 2, none⟩) := k0
  have hs195 : f 195 = .bool true := k1
  refine ob_start (L' := pt b115 (.cells #[.slice pH130 (wK2.head).length cH133, .slice pA131 (wK2.a).length cA134, .slice pB132 (wK2.b).length cB135, Ix (wK2.power)] 32) :: M) (by rfl) (up_cons (up_cons rfl hs209) hs195) ?_
  refine g_val (v := .slice pB132 (wK2.b).length cB135) rfl rfl rfl rfl rfl (e_load1 tf21 (v := .slice pB132 (wK2.b).length cB135) rfl (k_pt 0 (cs := #[.slice pH130 (wK2.head).length cH133, .slice pA131 (wK2.a).length cA134, .slice pB132 (wK2.b).length cB135, Ix (wK2.power)]) (vs := [.slice pB132 (wK2.b).length cB135]) rfl rfl)) ?_
  refine l_nil ?_
  exact f_owes_d (up_cons (up_cons rfl hs209) hs195) rfl (perm_front 0 rfl)
 ·rintro f M ⟨k0, k1, -⟩ -
  have hs210 : f 210 = .slice pB132 (wK2.b).length cB135 := k0
  have hs195 : f 195 = .bool true := k1
  refine ob_start (L' := M) (by rfl) (up_cons (up_cons rfl hs210) hs195) ?_
  refine g_val (v := Nx ((wK2.b).length)) rfl rfl rfl rfl rfl (e_len (a := pB132) (n := (wK2.b).length) (c := cB135) rfl tf11) ?_
  refine l_nil ?_
  exact f_owes_d (up_cons (up_cons rfl hs210) hs195) rfl (List.Perm.refl _)
 ·rintro f M ⟨k0, k1, k2, -⟩ -
  have hs206 : f 206 = Nx (((wK2.head).length) + ((wK2.a).length)) := k0
  have hs211 : f 211 = Nx ((wK2.b).length) := k1
  have hs195 : f 195 = .bool true := k2
  refine ob_start (L' := M) (by rfl) (up_cons (up_cons (up_cons rfl hs206) hs211) hs195) ?_
  refine g_val (v := Nx ((((wK2.head).length) + ((wK2.a).length)) + ((wK2.b).length))) rfl rfl rfl rfl rfl (e_add (a := ((((wK2.head).length) + ((wK2.a).length) : Nat) : Int)) (b := (((wK2.b).length : Nat) : Int)) rfl rfl (i64n (by omega) (by omega))) ?_
  refine l_nil ?_
  exact f_owes_d (up_cons (up_cons (up_cons rfl hs206) hs211) hs195) rfl (List.Perm.refl _)
 ·rintro f M ⟨k0, k1, -⟩ -
  have hs212 : f 212 = Nx ((((wK2.head).length) + ((wK2.a).length)) + ((wK2.b).length)) := k0
  have hs195 : f 195 = .bool true := k1
  refine ob_start (L' := M) (by rfl) (up_cons (up_cons rfl hs212) hs195) ?_
  refine g_val (v := .bool true) rfl rfl rfl rfl rfl ((ev_t (by decide +kernel) (e_eql (a := (((((wK2.head).length) + ((wK2.a).length)) + ((wK2.b).length) : Nat) : Int)) (b := (0 : Int)) rfl rfl))) ?_
  refine l_nil ?_
  exact f_owes_d (up_cons (up_cons rfl hs212) hs195) rfl (List.Perm.refl _)
 ·rintro f M ⟨k0, k1, -⟩ -
  have hs195 : f 195 = .bool true := k0
  have hs213 : f 213 = .bool true := k1
  refine ob_start (L' := M) (by rfl) (up_cons (up_cons rfl hs195) hs213) ?_
  refine l_val (v := .bool true) rfl rfl rfl (e_pick_t rfl) ?_
  refine l_nil ?_
  exact f_owes_d (up_cons (up_cons rfl hs195) hs213) rfl (List.Perm.refl _)
 ·rintro f M ⟨k0, -⟩ -
  have hs214 : f 214 = .bool true := k0
  refine ob_start (L' := M) (by rfl) (up_cons rfl hs214) ?_
  refine l_val (v := .bool true) rfl rfl rfl (e_move) ?_
  refine l_nil ?_
  exact f_owes_d (up_cons rfl hs214) rfl (List.Perm.refl _)
 ·rintro f M ⟨k0, -⟩ -
  have hs215 : f 215 = .bool true := k0
  refine ob_start (L' := M) (by rfl) (up_cons rfl hs215) ?_
  refine g_call rfl rfl rfl rfl rfl (cl_value (fst := []) (cap := []) (vs := []) (all := []) tf111 rfl rfl rfl) ?_
  intro w hw
  obtain ⟨β1, sb, kn, hw1, back⟩ := St.frame_all hw
  refine (awake_ok β1 w hw1).mono ?_
  rintro e w' ⟨rfl, hw'⟩
  refine ⟨_, rfl, _, back _ _ hw', ?_⟩
  clear hw hw1 hw' back kn sb
  refine l_nil ?_
  exact f_owes_d (up_cons rfl hs215) rfl (List.Perm.refl _)
 ·rintro f M ⟨k0, k1, -⟩ -
  have hs215 : f 215 = .bool true := k0
  have hs216 : f 216 = .bool true := k1
  refine ob_start (L' := M) (by rfl) (up_cons (up_cons rfl hs215) hs216) ?_
  refine l_val (v := .bool true) rfl rfl rfl (e_pick_t rfl) ?_
  refine l_nil ?_
  exact f_owes_d (up_cons (up_cons rfl hs215) hs216) rfl (List.Perm.refl _)
 ·rintro f M ⟨k0, -⟩ -
  have hs217 : f 217 = .bool true := k0
  refine ob_start (L' := M) (by rfl) (up_cons rfl hs217) ?_
  refine l_val (v := .bool true) rfl rfl rfl (e_assign) ?_
  refine l_nil ?_
  exact f_owes_d (up_cons rfl hs217) rfl (List.Perm.refl _)
 rintro fa142 ⟨-, -, -, -, -, -, -, -, -, -, -, -, -, -, -, -, -, -, -, -, -, -, -, -, -, -, -, -, -, -, -, -, -, -, -, -, k36, -⟩ -
 refine f_re (L' := [pt b115 (.cells #[.slice pH130 (wK2.head).length cH133, .slice pA131 (wK2.a).length cA134, .slice pB132 (wK2.b).length cB135, Ix (wK2.power)] 32), row (.slice pH130 (wK2.head).length cH133) 5 1 ((wK2.head).length) (BX wK2.head), row (.slice pA131 (wK2.a).length cA134) 5 1 ((wK2.a).length) (BX wK2.a), row (.slice pB132 (wK2.b).length cB135) 5 1 ((wK2.b).length) (BX wK2.b), jourR J116 b115 aI0 false, row (.slice (some ⟨b129, 0, none⟩) (rC).length (65537 + by_.toNat)) 5 1 ((rC).length) (BX rC), pt b114 (.cells #[.pointer none, .pointer (some ⟨b113, 0, none⟩)] 43), pt b113 (.cells #[.pointer none, .int .i64 (0), .int .i64 (0), .slice none 0 0, .slice none 0 0, .int .i64 (0), .bool false] 84), pt b7 (.cells #[.slice pH101 (K0.head).length cH104, .slice pA102 (K0.a).length cA105, .slice pB103 (K0.b).length cB106, Ix (K0.power)] 32), row (.slice pH101 (K0.head).length cH104) 5 1 ((K0.head).length) (BX K0.head), row (.slice pA102 (K0.a).length cA105) 5 1 ((K0.a).length) (BX K0.a), row (.slice pB103 (K0.b).length cB106) 5 1 ((K0.b).length) (BX K0.b), pt b100 (.cells #[.int .i64 (0), .int .i64 (0), .slice none 0 0, .slice none 0 0, .int .i64 (0)] 36), pt b99 (.cells #[.slice pH93 (K0.head).length cH96, .slice pA94 (K0.a).length cA97, .slice pB95 (K0.b).length cB98, Ix (K0.power)] 32), row (.slice pH93 (K0.head).length cH96) 5 1 ((K0.head).length) (BX K0.head), row (.slice pA94 (K0.a).length cA97) 5 1 ((K0.a).length) (BX K0.a), row (.slice pB95 (K0.b).length cB98) 5 1 ((K0.b).length) (BX K0.b)]) (by rfl) ?_
 refine f_rebase (d := 6) (v := .bool true) k36 ?_
 refine f_then ?_
 refine c_ret ?_
 refine ret1 Try.results10 (v := .bool true) rfl ?_
 intro w hw
 exact ⟨rfl, st_mask [false, false, false, false, false, false, false, false, false, false, false, false, false, false, false, false, false] rfl hw⟩
end Go.Proofs
