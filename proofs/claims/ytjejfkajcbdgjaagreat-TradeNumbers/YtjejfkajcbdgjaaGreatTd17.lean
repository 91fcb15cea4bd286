/-
 TradeNumbers: walked. Printed by a program of my own.
-/
import Derived.Test.YtjejfkajcbdgjaaGreatTd16
import Derived.Test.YtjejfkajcbdgjaaGreatTdNum
namespace Go.Proofs
open Go Go.Sl Go.Td Go.Jn
theorem last_eq (β : Base) (w : World) (H S N W : Nat) (pw : Int) (X : KHs) (hw : St β [houseR H S X N W pw] w) (au : Int) {nu : Int} {R : KRes} {so : Bool} (h : lastX X au = (nu, R, so)) : Calls Tryz.prog 18 #[.pointer (some ⟨H, 0, none⟩), Ix au] w fun r w' => ∃ p c, r = .returned (.tuple #[Ix nu, .agg #[.bool R.done, Ix R.at_, Ix R.e, .slice p R.holds.length c], .bool so]) ∧ St β [rowF IntF 3 p c R.holds, houseR H S X N W pw] w' := by
 refine (last_ok β w H S N W pw X hw au).mono ?_
 rintro r w' ⟨nu2, R2, so2, h1, p, c, h2, h3⟩
 rw [h] at h1
 injection h1 with e1 e2
 injection e2 with e2 e3
 subst e1; subst e2; subst e3
 exact ⟨p, c, h2, h3⟩
theorem tt185 : cfB Tryz.prog 10 = true := by kernel_rfl
theorem tt186 : Tryz.prog.underlying 22 = some (.slice 32) := by kernel_rfl
theorem tt187 : slB Tryz.prog 22 32 4 = true := by kernel_rfl
theorem tt188 : cfB Tryz.prog 11 = true := by kernel_rfl
theorem tt189 : cfB Tryz.prog 18 = true := by kernel_rfl
theorem tt190 : fldB Tryz.prog 32 2 2 1 false = true := by kernel_rfl
theorem tt191 : cfB Tryz.prog 19 = true := by kernel_rfl
theorem tt192 : cfB Tryz.prog 17 = true := by kernel_rfl
set_option maxHeartbeats 4000000 in
theorem numbers_ok (β : Base) (w : World) (hw : St β [] w) (v : Value) (l : List TOp) (hs : Sl TOpR β.heap v l) (sk : UInt8) : Calls Tryz.prog 4 #[v, Bx sk] w fun r w' => r = .returned (.bool true) ∧ St β [] w' := by
 obtain ⟨va, vc, rfl, vl, vm, ve⟩ := hs.get
 refine enter (n := 205) Tryz.func4 rfl Tryz.ntmps4 rfl ?_ hw
 refine c_seq ?_
 refine c_region ?_
 refine l_val (v := .bool false) rfl rfl rfl (e_assign) ?_
 refine l_nil ?_
 refine f_then ?_
 refine c_seq ?_
 refine c_region ?_
 refine l_val (v := .agg #[.slice none 0 0, .slice none 0 0, .slice none 0 0, .int .i64 (-1)]) rfl rfl rfl (e_build tt176 tt175 (vs := [(3, .int .i64 (-1))]) (cells := #[.slice none 0 0, .slice none 0 0, .slice none 0 0, .int .i64 (-1)]) rfl rfl) ?_
 refine l_mv rfl rfl rfl (m_box (v := .agg #[.slice none 0 0, .slice none 0 0, .slice none 0 0, .int .i64 (-1)]) rfl) ?_
 rintro _ _ ⟨b1, rfl, rfl⟩
 refine l_val (v := .pointer (some ⟨b1, 0, none⟩)) rfl rfl rfl (e_assign) ?_
 refine l_nil ?_
 refine f_then ?_
 refine c_seq ?_
 refine c_region ?_
 refine l_val (v := .pointer (some ⟨b1, 0, none⟩)) rfl rfl rfl (e_move) ?_
 refine l_call rfl rfl rfl (cl_value (fst := []) (cap := []) (vs := [.pointer (some ⟨b1, 0, none⟩)]) (all := [.pointer (some ⟨b1, 0, none⟩)]) tt185 rfl rfl rfl) ?_
 intro w hw
 replace hw := hw.perm (L' := _ :: []) (by exact (perm_front 0 rfl))
 obtain ⟨β1, sb, kn, hw1, back⟩ := St.frame (L := [_]) (M := []) hw
 refine (opened_new β1 w b1 (-1) hw1 (by decide)).mono ?_
 rintro e w' ⟨H2, rfl, hw'⟩
 refine ⟨_, rfl, _, back _ _ hw', ?_⟩
 clear hw hw1 hw' back kn sb
 refine l_val (v := .tuple #[.pointer (some ⟨H2, 0, none⟩), .bool true]) rfl rfl rfl (e_move) ?_
 refine l_val (v := .pointer (some ⟨H2, 0, none⟩)) rfl rfl rfl (e_extract (vs := #[.pointer (some ⟨H2, 0, none⟩), .bool true]) rfl rfl) ?_
 refine l_val (v := .bool true) rfl rfl rfl (e_extract (vs := #[.pointer (some ⟨H2, 0, none⟩), .bool true]) rfl rfl) ?_
 refine l_val (v := .pointer (some ⟨H2, 0, none⟩)) rfl rfl rfl (e_assign) ?_
 refine l_val (v := .bool true) rfl rfl rfl (e_assign) ?_
 refine l_nil ?_
 refine f_then ?_
 refine c_seq ?_
 refine c_seq ?_
 refine c_region ?_
 refine l_val (v := .bool true) rfl rfl rfl (e_move) ?_
 refine l_val (v := .bool false) rfl rfl rfl (e_not (a := true) rfl) ?_
 refine l_nil ?_
 refine f_then ?_
 refine c_no rfl ?_
 refine c_skip ?_
 refine f_then ?_
 refine c_seq ?_
 refine c_seq ?_
 refine c_region ?_
 refine l_val (v := .slice va (l.length) (vc)) rfl rfl rfl (e_move) ?_
 refine l_val (v := .slice va (l.length) (vc)) rfl rfl rfl (e_move) ?_
 refine l_val (v := Nx (l.length)) rfl rfl rfl (e_len (a := va) (n := l.length) (c := vc) rfl tt186) ?_
 refine l_val (v := Nx (min l.length 30)) rfl rfl rfl (ev_eq (congrArg (Value.int .i64) (by omega)) (e_min (a := ((l.length : Nat) : Int)) (b := (30 : Int)) rfl rfl)) ?_
 obtain ⟨zs3, hz4⟩ : ∃ zs, zs = (l.take (min l.length 30)) := ⟨_, rfl⟩
 have zl5 : zs3.length = min (min l.length 30) (l).length - 0 := by rw [hz4]; simp; try omega
 have ze6 := (Elems.take (min l.length 30) ve)
 rw [← hz4] at ze6
 refine l_val (v := .slice va (zs3.length) (vc)) rfl rfl rfl (ev_eq (by rw [show zs3.length = min l.length 30 by omega]) (e_slice_hi (a := va) (len := l.length) (cap := vc) (h := min l.length 30) tt187 rfl rfl (by omega))) ?_
 refine l_val (v := Nx (zs3.length)) rfl rfl rfl (e_len (a := va) (n := zs3.length) (c := vc) rfl tt186) ?_
 refine l_val (v := .int .i64 (0)) rfl rfl rfl (e_move) ?_
 refine l_nil ?_
 refine f_then ?_
 refine c_block ?_
 refine c_mask [true] rfl ?_
 refine c_loop (fun (x_ : Nat × KHs) (f : Fm) (L : List Res) => match x_ with | (k, X) => (f 1 = Bx (sk) ∧ f 6 = .pointer (some ⟨H2, 0, none⟩) ∧ f 44 = .slice va (zs3.length) (vc) ∧ f 45 = Nx (zs3.length) ∧ f 46 = Nx (k)) ∧ L = [houseR H2 b1 X (6 * k) (3000 * k) (-1)] ∧ (k ≤ zs3.length ∧ NumOk X ((2 + (k * (1 + (sk.toNat % 4))) : Nat) : Int))) (fun (x_ : Nat × KHs) => match x_ with | (k, X) => zs3.length - k) (0, freshX) ?_ ?_
 ·exact ⟨⟨rfl, rfl, rfl, rfl, rfl⟩, rfl, ⟨Nat.zero_le _, NumOk.fresh _⟩⟩
 rintro ⟨k, X⟩ f0 L0 ⟨⟨hs1, hs6, hs44, hs45, hs46⟩, hL, ⟨hk, hno⟩⟩
 subst L0
 refine rebase (d := 1) hs1 ?_
 refine rebase (d := 6) hs6 ?_
 refine rebase (d := 44) hs44 ?_
 refine rebase (d := 45) hs45 ?_
 refine rebase (d := 46) hs46 ?_
 clear hs1 hs6 hs44 hs45 hs46
 have hq : k * (1 + (sk.toNat % 4)) ≤ 30 * 4 := Nat.mul_le_mul (by omega) (by omega)
 refine c_seq ?_
 refine c_region ?_
 refine l_val (v := .bool (decide (((k : Nat) : Int) < ((zs3.length : Nat) : Int)))) rfl rfl rfl (e_lss (a := ((k : Nat) : Int)) (b := ((zs3.length : Nat) : Int)) rfl rfl) ?_
 refine l_nil ?_
 refine f_then ?_
 refine c_seq ?_
 refine c_if (((k : Nat) : Int) < ((zs3.length : Nat) : Int)) rfl (fun hc7 => ?_) (fun hc7 => ?_)
 ·
  refine c_skip ?_
  refine f_then ?_
  refine c_seq ?_
  refine c_block ?_
  refine c_seq ?_
  refine c_region ?_
  refine l_val (v := Nx (k)) rfl rfl rfl (e_move) ?_
  obtain ⟨x8, hx9⟩ : ∃ x_, (zs3)[k]? = some x_ := ⟨_, List.getElem?_eq_getElem (by omega)⟩
  obtain ⟨ha10, cs11, hc12, hr13⟩ := ze6 _ _ hx9
  obtain ⟨ho16, v14, rfl, hv15⟩ := hr13
  obtain ⟨a17, c18, rfl, hl19, hm20, he21⟩ := (hv15).get
  refine l_val (v := .pointer (some ((ba va).add (k * 4)))) rfl rfl rfl (e_indexAddr (k := k) (len := zs3.length) (cap := vc) (a := va) rfl rfl tt187 (by omega) ha10) ?_
  refine l_val (v := .agg #[Bx (x8.kind), Ix (x8.author), Ix (x8.number), .slice a17 (x8.acts.length) (c18)]) rfl rfl rfl (e_load tt170 (cs := [Bx (x8.kind), Ix (x8.author), Ix (x8.number), .slice a17 (x8.acts.length) (c18)]) rfl (Knows.of_base (Cs.mono _ _) hc12) rfl) ?_
  refine l_mv rfl rfl rfl (m_alloc tt165) ?_
  rintro _ _ ⟨b22, rfl, rfl⟩
  refine l_val (v := Nx (k)) rfl rfl rfl (e_assign) ?_
  refine l_mu rfl rfl (m_store 0 tt170 (b := b22) (o := 0) (T := 32) (cs := #[.int .u8 (0), .int .i64 (0), .int .i64 (0), .slice none 0 0]) (cs' := #[Bx (x8.kind), Ix (x8.author), Ix (x8.number), .slice a17 (x8.acts.length) (c18)]) (v := .agg #[Bx (x8.kind), Ix (x8.author), Ix (x8.number), .slice a17 (x8.acts.length) (c18)]) rfl rfl rfl rfl rfl rfl rfl) ?_
  refine l_nil ?_
  refine f_then ?_
  refine c_seq ?_
  refine c_region ?_
  refine l_val (v := .agg #[Bx (x8.kind), Ix (x8.author), Ix (x8.number), .slice a17 (x8.acts.length) (c18)]) rfl rfl rfl (e_load tt170 (cs := [Bx (x8.kind), Ix (x8.author), Ix (x8.number), .slice a17 (x8.acts.length) (c18)]) rfl (k_pt 0 (cs := #[Bx (x8.kind), Ix (x8.author), Ix (x8.number), .slice a17 (x8.acts.length) (c18)]) (vs := [Bx (x8.kind), Ix (x8.author), Ix (x8.number), .slice a17 (x8.acts.length) (c18)]) rfl rfl) rfl) ?_
  refine l_val (v := Nx (k)) rfl rfl rfl (e_move) ?_
  refine l_val (v := Bx (sk)) rfl rfl rfl (e_move) ?_
  refine l_val (v := Nx (sk.toNat)) rfl rfl rfl (e_conv (a := ((sk).toNat : Int)) rfl ⟨_, tt75⟩ tt80 (i64n rfl (by have := (sk).toNat_lt; omega))) ?_
  refine l_val (v := Nx (sk.toNat % 4)) rfl rfl rfl (e_rem (a := ((sk.toNat : Nat) : Int)) (b := (4 : Int)) rfl rfl (by decide) (nat_tmod _ 4)) ?_
  refine l_val (v := Nx (1 + (sk.toNat % 4))) rfl rfl rfl (e_add (a := (1 : Int)) (b := ((sk.toNat % 4 : Nat) : Int)) rfl rfl (i64n (by omega) (by omega))) ?_
  refine l_val (v := Nx (k * (1 + (sk.toNat % 4)))) rfl rfl rfl (e_mul (a := ((k : Nat) : Int)) (b := ((1 + (sk.toNat % 4) : Nat) : Int)) rfl rfl (i64n (by simp) (by omega))) ?_
  refine l_val (v := Nx (2 + (k * (1 + (sk.toNat % 4))))) rfl rfl rfl (e_add (a := (2 : Int)) (b := ((k * (1 + (sk.toNat % 4)) : Nat) : Int)) rfl rfl (i64n (by omega) (by omega))) ?_
  refine l_call rfl rfl rfl (cl_value (fst := []) (cap := []) (vs := [.agg #[Bx (x8.kind), Ix (x8.author), Ix (x8.number), .slice a17 (x8.acts.length) (c18)], Nx (2 + (k * (1 + (sk.toNat % 4))))]) (all := [.agg #[Bx (x8.kind), Ix (x8.author), Ix (x8.number), .slice a17 (x8.acts.length) (c18)], Nx (2 + (k * (1 + (sk.toNat % 4))))]) tt188 rfl rfl rfl) ?_
  intro w hw
  obtain ⟨β1, sb, kn, hw1, back⟩ := St.frame_all hw
  refine (fit_ok β1 w hw1 x8 _ (Sl.mono _ _ _ _ _ sb (⟨⟨_, _, rfl, by omega, by omega, he21⟩⟩ : Sl ActF.R _ _ x8.acts)) ((2 + (k * (1 + (sk.toNat % 4))) : Nat) : Int)).mono ?_
  rintro e w' ⟨p23, c24, rfl, hw'⟩
  refine ⟨_, rfl, _, back _ _ hw', ?_⟩
  clear hw hw1 hw' back kn sb
  refine l_mu rfl rfl (m_store 1 tt170 (b := b22) (o := 0) (T := 32) (cs := #[Bx (x8.kind), Ix (x8.author), Ix (x8.number), .slice a17 (x8.acts.length) (c18)]) (cs' := #[Bx (x8.kind), Ix (fitAu x8), Nx (2 + (k * (1 + (sk.toNat % 4)))), .slice p23 ((fitL x8).length) c24]) (v := .agg #[Bx (x8.kind), Ix (fitAu x8), Nx (2 + (k * (1 + (sk.toNat % 4)))), .slice p23 ((fitL x8).length) c24]) rfl rfl rfl rfl rfl rfl rfl) ?_
  refine l_nil ?_
  refine f_then ?_
  refine c_seq ?_
  have hnn : 1 ≤ ((2 + (k * (1 + (sk.toNat % 4))) : Nat) : Int) ∧ ((2 + (k * (1 + (sk.toNat % 4))) : Nat) : Int) ≤ 1000 := by omega
  have hfm := fit_formed x8 hnn.1 (by omega)
  have hfb := fit_hb x8
  have hfl := fitL_len x8
  have hfu := fitAu_bd x8
  generalize hnk : 2 + (k * (1 + (sk.toNat % 4))) = nk
  rw [hnk] at hfm hnn hno
  generalize hau : fitAu x8 = au at hfm hfu ⊢
  generalize hal : fitL x8 = al at hfm hfb hfl ⊢
  obtain ⟨X1, R, hr, hX1⟩ := rnd_ok (X := X) hfm hno
  obtain ⟨was, rwas, so, hla⟩ : ∃ a b c, lastX X au = (a, b, c) := ⟨_, _, _, rfl⟩
  have hfm3 := snoc_formed hfm (by omega)
  have hfm4 := other_number hfm (n := ((nk : Nat) : Int) - 1) (by omega) (by omega)
  refine c_region ?_
  refine l_val (v := .pointer (some ⟨H2, 0, none⟩)) rfl rfl rfl (e_move) ?_
  refine l_val (v := .pointer (some ⟨b22, 1, none⟩)) rfl rfl rfl (e_fieldPt (b := b22) (o := 0) rfl tt167) ?_
  refine l_val (v := Ix (au)) rfl rfl rfl (e_load1 tt2 (v := Ix (au)) rfl (k_pt 1 (cs := #[Bx (x8.kind), Ix (au), Nx (nk), .slice p23 (al.length) c24]) (vs := [Ix (au)]) rfl rfl)) ?_
  refine l_call rfl rfl rfl (cl_value (fst := []) (cap := []) (vs := [.pointer (some ⟨H2, 0, none⟩), Ix (au)]) (all := [.pointer (some ⟨H2, 0, none⟩), Ix (au)]) tt189 rfl rfl rfl) ?_
  intro w hw
  replace hw := hw.perm (L' := _ :: _ :: _ :: []) (by exact (((perm_front 1 rfl).trans (perm_front 1 rfl)).trans (perm_front 2 rfl)))
  obtain ⟨β1, sb, kn, hw1, back⟩ := St.frame (L := [_]) (M := _ :: _ :: []) hw
  refine (last_eq β1 w H2 b1 (6 * k) (3000 * k) (-1) X hw1 au hla).mono ?_
  rintro e w' ⟨p25, c26, rfl, hw'⟩
  refine ⟨_, rfl, _, back _ _ hw', ?_⟩
  clear hw hw1 hw' back kn sb
  refine l_val (v := .tuple #[Ix (was), .agg #[.bool (rwas.done), Ix (rwas.at_), Ix (rwas.e), .slice p25 (rwas.holds.length) c26], .bool (so)]) rfl rfl rfl (e_move) ?_
  refine l_val (v := Ix (was)) rfl rfl rfl (e_extract (vs := #[Ix (was), .agg #[.bool (rwas.done), Ix (rwas.at_), Ix (rwas.e), .slice p25 (rwas.holds.length) c26], .bool (so)]) rfl rfl) ?_
  refine l_val (v := .agg #[.bool (rwas.done), Ix (rwas.at_), Ix (rwas.e), .slice p25 (rwas.holds.length) c26]) rfl rfl rfl (e_extract (vs := #[Ix (was), .agg #[.bool (rwas.done), Ix (rwas.at_), Ix (rwas.e), .slice p25 (rwas.holds.length) c26], .bool (so)]) rfl rfl) ?_
  refine l_val (v := .bool (so)) rfl rfl rfl (e_extract (vs := #[Ix (was), .agg #[.bool (rwas.done), Ix (rwas.at_), Ix (rwas.e), .slice p25 (rwas.holds.length) c26], .bool (so)]) rfl rfl) ?_
  refine l_mv rfl rfl rfl (m_alloc tt53) ?_
  rintro _ _ ⟨b27, rfl, rfl⟩
  refine l_val (v := Ix (was)) rfl rfl rfl (e_assign) ?_
  refine l_mu rfl rfl (m_store 0 tt61 (b := b27) (o := 0) (T := 37) (cs := #[.bool false, .int .i64 (0), .int .i64 (0), .slice none 0 0]) (cs' := #[.bool (rwas.done), Ix (rwas.at_), Ix (rwas.e), .slice p25 (rwas.holds.length) c26]) (v := .agg #[.bool (rwas.done), Ix (rwas.at_), Ix (rwas.e), .slice p25 (rwas.holds.length) c26]) rfl rfl rfl rfl rfl rfl rfl) ?_
  refine l_val (v := .bool (so)) rfl rfl rfl (e_assign) ?_
  refine l_nil ?_
  refine f_then ?_
  refine c_seq ?_
  refine c_region ?_
  refine l_val (v := .pointer (some ⟨H2, 0, none⟩)) rfl rfl rfl (e_move) ?_
  refine l_val (v := .pointer (some ⟨b22, 1, none⟩)) rfl rfl rfl (e_fieldPt (b := b22) (o := 0) rfl tt167) ?_
  refine l_val (v := Ix (au)) rfl rfl rfl (e_load1 tt2 (v := Ix (au)) rfl (k_pt 4 (cs := #[Bx (x8.kind), Ix (au), Nx (nk), .slice p23 (al.length) c24]) (vs := [Ix (au)]) rfl rfl)) ?_
  refine l_val (v := .pointer (some ⟨b22, 2, none⟩)) rfl rfl rfl (e_fieldPt (b := b22) (o := 0) rfl tt190) ?_
  refine l_val (v := Nx (nk)) rfl rfl rfl (e_load1 tt2 (v := Nx (nk)) rfl (k_pt 4 (cs := #[Bx (x8.kind), Ix (au), Nx (nk), .slice p23 (al.length) c24]) (vs := [Nx (nk)]) rfl rfl)) ?_
  refine l_val (v := .pointer (some ⟨b22, 3, none⟩)) rfl rfl rfl (e_fieldPt (b := b22) (o := 0) rfl tt171) ?_
  refine l_val (v := .slice p23 (al.length) c24) rfl rfl rfl (e_load1 tt23 (v := .slice p23 (al.length) c24) rfl (k_pt 4 (cs := #[Bx (x8.kind), Ix (au), Nx (nk), .slice p23 (al.length) c24]) (vs := [.slice p23 (al.length) c24]) rfl rfl)) ?_
  refine l_call rfl rfl rfl (cl_value (fst := []) (cap := []) (vs := [.pointer (some ⟨H2, 0, none⟩), Ix (au), Nx (nk), .slice p23 (al.length) c24]) (all := [.pointer (some ⟨H2, 0, none⟩), Ix (au), Nx (nk), .slice p23 (al.length) c24]) tt177 rfl rfl rfl) ?_
  intro w hw
  replace hw := hw.perm (L' := _ :: _ :: _ :: _ :: _ :: []) (by exact (((((perm_front 4 rfl).trans (perm_front 4 rfl)).trans (perm_front 3 rfl)).trans (perm_front 3 rfl)).trans (perm_front 4 rfl)))
  obtain ⟨β1, sb, kn, hw1, back⟩ := St.frame (L := [_]) (M := _ :: _ :: _ :: _ :: []) hw
  refine (do_eq β1 w H2 b1 (6 * k) (3000 * k) X hw1 au ((nk : Nat) : Int) _ al (kn _ (k_flN 2 (F := ActF) (m := al.length) rfl rfl)) (by omega) hfb (by omega) hr.d1).mono ?_
  rintro e w' ⟨p28, c29, rfl, hw'⟩
  refine ⟨_, rfl, _, back _ _ hw', ?_⟩
  clear hw hw1 hw' back kn sb
  refine l_val (v := .tuple #[.agg #[.bool (R.done), Ix (R.at_), Ix (R.e), .slice p28 (R.holds.length) c29], .int .i64 (0)]) rfl rfl rfl (e_move) ?_
  refine l_val (v := .agg #[.bool (R.done), Ix (R.at_), Ix (R.e), .slice p28 (R.holds.length) c29]) rfl rfl rfl (e_extract (vs := #[.agg #[.bool (R.done), Ix (R.at_), Ix (R.e), .slice p28 (R.holds.length) c29], .int .i64 (0)]) rfl rfl) ?_
  refine l_val (v := .int .i64 (0)) rfl rfl rfl (e_extract (vs := #[.agg #[.bool (R.done), Ix (R.at_), Ix (R.e), .slice p28 (R.holds.length) c29], .int .i64 (0)]) rfl rfl) ?_
  refine l_mv rfl rfl rfl (m_alloc tt53) ?_
  rintro _ _ ⟨b30, rfl, rfl⟩
  refine l_mu rfl rfl (m_store 0 tt61 (b := b30) (o := 0) (T := 37) (cs := #[.bool false, .int .i64 (0), .int .i64 (0), .slice none 0 0]) (cs' := #[.bool (R.done), Ix (R.at_), Ix (R.e), .slice p28 (R.holds.length) c29]) (v := .agg #[.bool (R.done), Ix (R.at_), Ix (R.e), .slice p28 (R.holds.length) c29]) rfl rfl rfl rfl rfl rfl rfl) ?_
  refine l_val (v := .int .i64 (0)) rfl rfl rfl (e_assign) ?_
  refine l_nil ?_
  refine f_then ?_
  refine c_seq ?_
  refine c_region ?_
  refine l_val (v := .pointer (some ⟨H2, 0, none⟩)) rfl rfl rfl (e_move) ?_
  refine l_val (v := .pointer (some ⟨b22, 1, none⟩)) rfl rfl rfl (e_fieldPt (b := b22) (o := 0) rfl tt167) ?_
  refine l_val (v := Ix (au)) rfl rfl rfl (e_load1 tt2 (v := Ix (au)) rfl (k_pt 6 (cs := #[Bx (x8.kind), Ix (au), Nx (nk), .slice p23 (al.length) c24]) (vs := [Ix (au)]) rfl rfl)) ?_
  refine l_call rfl rfl rfl (cl_value (fst := []) (cap := []) (vs := [.pointer (some ⟨H2, 0, none⟩), Ix (au)]) (all := [.pointer (some ⟨H2, 0, none⟩), Ix (au)]) tt189 rfl rfl rfl) ?_
  intro w hw
  replace hw := hw.perm (L' := _ :: _ :: _ :: _ :: _ :: _ :: _ :: []) (by exact (((((((perm_front 6 rfl).trans (perm_front 6 rfl)).trans (perm_front 6 rfl)).trans (perm_front 6 rfl)).trans (perm_front 5 rfl)).trans (perm_front 5 rfl)).trans (perm_front 6 rfl)))
  obtain ⟨β1, sb, kn, hw1, back⟩ := St.frame (L := [_]) (M := _ :: _ :: _ :: _ :: _ :: _ :: []) hw
  refine (last_eq β1 w H2 b1 ((6 * k) + 1) ((3000 * k) + 494) (-1) X1 hw1 au hr.la).mono ?_
  rintro e w' ⟨p31, c32, rfl, hw'⟩
  refine ⟨_, rfl, _, back _ _ hw', ?_⟩
  clear hw hw1 hw' back kn sb
  refine l_val (v := .tuple #[Nx (nk), .agg #[.bool (R.done), Ix (R.at_), Ix (R.e), .slice p31 (R.holds.length) c32], .bool true]) rfl rfl rfl (e_move) ?_
  refine l_val (v := Nx (nk)) rfl rfl rfl (e_extract (vs := #[Nx (nk), .agg #[.bool (R.done), Ix (R.at_), Ix (R.e), .slice p31 (R.holds.length) c32], .bool true]) rfl rfl) ?_
  refine l_val (v := .agg #[.bool (R.done), Ix (R.at_), Ix (R.e), .slice p31 (R.holds.length) c32]) rfl rfl rfl (e_extract (vs := #[Nx (nk), .agg #[.bool (R.done), Ix (R.at_), Ix (R.e), .slice p31 (R.holds.length) c32], .bool true]) rfl rfl) ?_
  refine l_val (v := .bool true) rfl rfl rfl (e_extract (vs := #[Nx (nk), .agg #[.bool (R.done), Ix (R.at_), Ix (R.e), .slice p31 (R.holds.length) c32], .bool true]) rfl rfl) ?_
  refine l_mv rfl rfl rfl (m_alloc tt53) ?_
  rintro _ _ ⟨b33, rfl, rfl⟩
  refine l_val (v := Nx (nk)) rfl rfl rfl (e_assign) ?_
  refine l_mu rfl rfl (m_store 0 tt61 (b := b33) (o := 0) (T := 37) (cs := #[.bool false, .int .i64 (0), .int .i64 (0), .slice none 0 0]) (cs' := #[.bool (R.done), Ix (R.at_), Ix (R.e), .slice p31 (R.holds.length) c32]) (v := .agg #[.bool (R.done), Ix (R.at_), Ix (R.e), .slice p31 (R.holds.length) c32]) rfl rfl rfl rfl rfl rfl rfl) ?_
  refine l_val (v := .bool true) rfl rfl rfl (e_assign) ?_
  refine l_nil ?_
  refine f_then ?_
  refine c_seq ?_
  refine c_seq ?_
  refine c_region ?_
  refine l_val (v := .int .i64 (0)) rfl rfl rfl (e_move) ?_
  refine l_val (v := .bool false) rfl rfl rfl (e_neq (a := (0 : Int)) (b := (0 : Int)) rfl rfl) ?_
  refine l_val (v := .bool false) rfl rfl rfl (e_move) ?_
  refine g_val (v := .bool true) rfl rfl rfl rfl rfl (e_move) ?_
  refine g_val (v := .bool false) rfl rfl rfl rfl rfl (e_not (a := true) rfl) ?_
  refine l_val (v := .bool false) rfl rfl rfl (e_pick_f rfl) ?_
  refine l_val (v := .bool false) rfl rfl rfl (e_move) ?_
  refine g_val (v := Nx (nk)) rfl rfl rfl rfl rfl (e_move) ?_
  refine g_val (v := .pointer (some ⟨b22, 2, none⟩)) rfl rfl rfl rfl rfl (e_fieldPt (b := b22) (o := 0) rfl tt190) ?_
  refine g_val (v := Nx (nk)) rfl rfl rfl rfl rfl (e_load1 tt2 (v := Nx (nk)) rfl (k_pt 8 (cs := #[Bx (x8.kind), Ix (au), Nx (nk), .slice p23 (al.length) c24]) (vs := [Nx (nk)]) rfl rfl)) ?_
  refine g_val (v := .bool (decide (((nk : Nat) : Int) ≠ ((nk : Nat) : Int)))) rfl rfl rfl rfl rfl (e_neq (a := ((nk : Nat) : Int)) (b := ((nk : Nat) : Int)) rfl rfl) ?_
  refine l_val (v := .bool (decide (((nk : Nat) : Int) ≠ ((nk : Nat) : Int)))) rfl rfl rfl (e_pick_f rfl) ?_
  refine l_val (v := .bool (decide (((nk : Nat) : Int) ≠ ((nk : Nat) : Int)))) rfl rfl rfl (e_move) ?_
  refine l_split (s := 99) (p := ((nk : Nat) : Int) ≠ ((nk : Nat) : Int)) rfl (fun h => ?_) (fun h => ?_)
  exact absurd h (fun q => q rfl)
  refine g_val (v := .agg #[.bool (R.done), Ix (R.at_), Ix (R.e), .slice p31 (R.holds.length) c32]) rfl rfl rfl rfl rfl (e_load tt61 (cs := [.bool (R.done), Ix (R.at_), Ix (R.e), .slice p31 (R.holds.length) c32]) rfl (k_pt 0 (cs := #[.bool (R.done), Ix (R.at_), Ix (R.e), .slice p31 (R.holds.length) c32]) (vs := [.bool (R.done), Ix (R.at_), Ix (R.e), .slice p31 (R.holds.length) c32]) rfl rfl) rfl) ?_
  refine g_val (v := .agg #[.bool (R.done), Ix (R.at_), Ix (R.e), .slice p28 (R.holds.length) c29]) rfl rfl rfl rfl rfl (e_load tt61 (cs := [.bool (R.done), Ix (R.at_), Ix (R.e), .slice p28 (R.holds.length) c29]) rfl (k_pt 3 (cs := #[.bool (R.done), Ix (R.at_), Ix (R.e), .slice p28 (R.holds.length) c29]) (vs := [.bool (R.done), Ix (R.at_), Ix (R.e), .slice p28 (R.holds.length) c29]) rfl rfl) rfl) ?_
  refine g_call rfl rfl rfl rfl rfl (cl_value (fst := []) (cap := []) (vs := [.agg #[.bool (R.done), Ix (R.at_), Ix (R.e), .slice p31 (R.holds.length) c32], .agg #[.bool (R.done), Ix (R.at_), Ix (R.e), .slice p28 (R.holds.length) c29]]) (all := [.agg #[.bool (R.done), Ix (R.at_), Ix (R.e), .slice p31 (R.holds.length) c32], .agg #[.bool (R.done), Ix (R.at_), Ix (R.e), .slice p28 (R.holds.length) c29]]) tt191 rfl rfl rfl) ?_
  intro w hw
  obtain ⟨β1, sb, kn, hw1, back⟩ := St.frame_all hw
  refine (samer_ok β1 w hw1 R.done R.done R.at_ R.at_ R.e R.e _ _ R.holds R.holds (kn _ (k_flN 1 (F := IntF) (m := R.holds.length) rfl rfl)) (kn _ (k_flN 4 (F := IntF) (m := R.holds.length) rfl rfl)) ⟨rfl, rfl, rfl, rfl⟩).mono ?_
  rintro e w' ⟨rfl, hw'⟩
  refine ⟨_, rfl, _, back _ _ hw', ?_⟩
  clear hw hw1 hw' back kn sb
  refine g_val (v := .bool false) rfl rfl rfl rfl rfl (e_not (a := true) rfl) ?_
  refine l_val (v := .bool false) rfl rfl rfl (e_pick_f rfl) ?_
  refine l_nil ?_
  refine f_then ?_
  refine c_no rfl ?_
  refine c_skip ?_
  refine f_then ?_
  refine c_seq ?_
  refine c_region ?_
  refine l_val (v := .pointer (some ⟨H2, 0, none⟩)) rfl rfl rfl (e_move) ?_
  refine l_call rfl rfl rfl (cl_value (fst := []) (cap := []) (vs := [.pointer (some ⟨H2, 0, none⟩)]) (all := [.pointer (some ⟨H2, 0, none⟩)]) tt179 rfl rfl rfl) ?_
  intro w hw
  replace hw := hw.perm (L' := _ :: _ :: _ :: _ :: _ :: _ :: _ :: _ :: _ :: []) (by exact (((((((((perm_front 8 rfl).trans (perm_front 8 rfl)).trans (perm_front 8 rfl)).trans (perm_front 8 rfl)).trans (perm_front 8 rfl)).trans (perm_front 8 rfl)).trans (perm_front 7 rfl)).trans (perm_front 7 rfl)).trans (perm_front 8 rfl)))
  obtain ⟨β1, sb, kn, hw1, back⟩ := St.frame (L := [_]) (M := _ :: _ :: _ :: _ :: _ :: _ :: _ :: _ :: []) hw
  refine (supply_ok β1 w H2 b1 ((6 * k) + 1) ((3000 * k) + 494) (-1) X1 hw1).mono ?_
  rintro e w' ⟨rfl, hw'⟩
  refine ⟨_, rfl, _, back _ _ hw', ?_⟩
  clear hw hw1 hw' back kn sb
  refine l_val (v := .pointer (some ⟨H2, 0, none⟩)) rfl rfl rfl (e_move) ?_
  refine l_call rfl rfl rfl (cl_value (fst := []) (cap := []) (vs := [.pointer (some ⟨H2, 0, none⟩)]) (all := [.pointer (some ⟨H2, 0, none⟩)]) tt180 rfl rfl rfl) ?_
  intro w hw
  replace hw := hw.perm (L' := _ :: _ :: _ :: _ :: _ :: _ :: _ :: _ :: _ :: []) (by exact (((((((((perm_front 8 rfl).trans (perm_front 8 rfl)).trans (perm_front 8 rfl)).trans (perm_front 8 rfl)).trans (perm_front 8 rfl)).trans (perm_front 8 rfl)).trans (perm_front 8 rfl)).trans (perm_front 8 rfl)).trans (perm_front 8 rfl)))
  obtain ⟨β1, sb, kn, hw1, back⟩ := St.frame (L := [_]) (M := _ :: _ :: _ :: _ :: _ :: _ :: _ :: _ :: []) hw
  refine (holds_ok β1 w H2 b1 ((6 * k) + 1) ((3000 * k) + 494) (-1) X1 hw1).mono ?_
  rintro e w' ⟨p34, c35, rfl, hw'⟩
  refine ⟨_, rfl, _, back _ _ hw', ?_⟩
  clear hw hw1 hw' back kn sb
  refine l_val (v := Nx ((holdsX X1).length)) rfl rfl rfl (e_len (a := p34) (n := (holdsX X1).length) (c := c35) rfl tt181) ?_
  refine l_mv rfl rfl rfl (m_alloc tt3) ?_
  rintro _ _ ⟨b36, rfl, rfl⟩
  refine l_mu rfl rfl (m_store 0 tt0 (b := b36) (o := 0) (T := 44) (cs := #[.int .i64 (0), .int .i64 (0), .int .i64 (0), .int .i64 (0)]) (cs' := (amC X1.s.su)) (v := .agg (amC X1.s.su)) rfl rfl rfl rfl rfl rfl rfl) ?_
  refine l_val (v := Nx ((holdsX X1).length)) rfl rfl rfl (e_assign) ?_
  refine l_nil ?_
  refine f_then ?_
  refine c_seq ?_
  refine c_region ?_
  refine l_val (v := .pointer (some ⟨H2, 0, none⟩)) rfl rfl rfl (e_move) ?_
  refine l_val (v := .pointer (some ⟨b22, 1, none⟩)) rfl rfl rfl (e_fieldPt (b := b22) (o := 0) rfl tt167) ?_
  refine l_val (v := Ix (au)) rfl rfl rfl (e_load1 tt2 (v := Ix (au)) rfl (k_pt 10 (cs := #[Bx (x8.kind), Ix (au), Nx (nk), .slice p23 (al.length) c24]) (vs := [Ix (au)]) rfl rfl)) ?_
  refine l_val (v := .pointer (some ⟨b22, 2, none⟩)) rfl rfl rfl (e_fieldPt (b := b22) (o := 0) rfl tt190) ?_
  refine l_val (v := Nx (nk)) rfl rfl rfl (e_load1 tt2 (v := Nx (nk)) rfl (k_pt 10 (cs := #[Bx (x8.kind), Ix (au), Nx (nk), .slice p23 (al.length) c24]) (vs := [Nx (nk)]) rfl rfl)) ?_
  refine l_val (v := .pointer (some ⟨b22, 3, none⟩)) rfl rfl rfl (e_fieldPt (b := b22) (o := 0) rfl tt171) ?_
  refine l_val (v := .slice p23 (al.length) c24) rfl rfl rfl (e_load1 tt23 (v := .slice p23 (al.length) c24) rfl (k_pt 10 (cs := #[Bx (x8.kind), Ix (au), Nx (nk), .slice p23 (al.length) c24]) (vs := [.slice p23 (al.length) c24]) rfl rfl)) ?_
  refine l_call rfl rfl rfl (cl_value (fst := []) (cap := []) (vs := [.pointer (some ⟨H2, 0, none⟩), Ix (au), Nx (nk), .slice p23 (al.length) c24]) (all := [.pointer (some ⟨H2, 0, none⟩), Ix (au), Nx (nk), .slice p23 (al.length) c24]) tt177 rfl rfl rfl) ?_
  intro w hw
  replace hw := hw.perm (L' := [houseR H2 b1 X1 ((6 * k) + 1) ((3000 * k) + 494) (-1), pt b36 (.cells (amC X1.s.su) 44), rowF HoF 104 p34 c35 (holdsX X1), pt b33 (.cells #[.bool (R.done), Ix (R.at_), Ix (R.e), .slice p31 (R.holds.length) c32] 37), rowF IntF 3 p31 c32 R.holds, pt b30 (.cells #[.bool (R.done), Ix (R.at_), Ix (R.e), .slice p28 (R.holds.length) c29] 37), rowF IntF 3 p28 c29 R.holds, pt b27 (.cells #[.bool (rwas.done), Ix (rwas.at_), Ix (rwas.e), .slice p25 (rwas.holds.length) c26] 37), rowF IntF 3 p25 c26 rwas.holds, rowF ActF 47 p23 c24 al, pt b22 (.cells #[Bx (x8.kind), Ix (au), Nx (nk), .slice p23 (al.length) c24] 32)]) (by exact (perm_ix [2, 0, 1, 3, 4, 5, 6, 7, 8, 9, 10] 11 rfl (by kernel_rfl) (by kernel_rfl)))
  obtain ⟨β1, sb, kn, hw1, back⟩ := St.frame (L := [_]) (M := _ :: _ :: _ :: _ :: _ :: _ :: _ :: _ :: _ :: _ :: []) hw
  refine (do_eq β1 w H2 b1 ((6 * k) + 1) ((3000 * k) + 494) X1 hw1 au ((nk : Nat) : Int) _ al (kn _ (k_flN 8 (F := ActF) (m := al.length) rfl rfl)) (by omega) hfb (by omega) hr.d2).mono ?_
  rintro e w' ⟨p37, c38, rfl, hw'⟩
  refine ⟨_, rfl, _, back _ _ hw', ?_⟩
  clear hw hw1 hw' back kn sb
  refine l_val (v := .tuple #[.agg #[.bool (R.done), Ix (R.at_), Ix (R.e), .slice p37 (R.holds.length) c38], .int .i64 (0)]) rfl rfl rfl (e_move) ?_
  refine l_val (v := .agg #[.bool (R.done), Ix (R.at_), Ix (R.e), .slice p37 (R.holds.length) c38]) rfl rfl rfl (e_extract (vs := #[.agg #[.bool (R.done), Ix (R.at_), Ix (R.e), .slice p37 (R.holds.length) c38], .int .i64 (0)]) rfl rfl) ?_
  refine l_val (v := .int .i64 (0)) rfl rfl rfl (e_extract (vs := #[.agg #[.bool (R.done), Ix (R.at_), Ix (R.e), .slice p37 (R.holds.length) c38], .int .i64 (0)]) rfl rfl) ?_
  refine l_mv rfl rfl rfl (m_alloc tt53) ?_
  rintro _ _ ⟨b39, rfl, rfl⟩
  refine l_mu rfl rfl (m_store 0 tt61 (b := b39) (o := 0) (T := 37) (cs := #[.bool false, .int .i64 (0), .int .i64 (0), .slice none 0 0]) (cs' := #[.bool (R.done), Ix (R.at_), Ix (R.e), .slice p37 (R.holds.length) c38]) (v := .agg #[.bool (R.done), Ix (R.at_), Ix (R.e), .slice p37 (R.holds.length) c38]) rfl rfl rfl rfl rfl rfl rfl) ?_
  refine l_val (v := .int .i64 (0)) rfl rfl rfl (e_assign) ?_
  refine l_nil ?_
  refine f_then ?_
  refine c_seq ?_
  refine c_any [⟨[], [], [0], [122], fun f => f 122 = .pointer (some ⟨H2, 0, none⟩)⟩, ⟨[], [], [1], [123], fun f => f 123 = .pointer (some ⟨b22, 1, none⟩)⟩, ⟨[1], [1], [], [124], fun f => f 124 = Ix (au)⟩, ⟨[], [], [1], [125], fun f => f 125 = .pointer (some ⟨b22, 2, none⟩)⟩, ⟨[3], [3], [], [126], fun f => f 126 = Nx (nk)⟩, ⟨[], [], [], [127], fun f => f 127 = .slice (some ⟨(blk (f 127)), 0, none⟩) (0) 0⟩, ⟨[], [], [1], [128], fun f => f 128 = .pointer (some ⟨b22, 3, none⟩)⟩, ⟨[6], [6], [], [129], fun f => f 129 = .slice p23 (al.length) c24⟩, ⟨[5, 6, 7], [5, 7], [], [130], fun f => f 130 = .slice (sla (f 130)) (al.length) (slc (f 130))⟩, ⟨[5, 6, 7, 8], [], [], [131], fun f => f 131 = .agg #[.int .u8 (7), .int .i64 (1), .int .i64 (0), .int .i64 (0), .int .i64 (0), .int .i64 (0), .int .i64 (0), .int .i64 (0)]⟩, ⟨[5, 6, 7, 8, 9], [9], [], [132], fun f => f 132 = .slice (some ⟨(blk (f 132)), 0, none⟩) 1 1⟩, ⟨[5, 6, 7, 8, 9, 10], [8, 10], [], [133], fun f => f 133 = .slice (sla (f 133)) ((al ++ [(⟨7, 1, 0, 0, zeroA⟩ : KAct)]).length) (slc (f 133))⟩, ⟨[0, 1, 2, 3, 4, 5, 6, 7, 8, 9, 10, 11], [0, 2, 4, 11], [], [134], fun f => f 134 = .tuple #[.agg #[.bool false, .int .i64 (0), .int .i64 (0), .slice (trA (f 134)) (0) (trC (f 134))], .int .i64 (331)]⟩, ⟨[0, 1, 2, 3, 4, 5, 6, 7, 8, 9, 10, 11, 12], [12], [], [121, 134], fun f => f 121 = .tuple #[.agg #[.bool false, .int .i64 (0), .int .i64 (0), .slice (trA (f 134)) (0) (trC (f 134))], .int .i64 (331)]⟩, ⟨[0, 1, 2, 3, 4, 5, 6, 7, 8, 9, 10, 11, 12, 13], [13], [], [134, 135], fun f => f 135 = .agg #[.bool false, .int .i64 (0), .int .i64 (0), .slice (trA (f 134)) (0) (trC (f 134))]⟩, ⟨[0, 1, 2, 3, 4, 5, 6, 7, 8, 9, 10, 11, 12, 13], [13], [], [136], fun f => f 136 = .int .i64 (331)⟩, ⟨[], [], [], [22], fun f => f 22 = .pointer (some ⟨(blk (f 22)), 0, none⟩)⟩, ⟨[0, 1, 2, 3, 4, 5, 6, 7, 8, 9, 10, 11, 12, 13, 14, 16], [16, 14], [], [], fun _ => True⟩, ⟨[0, 1, 2, 3, 4, 5, 6, 7, 8, 9, 10, 11, 12, 13, 14, 15, 16, 17], [15], [], [23], fun f => f 23 = .int .i64 (331)⟩] [⟨none, none, [], [], fun _ => pt b39 (.cells #[.bool (R.done), Ix (R.at_), Ix (R.e), .slice p37 (R.holds.length) c38] 37)⟩, ⟨none, none, [], [], fun _ => rowF IntF 3 p37 c38 R.holds⟩, ⟨none, (some 12), [12], [], fun _ => houseR H2 b1 X1 (((6 * k) + 1) + 1) (((3000 * k) + 494) + 494) (-1)⟩, ⟨none, none, [], [], fun _ => pt b36 (.cells (amC X1.s.su) 44)⟩, ⟨none, none, [], [], fun _ => rowF HoF 104 p34 c35 (holdsX X1)⟩, ⟨none, none, [], [], fun _ => pt b33 (.cells #[.bool (R.done), Ix (R.at_), Ix (R.e), .slice p31 (R.holds.length) c32] 37)⟩, ⟨none, none, [], [], fun _ => rowF IntF 3 p31 c32 R.holds⟩, ⟨none, none, [], [], fun _ => pt b30 (.cells #[.bool (R.done), Ix (R.at_), Ix (R.e), .slice p28 (R.holds.length) c29] 37)⟩, ⟨none, none, [], [], fun _ => rowF IntF 3 p28 c29 R.holds⟩, ⟨none, none, [], [], fun _ => pt b27 (.cells #[.bool (rwas.done), Ix (rwas.at_), Ix (rwas.e), .slice p25 (rwas.holds.length) c26] 37)⟩, ⟨none, none, [], [], fun _ => rowF IntF 3 p25 c26 rwas.holds⟩, ⟨none, none, [8], [], fun _ => rowF ActF 47 p23 c24 al⟩, ⟨none, none, [2, 4, 7], [], fun _ => pt b22 (.cells #[Bx (x8.kind), Ix (au), Nx (nk), .slice p23 (al.length) c24] 32)⟩, ⟨(some 5), (some 8), [8], [127], fun f => rowF ActF 47 (some ⟨(blk (f 127)), 0, none⟩) 0 []⟩, ⟨(some 8), (some 11), [11], [130], fun f => rowF ActF 47 (sla (f 130)) (slc (f 130)) al⟩, ⟨(some 10), none, [11], [132], fun f => pt (blk (f 132)) (.cells #[.int .u8 (7), .int .i64 (1), .int .i64 (0), .int .i64 (0), .int .i64 (0), .int .i64 (0), .int .i64 (0), .int .i64 (0)] 47)⟩, ⟨(some 11), none, [12], [133], fun f => rowF ActF 47 (sla (f 133)) (slc (f 133)) (al ++ [(⟨7, 1, 0, 0, zeroA⟩ : KAct)])⟩, ⟨(some 12), none, [], [134], fun f => rowF IntF 3 (trA (f 134)) (trC (f 134)) []⟩, ⟨(some 12), none, [], [], fun _ => houseR H2 b1 X1 ((((6 * k) + 1) + 1) + 1) ((((3000 * k) + 494) + 494) + 494) (-1)⟩, ⟨(some 16), (some 17), [17], [22], fun f => pt (blk (f 22)) (.cells #[.bool false, .int .i64 (0), .int .i64 (0), .slice none 0 0] 37)⟩, ⟨(some 17), none, [], [22, 134], fun f => pt (blk (f 22)) (.cells #[.bool false, .int .i64 (0), .int .i64 (0), .slice (trA (f 134)) (0) (trC (f 134))] 37)⟩] [(6, .pointer (some ⟨H2, 0, none⟩)), (9, .pointer (some ⟨b22, 0, none⟩)), (1, Bx (sk)), (10, Ix (was)), (12, .bool (so)), (13, .pointer (some ⟨b30, 0, none⟩)), (18, .pointer (some ⟨b36, 0, none⟩)), (19, Nx ((holdsX X1).length)), (20, .pointer (some ⟨b39, 0, none⟩)), (21, .int .i64 (0)), (44, .slice va (zs3.length) (vc)), (45, Nx (zs3.length)), (46, Nx (k))] [2, 0, 1, 3, 4, 5, 6, 7, 8, 9, 10, 11, 12] [] (by kernel_rfl) (by kernel_rfl) (by kernel_rfl) (by kernel_rfl) rfl ⟨rfl, rfl, rfl, rfl, rfl, rfl, rfl, rfl, rfl, rfl, rfl, rfl, rfl, trivial⟩ ⟨?_, ?_, ?_, ?_, ?_, ?_, ?_, ?_, ?_, ?_, ?_, ?_, ?_, ?_, ?_, ?_, ?_, ?_, ?_, trivial⟩ ?_
  ·rintro f M - ⟨i0, -⟩
   have hs6 : f 6 = .pointer (some ⟨H2, 0, none⟩) := i0
   refine ob_start (L' := M) (by rfl) (up_cons rfl hs6) ?_
   refine l_val (v := .pointer (some ⟨H2, 0, none⟩)) rfl rfl rfl (e_move) ?_
   refine l_nil ?_
   exact f_owes_d (up_cons rfl hs6) rfl (List.Perm.refl _)
  ·rintro f M - ⟨i0, -⟩
   have hs9 : f 9 = .pointer (some ⟨b22, 0, none⟩) := i0
   refine ob_start (L' := M) (by rfl) (up_cons rfl hs9) ?_
   refine l_val (v := .pointer (some ⟨b22, 1, none⟩)) rfl rfl rfl (e_fieldPt (b := b22) (o := 0) rfl tt167) ?_
   refine l_nil ?_
   exact f_owes_d (up_cons rfl hs9) rfl (List.Perm.refl _)
  ·rintro f M ⟨k0, -⟩ -
   have hs123 : f 123 = .pointer (some ⟨b22, 1, none⟩) := k0
   refine ob_start (L' := pt b22 (.cells #[Bx (x8.kind), Ix (au), Nx (nk), .slice p23 (al.length) c24] 32) :: M) (by rfl) (up_cons rfl hs123) ?_
   refine l_val (v := Ix (au)) rfl rfl rfl (e_load1 tt2 (v := Ix (au)) rfl (k_pt 0 (cs := #[Bx (x8.kind), Ix (au), Nx (nk), .slice p23 (al.length) c24]) (vs := [Ix (au)]) rfl rfl)) ?_
   refine l_nil ?_
   exact f_owes_d (up_cons rfl hs123) rfl (perm_front 0 rfl)
  ·rintro f M - ⟨i0, -⟩
   have hs9 : f 9 = .pointer (some ⟨b22, 0, none⟩) := i0
   refine ob_start (L' := M) (by rfl) (up_cons rfl hs9) ?_
   refine l_val (v := .pointer (some ⟨b22, 2, none⟩)) rfl rfl rfl (e_fieldPt (b := b22) (o := 0) rfl tt190) ?_
   refine l_nil ?_
   exact f_owes_d (up_cons rfl hs9) rfl (List.Perm.refl _)
  ·rintro f M ⟨k0, -⟩ -
   have hs125 : f 125 = .pointer (some ⟨b22, 2, none⟩) := k0
   refine ob_start (L' := pt b22 (.cells #[Bx (x8.kind), Ix (au), Nx (nk), .slice p23 (al.length) c24] 32) :: M) (by rfl) (up_cons rfl hs125) ?_
   refine l_val (v := Nx (nk)) rfl rfl rfl (e_load1 tt2 (v := Nx (nk)) rfl (k_pt 0 (cs := #[Bx (x8.kind), Ix (au), Nx (nk), .slice p23 (al.length) c24]) (vs := [Nx (nk)]) rfl rfl)) ?_
   refine l_nil ?_
   exact f_owes_d (up_cons rfl hs125) rfl (perm_front 0 rfl)
  ·rintro f M - -
   refine ob_start (L' := M) (by rfl) rfl ?_
   refine l_mv rfl rfl rfl (m_slice0 tt16) ?_
   rintro _ _ ⟨b41, rfl, rfl⟩
   refine l_conseq 0 rfl (r' := rowF ActF 47 (some ⟨b41, 0, none⟩) 0 []) (fun a h => pt_rowF (F := ActF) (xs := []) rfl (by decide) a h) ?_
   refine l_nil ?_
   exact f_owes_d rfl rfl (perm_front 0 rfl)
  ·rintro f M - ⟨i0, -⟩
   have hs9 : f 9 = .pointer (some ⟨b22, 0, none⟩) := i0
   refine ob_start (L' := M) (by rfl) (up_cons rfl hs9) ?_
   refine l_val (v := .pointer (some ⟨b22, 3, none⟩)) rfl rfl rfl (e_fieldPt (b := b22) (o := 0) rfl tt171) ?_
   refine l_nil ?_
   exact f_owes_d (up_cons rfl hs9) rfl (List.Perm.refl _)
  ·rintro f M ⟨k0, -⟩ -
   have hs128 : f 128 = .pointer (some ⟨b22, 3, none⟩) := k0
   refine ob_start (L' := pt b22 (.cells #[Bx (x8.kind), Ix (au), Nx (nk), .slice p23 (al.length) c24] 32) :: M) (by rfl) (up_cons rfl hs128) ?_
   refine l_val (v := .slice p23 (al.length) c24) rfl rfl rfl (e_load1 tt23 (v := .slice p23 (al.length) c24) rfl (k_pt 0 (cs := #[Bx (x8.kind), Ix (au), Nx (nk), .slice p23 (al.length) c24]) (vs := [.slice p23 (al.length) c24]) rfl rfl)) ?_
   refine l_nil ?_
   exact f_owes_d (up_cons rfl hs128) rfl (perm_front 0 rfl)
  ·rintro f M ⟨k0, k1, -⟩ -
   have hs127 : f 127 = .slice (some ⟨(blk (f 127)), 0, none⟩) (0) 0 := k0
   have hs129 : f 129 = .slice p23 (al.length) c24 := k1
   refine ob_start (L' := rowF ActF 47 p23 c24 al :: rowF ActF 47 (some ⟨(blk (f 127)), 0, none⟩) 0 [] :: M) (by rfl) (up_cons (up_cons rfl hs127) hs129) ?_
   refine l_mv rfl rfl rfl (m_appendFlN (F := ActF) 1 tt16 tt30 (p := (some ⟨(blk (f 127)), 0, none⟩)) (m := 0) (xs := []) (ys := al) (ao := p23) (k := al.length) (c := c24) rfl rfl rfl rfl rfl (Knows.imp (k_flN 0 (F := ActF) (m := al.length) rfl rfl) fun _ h => (Sl.parts h).2.2.2) (by first | omega | simp only [List.length_nil, List.length_cons, List.length_append, List.length_set]; omega) (by first | omega | simp only [List.length_nil, List.length_cons, List.length_append, List.length_set]; omega)) ?_
   rintro _ _ ⟨rp44, rc45, rfl, rfl⟩
   refine l_nil ?_
   exact f_owes_d (up_cons (up_cons rfl hs127) hs129) rfl ((perm_front 1 rfl).trans (perm_front 1 rfl))
  ·rintro f M - -
   refine ob_start (L' := M) (by rfl) rfl ?_
   refine l_call rfl rfl rfl (cl_value (fst := []) (cap := []) (vs := [.int .u8 (7), .int .i64 (1), .int .i64 (0), .int .i64 (0), .int .i64 (0)]) (all := [.int .u8 (7), .int .i64 (1), .int .i64 (0), .int .i64 (0), .int .i64 (0)]) tt172 rfl rfl rfl) ?_
   intro w hw
   obtain ⟨β1, sb, kn, hw1, back⟩ := St.frame_all hw
   refine (act_ok β1 w hw1 (7 : UInt8) 1 0 0 0).mono ?_
   rintro e w' ⟨rfl, hw'⟩
   refine ⟨_, rfl, _, back _ _ hw', ?_⟩
   clear hw hw1 hw' back kn sb
   refine l_nil ?_
   exact f_owes_d rfl rfl (List.Perm.refl _)
  ·rintro f M ⟨k0, -⟩ -
   have hs131 : f 131 = .agg #[.int .u8 (7), .int .i64 (1), .int .i64 (0), .int .i64 (0), .int .i64 (0), .int .i64 (0), .int .i64 (0), .int .i64 (0)] := k0
   refine ob_start (L' := M) (by rfl) (up_cons rfl hs131) ?_
   refine l_mv rfl rfl rfl (m_slices tt16 tt47 (vs := [(0, .agg #[.int .u8 (7), .int .i64 (1), .int .i64 (0), .int .i64 (0), .int .i64 (0), .int .i64 (0), .int .i64 (0), .int .i64 (0)])]) (cells := #[.int .u8 (7), .int .i64 (1), .int .i64 (0), .int .i64 (0), .int .i64 (0), .int .i64 (0), .int .i64 (0), .int .i64 (0)]) rfl rfl rfl (by kernel_rfl)) ?_
   rintro _ _ ⟨b47, rfl, rfl⟩
   refine l_nil ?_
   exact f_owes_d (up_cons rfl hs131) rfl (perm_front 0 rfl)
  ·rintro f M ⟨k0, k1, -⟩ -
   have hs130 : f 130 = .slice (sla (f 130)) (al.length) (slc (f 130)) := k0
   have hs132 : f 132 = .slice (some ⟨(blk (f 132)), 0, none⟩) 1 1 := k1
   refine ob_start (L' := rowF ActF 47 (sla (f 130)) (slc (f 130)) al :: pt (blk (f 132)) (.cells #[.int .u8 (7), .int .i64 (1), .int .i64 (0), .int .i64 (0), .int .i64 (0), .int .i64 (0), .int .i64 (0), .int .i64 (0)] 47) :: M) (by rfl) (up_cons (up_cons rfl hs130) hs132) ?_
   refine l_mv rfl rfl rfl (m_appendFlN (F := ActF) 0 tt16 tt30 (p := (sla (f 130))) (m := al.length) (xs := al) (ys := [(⟨7, 1, 0, 0, zeroA⟩ : KAct)]) (ao := (some ⟨(blk (f 132)), 0, none⟩)) (k := 1) (c := 1) rfl rfl rfl rfl rfl (k_ptFl (z := (⟨7, 1, 0, 0, zeroA⟩ : KAct)) 1 rfl rfl) (by first | omega | simp only [List.length_nil, List.length_cons, List.length_append, List.length_set]; omega) (by first | omega | simp only [List.length_nil, List.length_cons, List.length_append, List.length_set]; omega)) ?_
   rintro _ _ ⟨rp50, rc51, rfl, rfl⟩
   refine l_nil ?_
   exact f_owes_d (up_cons (up_cons rfl hs130) hs132) rfl ((perm_front 0 rfl).trans (perm_front 1 rfl))
  ·rintro f M ⟨k0, k1, k2, k3, -⟩ -
   have hs122 : f 122 = .pointer (some ⟨H2, 0, none⟩) := k0
   have hs124 : f 124 = Ix (au) := k1
   have hs126 : f 126 = Nx (nk) := k2
   have hs133 : f 133 = .slice (sla (f 133)) ((al ++ [(⟨7, 1, 0, 0, zeroA⟩ : KAct)]).length) (slc (f 133)) := k3
   refine ob_start (L' := houseR H2 b1 X1 (((6 * k) + 1) + 1) (((3000 * k) + 494) + 494) (-1) :: rowF ActF 47 (sla (f 133)) (slc (f 133)) (al ++ [(⟨7, 1, 0, 0, zeroA⟩ : KAct)]) :: M) (by rfl) (up_cons (up_cons (up_cons (up_cons rfl hs122) hs124) hs126) hs133) ?_
   refine l_call rfl rfl rfl (cl_value (fst := []) (cap := []) (vs := [.pointer (some ⟨H2, 0, none⟩), Ix (au), Nx (nk), .slice (sla (f 133)) ((al ++ [(⟨7, 1, 0, 0, zeroA⟩ : KAct)]).length) (slc (f 133))]) (all := [.pointer (some ⟨H2, 0, none⟩), Ix (au), Nx (nk), .slice (sla (f 133)) ((al ++ [(⟨7, 1, 0, 0, zeroA⟩ : KAct)]).length) (slc (f 133))]) tt177 rfl rfl rfl) ?_
   intro w hw
   replace hw := hw.perm (L' := _ :: _ :: M) (by exact ((perm_front 1 rfl).trans (perm_front 1 rfl)))
   obtain ⟨β1, sb, kn, hw1, back⟩ := St.frame (L := [_]) (M := _ :: M) hw
   refine (do_eq β1 w H2 b1 (((6 * k) + 1) + 1) (((3000 * k) + 494) + 494) X1 hw1 au ((nk : Nat) : Int) _ (al ++ [(⟨7, 1, 0, 0, zeroA⟩ : KAct)]) (kn _ (k_flN 0 (F := ActF) (m := (al ++ [(⟨7, 1, 0, 0, zeroA⟩ : KAct)]).length) rfl rfl)) (by simp; omega) (snoc_hb hfb) (by omega) (doF_other hfm3 hr.m1 (snoc_ne _ _))).mono ?_
   rintro e w' ⟨p54, c55, rfl, hw'⟩
   refine ⟨_, rfl, _, back _ _ hw', ?_⟩
   clear hw hw1 hw' back kn sb
   refine l_nil ?_
   exact f_owes_d (up_cons (up_cons (up_cons (up_cons rfl hs122) hs124) hs126) hs133) rfl (((perm_front 1 rfl).trans (perm_front 1 rfl)).trans (perm_front 2 rfl))
  ·rintro f M ⟨k0, -⟩ -
   have hs134 : f 134 = .tuple #[.agg #[.bool false, .int .i64 (0), .int .i64 (0), .slice (trA (f 134)) (0) (trC (f 134))], .int .i64 (331)] := k0
   refine ob_start (L' := M) (by rfl) (up_cons rfl hs134) ?_
   refine l_val (v := .tuple #[.agg #[.bool false, .int .i64 (0), .int .i64 (0), .slice (trA (f 134)) (0) (trC (f 134))], .int .i64 (331)]) rfl rfl rfl (e_move) ?_
   refine l_nil ?_
   exact f_owes_d (up_cons rfl hs134) rfl (List.Perm.refl _)
  ·rintro f M ⟨k0, -⟩ -
   have hs121 : f 121 = .tuple #[.agg #[.bool false, .int .i64 (0), .int .i64 (0), .slice (trA (f 134)) (0) (trC (f 134))], .int .i64 (331)] := k0
   refine ob_start (L' := M) (by rfl) (up_cons rfl hs121) ?_
   refine l_val (v := .agg #[.bool false, .int .i64 (0), .int .i64 (0), .slice (trA (f 134)) (0) (trC (f 134))]) rfl rfl rfl (e_extract (vs := #[.agg #[.bool false, .int .i64 (0), .int .i64 (0), .slice (trA (f 134)) (0) (trC (f 134))], .int .i64 (331)]) rfl rfl) ?_
   refine l_nil ?_
   exact f_owes_d (up_cons rfl hs121) rfl (List.Perm.refl _)
  ·rintro f M ⟨k0, -⟩ -
   have hs121 : f 121 = .tuple #[.agg #[.bool false, .int .i64 (0), .int .i64 (0), .slice (trA (f 134)) (0) (trC (f 134))], .int .i64 (331)] := k0
   refine ob_start (L' := M) (by rfl) (up_cons rfl hs121) ?_
   refine l_val (v := .int .i64 (331)) rfl rfl rfl (e_extract (vs := #[.agg #[.bool false, .int .i64 (0), .int .i64 (0), .slice (trA (f 134)) (0) (trC (f 134))], .int .i64 (331)]) rfl rfl) ?_
   refine l_nil ?_
   exact f_owes_d (up_cons rfl hs121) rfl (List.Perm.refl _)
  ·rintro f M - -
   refine ob_start (L' := M) (by rfl) rfl ?_
   refine l_mv rfl rfl rfl (m_alloc tt53) ?_
   rintro _ _ ⟨b57, rfl, rfl⟩
   refine l_nil ?_
   exact f_owes_d rfl rfl (perm_front 0 rfl)
  ·rintro f M ⟨k0, k1, -⟩ -
   have hs22 : f 22 = .pointer (some ⟨(blk (f 22)), 0, none⟩) := k0
   have hs135 : f 135 = .agg #[.bool false, .int .i64 (0), .int .i64 (0), .slice (trA (f 134)) (0) (trC (f 134))] := k1
   refine ob_start (L' := pt (blk (f 22)) (.cells #[.bool false, .int .i64 (0), .int .i64 (0), .slice none 0 0] 37) :: M) (by rfl) (up_cons (up_cons rfl hs22) hs135) ?_
   refine l_mu rfl rfl (m_store 0 tt61 (b := (blk (f 22))) (o := 0) (T := 37) (cs := #[.bool false, .int .i64 (0), .int .i64 (0), .slice none 0 0]) (cs' := #[.bool false, .int .i64 (0), .int .i64 (0), .slice (trA (f 134)) (0) (trC (f 134))]) (v := .agg #[.bool false, .int .i64 (0), .int .i64 (0), .slice (trA (f 134)) (0) (trC (f 134))]) rfl rfl rfl rfl rfl rfl rfl) ?_
   refine l_nil ?_
   exact f_owes_n (up_cons (up_cons rfl hs22) hs135) trivial (perm_front 0 rfl)
  ·rintro f M ⟨k0, -⟩ -
   have hs136 : f 136 = .int .i64 (331) := k0
   refine ob_start (L' := M) (by rfl) (up_cons rfl hs136) ?_
   refine l_val (v := .int .i64 (331)) rfl rfl rfl (e_assign) ?_
   refine l_nil ?_
   exact f_owes_d (up_cons rfl hs136) rfl (List.Perm.refl _)
  rintro fa58 ⟨-, -, -, -, -, -, -, -, -, -, -, -, -, -, -, -, -, -, k18, -⟩ ⟨j0, j1, j2, j3, j4, j5, j6, j7, j8, j9, j10, j11, j12, -⟩
  refine f_re (L' := [pt b39 (.cells #[.bool (R.done), Ix (R.at_), Ix (R.e), .slice p37 (R.holds.length) c38] 37), rowF IntF 3 p37 c38 R.holds, pt b36 (.cells (amC X1.s.su) 44), rowF HoF 104 p34 c35 (holdsX X1), pt b33 (.cells #[.bool (R.done), Ix (R.at_), Ix (R.e), .slice p31 (R.holds.length) c32] 37), rowF IntF 3 p31 c32 R.holds, pt b30 (.cells #[.bool (R.done), Ix (R.at_), Ix (R.e), .slice p28 (R.holds.length) c29] 37), rowF IntF 3 p28 c29 R.holds, pt b27 (.cells #[.bool (rwas.done), Ix (rwas.at_), Ix (rwas.e), .slice p25 (rwas.holds.length) c26] 37), rowF IntF 3 p25 c26 rwas.holds, rowF ActF 47 p23 c24 al, pt b22 (.cells #[Bx (x8.kind), Ix (au), Nx (nk), .slice p23 (al.length) c24] 32), pt (blk (fa58 132)) (.cells #[.int .u8 (7), .int .i64 (1), .int .i64 (0), .int .i64 (0), .int .i64 (0), .int .i64 (0), .int .i64 (0), .int .i64 (0)] 47), rowF ActF 47 (sla (fa58 133)) (slc (fa58 133)) (al ++ [(⟨7, 1, 0, 0, zeroA⟩ : KAct)]), rowF IntF 3 (trA (fa58 134)) (trC (fa58 134)) [], houseR H2 b1 X1 ((((6 * k) + 1) + 1) + 1) ((((3000 * k) + 494) + 494) + 494) (-1), pt (blk (fa58 22)) (.cells #[.bool false, .int .i64 (0), .int .i64 (0), .slice (trA (fa58 134)) (0) (trC (fa58 134))] 37)]) (by rfl) ?_
  refine f_rebase (d := 1) (v := Bx (sk)) j0 ?_
  refine f_rebase (d := 6) (v := .pointer (some ⟨H2, 0, none⟩)) j1 ?_
  refine f_rebase (d := 9) (v := .pointer (some ⟨b22, 0, none⟩)) j2 ?_
  refine f_rebase (d := 10) (v := Ix (was)) j3 ?_
  refine f_rebase (d := 12) (v := .bool (so)) j4 ?_
  refine f_rebase (d := 13) (v := .pointer (some ⟨b30, 0, none⟩)) j5 ?_
  refine f_rebase (d := 18) (v := .pointer (some ⟨b36, 0, none⟩)) j6 ?_
  refine f_rebase (d := 19) (v := Nx ((holdsX X1).length)) j7 ?_
  refine f_rebase (d := 20) (v := .pointer (some ⟨b39, 0, none⟩)) j8 ?_
  refine f_rebase (d := 21) (v := .int .i64 (0)) j9 ?_
  refine f_rebase (d := 23) (v := .int .i64 (331)) k18 ?_
  refine f_rebase (d := 44) (v := .slice va (zs3.length) (vc)) j10 ?_
  refine f_rebase (d := 45) (v := Nx (zs3.length)) j11 ?_
  refine f_rebase (d := 46) (v := Nx (k)) j12 ?_
  refine f_then ?_
  refine c_seq ?_
  refine c_region ?_
  refine l_val (v := .pointer (some ⟨H2, 0, none⟩)) rfl rfl rfl (e_move) ?_
  refine l_val (v := .pointer (some ⟨b22, 1, none⟩)) rfl rfl rfl (e_fieldPt (b := b22) (o := 0) rfl tt167) ?_
  refine l_val (v := Ix (au)) rfl rfl rfl (e_load1 tt2 (v := Ix (au)) rfl (k_pt 11 (cs := #[Bx (x8.kind), Ix (au), Nx (nk), .slice p23 (al.length) c24]) (vs := [Ix (au)]) rfl rfl)) ?_
  refine l_val (v := .pointer (some ⟨b22, 2, none⟩)) rfl rfl rfl (e_fieldPt (b := b22) (o := 0) rfl tt190) ?_
  refine l_val (v := Nx (nk)) rfl rfl rfl (e_load1 tt2 (v := Nx (nk)) rfl (k_pt 11 (cs := #[Bx (x8.kind), Ix (au), Nx (nk), .slice p23 (al.length) c24]) (vs := [Nx (nk)]) rfl rfl)) ?_
  refine l_val (v := Ix (((nk : Nat) : Int) - (1 : Int))) rfl rfl rfl (e_sub (a := ((nk : Nat) : Int)) (b := (1 : Int)) rfl rfl (i64w (by omega))) ?_
  refine l_val (v := .pointer (some ⟨b22, 3, none⟩)) rfl rfl rfl (e_fieldPt (b := b22) (o := 0) rfl tt171) ?_
  refine l_val (v := .slice p23 (al.length) c24) rfl rfl rfl (e_load1 tt23 (v := .slice p23 (al.length) c24) rfl (k_pt 11 (cs := #[Bx (x8.kind), Ix (au), Nx (nk), .slice p23 (al.length) c24]) (vs := [.slice p23 (al.length) c24]) rfl rfl)) ?_
  refine l_call rfl rfl rfl (cl_value (fst := []) (cap := []) (vs := [.pointer (some ⟨H2, 0, none⟩), Ix (au), Ix (((nk : Nat) : Int) - (1 : Int)), .slice p23 (al.length) c24]) (all := [.pointer (some ⟨H2, 0, none⟩), Ix (au), Ix (((nk : Nat) : Int) - (1 : Int)), .slice p23 (al.length) c24]) tt177 rfl rfl rfl) ?_
  intro w hw
  replace hw := hw.perm (L' := [houseR H2 b1 X1 ((((6 * k) + 1) + 1) + 1) ((((3000 * k) + 494) + 494) + 494) (-1), pt b39 (.cells #[.bool (R.done), Ix (R.at_), Ix (R.e), .slice p37 (R.holds.length) c38] 37), rowF IntF 3 p37 c38 R.holds, pt b36 (.cells (amC X1.s.su) 44), rowF HoF 104 p34 c35 (holdsX X1), pt b33 (.cells #[.bool (R.done), Ix (R.at_), Ix (R.e), .slice p31 (R.holds.length) c32] 37), rowF IntF 3 p31 c32 R.holds, pt b30 (.cells #[.bool (R.done), Ix (R.at_), Ix (R.e), .slice p28 (R.holds.length) c29] 37), rowF IntF 3 p28 c29 R.holds, pt b27 (.cells #[.bool (rwas.done), Ix (rwas.at_), Ix (rwas.e), .slice p25 (rwas.holds.length) c26] 37), rowF IntF 3 p25 c26 rwas.holds, rowF ActF 47 p23 c24 al, pt b22 (.cells #[Bx (x8.kind), Ix (au), Nx (nk), .slice p23 (al.length) c24] 32), pt (blk (fa58 132)) (.cells #[.int .u8 (7), .int .i64 (1), .int .i64 (0), .int .i64 (0), .int .i64 (0), .int .i64 (0), .int .i64 (0), .int .i64 (0)] 47), rowF ActF 47 (sla (fa58 133)) (slc (fa58 133)) (al ++ [(⟨7, 1, 0, 0, zeroA⟩ : KAct)]), rowF IntF 3 (trA (fa58 134)) (trC (fa58 134)) [], pt (blk (fa58 22)) (.cells #[.bool false, .int .i64 (0), .int .i64 (0), .slice (trA (fa58 134)) (0) (trC (fa58 134))] 37)]) (by exact (perm_ix [15, 0, 1, 2, 3, 4, 5, 6, 7, 8, 9, 10, 11, 12, 13, 14, 16] 17 rfl (by kernel_rfl) (by kernel_rfl)))
  obtain ⟨β1, sb, kn, hw1, back⟩ := St.frame (L := [_]) (M := _ :: _ :: _ :: _ :: _ :: _ :: _ :: _ :: _ :: _ :: _ :: _ :: _ :: _ :: _ :: _ :: []) hw
  refine (do_eq β1 w H2 b1 ((((6 * k) + 1) + 1) + 1) ((((3000 * k) + 494) + 494) + 494) X1 hw1 au (((nk : Nat) : Int) - (1 : Int)) _ al (kn _ (k_flN 10 (F := ActF) (m := al.length) rfl rfl)) (by omega) hfb (by omega) (doF_late hfm4 hr.m1 (by show _ < ((nk : Nat) : Int); omega))).mono ?_
  rintro e w' ⟨p59, c60, rfl, hw'⟩
  refine ⟨_, rfl, _, back _ _ hw', ?_⟩
  clear hw hw1 hw' back kn sb
  refine l_val (v := .tuple #[.agg #[.bool false, .int .i64 (0), .int .i64 (0), .slice p59 (0) c60], .int .i64 (332)]) rfl rfl rfl (e_move) ?_
  refine l_val (v := .agg #[.bool false, .int .i64 (0), .int .i64 (0), .slice p59 (0) c60]) rfl rfl rfl (e_extract (vs := #[.agg #[.bool false, .int .i64 (0), .int .i64 (0), .slice p59 (0) c60], .int .i64 (332)]) rfl rfl) ?_
  refine l_val (v := .int .i64 (332)) rfl rfl rfl (e_extract (vs := #[.agg #[.bool false, .int .i64 (0), .int .i64 (0), .slice p59 (0) c60], .int .i64 (332)]) rfl rfl) ?_
  refine l_mv rfl rfl rfl (m_alloc tt53) ?_
  rintro _ _ ⟨b61, rfl, rfl⟩
  refine l_mu rfl rfl (m_store 0 tt61 (b := b61) (o := 0) (T := 37) (cs := #[.bool false, .int .i64 (0), .int .i64 (0), .slice none 0 0]) (cs' := #[.bool false, .int .i64 (0), .int .i64 (0), .slice p59 (0) c60]) (v := .agg #[.bool false, .int .i64 (0), .int .i64 (0), .slice p59 (0) c60]) rfl rfl rfl rfl rfl rfl rfl) ?_
  refine l_val (v := .int .i64 (332)) rfl rfl rfl (e_assign) ?_
  refine l_nil ?_
  refine f_then ?_
  refine c_seq ?_
  refine c_seq ?_
  refine c_any [⟨[], [], [0], [149], fun f => f 149 = .int .i64 (0)⟩, ⟨[0], [0], [], [150], fun f => f 150 = .bool false⟩, ⟨[0, 1], [1], [], [151], fun f => f 151 = .bool false⟩, ⟨[0, 1, 2], [2], [1], [152], fun f => f 152 = .agg #[.bool (R.done), Ix (R.at_), Ix (R.e), .slice p37 (R.holds.length) c38]⟩, ⟨[0, 1, 2], [2], [2], [153], fun f => f 153 = .agg #[.bool (R.done), Ix (R.at_), Ix (R.e), .slice p28 (R.holds.length) c29]⟩, ⟨[0, 1, 2, 3, 4], [3, 4, 2], [], [154], fun f => f 154 = .bool true⟩, ⟨[0, 1, 2, 3, 4, 5], [5, 2], [], [155], fun f => f 155 = .bool false⟩, ⟨[0, 1, 2, 3, 4, 5, 6], [2, 6], [], [156], fun f => f 156 = .bool false⟩, ⟨[0, 1, 2, 3, 4, 5, 6, 7], [7], [], [157], fun f => f 157 = .bool false⟩, ⟨[0, 1, 2, 3, 4, 5, 6, 7, 8], [8], [3], [158], fun f => f 158 = .int .i64 (331)⟩, ⟨[0, 1, 2, 3, 4, 5, 6, 7, 8, 9], [9, 8], [], [159], fun f => f 159 = .bool false⟩, ⟨[0, 1, 2, 3, 4, 5, 6, 7, 8, 9, 10], [8, 10], [], [160], fun f => f 160 = .bool false⟩, ⟨[0, 1, 2, 3, 4, 5, 6, 7, 8, 9, 10, 11], [11], [], [161], fun f => f 161 = .bool false⟩, ⟨[0, 1, 2, 3, 4, 5, 6, 7, 8, 9, 10, 11, 12], [12], [4], [162], fun f => f 162 = .int .i64 (332)⟩, ⟨[0, 1, 2, 3, 4, 5, 6, 7, 8, 9, 10, 11, 12, 13], [13, 12], [], [163], fun f => f 163 = .bool false⟩, ⟨[0, 1, 2, 3, 4, 5, 6, 7, 8, 9, 10, 11, 12, 13, 14], [12, 14], [], [164], fun f => f 164 = .bool false⟩, ⟨[0, 1, 2, 3, 4, 5, 6, 7, 8, 9, 10, 11, 12, 13, 14, 15], [15], [], [165], fun f => f 165 = .bool false⟩, ⟨[0, 1, 2, 3, 4, 5, 6, 7, 8, 9, 10, 11, 12, 13, 14, 15, 16], [16], [5], [166], fun f => f 166 = .pointer (some ⟨H2, 0, none⟩)⟩, ⟨[0, 1, 2, 3, 4, 5, 6, 7, 8, 9, 10, 11, 12, 13, 14, 15, 16, 17], [17, 16], [], [167], fun f => f 167 = .agg (amC X1.s.su)⟩, ⟨[0, 1, 2, 3, 4, 5, 6, 7, 8, 9, 10, 11, 12, 13, 14, 15, 16], [16], [6], [168], fun f => f 168 = .agg (amC X1.s.su)⟩, ⟨[0, 1, 2, 3, 4, 5, 6, 7, 8, 9, 10, 11, 12, 13, 14, 15, 16, 17, 18, 19], [18, 19, 16], [], [169], fun f => f 169 = .bool false⟩, ⟨[0, 1, 2, 3, 4, 5, 6, 7, 8, 9, 10, 11, 12, 13, 14, 15, 16, 17, 18, 19, 20], [16, 20], [], [170], fun f => f 170 = .bool false⟩, ⟨[0, 1, 2, 3, 4, 5, 6, 7, 8, 9, 10, 11, 12, 13, 14, 15, 16, 17, 18, 19, 20, 21], [21], [], [171], fun f => f 171 = .bool false⟩, ⟨[0, 1, 2, 3, 4, 5, 6, 7, 8, 9, 10, 11, 12, 13, 14, 15, 16, 17, 18, 19, 20, 21, 22], [22], [5], [172], fun f => f 172 = .pointer (some ⟨H2, 0, none⟩)⟩, ⟨[0, 1, 2, 3, 4, 5, 6, 7, 8, 9, 10, 11, 12, 13, 14, 15, 16, 17, 18, 19, 20, 21, 22, 23], [23, 22], [], [173], fun f => f 173 = .slice (sla (f 173)) ((holdsX X1).length) (slc (f 173))⟩, ⟨[0, 1, 2, 3, 4, 5, 6, 7, 8, 9, 10, 11, 12, 13, 14, 15, 16, 17, 18, 19, 20, 21, 22, 23, 24], [24, 22], [], [174], fun f => f 174 = Nx ((holdsX X1).length)⟩, ⟨[0, 1, 2, 3, 4, 5, 6, 7, 8, 9, 10, 11, 12, 13, 14, 15, 16, 17, 18, 19, 20, 21, 22], [22], [7], [175], fun f => f 175 = Nx ((holdsX X1).length)⟩, ⟨[0, 1, 2, 3, 4, 5, 6, 7, 8, 9, 10, 11, 12, 13, 14, 15, 16, 17, 18, 19, 20, 21, 22, 23, 24, 25, 26], [25, 26, 22], [], [176], fun f => f 176 = .bool false⟩, ⟨[0, 1, 2, 3, 4, 5, 6, 7, 8, 9, 10, 11, 12, 13, 14, 15, 16, 17, 18, 19, 20, 21, 22, 23, 24, 25, 26, 27], [22, 27], [], [177], fun f => f 177 = .bool false⟩] [⟨none, none, [], [], fun _ => pt b61 (.cells #[.bool false, .int .i64 (0), .int .i64 (0), .slice p59 (0) c60] 37)⟩, ⟨none, none, [], [], fun _ => rowF IntF 3 p59 c60 []⟩, ⟨none, none, [18, 24], [], fun _ => houseR H2 b1 X1 (((((6 * k) + 1) + 1) + 1) + 1) (((((3000 * k) + 494) + 494) + 494) + 494) (-1)⟩, ⟨none, none, [3], [], fun _ => pt b39 (.cells #[.bool (R.done), Ix (R.at_), Ix (R.e), .slice p37 (R.holds.length) c38] 37)⟩, ⟨none, none, [5], [], fun _ => rowF IntF 3 p37 c38 R.holds⟩, ⟨none, none, [19], [], fun _ => pt b36 (.cells (amC X1.s.su) 44)⟩, ⟨none, none, [], [], fun _ => rowF HoF 104 p34 c35 (holdsX X1)⟩, ⟨none, none, [], [], fun _ => pt b33 (.cells #[.bool (R.done), Ix (R.at_), Ix (R.e), .slice p31 (R.holds.length) c32] 37)⟩, ⟨none, none, [], [], fun _ => rowF IntF 3 p31 c32 R.holds⟩, ⟨none, none, [4], [], fun _ => pt b30 (.cells #[.bool (R.done), Ix (R.at_), Ix (R.e), .slice p28 (R.holds.length) c29] 37)⟩, ⟨none, none, [5], [], fun _ => rowF IntF 3 p28 c29 R.holds⟩, ⟨none, none, [], [], fun _ => pt b27 (.cells #[.bool (rwas.done), Ix (rwas.at_), Ix (rwas.e), .slice p25 (rwas.holds.length) c26] 37)⟩, ⟨none, none, [], [], fun _ => rowF IntF 3 p25 c26 rwas.holds⟩, ⟨none, none, [], [], fun _ => rowF ActF 47 p23 c24 al⟩, ⟨none, none, [], [], fun _ => pt b22 (.cells #[Bx (x8.kind), Ix (au), Nx (nk), .slice p23 (al.length) c24] 32)⟩, ⟨none, none, [], [], fun _ => pt (blk (fa58 132)) (.cells #[.int .u8 (7), .int .i64 (1), .int .i64 (0), .int .i64 (0), .int .i64 (0), .int .i64 (0), .int .i64 (0), .int .i64 (0)] 47)⟩, ⟨none, none, [], [], fun _ => rowF ActF 47 (sla (fa58 133)) (slc (fa58 133)) (al ++ [(⟨7, 1, 0, 0, zeroA⟩ : KAct)])⟩, ⟨none, none, [], [], fun _ => rowF IntF 3 (trA (fa58 134)) (trC (fa58 134)) []⟩, ⟨none, none, [], [], fun _ => pt (blk (fa58 22)) (.cells #[.bool false, .int .i64 (0), .int .i64 (0), .slice (trA (fa58 134)) (0) (trC (fa58 134))] 37)⟩, ⟨(some 24), none, [], [173], fun f => rowF HoF 104 (sla (f 173)) (slc (f 173)) (holdsX X1)⟩] [(21, .int .i64 (0)), (20, .pointer (some ⟨b39, 0, none⟩)), (13, .pointer (some ⟨b30, 0, none⟩)), (23, .int .i64 (331)), (25, .int .i64 (332)), (6, .pointer (some ⟨H2, 0, none⟩)), (18, .pointer (some ⟨b36, 0, none⟩)), (19, Nx ((holdsX X1).length)), (1, Bx (sk)), (9, .pointer (some ⟨b22, 0, none⟩)), (10, Ix (was)), (12, .bool (so)), (44, .slice va (zs3.length) (vc)), (45, Nx (zs3.length)), (46, Nx (k))] [8, 5, 9, 10, 11, 12, 13, 14] [] (by kernel_rfl) (by kernel_rfl) (by kernel_rfl) (by kernel_rfl) rfl ⟨rfl, rfl, rfl, rfl, rfl, rfl, rfl, rfl, rfl, rfl, rfl, rfl, rfl, rfl, rfl, trivial⟩ ⟨?_, ?_, ?_, ?_, ?_, ?_, ?_, ?_, ?_, ?_, ?_, ?_, ?_, ?_, ?_, ?_, ?_, ?_, ?_, ?_, ?_, ?_, ?_, ?_, ?_, ?_, ?_, ?_, ?_, trivial⟩ ?_
  ·rintro f M - ⟨i0, -⟩
   have hs21 : f 21 = .int .i64 (0) := i0
   refine ob_start (L' := M) (by rfl) (up_cons rfl hs21) ?_
   refine l_val (v := .int .i64 (0)) rfl rfl rfl (e_move) ?_
   refine l_nil ?_
   exact f_owes_d (up_cons rfl hs21) rfl (List.Perm.refl _)
  ·rintro f M ⟨k0, -⟩ -
   have hs149 : f 149 = .int .i64 (0) := k0
   refine ob_start (L' := M) (by rfl) (up_cons rfl hs149) ?_
   refine l_val (v := .bool false) rfl rfl rfl (e_neq (a := (0 : Int)) (b := (0 : Int)) rfl rfl) ?_
   refine l_nil ?_
   exact f_owes_d (up_cons rfl hs149) rfl (List.Perm.refl _)
  ·rintro f M ⟨k0, -⟩ -
   have hs150 : f 150 = .bool false := k0
   refine ob_start (L' := M) (by rfl) (up_cons rfl hs150) ?_
   refine l_val (v := .bool false) rfl rfl rfl (e_move) ?_
   refine l_nil ?_
   exact f_owes_d (up_cons rfl hs150) rfl (List.Perm.refl _)
  ·rintro f M ⟨k0, -⟩ ⟨i0, -⟩
   have hs20 : f 20 = .pointer (some ⟨b39, 0, none⟩) := i0
   have hs151 : f 151 = .bool false := k0
   refine ob_start (L' := pt b39 (.cells #[.bool (R.done), Ix (R.at_), Ix (R.e), .slice p37 (R.holds.length) c38] 37) :: M) (by rfl) (up_cons (up_cons rfl hs20) hs151) ?_
   refine g_val (v := .agg #[.bool (R.done), Ix (R.at_), Ix (R.e), .slice p37 (R.holds.length) c38]) rfl rfl rfl rfl rfl (e_load tt61 (cs := [.bool (R.done), Ix (R.at_), Ix (R.e), .slice p37 (R.holds.length) c38]) rfl (k_pt 0 (cs := #[.bool (R.done), Ix (R.at_), Ix (R.e), .slice p37 (R.holds.length) c38]) (vs := [.bool (R.done), Ix (R.at_), Ix (R.e), .slice p37 (R.holds.length) c38]) rfl rfl) rfl) ?_
   refine l_nil ?_
   exact f_owes_d (up_cons (up_cons rfl hs20) hs151) rfl (perm_front 0 rfl)
  ·rintro f M ⟨k0, -⟩ ⟨i0, -⟩
   have hs13 : f 13 = .pointer (some ⟨b30, 0, none⟩) := i0
   have hs151 : f 151 = .bool false := k0
   refine ob_start (L' := pt b30 (.cells #[.bool (R.done), Ix (R.at_), Ix (R.e), .slice p28 (R.holds.length) c29] 37) :: M) (by rfl) (up_cons (up_cons rfl hs13) hs151) ?_
   refine g_val (v := .agg #[.bool (R.done), Ix (R.at_), Ix (R.e), .slice p28 (R.holds.length) c29]) rfl rfl rfl rfl rfl (e_load tt61 (cs := [.bool (R.done), Ix (R.at_), Ix (R.e), .slice p28 (R.holds.length) c29]) rfl (k_pt 0 (cs := #[.bool (R.done), Ix (R.at_), Ix (R.e), .slice p28 (R.holds.length) c29]) (vs := [.bool (R.done), Ix (R.at_), Ix (R.e), .slice p28 (R.holds.length) c29]) rfl rfl) rfl) ?_
   refine l_nil ?_
   exact f_owes_d (up_cons (up_cons rfl hs13) hs151) rfl (perm_front 0 rfl)
  ·rintro f M ⟨k0, k1, k2, -⟩ -
   have hs152 : f 152 = .agg #[.bool (R.done), Ix (R.at_), Ix (R.e), .slice p37 (R.holds.length) c38] := k0
   have hs153 : f 153 = .agg #[.bool (R.done), Ix (R.at_), Ix (R.e), .slice p28 (R.holds.length) c29] := k1
   have hs151 : f 151 = .bool false := k2
   refine ob_start (L' := rowF IntF 3 p37 c38 R.holds :: rowF IntF 3 p28 c29 R.holds :: M) (by rfl) (up_cons (up_cons (up_cons rfl hs152) hs153) hs151) ?_
   refine g_call rfl rfl rfl rfl rfl (cl_value (fst := []) (cap := []) (vs := [.agg #[.bool (R.done), Ix (R.at_), Ix (R.e), .slice p37 (R.holds.length) c38], .agg #[.bool (R.done), Ix (R.at_), Ix (R.e), .slice p28 (R.holds.length) c29]]) (all := [.agg #[.bool (R.done), Ix (R.at_), Ix (R.e), .slice p37 (R.holds.length) c38], .agg #[.bool (R.done), Ix (R.at_), Ix (R.e), .slice p28 (R.holds.length) c29]]) tt191 rfl rfl rfl) ?_
   intro w hw
   obtain ⟨β1, sb, kn, hw1, back⟩ := St.frame_all hw
   refine (samer_ok β1 w hw1 R.done R.done R.at_ R.at_ R.e R.e _ _ R.holds R.holds (kn _ (k_flN 0 (F := IntF) (m := R.holds.length) rfl rfl)) (kn _ (k_flN 1 (F := IntF) (m := R.holds.length) rfl rfl)) ⟨rfl, rfl, rfl, rfl⟩).mono ?_
   rintro e w' ⟨rfl, hw'⟩
   refine ⟨_, rfl, _, back _ _ hw', ?_⟩
   clear hw hw1 hw' back kn sb
   refine l_nil ?_
   exact f_owes_d (up_cons (up_cons (up_cons rfl hs152) hs153) hs151) rfl ((perm_front 1 rfl).trans (perm_front 1 rfl))
  ·rintro f M ⟨k0, k1, -⟩ -
   have hs154 : f 154 = .bool true := k0
   have hs151 : f 151 = .bool false := k1
   refine ob_start (L' := M) (by rfl) (up_cons (up_cons rfl hs154) hs151) ?_
   refine g_val (v := .bool false) rfl rfl rfl rfl rfl (e_not (a := true) rfl) ?_
   refine l_nil ?_
   exact f_owes_d (up_cons (up_cons rfl hs154) hs151) rfl (List.Perm.refl _)
  ·rintro f M ⟨k0, k1, -⟩ -
   have hs151 : f 151 = .bool false := k0
   have hs155 : f 155 = .bool false := k1
   refine ob_start (L' := M) (by rfl) (up_cons (up_cons rfl hs151) hs155) ?_
   refine l_val (v := .bool false) rfl rfl rfl (e_pick_f rfl) ?_
   refine l_nil ?_
   exact f_owes_d (up_cons (up_cons rfl hs151) hs155) rfl (List.Perm.refl _)
  ·rintro f M ⟨k0, -⟩ -
   have hs156 : f 156 = .bool false := k0
   refine ob_start (L' := M) (by rfl) (up_cons rfl hs156) ?_
   refine l_val (v := .bool false) rfl rfl rfl (e_move) ?_
   refine l_nil ?_
   exact f_owes_d (up_cons rfl hs156) rfl (List.Perm.refl _)
  ·rintro f M ⟨k0, -⟩ ⟨i0, -⟩
   have hs23 : f 23 = .int .i64 (331) := i0
   have hs157 : f 157 = .bool false := k0
   refine ob_start (L' := M) (by rfl) (up_cons (up_cons rfl hs23) hs157) ?_
   refine g_val (v := .int .i64 (331)) rfl rfl rfl rfl rfl (e_move) ?_
   refine l_nil ?_
   exact f_owes_d (up_cons (up_cons rfl hs23) hs157) rfl (List.Perm.refl _)
  ·rintro f M ⟨k0, k1, -⟩ -
   have hs158 : f 158 = .int .i64 (331) := k0
   have hs157 : f 157 = .bool false := k1
   refine ob_start (L' := M) (by rfl) (up_cons (up_cons rfl hs158) hs157) ?_
   refine g_val (v := .bool false) rfl rfl rfl rfl rfl (e_neq (a := (331 : Int)) (b := (331 : Int)) rfl rfl) ?_
   refine l_nil ?_
   exact f_owes_d (up_cons (up_cons rfl hs158) hs157) rfl (List.Perm.refl _)
  ·rintro f M ⟨k0, k1, -⟩ -
   have hs157 : f 157 = .bool false := k0
   have hs159 : f 159 = .bool false := k1
   refine ob_start (L' := M) (by rfl) (up_cons (up_cons rfl hs157) hs159) ?_
   refine l_val (v := .bool false) rfl rfl rfl (e_pick_f rfl) ?_
   refine l_nil ?_
   exact f_owes_d (up_cons (up_cons rfl hs157) hs159) rfl (List.Perm.refl _)
  ·rintro f M ⟨k0, -⟩ -
   have hs160 : f 160 = .bool false := k0
   refine ob_start (L' := M) (by rfl) (up_cons rfl hs160) ?_
   refine l_val (v := .bool false) rfl rfl rfl (e_move) ?_
   refine l_nil ?_
   exact f_owes_d (up_cons rfl hs160) rfl (List.Perm.refl _)
  ·rintro f M ⟨k0, -⟩ ⟨i0, -⟩
   have hs25 : f 25 = .int .i64 (332) := i0
   have hs161 : f 161 = .bool false := k0
   refine ob_start (L' := M) (by rfl) (up_cons (up_cons rfl hs25) hs161) ?_
   refine g_val (v := .int .i64 (332)) rfl rfl rfl rfl rfl (e_move) ?_
   refine l_nil ?_
   exact f_owes_d (up_cons (up_cons rfl hs25) hs161) rfl (List.Perm.refl _)
  ·rintro f M ⟨k0, k1, -⟩ -
   have hs162 : f 162 = .int .i64 (332) := k0
   have hs161 : f 161 = .bool false := k1
   refine ob_start (L' := M) (by rfl) (up_cons (up_cons rfl hs162) hs161) ?_
   refine g_val (v := .bool false) rfl rfl rfl rfl rfl (e_neq (a := (332 : Int)) (b := (332 : Int)) rfl rfl) ?_
   refine l_nil ?_
   exact f_owes_d (up_cons (up_cons rfl hs162) hs161) rfl (List.Perm.refl _)
  ·rintro f M ⟨k0, k1, -⟩ -
   have hs161 : f 161 = .bool false := k0
   have hs163 : f 163 = .bool false := k1
   refine ob_start (L' := M) (by rfl) (up_cons (up_cons rfl hs161) hs163) ?_
   refine l_val (v := .bool false) rfl rfl rfl (e_pick_f rfl) ?_
   refine l_nil ?_
   exact f_owes_d (up_cons (up_cons rfl hs161) hs163) rfl (List.Perm.refl _)
  ·rintro f M ⟨k0, -⟩ -
   have hs164 : f 164 = .bool false := k0
   refine ob_start (L' := M) (by rfl) (up_cons rfl hs164) ?_
   refine l_val (v := .bool false) rfl rfl rfl (e_move) ?_
   refine l_nil ?_
   exact f_owes_d (up_cons rfl hs164) rfl (List.Perm.refl _)
  ·rintro f M ⟨k0, -⟩ ⟨i0, -⟩
   have hs6 : f 6 = .pointer (some ⟨H2, 0, none⟩) := i0
   have hs165 : f 165 = .bool false := k0
   refine ob_start (L' := M) (by rfl) (up_cons (up_cons rfl hs6) hs165) ?_
   refine g_val (v := .pointer (some ⟨H2, 0, none⟩)) rfl rfl rfl rfl rfl (e_move) ?_
   refine l_nil ?_
   exact f_owes_d (up_cons (up_cons rfl hs6) hs165) rfl (List.Perm.refl _)
  ·rintro f M ⟨k0, k1, -⟩ -
   have hs166 : f 166 = .pointer (some ⟨H2, 0, none⟩) := k0
   have hs165 : f 165 = .bool false := k1
   refine ob_start (L' := houseR H2 b1 X1 (((((6 * k) + 1) + 1) + 1) + 1) (((((3000 * k) + 494) + 494) + 494) + 494) (-1) :: M) (by rfl) (up_cons (up_cons rfl hs166) hs165) ?_
   refine g_call rfl rfl rfl rfl rfl (cl_value (fst := []) (cap := []) (vs := [.pointer (some ⟨H2, 0, none⟩)]) (all := [.pointer (some ⟨H2, 0, none⟩)]) tt179 rfl rfl rfl) ?_
   intro w hw
   replace hw := hw.perm (L' := _ :: M) (by exact (perm_front 0 rfl))
   obtain ⟨β1, sb, kn, hw1, back⟩ := St.frame (L := [_]) (M := M) hw
   refine (supply_ok β1 w H2 b1 (((((6 * k) + 1) + 1) + 1) + 1) (((((3000 * k) + 494) + 494) + 494) + 494) (-1) X1 hw1).mono ?_
   rintro e w' ⟨rfl, hw'⟩
   refine ⟨_, rfl, _, back _ _ hw', ?_⟩
   clear hw hw1 hw' back kn sb
   refine l_nil ?_
   exact f_owes_d (up_cons (up_cons rfl hs166) hs165) rfl (perm_front 0 rfl)
  ·rintro f M ⟨k0, -⟩ ⟨i0, -⟩
   have hs18 : f 18 = .pointer (some ⟨b36, 0, none⟩) := i0
   have hs165 : f 165 = .bool false := k0
   refine ob_start (L' := pt b36 (.cells (amC X1.s.su) 44) :: M) (by rfl) (up_cons (up_cons rfl hs18) hs165) ?_
   refine g_val (v := .agg (amC X1.s.su)) rfl rfl rfl rfl rfl (e_load tt0 (cs := (amE X1.s.su)) rfl (k_pt 0 (cs := (amC X1.s.su)) (vs := (amE X1.s.su)) rfl rfl) rfl) ?_
   refine l_nil ?_
   exact f_owes_d (up_cons (up_cons rfl hs18) hs165) rfl (perm_front 0 rfl)
  ·rintro f M ⟨k0, k1, k2, -⟩ -
   have hs167 : f 167 = .agg (amC X1.s.su) := k0
   have hs168 : f 168 = .agg (amC X1.s.su) := k1
   have hs165 : f 165 = .bool false := k2
   refine ob_start (L' := M) (by rfl) (up_cons (up_cons (up_cons rfl hs167) hs168) hs165) ?_
   refine g_val (v := .bool false) rfl rfl rfl rfl rfl ((ev_f (fun q => q rfl) (e_neq_t (xs := amE X1.s.su) (ys := amE X1.s.su) tt12 tt13 tt14 rfl rfl rfl rfl (not_congr (am_eq (x := X1.s.su) (y := X1.s.su)))))) ?_
   refine l_nil ?_
   exact f_owes_d (up_cons (up_cons (up_cons rfl hs167) hs168) hs165) rfl (List.Perm.refl _)
  ·rintro f M ⟨k0, k1, -⟩ -
   have hs165 : f 165 = .bool false := k0
   have hs169 : f 169 = .bool false := k1
   refine ob_start (L' := M) (by rfl) (up_cons (up_cons rfl hs165) hs169) ?_
   refine l_val (v := .bool false) rfl rfl rfl (e_pick_f rfl) ?_
   refine l_nil ?_
   exact f_owes_d (up_cons (up_cons rfl hs165) hs169) rfl (List.Perm.refl _)
  ·rintro f M ⟨k0, -⟩ -
   have hs170 : f 170 = .bool false := k0
   refine ob_start (L' := M) (by rfl) (up_cons rfl hs170) ?_
   refine l_val (v := .bool false) rfl rfl rfl (e_move) ?_
   refine l_nil ?_
   exact f_owes_d (up_cons rfl hs170) rfl (List.Perm.refl _)
  ·rintro f M ⟨k0, -⟩ ⟨i0, -⟩
   have hs6 : f 6 = .pointer (some ⟨H2, 0, none⟩) := i0
   have hs171 : f 171 = .bool false := k0
   refine ob_start (L' := M) (by rfl) (up_cons (up_cons rfl hs6) hs171) ?_
   refine g_val (v := .pointer (some ⟨H2, 0, none⟩)) rfl rfl rfl rfl rfl (e_move) ?_
   refine l_nil ?_
   exact f_owes_d (up_cons (up_cons rfl hs6) hs171) rfl (List.Perm.refl _)
  ·rintro f M ⟨k0, k1, -⟩ -
   have hs172 : f 172 = .pointer (some ⟨H2, 0, none⟩) := k0
   have hs171 : f 171 = .bool false := k1
   refine ob_start (L' := houseR H2 b1 X1 (((((6 * k) + 1) + 1) + 1) + 1) (((((3000 * k) + 494) + 494) + 494) + 494) (-1) :: M) (by rfl) (up_cons (up_cons rfl hs172) hs171) ?_
   refine g_call rfl rfl rfl rfl rfl (cl_value (fst := []) (cap := []) (vs := [.pointer (some ⟨H2, 0, none⟩)]) (all := [.pointer (some ⟨H2, 0, none⟩)]) tt180 rfl rfl rfl) ?_
   intro w hw
   replace hw := hw.perm (L' := _ :: M) (by exact (perm_front 0 rfl))
   obtain ⟨β1, sb, kn, hw1, back⟩ := St.frame (L := [_]) (M := M) hw
   refine (holds_ok β1 w H2 b1 (((((6 * k) + 1) + 1) + 1) + 1) (((((3000 * k) + 494) + 494) + 494) + 494) (-1) X1 hw1).mono ?_
   rintro e w' ⟨p64, c65, rfl, hw'⟩
   refine ⟨_, rfl, _, back _ _ hw', ?_⟩
   clear hw hw1 hw' back kn sb
   refine l_nil ?_
   exact f_owes_d (up_cons (up_cons rfl hs172) hs171) rfl ((perm_front 0 rfl).trans (perm_front 1 rfl))
  ·rintro f M ⟨k0, k1, -⟩ -
   have hs173 : f 173 = .slice (sla (f 173)) ((holdsX X1).length) (slc (f 173)) := k0
   have hs171 : f 171 = .bool false := k1
   refine ob_start (L' := M) (by rfl) (up_cons (up_cons rfl hs173) hs171) ?_
   refine g_val (v := Nx ((holdsX X1).length)) rfl rfl rfl rfl rfl (e_len (a := (sla (f 173))) (n := (holdsX X1).length) (c := (slc (f 173))) rfl tt181) ?_
   refine l_nil ?_
   exact f_owes_d (up_cons (up_cons rfl hs173) hs171) rfl (List.Perm.refl _)
  ·rintro f M ⟨k0, -⟩ ⟨i0, -⟩
   have hs19 : f 19 = Nx ((holdsX X1).length) := i0
   have hs171 : f 171 = .bool false := k0
   refine ob_start (L' := M) (by rfl) (up_cons (up_cons rfl hs19) hs171) ?_
   refine g_val (v := Nx ((holdsX X1).length)) rfl rfl rfl rfl rfl (e_move) ?_
   refine l_nil ?_
   exact f_owes_d (up_cons (up_cons rfl hs19) hs171) rfl (List.Perm.refl _)
  ·rintro f M ⟨k0, k1, k2, -⟩ -
   have hs174 : f 174 = Nx ((holdsX X1).length) := k0
   have hs175 : f 175 = Nx ((holdsX X1).length) := k1
   have hs171 : f 171 = .bool false := k2
   refine ob_start (L' := M) (by rfl) (up_cons (up_cons (up_cons rfl hs174) hs175) hs171) ?_
   refine g_val (v := .bool false) rfl rfl rfl rfl rfl ((ev_f (fun q => q rfl) (e_neq (a := (((holdsX X1).length : Nat) : Int)) (b := (((holdsX X1).length : Nat) : Int)) rfl rfl))) ?_
   refine l_nil ?_
   exact f_owes_d (up_cons (up_cons (up_cons rfl hs174) hs175) hs171) rfl (List.Perm.refl _)
  ·rintro f M ⟨k0, k1, -⟩ -
   have hs171 : f 171 = .bool false := k0
   have hs176 : f 176 = .bool false := k1
   refine ob_start (L' := M) (by rfl) (up_cons (up_cons rfl hs171) hs176) ?_
   refine l_val (v := .bool false) rfl rfl rfl (e_pick_f rfl) ?_
   refine l_nil ?_
   exact f_owes_d (up_cons (up_cons rfl hs171) hs176) rfl (List.Perm.refl _)
  rintro fa66 ⟨-, -, -, -, -, -, -, -, -, -, -, -, -, -, -, -, -, -, -, -, -, -, -, -, -, -, -, -, k28, -⟩ ⟨j0, j1, j2, j3, j4, j5, j6, j7, -⟩
  refine f_re (L' := [pt b61 (.cells #[.bool false, .int .i64 (0), .int .i64 (0), .slice p59 (0) c60] 37), rowF IntF 3 p59 c60 [], houseR H2 b1 X1 (((((6 * k) + 1) + 1) + 1) + 1) (((((3000 * k) + 494) + 494) + 494) + 494) (-1), pt b39 (.cells #[.bool (R.done), Ix (R.at_), Ix (R.e), .slice p37 (R.holds.length) c38] 37), rowF IntF 3 p37 c38 R.holds, pt b36 (.cells (amC X1.s.su) 44), rowF HoF 104 p34 c35 (holdsX X1), pt b33 (.cells #[.bool (R.done), Ix (R.at_), Ix (R.e), .slice p31 (R.holds.length) c32] 37), rowF IntF 3 p31 c32 R.holds, pt b30 (.cells #[.bool (R.done), Ix (R.at_), Ix (R.e), .slice p28 (R.holds.length) c29] 37), rowF IntF 3 p28 c29 R.holds, pt b27 (.cells #[.bool (rwas.done), Ix (rwas.at_), Ix (rwas.e), .slice p25 (rwas.holds.length) c26] 37), rowF IntF 3 p25 c26 rwas.holds, rowF ActF 47 p23 c24 al, pt b22 (.cells #[Bx (x8.kind), Ix (au), Nx (nk), .slice p23 (al.length) c24] 32), pt (blk (fa58 132)) (.cells #[.int .u8 (7), .int .i64 (1), .int .i64 (0), .int .i64 (0), .int .i64 (0), .int .i64 (0), .int .i64 (0), .int .i64 (0)] 47), rowF ActF 47 (sla (fa58 133)) (slc (fa58 133)) (al ++ [(⟨7, 1, 0, 0, zeroA⟩ : KAct)]), rowF IntF 3 (trA (fa58 134)) (trC (fa58 134)) [], pt (blk (fa58 22)) (.cells #[.bool false, .int .i64 (0), .int .i64 (0), .slice (trA (fa58 134)) (0) (trC (fa58 134))] 37), rowF HoF 104 (sla (fa66 173)) (slc (fa66 173)) (holdsX X1)]) (by rfl) ?_
  refine f_rebase (d := 1) (v := Bx (sk)) j0 ?_
  refine f_rebase (d := 6) (v := .pointer (some ⟨H2, 0, none⟩)) j1 ?_
  refine f_rebase (d := 9) (v := .pointer (some ⟨b22, 0, none⟩)) j2 ?_
  refine f_rebase (d := 10) (v := Ix (was)) j3 ?_
  refine f_rebase (d := 12) (v := .bool (so)) j4 ?_
  refine f_rebase (d := 44) (v := .slice va (zs3.length) (vc)) j5 ?_
  refine f_rebase (d := 45) (v := Nx (zs3.length)) j6 ?_
  refine f_rebase (d := 46) (v := Nx (k)) j7 ?_
  refine f_rebase (d := 177) (v := .bool false) k28 ?_
  refine f_then ?_
  refine c_no rfl ?_
  refine c_skip ?_
  refine f_then ?_
  refine c_seq ?_
  refine c_seq ?_
  refine c_region ?_
  refine l_val (v := .bool (so)) rfl rfl rfl (e_move) ?_
  refine l_nil ?_
  refine f_then ?_
  refine c_ifb (so) rfl (fun hc67 => ?_) (fun hc67 => ?_)
  ·
   refine c_seq ?_
   obtain ⟨mw, hmw, hmn⟩ := lastX_some hla hc67
   have hwb := hno _ _ hmw
   rw [hmn] at hwb
   have hfm5 := other_number hfm hwb.1 (by omega)
   have hwlt : was < ((nk : Nat) : Int) := hwb.2
   refine c_region ?_
   refine l_val (v := .pointer (some ⟨H2, 0, none⟩)) rfl rfl rfl (e_move) ?_
   refine l_val (v := .pointer (some ⟨b22, 1, none⟩)) rfl rfl rfl (e_fieldPt (b := b22) (o := 0) rfl tt167) ?_
   refine l_val (v := Ix (au)) rfl rfl rfl (e_load1 tt2 (v := Ix (au)) rfl (k_pt 14 (cs := #[Bx (x8.kind), Ix (au), Nx (nk), .slice p23 (al.length) c24]) (vs := [Ix (au)]) rfl rfl)) ?_
   refine l_val (v := Ix (was)) rfl rfl rfl (e_move) ?_
   refine l_val (v := .pointer (some ⟨b22, 3, none⟩)) rfl rfl rfl (e_fieldPt (b := b22) (o := 0) rfl tt171) ?_
   refine l_val (v := .slice p23 (al.length) c24) rfl rfl rfl (e_load1 tt23 (v := .slice p23 (al.length) c24) rfl (k_pt 14 (cs := #[Bx (x8.kind), Ix (au), Nx (nk), .slice p23 (al.length) c24]) (vs := [.slice p23 (al.length) c24]) rfl rfl)) ?_
   refine l_call rfl rfl rfl (cl_value (fst := []) (cap := []) (vs := [.pointer (some ⟨H2, 0, none⟩), Ix (au), Ix (was), .slice p23 (al.length) c24]) (all := [.pointer (some ⟨H2, 0, none⟩), Ix (au), Ix (was), .slice p23 (al.length) c24]) tt177 rfl rfl rfl) ?_
   intro w hw
   replace hw := hw.perm (L' := [houseR H2 b1 X1 (((((6 * k) + 1) + 1) + 1) + 1) (((((3000 * k) + 494) + 494) + 494) + 494) (-1), pt b61 (.cells #[.bool false, .int .i64 (0), .int .i64 (0), .slice p59 (0) c60] 37), rowF IntF 3 p59 c60 [], pt b39 (.cells #[.bool (R.done), Ix (R.at_), Ix (R.e), .slice p37 (R.holds.length) c38] 37), rowF IntF 3 p37 c38 R.holds, pt b36 (.cells (amC X1.s.su) 44), rowF HoF 104 p34 c35 (holdsX X1), pt b33 (.cells #[.bool (R.done), Ix (R.at_), Ix (R.e), .slice p31 (R.holds.length) c32] 37), rowF IntF 3 p31 c32 R.holds, pt b30 (.cells #[.bool (R.done), Ix (R.at_), Ix (R.e), .slice p28 (R.holds.length) c29] 37), rowF IntF 3 p28 c29 R.holds, pt b27 (.cells #[.bool (rwas.done), Ix (rwas.at_), Ix (rwas.e), .slice p25 (rwas.holds.length) c26] 37), rowF IntF 3 p25 c26 rwas.holds, rowF ActF 47 p23 c24 al, pt b22 (.cells #[Bx (x8.kind), Ix (au), Nx (nk), .slice p23 (al.length) c24] 32), pt (blk (fa58 132)) (.cells #[.int .u8 (7), .int .i64 (1), .int .i64 (0), .int .i64 (0), .int .i64 (0), .int .i64 (0), .int .i64 (0), .int .i64 (0)] 47), rowF ActF 47 (sla (fa58 133)) (slc (fa58 133)) (al ++ [(⟨7, 1, 0, 0, zeroA⟩ : KAct)]), rowF IntF 3 (trA (fa58 134)) (trC (fa58 134)) [], pt (blk (fa58 22)) (.cells #[.bool false, .int .i64 (0), .int .i64 (0), .slice (trA (fa58 134)) (0) (trC (fa58 134))] 37), rowF HoF 104 (sla (fa66 173)) (slc (fa66 173)) (holdsX X1)]) (by exact (perm_ix [2, 0, 1, 3, 4, 5, 6, 7, 8, 9, 10, 11, 12, 13, 14, 15, 16, 17, 18, 19] 20 rfl (by kernel_rfl) (by kernel_rfl)))
   obtain ⟨β1, sb, kn, hw1, back⟩ := St.frame (L := [_]) (M := _ :: _ :: _ :: _ :: _ :: _ :: _ :: _ :: _ :: _ :: _ :: _ :: _ :: _ :: _ :: _ :: _ :: _ :: _ :: []) hw
   refine (do_eq β1 w H2 b1 (((((6 * k) + 1) + 1) + 1) + 1) (((((3000 * k) + 494) + 494) + 494) + 494) X1 hw1 au was _ al (kn _ (k_flN 12 (F := ActF) (m := al.length) rfl rfl)) (by omega) hfb (by omega) (doF_late hfm5 hr.m1 hwlt)).mono ?_
   rintro e w' ⟨p68, c69, rfl, hw'⟩
   refine ⟨_, rfl, _, back _ _ hw', ?_⟩
   clear hw hw1 hw' back kn sb
   refine l_val (v := .tuple #[.agg #[.bool false, .int .i64 (0), .int .i64 (0), .slice p68 (0) c69], .int .i64 (332)]) rfl rfl rfl (e_move) ?_
   refine l_val (v := .agg #[.bool false, .int .i64 (0), .int .i64 (0), .slice p68 (0) c69]) rfl rfl rfl (e_extract (vs := #[.agg #[.bool false, .int .i64 (0), .int .i64 (0), .slice p68 (0) c69], .int .i64 (332)]) rfl rfl) ?_
   refine l_val (v := .int .i64 (332)) rfl rfl rfl (e_extract (vs := #[.agg #[.bool false, .int .i64 (0), .int .i64 (0), .slice p68 (0) c69], .int .i64 (332)]) rfl rfl) ?_
   refine l_mv rfl rfl rfl (m_alloc tt53) ?_
   rintro _ _ ⟨b70, rfl, rfl⟩
   refine l_mu rfl rfl (m_store 0 tt61 (b := b70) (o := 0) (T := 37) (cs := #[.bool false, .int .i64 (0), .int .i64 (0), .slice none 0 0]) (cs' := #[.bool false, .int .i64 (0), .int .i64 (0), .slice p68 (0) c69]) (v := .agg #[.bool false, .int .i64 (0), .int .i64 (0), .slice p68 (0) c69]) rfl rfl rfl rfl rfl rfl rfl) ?_
   refine l_val (v := .int .i64 (332)) rfl rfl rfl (e_assign) ?_
   refine l_nil ?_
   refine f_then ?_
   refine c_seq ?_
   refine c_region ?_
   refine l_val (v := .int .i64 (332)) rfl rfl rfl (e_move) ?_
   refine l_val (v := .bool false) rfl rfl rfl (e_neq (a := (332 : Int)) (b := (332 : Int)) rfl rfl) ?_
   refine l_nil ?_
   refine f_then ?_
   refine c_no rfl ?_
   refine c_skip ?_
   refine f_then ?_
   refine c_seq ?_
   refine c_region ?_
   refine l_val (v := .pointer (some ⟨H2, 0, none⟩)) rfl rfl rfl (e_move) ?_
   refine l_val (v := .pointer (some ⟨b22, 1, none⟩)) rfl rfl rfl (e_fieldPt (b := b22) (o := 0) rfl tt167) ?_
   refine l_val (v := Ix (au)) rfl rfl rfl (e_load1 tt2 (v := Ix (au)) rfl (k_pt 16 (cs := #[Bx (x8.kind), Ix (au), Nx (nk), .slice p23 (al.length) c24]) (vs := [Ix (au)]) rfl rfl)) ?_
   refine l_call rfl rfl rfl (cl_value (fst := []) (cap := []) (vs := [.pointer (some ⟨H2, 0, none⟩), Ix (au)]) (all := [.pointer (some ⟨H2, 0, none⟩), Ix (au)]) tt189 rfl rfl rfl) ?_
   intro w hw
   replace hw := hw.perm (L' := [houseR H2 b1 X1 ((((((6 * k) + 1) + 1) + 1) + 1) + 1) ((((((3000 * k) + 494) + 494) + 494) + 494) + 494) (-1), pt b70 (.cells #[.bool false, .int .i64 (0), .int .i64 (0), .slice p68 (0) c69] 37), rowF IntF 3 p68 c69 [], pt b61 (.cells #[.bool false, .int .i64 (0), .int .i64 (0), .slice p59 (0) c60] 37), rowF IntF 3 p59 c60 [], pt b39 (.cells #[.bool (R.done), Ix (R.at_), Ix (R.e), .slice p37 (R.holds.length) c38] 37), rowF IntF 3 p37 c38 R.holds, pt b36 (.cells (amC X1.s.su) 44), rowF HoF 104 p34 c35 (holdsX X1), pt b33 (.cells #[.bool (R.done), Ix (R.at_), Ix (R.e), .slice p31 (R.holds.length) c32] 37), rowF IntF 3 p31 c32 R.holds, pt b30 (.cells #[.bool (R.done), Ix (R.at_), Ix (R.e), .slice p28 (R.holds.length) c29] 37), rowF IntF 3 p28 c29 R.holds, pt b27 (.cells #[.bool (rwas.done), Ix (rwas.at_), Ix (rwas.e), .slice p25 (rwas.holds.length) c26] 37), rowF IntF 3 p25 c26 rwas.holds, rowF ActF 47 p23 c24 al, pt b22 (.cells #[Bx (x8.kind), Ix (au), Nx (nk), .slice p23 (al.length) c24] 32), pt (blk (fa58 132)) (.cells #[.int .u8 (7), .int .i64 (1), .int .i64 (0), .int .i64 (0), .int .i64 (0), .int .i64 (0), .int .i64 (0), .int .i64 (0)] 47), rowF ActF 47 (sla (fa58 133)) (slc (fa58 133)) (al ++ [(⟨7, 1, 0, 0, zeroA⟩ : KAct)]), rowF IntF 3 (trA (fa58 134)) (trC (fa58 134)) [], pt (blk (fa58 22)) (.cells #[.bool false, .int .i64 (0), .int .i64 (0), .slice (trA (fa58 134)) (0) (trC (fa58 134))] 37), rowF HoF 104 (sla (fa66 173)) (slc (fa66 173)) (holdsX X1)]) (by exact (perm_ix [2, 0, 1, 3, 4, 5, 6, 7, 8, 9, 10, 11, 12, 13, 14, 15, 16, 17, 18, 19, 20, 21] 22 rfl (by kernel_rfl) (by kernel_rfl)))
   obtain ⟨β1, sb, kn, hw1, back⟩ := St.frame (L := [_]) (M := _ :: _ :: _ :: _ :: _ :: _ :: _ :: _ :: _ :: _ :: _ :: _ :: _ :: _ :: _ :: _ :: _ :: _ :: _ :: _ :: _ :: []) hw
   refine (last_eq β1 w H2 b1 ((((((6 * k) + 1) + 1) + 1) + 1) + 1) ((((((3000 * k) + 494) + 494) + 494) + 494) + 494) (-1) X1 hw1 au hr.la).mono ?_
   rintro e w' ⟨p71, c72, rfl, hw'⟩
   refine ⟨_, rfl, _, back _ _ hw', ?_⟩
   clear hw hw1 hw' back kn sb
   refine l_val (v := .tuple #[Nx (nk), .agg #[.bool (R.done), Ix (R.at_), Ix (R.e), .slice p71 (R.holds.length) c72], .bool true]) rfl rfl rfl (e_move) ?_
   refine l_val (v := Nx (nk)) rfl rfl rfl (e_extract (vs := #[Nx (nk), .agg #[.bool (R.done), Ix (R.at_), Ix (R.e), .slice p71 (R.holds.length) c72], .bool true]) rfl rfl) ?_
   refine l_val (v := .agg #[.bool (R.done), Ix (R.at_), Ix (R.e), .slice p71 (R.holds.length) c72]) rfl rfl rfl (e_extract (vs := #[Nx (nk), .agg #[.bool (R.done), Ix (R.at_), Ix (R.e), .slice p71 (R.holds.length) c72], .bool true]) rfl rfl) ?_
   refine l_val (v := .bool true) rfl rfl rfl (e_extract (vs := #[Nx (nk), .agg #[.bool (R.done), Ix (R.at_), Ix (R.e), .slice p71 (R.holds.length) c72], .bool true]) rfl rfl) ?_
   refine l_mv rfl rfl rfl (m_alloc tt53) ?_
   rintro _ _ ⟨b73, rfl, rfl⟩
   refine l_val (v := Nx (nk)) rfl rfl rfl (e_assign) ?_
   refine l_mu rfl rfl (m_store 0 tt61 (b := b73) (o := 0) (T := 37) (cs := #[.bool false, .int .i64 (0), .int .i64 (0), .slice none 0 0]) (cs' := #[.bool (R.done), Ix (R.at_), Ix (R.e), .slice p71 (R.holds.length) c72]) (v := .agg #[.bool (R.done), Ix (R.at_), Ix (R.e), .slice p71 (R.holds.length) c72]) rfl rfl rfl rfl rfl rfl rfl) ?_
   refine l_val (v := .bool true) rfl rfl rfl (e_assign) ?_
   refine l_nil ?_
   refine f_then ?_
   refine c_seq ?_
   refine c_region ?_
   refine l_val (v := Nx (nk)) rfl rfl rfl (e_move) ?_
   refine l_val (v := .pointer (some ⟨b22, 2, none⟩)) rfl rfl rfl (e_fieldPt (b := b22) (o := 0) rfl tt190) ?_
   refine l_val (v := Nx (nk)) rfl rfl rfl (e_load1 tt2 (v := Nx (nk)) rfl (k_pt 18 (cs := #[Bx (x8.kind), Ix (au), Nx (nk), .slice p23 (al.length) c24]) (vs := [Nx (nk)]) rfl rfl)) ?_
   refine l_val (v := .bool (decide (((nk : Nat) : Int) ≠ ((nk : Nat) : Int)))) rfl rfl rfl (e_neq (a := ((nk : Nat) : Int)) (b := ((nk : Nat) : Int)) rfl rfl) ?_
   refine l_nil ?_
   refine f_then ?_
   refine c_if (((nk : Nat) : Int) ≠ ((nk : Nat) : Int)) rfl (fun hc74 => ?_) (fun hc74 => ?_)
   ·
    exact absurd hc74 (fun q => q rfl)
   ·
    refine c_skip ?_
    refine f_block ?_
    refine f_then ?_
    refine c_region ?_
    refine l_val (v := Nx (k + 1)) rfl rfl rfl (e_add (a := ((k : Nat) : Int)) (b := (1 : Int)) rfl rfl (i64n (by omega) (by omega))) ?_
    refine l_val (v := Nx (k + 1)) rfl rfl rfl (e_move) ?_
    refine l_nil ?_
    have hno2 : NumOk X1 ((2 + ((k + 1) * (1 + (sk.toNat % 4))) : Nat) : Int) := by rw [hX1]; exact hno.next hnn.1 (by rw [← hnk, Nat.succ_mul]; omega) _ _
    refine f_houLe (M := 6 * (k + 1)) (V := 3000 * (k + 1)) 2 rfl (by omega) (by omega) ?_
    refine f_mask (L' := [houseR H2 b1 X1 (6 * (k + 1)) (3000 * (k + 1)) (-1)]) [false, false, true, false, false, false, false, false, false, false, false, false, false, false, false, false, false, false, false, false, false, false, false, false] rfl ?_
    exact f_cut ⟨(k + 1, X1), ⟨⟨rfl, rfl, rfl, rfl, rfl⟩, rfl, ⟨by omega, hno2⟩⟩, (show zs3.length - (k + 1) < zs3.length - k from by omega)⟩
  ·
   refine c_skip ?_
   refine f_then ?_
   refine c_seq ?_
   refine c_region ?_
   refine l_val (v := .pointer (some ⟨H2, 0, none⟩)) rfl rfl rfl (e_move) ?_
   refine l_val (v := .pointer (some ⟨b22, 1, none⟩)) rfl rfl rfl (e_fieldPt (b := b22) (o := 0) rfl tt167) ?_
   refine l_val (v := Ix (au)) rfl rfl rfl (e_load1 tt2 (v := Ix (au)) rfl (k_pt 14 (cs := #[Bx (x8.kind), Ix (au), Nx (nk), .slice p23 (al.length) c24]) (vs := [Ix (au)]) rfl rfl)) ?_
   refine l_call rfl rfl rfl (cl_value (fst := []) (cap := []) (vs := [.pointer (some ⟨H2, 0, none⟩), Ix (au)]) (all := [.pointer (some ⟨H2, 0, none⟩), Ix (au)]) tt189 rfl rfl rfl) ?_
   intro w hw
   replace hw := hw.perm (L' := [houseR H2 b1 X1 (((((6 * k) + 1) + 1) + 1) + 1) (((((3000 * k) + 494) + 494) + 494) + 494) (-1), pt b61 (.cells #[.bool false, .int .i64 (0), .int .i64 (0), .slice p59 (0) c60] 37), rowF IntF 3 p59 c60 [], pt b39 (.cells #[.bool (R.done), Ix (R.at_), Ix (R.e), .slice p37 (R.holds.length) c38] 37), rowF IntF 3 p37 c38 R.holds, pt b36 (.cells (amC X1.s.su) 44), rowF HoF 104 p34 c35 (holdsX X1), pt b33 (.cells #[.bool (R.done), Ix (R.at_), Ix (R.e), .slice p31 (R.holds.length) c32] 37), rowF IntF 3 p31 c32 R.holds, pt b30 (.cells #[.bool (R.done), Ix (R.at_), Ix (R.e), .slice p28 (R.holds.length) c29] 37), rowF IntF 3 p28 c29 R.holds, pt b27 (.cells #[.bool (rwas.done), Ix (rwas.at_), Ix (rwas.e), .slice p25 (rwas.holds.length) c26] 37), rowF IntF 3 p25 c26 rwas.holds, rowF ActF 47 p23 c24 al, pt b22 (.cells #[Bx (x8.kind), Ix (au), Nx (nk), .slice p23 (al.length) c24] 32), pt (blk (fa58 132)) (.cells #[.int .u8 (7), .int .i64 (1), .int .i64 (0), .int .i64 (0), .int .i64 (0), .int .i64 (0), .int .i64 (0), .int .i64 (0)] 47), rowF ActF 47 (sla (fa58 133)) (slc (fa58 133)) (al ++ [(⟨7, 1, 0, 0, zeroA⟩ : KAct)]), rowF IntF 3 (trA (fa58 134)) (trC (fa58 134)) [], pt (blk (fa58 22)) (.cells #[.bool false, .int .i64 (0), .int .i64 (0), .slice (trA (fa58 134)) (0) (trC (fa58 134))] 37), rowF HoF 104 (sla (fa66 173)) (slc (fa66 173)) (holdsX X1)]) (by exact (perm_ix [2, 0, 1, 3, 4, 5, 6, 7, 8, 9, 10, 11, 12, 13, 14, 15, 16, 17, 18, 19] 20 rfl (by kernel_rfl) (by kernel_rfl)))
   obtain ⟨β1, sb, kn, hw1, back⟩ := St.frame (L := [_]) (M := _ :: _ :: _ :: _ :: _ :: _ :: _ :: _ :: _ :: _ :: _ :: _ :: _ :: _ :: _ :: _ :: _ :: _ :: _ :: []) hw
   refine (last_eq β1 w H2 b1 (((((6 * k) + 1) + 1) + 1) + 1) (((((3000 * k) + 494) + 494) + 494) + 494) (-1) X1 hw1 au hr.la).mono ?_
   rintro e w' ⟨p75, c76, rfl, hw'⟩
   refine ⟨_, rfl, _, back _ _ hw', ?_⟩
   clear hw hw1 hw' back kn sb
   refine l_val (v := .tuple #[Nx (nk), .agg #[.bool (R.done), Ix (R.at_), Ix (R.e), .slice p75 (R.holds.length) c76], .bool true]) rfl rfl rfl (e_move) ?_
   refine l_val (v := Nx (nk)) rfl rfl rfl (e_extract (vs := #[Nx (nk), .agg #[.bool (R.done), Ix (R.at_), Ix (R.e), .slice p75 (R.holds.length) c76], .bool true]) rfl rfl) ?_
   refine l_val (v := .agg #[.bool (R.done), Ix (R.at_), Ix (R.e), .slice p75 (R.holds.length) c76]) rfl rfl rfl (e_extract (vs := #[Nx (nk), .agg #[.bool (R.done), Ix (R.at_), Ix (R.e), .slice p75 (R.holds.length) c76], .bool true]) rfl rfl) ?_
   refine l_val (v := .bool true) rfl rfl rfl (e_extract (vs := #[Nx (nk), .agg #[.bool (R.done), Ix (R.at_), Ix (R.e), .slice p75 (R.holds.length) c76], .bool true]) rfl rfl) ?_
   refine l_mv rfl rfl rfl (m_alloc tt53) ?_
   rintro _ _ ⟨b77, rfl, rfl⟩
   refine l_val (v := Nx (nk)) rfl rfl rfl (e_assign) ?_
   refine l_mu rfl rfl (m_store 0 tt61 (b := b77) (o := 0) (T := 37) (cs := #[.bool false, .int .i64 (0), .int .i64 (0), .slice none 0 0]) (cs' := #[.bool (R.done), Ix (R.at_), Ix (R.e), .slice p75 (R.holds.length) c76]) (v := .agg #[.bool (R.done), Ix (R.at_), Ix (R.e), .slice p75 (R.holds.length) c76]) rfl rfl rfl rfl rfl rfl rfl) ?_
   refine l_val (v := .bool true) rfl rfl rfl (e_assign) ?_
   refine l_nil ?_
   refine f_then ?_
   refine c_seq ?_
   refine c_region ?_
   refine l_val (v := Nx (nk)) rfl rfl rfl (e_move) ?_
   refine l_val (v := .pointer (some ⟨b22, 2, none⟩)) rfl rfl rfl (e_fieldPt (b := b22) (o := 0) rfl tt190) ?_
   refine l_val (v := Nx (nk)) rfl rfl rfl (e_load1 tt2 (v := Nx (nk)) rfl (k_pt 16 (cs := #[Bx (x8.kind), Ix (au), Nx (nk), .slice p23 (al.length) c24]) (vs := [Nx (nk)]) rfl rfl)) ?_
   refine l_val (v := .bool (decide (((nk : Nat) : Int) ≠ ((nk : Nat) : Int)))) rfl rfl rfl (e_neq (a := ((nk : Nat) : Int)) (b := ((nk : Nat) : Int)) rfl rfl) ?_
   refine l_nil ?_
   refine f_then ?_
   refine c_if (((nk : Nat) : Int) ≠ ((nk : Nat) : Int)) rfl (fun hc78 => ?_) (fun hc78 => ?_)
   ·
    exact absurd hc78 (fun q => q rfl)
   ·
    refine c_skip ?_
    refine f_block ?_
    refine f_then ?_
    refine c_region ?_
    refine l_val (v := Nx (k + 1)) rfl rfl rfl (e_add (a := ((k : Nat) : Int)) (b := (1 : Int)) rfl rfl (i64n (by omega) (by omega))) ?_
    refine l_val (v := Nx (k + 1)) rfl rfl rfl (e_move) ?_
    refine l_nil ?_
    have hno2 : NumOk X1 ((2 + ((k + 1) * (1 + (sk.toNat % 4))) : Nat) : Int) := by rw [hX1]; exact hno.next hnn.1 (by rw [← hnk, Nat.succ_mul]; omega) _ _
    refine f_houLe (M := 6 * (k + 1)) (V := 3000 * (k + 1)) 2 rfl (by omega) (by omega) ?_
    refine f_mask (L' := [houseR H2 b1 X1 (6 * (k + 1)) (3000 * (k + 1)) (-1)]) [false, false, true, false, false, false, false, false, false, false, false, false, false, false, false, false, false, false, false, false, false, false] rfl ?_
    exact f_cut ⟨(k + 1, X1), ⟨⟨rfl, rfl, rfl, rfl, rfl⟩, rfl, ⟨by omega, hno2⟩⟩, (show zs3.length - (k + 1) < zs3.length - k from by omega)⟩
 ·
  refine c_exit ?_
  refine f_then_exit ?_
  refine f_then_exit ?_
  refine f_exit ?_
  refine f_then ?_
  refine c_seq ?_
  refine c_region ?_
  refine l_call rfl rfl rfl (cl_value (fst := []) (cap := []) (vs := []) (all := []) tt192 rfl rfl rfl) ?_
  intro w hw
  obtain ⟨β1, sb, kn, hw1, back⟩ := St.frame_all hw
  refine (awake_ok β1 w hw1).mono ?_
  rintro e w' ⟨rfl, hw'⟩
  refine ⟨_, rfl, _, back _ _ hw', ?_⟩
  clear hw hw1 hw' back kn sb
  refine l_val (v := .bool true) rfl rfl rfl (e_assign) ?_
  refine l_nil ?_
  refine f_then ?_
  refine c_ret ?_
  refine ret1 Tryz.results4 (v := .bool true) rfl ?_
  intro w hw
  exact ⟨rfl, st_mask [false] rfl hw⟩
end Go.Proofs
