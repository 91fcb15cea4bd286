/-
 What a house shows: walked. Printed by a program of my own.
-/
import Derived.Test.YtjejfkajcbdgjaaGreatTd8
import Derived.Test.YtjejfkajcbdgjaaGreatTd7
import Derived.Test.YtjejfkajcbdgjaaGreatTdShow
namespace Go.Proofs
open Go Go.Sl Go.Td Go.Jn
theorem sortedM_ok (β : Base) (w : World) (fn : Value) (E : List Int) (K : List Res) (hs : SeqK Tryz.prog β fn (fun z : Int => [Ix z]) (fun l => l.Perm E) K) (hn : E.length ≤ 1048576) (hw : St β K w) : Calls Tryz.prog 41 #[fn] w fun r w' => ∃ p c, r = .returned (.slice p (sortI E).length c) ∧ St β [rowF IntF 3 p c (sortI E)] w' := by
 refine (sortedI_ok β w fn _ K hs (fun l hl => by rw [hl.length_eq]; exact hn) hw).mono ?_
 rintro r w' ⟨p, c, xs, hS, rfl, hw'⟩
 rw [sortI_same hS] at hw' ⊢
 exact ⟨p, c, rfl, hw'⟩
theorem holds_next {hs : List (Int × KHo)} {ns : List Int} {k : Nat} {n : Int} (h : ns[k]? = some n) : (ns.take k).map (hoA hs) ++ [hoA hs n] = (ns.take (k + 1)).map (hoA hs) := by
 rw [List.take_add_one, h, List.map_append]; rfl
theorem tt114 : cfB Tryz.prog 41 = true := by kernel_rfl
theorem tt115 : cfB Tryz.prog 42 = true := by kernel_rfl
theorem tt116 : slB Tryz.prog 40 104 6 = true := by kernel_rfl
theorem tt117 : elB Tryz.prog 104 6 48 = true := by kernel_rfl
set_option maxHeartbeats 4000000 in
theorem last_ok (β : Base) (w : World) (H S N W : Nat) (pw : Int) (X : KHs) (hw : St β [houseR H S X N W pw] w) (au : Int) : Calls Tryz.prog 18 #[.pointer (some ⟨H, 0, none⟩), Ix au] w fun r w' => ∃ nu R so, lastX X au = (nu, R, so) ∧ ∃ p c, r = .returned (.tuple #[Ix nu, .agg #[.bool R.done, Ix R.at_, Ix R.e, .slice p R.holds.length c], .bool so]) ∧ St β [rowF IntF 3 p c R.holds, houseR H S X N W pw] w' := by
 obtain ⟨J, mp, mh, mm, s, ms, zs, i, k, hk, hpw, hw⟩ := St.openHouse hw
 obtain ⟨hd, mal, mhl, hlk, hlo, hnl, hml⟩ := hk.mm.lk au
 have hmb : mhl.length ≤ 1048576 := hlo.few hk.so.ok
 refine enter (n := 29) Tryz.func18 rfl Tryz.ntmps18 rfl ?_ hw
 refine c_seq ?_
 refine c_region ?_
 refine l_val (v := .int .i64 (0)) rfl rfl rfl (e_assign) ?_
 refine l_mv rfl rfl rfl (m_alloc tt53) ?_
 rintro _ _ ⟨b1, rfl, rfl⟩
 refine l_val (v := .bool false) rfl rfl rfl (e_assign) ?_
 refine l_nil ?_
 refine f_then ?_
 refine c_seq ?_
 refine c_seq ?_
 refine c_region ?_
 refine l_val (v := .pointer (some ⟨H, 0, none⟩)) rfl rfl rfl (e_move) ?_
 refine l_call rfl rfl rfl (cl_value (fst := []) (cap := []) (vs := [.pointer (some ⟨H, 0, none⟩)]) (all := [.pointer (some ⟨H, 0, none⟩)]) tt93 rfl rfl rfl) ?_
 intro w hw
 obtain ⟨β1, sb, kn, hw1, back⟩ := St.frame_all hw
 refine (hthere_ok β1 w hw1 _ _ _ _ _ s _ (kn _ (k_pt 1 (vs := [.pointer (some ⟨J, 0, none⟩), .map (some mp), .map (some mh), Ix (s.last), Ix (s.su.a0), Ix (s.su.a1), Ix (s.su.a2), Ix (s.su.a3), .map (some mm), .bool false]) rfl rfl))).mono ?_
 rintro e w' ⟨rfl, hw'⟩
 refine ⟨_, rfl, _, back _ _ hw', ?_⟩
 clear hw hw1 hw' back kn sb
 refine l_val (v := .bool false) rfl rfl rfl (e_not (a := true) rfl) ?_
 refine l_nil ?_
 refine f_then ?_
 refine c_no rfl ?_
 refine c_skip ?_
 refine f_then ?_
 refine c_seq ?_
 refine c_region ?_
 refine l_val (v := .pointer (some ⟨H, 0, none⟩)) rfl rfl rfl (e_move) ?_
 refine l_val (v := .pointer (some ⟨H, 0, none⟩)) rfl rfl rfl (e_nil (a := ⟨H, 0, none⟩) rfl) ?_
 refine l_val (v := .pointer (some ⟨H, 1, none⟩)) rfl rfl rfl (e_fieldPt (b := H) (o := 0) rfl tt100) ?_
 refine l_val (v := .pointer (some ⟨H, 8, none⟩)) rfl rfl rfl (e_fieldPt (b := H) (o := 1) rfl tt57) ?_
 refine l_val (v := .map (some mm)) rfl rfl rfl (e_load1 tt58 (v := .map (some mm)) rfl (k_pt 1 (cs := #[.pointer (some ⟨J, 0, none⟩), .map (some mp), .map (some mh), Ix (s.last), Ix (s.su.a0), Ix (s.su.a1), Ix (s.su.a2), Ix (s.su.a3), .map (some mm), .bool false]) (vs := [.map (some mm)]) rfl rfl)) ?_
 refine l_val (v := Ix (au)) rfl rfl rfl (e_move) ?_
 refine l_val (v := .tuple #[.agg #[Ix (hd.author), Ix (hd.number), .slice hd.p (hd.n) hd.c, .bool (hd.done), Ix (hd.at_), Ix (hd.e), .slice hd.q (hd.m) hd.k], .bool ((MeM.look ms au).isSome)]) rfl rfl rfl (ev_eq (congrArg (fun z => Value.tuple #[MeM.encv z, .bool (MeM.look ms au).isSome]) hlk) (e_look2 (K := MeM) (b := mm) (ks := ms) (k := au) rfl rfl rfl (Knows.of_res 6 rfl (mpR.mono _ _ _) fun _ h => h))) ?_
 refine l_val (v := .tuple #[.agg #[Ix (hd.author), Ix (hd.number), .slice hd.p (hd.n) hd.c, .bool (hd.done), Ix (hd.at_), Ix (hd.e), .slice hd.q (hd.m) hd.k], .bool ((MeM.look ms au).isSome)]) rfl rfl rfl (e_move) ?_
 refine l_val (v := .agg #[Ix (hd.author), Ix (hd.number), .slice hd.p (hd.n) hd.c, .bool (hd.done), Ix (hd.at_), Ix (hd.e), .slice hd.q (hd.m) hd.k]) rfl rfl rfl (e_extract (vs := #[.agg #[Ix (hd.author), Ix (hd.number), .slice hd.p (hd.n) hd.c, .bool (hd.done), Ix (hd.at_), Ix (hd.e), .slice hd.q (hd.m) hd.k], .bool ((MeM.look ms au).isSome)]) rfl rfl) ?_
 refine l_val (v := .bool ((MeM.look ms au).isSome)) rfl rfl rfl (e_extract (vs := #[.agg #[Ix (hd.author), Ix (hd.number), .slice hd.p (hd.n) hd.c, .bool (hd.done), Ix (hd.at_), Ix (hd.e), .slice hd.q (hd.m) hd.k], .bool ((MeM.look ms au).isSome)]) rfl rfl) ?_
 refine l_mv rfl rfl rfl (m_alloc tt67) ?_
 rintro _ _ ⟨b2, rfl, rfl⟩
 refine l_mu rfl rfl (m_store 0 tt101 (b := b2) (o := 0) (T := 82) (cs := #[.int .i64 (0), .int .i64 (0), .slice none 0 0, .bool false, .int .i64 (0), .int .i64 (0), .slice none 0 0]) (cs' := #[Ix (hd.author), Ix (hd.number), .slice hd.p (hd.n) hd.c, .bool (hd.done), Ix (hd.at_), Ix (hd.e), .slice hd.q (hd.m) hd.k]) (v := .agg #[Ix (hd.author), Ix (hd.number), .slice hd.p (hd.n) hd.c, .bool (hd.done), Ix (hd.at_), Ix (hd.e), .slice hd.q (hd.m) hd.k]) rfl rfl rfl rfl rfl rfl rfl) ?_
 refine l_val (v := .bool ((MeM.look ms au).isSome)) rfl rfl rfl (e_assign) ?_
 refine l_nil ?_
 refine f_then ?_
 refine c_seq ?_
 refine c_any [⟨[], [], [0], [22], fun f => f 22 = .pointer (some ⟨b2, 0, none⟩)⟩, ⟨[0], [0], [], [23], fun f => f 23 = .pointer (some ⟨b2, 1, none⟩)⟩, ⟨[0, 1], [1], [], [24], fun f => f 24 = Ix (hd.number)⟩, ⟨[], [], [0], [25], fun f => f 25 = .pointer (some ⟨b2, 3, none⟩)⟩, ⟨[3], [3], [], [26], fun f => f 26 = .agg #[.bool (hd.done), Ix (hd.at_), Ix (hd.e), .slice hd.q (hd.m) hd.k]⟩, ⟨[3, 4], [4], [], [27], fun f => f 27 = .agg #[.bool (hd.done), Ix (hd.at_), Ix (hd.e), .slice (agA (f 27)) (mhl.length) (agC (f 27))]⟩, ⟨[], [], [1], [28], fun f => f 28 = .bool ((MeM.look ms au).isSome)⟩, ⟨[0, 1, 2, 3, 4, 5], [2], [], [4], fun f => f 4 = Ix (hd.number)⟩, ⟨[0, 1, 2, 3, 4, 5, 7], [5], [2], [], fun _ => True⟩, ⟨[0, 1, 2, 3, 4, 5, 6, 7, 8], [6], [], [6], fun f => f 6 = .bool ((MeM.look ms au).isSome)⟩] [⟨none, none, [2, 4], [], fun _ => pt b2 (.cells #[Ix (hd.author), Ix (hd.number), .slice hd.p (hd.n) hd.c, .bool (hd.done), Ix (hd.at_), Ix (hd.e), .slice hd.q (hd.m) hd.k] 82)⟩, ⟨none, (some 8), [8], [], fun _ => pt b1 (.cells #[.bool false, .int .i64 (0), .int .i64 (0), .slice none 0 0] 37)⟩, ⟨none, none, [], [], fun _ => pt H (.cells #[.pointer (some ⟨J, 0, none⟩), .map (some mp), .map (some mh), Ix (s.last), Ix (s.su.a0), Ix (s.su.a1), Ix (s.su.a2), Ix (s.su.a3), .map (some mm), .bool false] 91)⟩, ⟨none, none, [], [], fun _ => jourR J S i false⟩, ⟨none, none, [], [], fun _ => storeR S k⟩, ⟨none, none, [], [], fun _ => mpR PuM mp s.ps⟩, ⟨none, none, [], [], fun _ => mpR HoM mh s.hs⟩, ⟨none, none, [], [], fun _ => mpR MeM mm ms⟩, ⟨none, none, [5], [], fun _ => memR zs⟩, ⟨(some 5), none, [], [27], fun f => rowF IntF 3 (agA (f 27)) (agC (f 27)) mhl⟩, ⟨(some 8), none, [], [27], fun f => pt b1 (.cells #[.bool (hd.done), Ix (hd.at_), Ix (hd.e), .slice (agA (f 27)) (mhl.length) (agC (f 27))] 37)⟩] [(7, .pointer (some ⟨b2, 0, none⟩)), (6, .bool ((MeM.look ms au).isSome)), (5, .pointer (some ⟨b1, 0, none⟩))] [2] [] (by kernel_rfl) (by kernel_rfl) (by kernel_rfl) (by kernel_rfl) rfl ⟨rfl, rfl, rfl, trivial⟩ ⟨?_, ?_, ?_, ?_, ?_, ?_, ?_, ?_, ?_, ?_, trivial⟩ ?_
 ·rintro f M - ⟨i0, -⟩
  have hs7 : f 7 = .pointer (some ⟨b2, 0, none⟩) := i0
  refine ob_start (L' := M) (by rfl) (up_cons rfl hs7) ?_
  refine l_val (v := .pointer (some ⟨b2, 0, none⟩)) rfl rfl rfl (e_fieldPt (b := b2) (o := 0) rfl tt103) ?_
  refine l_nil ?_
  exact f_owes_d (up_cons rfl hs7) rfl (List.Perm.refl _)
 ·rintro f M ⟨k0, -⟩ -
  have hs22 : f 22 = .pointer (some ⟨b2, 0, none⟩) := k0
  refine ob_start (L' := M) (by rfl) (up_cons rfl hs22) ?_
  refine l_val (v := .pointer (some ⟨b2, 1, none⟩)) rfl rfl rfl (e_fieldPt (b := b2) (o := 0) rfl tt21) ?_
  refine l_nil ?_
  exact f_owes_d (up_cons rfl hs22) rfl (List.Perm.refl _)
 ·rintro f M ⟨k0, -⟩ -
  have hs23 : f 23 = .pointer (some ⟨b2, 1, none⟩) := k0
  refine ob_start (L' := pt b2 (.cells #[Ix (hd.author), Ix (hd.number), .slice hd.p (hd.n) hd.c, .bool (hd.done), Ix (hd.at_), Ix (hd.e), .slice hd.q (hd.m) hd.k] 82) :: M) (by rfl) (up_cons rfl hs23) ?_
  refine l_val (v := Ix (hd.number)) rfl rfl rfl (e_load1 tt2 (v := Ix (hd.number)) rfl (k_pt 0 (cs := #[Ix (hd.author), Ix (hd.number), .slice hd.p (hd.n) hd.c, .bool (hd.done), Ix (hd.at_), Ix (hd.e), .slice hd.q (hd.m) hd.k]) (vs := [Ix (hd.number)]) rfl rfl)) ?_
  refine l_nil ?_
  exact f_owes_d (up_cons rfl hs23) rfl (perm_front 0 rfl)
 ·rintro f M - ⟨i0, -⟩
  have hs7 : f 7 = .pointer (some ⟨b2, 0, none⟩) := i0
  refine ob_start (L' := M) (by rfl) (up_cons rfl hs7) ?_
  refine l_val (v := .pointer (some ⟨b2, 3, none⟩)) rfl rfl rfl (e_fieldPt (b := b2) (o := 0) rfl tt105) ?_
  refine l_nil ?_
  exact f_owes_d (up_cons rfl hs7) rfl (List.Perm.refl _)
 ·rintro f M ⟨k0, -⟩ -
  have hs25 : f 25 = .pointer (some ⟨b2, 3, none⟩) := k0
  refine ob_start (L' := pt b2 (.cells #[Ix (hd.author), Ix (hd.number), .slice hd.p (hd.n) hd.c, .bool (hd.done), Ix (hd.at_), Ix (hd.e), .slice hd.q (hd.m) hd.k] 82) :: M) (by rfl) (up_cons rfl hs25) ?_
  refine l_val (v := .agg #[.bool (hd.done), Ix (hd.at_), Ix (hd.e), .slice hd.q (hd.m) hd.k]) rfl rfl rfl (e_load tt61 (cs := [.bool (hd.done), Ix (hd.at_), Ix (hd.e), .slice hd.q (hd.m) hd.k]) rfl (k_pt 0 (cs := #[Ix (hd.author), Ix (hd.number), .slice hd.p (hd.n) hd.c, .bool (hd.done), Ix (hd.at_), Ix (hd.e), .slice hd.q (hd.m) hd.k]) (vs := [.bool (hd.done), Ix (hd.at_), Ix (hd.e), .slice hd.q (hd.m) hd.k]) rfl rfl) rfl) ?_
  refine l_nil ?_
  exact f_owes_d (up_cons rfl hs25) rfl (perm_front 0 rfl)
 ·rintro f M ⟨k0, -⟩ -
  have hs26 : f 26 = .agg #[.bool (hd.done), Ix (hd.at_), Ix (hd.e), .slice hd.q (hd.m) hd.k] := k0
  refine ob_start (L' := memR zs :: M) (by rfl) (up_cons rfl hs26) ?_
  refine l_call rfl rfl rfl (cl_value (fst := []) (cap := []) (vs := [.agg #[.bool (hd.done), Ix (hd.at_), Ix (hd.e), .slice hd.q (hd.m) hd.k]]) (all := [.agg #[.bool (hd.done), Ix (hd.at_), Ix (hd.e), .slice hd.q (hd.m) hd.k]]) tt106 rfl rfl rfl) ?_
  intro w hw
  obtain ⟨β1, sb, kn, hw1, back⟩ := St.frame_all hw
  refine (own_ok β1 w hw1 hd.done hd.at_ hd.e _ mhl (kn _ (k_lkH 0 rfl hlo)) (by omega)).mono ?_
  rintro e w' ⟨p5, c6, rfl, hw'⟩
  refine ⟨_, rfl, _, back _ _ hw', ?_⟩
  clear hw hw1 hw' back kn sb
  refine l_nil ?_
  exact f_owes_d (up_cons rfl hs26) rfl ((perm_front 0 rfl).trans (perm_front 1 rfl))
 ·rintro f M - ⟨i0, -⟩
  have hs6 : f 6 = .bool ((MeM.look ms au).isSome) := i0
  refine ob_start (L' := M) (by rfl) (up_cons rfl hs6) ?_
  refine l_val (v := .bool ((MeM.look ms au).isSome)) rfl rfl rfl (e_move) ?_
  refine l_nil ?_
  exact f_owes_d (up_cons rfl hs6) rfl (List.Perm.refl _)
 ·rintro f M ⟨k0, -⟩ -
  have hs24 : f 24 = Ix (hd.number) := k0
  refine ob_start (L' := M) (by rfl) (up_cons rfl hs24) ?_
  refine l_val (v := Ix (hd.number)) rfl rfl rfl (e_assign) ?_
  refine l_nil ?_
  exact f_owes_d (up_cons rfl hs24) rfl (List.Perm.refl _)
 ·rintro f M ⟨k0, -⟩ ⟨i0, -⟩
  have hs5 : f 5 = .pointer (some ⟨b1, 0, none⟩) := i0
  have hs27 : f 27 = .agg #[.bool (hd.done), Ix (hd.at_), Ix (hd.e), .slice (agA (f 27)) (mhl.length) (agC (f 27))] := k0
  refine ob_start (L' := pt b1 (.cells #[.bool false, .int .i64 (0), .int .i64 (0), .slice none 0 0] 37) :: M) (by rfl) (up_cons (up_cons rfl hs5) hs27) ?_
  refine l_mu rfl rfl (m_store 0 tt61 (b := b1) (o := 0) (T := 37) (cs := #[.bool false, .int .i64 (0), .int .i64 (0), .slice none 0 0]) (cs' := #[.bool (hd.done), Ix (hd.at_), Ix (hd.e), .slice (agA (f 27)) (mhl.length) (agC (f 27))]) (v := .agg #[.bool (hd.done), Ix (hd.at_), Ix (hd.e), .slice (agA (f 27)) (mhl.length) (agC (f 27))]) rfl rfl rfl rfl rfl rfl rfl) ?_
  refine l_nil ?_
  exact f_owes_n (up_cons (up_cons rfl hs5) hs27) trivial (perm_front 0 rfl)
 ·rintro f M ⟨k0, -⟩ -
  have hs28 : f 28 = .bool ((MeM.look ms au).isSome) := k0
  refine ob_start (L' := M) (by rfl) (up_cons rfl hs28) ?_
  refine l_val (v := .bool ((MeM.look ms au).isSome)) rfl rfl rfl (e_assign) ?_
  refine l_nil ?_
  exact f_owes_d (up_cons rfl hs28) rfl (List.Perm.refl _)
 rintro fa7 ⟨-, -, -, -, -, -, -, k7, -, k9, -⟩ ⟨j0, -⟩
 refine f_re (L' := [pt b2 (.cells #[Ix (hd.author), Ix (hd.number), .slice hd.p (hd.n) hd.c, .bool (hd.done), Ix (hd.at_), Ix (hd.e), .slice hd.q (hd.m) hd.k] 82), pt H (.cells #[.pointer (some ⟨J, 0, none⟩), .map (some mp), .map (some mh), Ix (s.last), Ix (s.su.a0), Ix (s.su.a1), Ix (s.su.a2), Ix (s.su.a3), .map (some mm), .bool false] 91), jourR J S i false, storeR S k, mpR PuM mp s.ps, mpR HoM mh s.hs, mpR MeM mm ms, memR zs, rowF IntF 3 (agA (fa7 27)) (agC (fa7 27)) mhl, pt b1 (.cells #[.bool (hd.done), Ix (hd.at_), Ix (hd.e), .slice (agA (fa7 27)) (mhl.length) (agC (fa7 27))] 37)]) (by rfl) ?_
 refine f_rebase (d := 4) (v := Ix (hd.number)) k7 ?_
 refine f_rebase (d := 5) (v := .pointer (some ⟨b1, 0, none⟩)) j0 ?_
 refine f_rebase (d := 6) (v := .bool ((MeM.look ms au).isSome)) k9 ?_
 refine f_then ?_
 refine c_ret ?_
 refine retG (l := [.tmp 4, .cell 5 37, .tmp 6]) (m := [Ix (hd.number), .agg #[.bool (hd.done), Ix (hd.at_), Ix (hd.e), .slice (agA (fa7 27)) (mhl.length) (agC (fa7 27))], .bool ((MeM.look ms au).isSome)]) (v := .tuple #[Ix (hd.number), .agg #[.bool (hd.done), Ix (hd.at_), Ix (hd.e), .slice (agA (fa7 27)) (mhl.length) (agC (fa7 27))], .bool ((MeM.look ms au).isSome)]) Tryz.results18 ⟨rd_tmp (v := Ix (hd.number)) rfl, rd_cell tt61 (cs := [.bool (hd.done), Ix (hd.at_), Ix (hd.e), .slice (agA (fa7 27)) (mhl.length) (agC (fa7 27))]) rfl (k_pt 9 (cs := #[.bool (hd.done), Ix (hd.at_), Ix (hd.e), .slice (agA (fa7 27)) (mhl.length) (agC (fa7 27))]) (vs := [.bool (hd.done), Ix (hd.at_), Ix (hd.e), .slice (agA (fa7 27)) (mhl.length) (agC (fa7 27))]) rfl rfl) rfl, rd_tmp (v := .bool ((MeM.look ms au).isSome)) rfl, trivial⟩ rfl ?_
 intro w hw
 replace hw := hw.perm (L' := [pt H (.cells #[.pointer (some ⟨J, 0, none⟩), .map (some mp), .map (some mh), Ix (s.last), Ix (s.su.a0), Ix (s.su.a1), Ix (s.su.a2), Ix (s.su.a3), .map (some mm), .bool false] 91), jourR J S i false, storeR S k, mpR PuM mp s.ps, mpR HoM mh s.hs, mpR MeM mm ms, memR zs, rowF IntF 3 (agA (fa7 27)) (agC (fa7 27)) mhl, pt b2 (.cells #[Ix (hd.author), Ix (hd.number), .slice hd.p (hd.n) hd.c, .bool (hd.done), Ix (hd.at_), Ix (hd.e), .slice hd.q (hd.m) hd.k] 82), pt b1 (.cells #[.bool (hd.done), Ix (hd.at_), Ix (hd.e), .slice (agA (fa7 27)) (mhl.length) (agC (fa7 27))] 37)]) (by exact (perm_ix [1, 2, 3, 4, 5, 6, 7, 8, 0, 9] 10 rfl (by kernel_rfl) (by kernel_rfl)))
 replace hw := st_mask (L' := [pt H (.cells #[.pointer (some ⟨J, 0, none⟩), .map (some mp), .map (some mh), Ix (s.last), Ix (s.su.a0), Ix (s.su.a1), Ix (s.su.a2), Ix (s.su.a3), .map (some mm), .bool false] 91), jourR J S i false, storeR S k, mpR PuM mp s.ps, mpR HoM mh s.hs, mpR MeM mm ms, memR zs, rowF IntF 3 (agA (fa7 27)) (agC (fa7 27)) mhl]) [true, true, true, true, true, true, true, true, false, false] rfl hw
 have hw2 := St.closeHouse (M := [rowF IntF 3 (agA (fa7 27)) (agC (fa7 27)) mhl]) hk hpw hw
 exact ⟨_, _, _, hlo.last, (agA (fa7 27)), (agC (fa7 27)), rfl, hw2.perm (List.Perm.swap _ _ _)⟩
theorem purse_ok (β : Base) (w : World) (H S N W : Nat) (pw : Int) (X : KHs) (hw : St β [houseR H S X N W pw] w) (n : Int) : Calls Tryz.prog 44 #[.pointer (some ⟨H, 0, none⟩), Ix n] w fun r w' => r = .returned (.agg (amC (puA X.s.ps n))) ∧ St β [houseR H S X N W pw] w' := by
 obtain ⟨J, mp, mh, mm, s, ms, zs, i, k, hk, hpw, hw⟩ := St.openHouse hw
 refine enter (n := 16) Tryz.func44 rfl Tryz.ntmps44 rfl ?_ hw
 refine c_seq ?_
 refine c_region ?_
 refine l_mv rfl rfl rfl (m_alloc tt3) ?_
 rintro _ _ ⟨b1, rfl, rfl⟩
 refine l_nil ?_
 refine f_then ?_
 refine c_seq ?_
 refine c_seq ?_
 refine c_region ?_
 refine l_val (v := .pointer (some ⟨H, 0, none⟩)) rfl rfl rfl (e_move) ?_
 refine l_call rfl rfl rfl (cl_value (fst := []) (cap := []) (vs := [.pointer (some ⟨H, 0, none⟩)]) (all := [.pointer (some ⟨H, 0, none⟩)]) tt93 rfl rfl rfl) ?_
 intro w hw
 obtain ⟨β1, sb, kn, hw1, back⟩ := St.frame_all hw
 refine (hthere_ok β1 w hw1 _ _ _ _ _ s _ (kn _ (k_pt 1 (vs := [.pointer (some ⟨J, 0, none⟩), .map (some mp), .map (some mh), Ix (s.last), Ix (s.su.a0), Ix (s.su.a1), Ix (s.su.a2), Ix (s.su.a3), .map (some mm), .bool false]) rfl rfl))).mono ?_
 rintro e w' ⟨rfl, hw'⟩
 refine ⟨_, rfl, _, back _ _ hw', ?_⟩
 clear hw hw1 hw' back kn sb
 refine l_val (v := .bool false) rfl rfl rfl (e_not (a := true) rfl) ?_
 refine l_nil ?_
 refine f_then ?_
 refine c_no rfl ?_
 refine c_skip ?_
 refine f_then ?_
 refine c_seq ?_
 refine c_region ?_
 refine l_val (v := .pointer (some ⟨H, 0, none⟩)) rfl rfl rfl (e_move) ?_
 refine l_val (v := .pointer (some ⟨H, 0, none⟩)) rfl rfl rfl (e_nil (a := ⟨H, 0, none⟩) rfl) ?_
 refine l_val (v := .pointer (some ⟨H, 1, none⟩)) rfl rfl rfl (e_fieldPt (b := H) (o := 0) rfl tt100) ?_
 refine l_val (v := .pointer (some ⟨H, 1, none⟩)) rfl rfl rfl (e_fieldPt (b := H) (o := 1) rfl tt32) ?_
 refine l_val (v := .map (some mp)) rfl rfl rfl (e_load1 tt33 (v := .map (some mp)) rfl (k_pt 1 (cs := #[.pointer (some ⟨J, 0, none⟩), .map (some mp), .map (some mh), Ix (s.last), Ix (s.su.a0), Ix (s.su.a1), Ix (s.su.a2), Ix (s.su.a3), .map (some mm), .bool false]) (vs := [.map (some mp)]) rfl rfl)) ?_
 refine l_val (v := Ix (n)) rfl rfl rfl (e_move) ?_
 refine l_val (v := .agg (amC ((PuM.look s.ps (n)).getD zeroA))) rfl rfl rfl (e_look1 (K := PuM) (b := mp) (ks := s.ps) (k := (n)) rfl rfl rfl (Knows.of_res 4 rfl (mpR.mono _ _ _) fun _ h => h)) ?_
 refine l_mu rfl rfl (m_store 0 tt0 (b := b1) (o := 0) (T := 44) (cs := #[.int .i64 (0), .int .i64 (0), .int .i64 (0), .int .i64 (0)]) (cs' := (amC ((PuM.look s.ps (n)).getD zeroA))) (v := .agg (amC ((PuM.look s.ps (n)).getD zeroA))) rfl rfl rfl rfl rfl rfl rfl) ?_
 refine l_nil ?_
 refine f_then ?_
 refine c_ret ?_
 refine retG (l := [.cell 4 44]) (m := [.agg (amC ((PuM.look s.ps (n)).getD zeroA))]) (v := .agg (amC ((PuM.look s.ps (n)).getD zeroA))) Tryz.results44 ⟨rd_cell tt0 (cs := (amE ((PuM.look s.ps (n)).getD zeroA))) rfl (k_pt 0 (cs := (amC ((PuM.look s.ps (n)).getD zeroA))) (vs := (amE ((PuM.look s.ps (n)).getD zeroA))) rfl rfl) rfl, trivial⟩ rfl ?_
 intro w hw
 replace hw := hw.perm (L' := [pt H (.cells #[.pointer (some ⟨J, 0, none⟩), .map (some mp), .map (some mh), Ix (s.last), Ix (s.su.a0), Ix (s.su.a1), Ix (s.su.a2), Ix (s.su.a3), .map (some mm), .bool false] 91), jourR J S i false, storeR S k, mpR PuM mp s.ps, mpR HoM mh s.hs, mpR MeM mm ms, memR zs, pt b1 (.cells (amC ((PuM.look s.ps (n)).getD zeroA)) 44)]) (by exact (perm_ix [1, 2, 3, 4, 5, 6, 7, 0] 8 rfl (by kernel_rfl) (by kernel_rfl)))
 replace hw := st_mask (L' := [pt H (.cells #[.pointer (some ⟨J, 0, none⟩), .map (some mp), .map (some mh), Ix (s.last), Ix (s.su.a0), Ix (s.su.a1), Ix (s.su.a2), Ix (s.su.a3), .map (some mm), .bool false] 91), jourR J S i false, storeR S k, mpR PuM mp s.ps, mpR HoM mh s.hs, mpR MeM mm ms, memR zs]) [true, true, true, true, true, true, true, false] rfl hw
 have hw2 := St.closeHouse (M := []) hk hpw hw
 exact ⟨by rw [← hk.purse] <;> rfl, hw2⟩
theorem supply_ok (β : Base) (w : World) (H S N W : Nat) (pw : Int) (X : KHs) (hw : St β [houseR H S X N W pw] w) : Calls Tryz.prog 15 #[.pointer (some ⟨H, 0, none⟩)] w fun r w' => r = .returned (.agg (amC X.s.su)) ∧ St β [houseR H S X N W pw] w' := by
 obtain ⟨J, mp, mh, mm, s, ms, zs, i, k, hk, hpw, hw⟩ := St.openHouse hw
 refine enter (n := 12) Tryz.func15 rfl Tryz.ntmps15 rfl ?_ hw
 refine c_seq ?_
 refine c_region ?_
 refine l_mv rfl rfl rfl (m_alloc tt3) ?_
 rintro _ _ ⟨b1, rfl, rfl⟩
 refine l_nil ?_
 refine f_then ?_
 refine c_seq ?_
 refine c_seq ?_
 refine c_region ?_
 refine l_val (v := .pointer (some ⟨H, 0, none⟩)) rfl rfl rfl (e_move) ?_
 refine l_call rfl rfl rfl (cl_value (fst := []) (cap := []) (vs := [.pointer (some ⟨H, 0, none⟩)]) (all := [.pointer (some ⟨H, 0, none⟩)]) tt93 rfl rfl rfl) ?_
 intro w hw
 obtain ⟨β1, sb, kn, hw1, back⟩ := St.frame_all hw
 refine (hthere_ok β1 w hw1 _ _ _ _ _ s _ (kn _ (k_pt 1 (vs := [.pointer (some ⟨J, 0, none⟩), .map (some mp), .map (some mh), Ix (s.last), Ix (s.su.a0), Ix (s.su.a1), Ix (s.su.a2), Ix (s.su.a3), .map (some mm), .bool false]) rfl rfl))).mono ?_
 rintro e w' ⟨rfl, hw'⟩
 refine ⟨_, rfl, _, back _ _ hw', ?_⟩
 clear hw hw1 hw' back kn sb
 refine l_val (v := .bool false) rfl rfl rfl (e_not (a := true) rfl) ?_
 refine l_nil ?_
 refine f_then ?_
 refine c_no rfl ?_
 refine c_skip ?_
 refine f_then ?_
 refine c_seq ?_
 refine c_region ?_
 refine l_val (v := .pointer (some ⟨H, 0, none⟩)) rfl rfl rfl (e_move) ?_
 refine l_val (v := .pointer (some ⟨H, 0, none⟩)) rfl rfl rfl (e_nil (a := ⟨H, 0, none⟩) rfl) ?_
 refine l_val (v := .pointer (some ⟨H, 1, none⟩)) rfl rfl rfl (e_fieldPt (b := H) (o := 0) rfl tt100) ?_
 refine l_val (v := .pointer (some ⟨H, 4, none⟩)) rfl rfl rfl (e_fieldPt (b := H) (o := 1) rfl tt36) ?_
 refine l_val (v := .agg (amC s.su)) rfl rfl rfl (e_load tt0 (cs := (amE s.su)) rfl (k_pt 1 (cs := #[.pointer (some ⟨J, 0, none⟩), .map (some mp), .map (some mh), Ix (s.last), Ix (s.su.a0), Ix (s.su.a1), Ix (s.su.a2), Ix (s.su.a3), .map (some mm), .bool false]) (vs := (amE s.su)) rfl rfl) rfl) ?_
 refine l_mu rfl rfl (m_store 0 tt0 (b := b1) (o := 0) (T := 44) (cs := #[.int .i64 (0), .int .i64 (0), .int .i64 (0), .int .i64 (0)]) (cs' := (amC s.su)) (v := .agg (amC s.su)) rfl rfl rfl rfl rfl rfl rfl) ?_
 refine l_nil ?_
 refine f_then ?_
 refine c_ret ?_
 refine retG (l := [.cell 2 44]) (m := [.agg (amC s.su)]) (v := .agg (amC s.su)) Tryz.results15 ⟨rd_cell tt0 (cs := (amE s.su)) rfl (k_pt 0 (cs := (amC s.su)) (vs := (amE s.su)) rfl rfl) rfl, trivial⟩ rfl ?_
 intro w hw
 replace hw := hw.perm (L' := [pt H (.cells #[.pointer (some ⟨J, 0, none⟩), .map (some mp), .map (some mh), Ix (s.last), Ix (s.su.a0), Ix (s.su.a1), Ix (s.su.a2), Ix (s.su.a3), .map (some mm), .bool false] 91), jourR J S i false, storeR S k, mpR PuM mp s.ps, mpR HoM mh s.hs, mpR MeM mm ms, memR zs, pt b1 (.cells (amC s.su) 44)]) (by exact (perm_ix [1, 2, 3, 4, 5, 6, 7, 0] 8 rfl (by kernel_rfl) (by kernel_rfl)))
 replace hw := st_mask (L' := [pt H (.cells #[.pointer (some ⟨J, 0, none⟩), .map (some mp), .map (some mh), Ix (s.last), Ix (s.su.a0), Ix (s.su.a1), Ix (s.su.a2), Ix (s.su.a3), .map (some mm), .bool false] 91), jourR J S i false, storeR S k, mpR PuM mp s.ps, mpR HoM mh s.hs, mpR MeM mm ms, memR zs]) [true, true, true, true, true, true, true, false] rfl hw
 have hw2 := St.closeHouse (M := []) hk hpw hw
 exact ⟨by rw [← hk.supply] <;> rfl, hw2⟩
set_option maxHeartbeats 4000000 in
theorem holds_ok (β : Base) (w : World) (H S N W : Nat) (pw : Int) (X : KHs) (hw : St β [houseR H S X N W pw] w) : Calls Tryz.prog 13 #[.pointer (some ⟨H, 0, none⟩)] w fun r w' => ∃ p c, r = .returned (.slice p (holdsX X).length c) ∧ St β [rowF HoF 104 p c (holdsX X), houseR H S X N W pw] w' := by
 obtain ⟨J, mp, mh, mm, s, ms, zs, i, k, hk, hpw, hw⟩ := St.openHouse hw
 refine enter (n := 33) Tryz.func13 rfl Tryz.ntmps13 rfl ?_ hw
 refine c_seq ?_
 refine c_region ?_
 refine l_val (v := .slice none 0 0) rfl rfl rfl (e_assign) ?_
 refine l_nil ?_
 refine f_then ?_
 refine c_seq ?_
 refine c_seq ?_
 refine c_region ?_
 refine l_val (v := .pointer (some ⟨H, 0, none⟩)) rfl rfl rfl (e_move) ?_
 refine l_call rfl rfl rfl (cl_value (fst := []) (cap := []) (vs := [.pointer (some ⟨H, 0, none⟩)]) (all := [.pointer (some ⟨H, 0, none⟩)]) tt93 rfl rfl rfl) ?_
 intro w hw
 obtain ⟨β1, sb, kn, hw1, back⟩ := St.frame_all hw
 refine (hthere_ok β1 w hw1 _ _ _ _ _ s _ (kn _ (k_pt 0 (vs := [.pointer (some ⟨J, 0, none⟩), .map (some mp), .map (some mh), Ix (s.last), Ix (s.su.a0), Ix (s.su.a1), Ix (s.su.a2), Ix (s.su.a3), .map (some mm), .bool false]) rfl rfl))).mono ?_
 rintro e w' ⟨rfl, hw'⟩
 refine ⟨_, rfl, _, back _ _ hw', ?_⟩
 clear hw hw1 hw' back kn sb
 refine l_val (v := .bool false) rfl rfl rfl (e_not (a := true) rfl) ?_
 refine l_nil ?_
 refine f_then ?_
 refine c_no rfl ?_
 refine c_skip ?_
 refine f_then ?_
 refine c_seq ?_
 refine c_region ?_
 refine l_val (v := .slice none 0 0) rfl rfl rfl (e_assign) ?_
 refine l_nil ?_
 refine f_then ?_
 refine c_seq ?_
 refine c_seq ?_
 refine c_emp (r := rowF HoF 104 none 0 []) (row_nil _ _ _) ?_
 refine c_region ?_
 refine l_val (v := .pointer (some ⟨H, 0, none⟩)) rfl rfl rfl (e_move) ?_
 refine l_val (v := .pointer (some ⟨H, 0, none⟩)) rfl rfl rfl (e_nil (a := ⟨H, 0, none⟩) rfl) ?_
 refine l_val (v := .pointer (some ⟨H, 1, none⟩)) rfl rfl rfl (e_fieldPt (b := H) (o := 0) rfl tt100) ?_
 refine l_val (v := .pointer (some ⟨H, 2, none⟩)) rfl rfl rfl (e_fieldPt (b := H) (o := 1) rfl tt38) ?_
 refine l_val (v := .map (some mh)) rfl rfl rfl (e_load1 tt39 (v := .map (some mh)) rfl (k_pt 1 (cs := #[.pointer (some ⟨J, 0, none⟩), .map (some mp), .map (some mh), Ix (s.last), Ix (s.su.a0), Ix (s.su.a1), Ix (s.su.a2), Ix (s.su.a3), .map (some mm), .bool false]) (vs := [.map (some mh)]) rfl rfl)) ?_
 refine l_call rfl rfl rfl (cl_value (fst := []) (cap := []) (vs := [.map (some mh)]) (all := [.map (some mh)]) tt115 rfl rfl rfl) ?_
 intro w hw
 obtain ⟨β1, sb, kn, hw1, back⟩ := St.frame_all hw
 refine (keysH_ok β1 w hw1 mh).mono ?_
 rintro e w' ⟨b1, rfl, hw'⟩
 refine ⟨_, rfl, _, back _ _ hw', ?_⟩
 clear hw hw1 hw' back kn sb
 refine l_call rfl rfl rfl (cl_value (fst := []) (cap := []) (vs := [.func (.func 79) #[] #[.pointer (some ⟨b1, 0, none⟩)]]) (all := [.func (.func 79) #[] #[.pointer (some ⟨b1, 0, none⟩)]]) tt114 rfl rfl rfl) ?_
 intro w hw
 replace hw := hw.perm (L' := _ :: _ :: _ :: _ :: _ :: _ :: _ :: _ :: _ :: []) (by exact (((((((((perm_front 8 rfl).trans (perm_front 8 rfl)).trans (perm_front 8 rfl)).trans (perm_front 8 rfl)).trans (perm_front 8 rfl)).trans (perm_front 8 rfl)).trans (perm_front 8 rfl)).trans (perm_front 8 rfl)).trans (perm_front 8 rfl)))
 obtain ⟨β1, sb, kn, hw1, back⟩ := St.frame (L := [_]) (M := _ :: _ :: _ :: _ :: _ :: _ :: _ :: _ :: []) hw
 refine (sortedM_ok β1 w _ _ _ (keysH_seq β1 b1 mh s.hs (kn _ (Knows.of_res 5 rfl (mpR.mono _ _ _) fun _ h => h))) (Nat.le_trans hk.hfew (by decide)) hw1).mono ?_
 rintro e w' ⟨p2, c3, rfl, hw'⟩
 refine ⟨_, rfl, _, back _ _ hw', ?_⟩
 clear hw hw1 hw' back kn sb
 refine l_val (v := Nx ((sortI (s.hs.map (·.1))).length)) rfl rfl rfl (e_len (a := p2) (n := (sortI (s.hs.map (·.1))).length) (c := c3) rfl tt28) ?_
 refine l_val (v := .int .i64 (0)) rfl rfl rfl (e_move) ?_
 refine l_nil ?_
 refine f_then ?_
 refine c_block ?_
 refine c_loop (fun (x_ : Nat × List KHo × Option Addr × Nat) (f : Fm) (L : List Res) => match x_ with | (kk, hol, p, c) => (f 0 = .pointer (some ⟨H, 0, none⟩) ∧ f 3 = .slice p (hol.length) c ∧ f 15 = .slice p2 ((sortI (s.hs.map (·.1))).length) c3 ∧ f 16 = Nx ((sortI (s.hs.map (·.1))).length) ∧ f 17 = Nx (kk)) ∧ L = [rowF IntF 3 p2 c3 (sortI (s.hs.map (·.1))), rowF HoF 104 p c hol, pt H (.cells #[.pointer (some ⟨J, 0, none⟩), .map (some mp), .map (some mh), Ix (s.last), Ix (s.su.a0), Ix (s.su.a1), Ix (s.su.a2), Ix (s.su.a3), .map (some mm), .bool false] 91), jourR J S i false, storeR S k, mpR PuM mp s.ps, mpR HoM mh s.hs, mpR MeM mm ms, memR zs] ∧ (kk ≤ (sortI (s.hs.map (·.1))).length ∧ hol = ((sortI (s.hs.map (·.1))).take kk).map (hoA s.hs))) (fun (x_ : Nat × List KHo × Option Addr × Nat) => match x_ with | (kk, hol, p, c) => (sortI (s.hs.map (·.1))).length - kk) (0, [], none, 0) ?_ ?_
 ·exact ⟨⟨rfl, rfl, rfl, rfl, rfl⟩, rfl, ⟨Nat.zero_le _, rfl⟩⟩
 rintro ⟨kk, hol, p, c⟩ f0 L0 ⟨⟨hs0, hs3, hs15, hs16, hs17⟩, hL, ⟨hkl, hhs⟩⟩
 subst L0
 refine rebase (d := 0) hs0 ?_
 refine rebase (d := 3) hs3 ?_
 refine rebase (d := 15) hs15 ?_
 refine rebase (d := 16) hs16 ?_
 refine rebase (d := 17) hs17 ?_
 clear hs0 hs3 hs15 hs16 hs17
 have hsl : (sortI (s.hs.map (·.1))).length ≤ 128 := by rw [sortI_len]; exact hk.hfew
 have hhl : hol.length ≤ 256 := by rw [hhs, List.length_map, List.length_take, sortI_len]; have := hk.hfew; omega
 refine c_seq ?_
 refine c_region ?_
 refine l_val (v := .bool (decide (((kk : Nat) : Int) < (((sortI (s.hs.map (·.1))).length : Nat) : Int)))) rfl rfl rfl (e_lss (a := ((kk : Nat) : Int)) (b := (((sortI (s.hs.map (·.1))).length : Nat) : Int)) rfl rfl) ?_
 refine l_nil ?_
 refine f_then ?_
 refine c_seq ?_
 refine c_if (((kk : Nat) : Int) < (((sortI (s.hs.map (·.1))).length : Nat) : Int)) rfl (fun hc4 => ?_) (fun hc4 => ?_)
 ·
  refine c_skip ?_
  refine f_then ?_
  refine c_seq ?_
  refine c_block ?_
  refine c_seq ?_
  refine c_region ?_
  refine l_val (v := .pointer (some ((ba p2).add (kk * 1)))) rfl rfl rfl (e_indexFlN 0 (F := IntF) (j := kk) (m := (sortI (s.hs.map (·.1))).length) (xs := (sortI (s.hs.map (·.1)))) rfl rfl rfl tt29 (by omega) rfl) ?_
  obtain ⟨x5, hx6⟩ : ∃ x_, (sortI (s.hs.map (·.1)))[kk]? = some x_ := ⟨_, List.getElem?_eq_getElem (by first | omega | decide)⟩
  refine l_val (v := Ix (x5)) rfl rfl rfl (e_load1 tt2 (v := Ix (x5)) rfl (k_flAt 0 (F := IntF) rfl hx6)) ?_
  refine l_val (v := Ix (x5)) rfl rfl rfl (e_assign) ?_
  refine l_nil ?_
  refine f_then ?_
  refine c_region ?_
  refine l_val (v := .slice p (hol.length) c) rfl rfl rfl (e_move) ?_
  refine l_val (v := .pointer (some ⟨H, 0, none⟩)) rfl rfl rfl (e_move) ?_
  refine l_val (v := .pointer (some ⟨H, 0, none⟩)) rfl rfl rfl (e_nil (a := ⟨H, 0, none⟩) rfl) ?_
  refine l_val (v := .pointer (some ⟨H, 1, none⟩)) rfl rfl rfl (e_fieldPt (b := H) (o := 0) rfl tt100) ?_
  refine l_val (v := .pointer (some ⟨H, 2, none⟩)) rfl rfl rfl (e_fieldPt (b := H) (o := 1) rfl tt38) ?_
  refine l_val (v := .map (some mh)) rfl rfl rfl (e_load1 tt39 (v := .map (some mh)) rfl (k_pt 2 (cs := #[.pointer (some ⟨J, 0, none⟩), .map (some mp), .map (some mh), Ix (s.last), Ix (s.su.a0), Ix (s.su.a1), Ix (s.su.a2), Ix (s.su.a3), .map (some mm), .bool false]) (vs := [.map (some mh)]) rfl rfl)) ?_
  refine l_val (v := Ix (x5)) rfl rfl rfl (e_move) ?_
  refine l_val (v := .agg #[Ix (((HoM.look s.hs (x5)).getD zeroH).number), Ix (((HoM.look s.hs (x5)).getD zeroH).owner), Ix (((HoM.look s.hs (x5)).getD zeroH).a.a0), Ix (((HoM.look s.hs (x5)).getD zeroH).a.a1), Ix (((HoM.look s.hs (x5)).getD zeroH).a.a2), Ix (((HoM.look s.hs (x5)).getD zeroH).a.a3)]) rfl rfl rfl (e_look1 (K := HoM) (b := mh) (ks := s.hs) (k := (x5)) rfl rfl rfl (Knows.of_res 6 rfl (mpR.mono _ _ _) fun _ h => h)) ?_
  refine l_mv rfl rfl rfl (m_slices tt116 tt42 (vs := [(0, .agg #[Ix (((HoM.look s.hs (x5)).getD zeroH).number), Ix (((HoM.look s.hs (x5)).getD zeroH).owner), Ix (((HoM.look s.hs (x5)).getD zeroH).a.a0), Ix (((HoM.look s.hs (x5)).getD zeroH).a.a1), Ix (((HoM.look s.hs (x5)).getD zeroH).a.a2), Ix (((HoM.look s.hs (x5)).getD zeroH).a.a3)])]) (cells := #[Ix (((HoM.look s.hs (x5)).getD zeroH).number), Ix (((HoM.look s.hs (x5)).getD zeroH).owner), Ix (((HoM.look s.hs (x5)).getD zeroH).a.a0), Ix (((HoM.look s.hs (x5)).getD zeroH).a.a1), Ix (((HoM.look s.hs (x5)).getD zeroH).a.a2), Ix (((HoM.look s.hs (x5)).getD zeroH).a.a3)]) rfl rfl rfl rfl) ?_
  rintro _ _ ⟨b7, rfl, rfl⟩
  refine l_mv rfl rfl rfl (m_appendFlN (F := HoF) 2 tt116 tt117 (p := p) (m := hol.length) (xs := hol) (ys := [((HoM.look s.hs (x5)).getD zeroH)]) (ao := (some ⟨b7, 0, none⟩)) (k := 1) (c := 1) rfl rfl rfl rfl rfl (k_ptFl (z := ((HoM.look s.hs (x5)).getD zeroH)) 0 rfl rfl) (by first | omega | simp only [List.length_nil, List.length_cons, List.length_append, List.length_set]; omega) (by first | omega | simp only [List.length_nil, List.length_cons, List.length_append, List.length_set]; omega)) ?_
  rintro _ _ ⟨rp8, rc9, rfl, rfl⟩
  refine l_val (v := .slice rp8 ((hol ++ [((HoM.look s.hs (x5)).getD zeroH)]).length) rc9) rfl rfl rfl (e_assign) ?_
  refine l_nil ?_
  refine f_block ?_
  refine f_then ?_
  refine c_region ?_
  refine l_val (v := Nx (kk + 1)) rfl rfl rfl (e_add (a := ((kk : Nat) : Int)) (b := (1 : Int)) rfl rfl (i64n (by omega) (by omega))) ?_
  refine l_val (v := Nx (kk + 1)) rfl rfl rfl (e_move) ?_
  refine l_nil ?_
  refine f_mask (L' := [rowF IntF 3 p2 c3 (sortI (s.hs.map (·.1))), rowF HoF 104 rp8 rc9 (hol ++ [((HoM.look s.hs (x5)).getD zeroH)]), pt H (.cells #[.pointer (some ⟨J, 0, none⟩), .map (some mp), .map (some mh), Ix (s.last), Ix (s.su.a0), Ix (s.su.a1), Ix (s.su.a2), Ix (s.su.a3), .map (some mm), .bool false] 91), jourR J S i false, storeR S k, mpR PuM mp s.ps, mpR HoM mh s.hs, mpR MeM mm ms, memR zs]) [false, true, true, true, true, true, true, true, true, true] rfl ?_
  exact f_cut ⟨(kk + 1, (hol ++ [((HoM.look s.hs (x5)).getD zeroH)]), rp8, rc9), ⟨⟨rfl, rfl, rfl, rfl, rfl⟩, rfl, ⟨by omega, by rw [hhs]; exact holds_next hx6⟩⟩, (show (sortI (s.hs.map (·.1))).length - (kk + 1) < (sortI (s.hs.map (·.1))).length - kk from by omega)⟩
 ·
  refine c_exit ?_
  refine f_then_exit ?_
  refine f_then_exit ?_
  refine f_exit ?_
  refine f_then ?_
  refine c_seq ?_
  refine c_region ?_
  refine l_val (v := .slice p (hol.length) c) rfl rfl rfl (e_move) ?_
  refine l_val (v := .slice p (hol.length) c) rfl rfl rfl (e_assign) ?_
  refine l_nil ?_
  refine f_then ?_
  refine c_ret ?_
  refine ret1 Tryz.results13 (v := .slice p (hol.length) c) rfl ?_
  intro w hw
  have hhe : hol = holdsX X := by rw [← hk.holds, hhs, List.take_of_length_le (by omega)]
  subst hhe
  replace hw := hw.perm (L' := [pt H (.cells #[.pointer (some ⟨J, 0, none⟩), .map (some mp), .map (some mh), Ix (s.last), Ix (s.su.a0), Ix (s.su.a1), Ix (s.su.a2), Ix (s.su.a3), .map (some mm), .bool false] 91), jourR J S i false, storeR S k, mpR PuM mp s.ps, mpR HoM mh s.hs, mpR MeM mm ms, memR zs, rowF HoF 104 p c (holdsX X), rowF IntF 3 p2 c3 (sortI (s.hs.map (·.1)))]) (by exact (perm_ix [2, 3, 4, 5, 6, 7, 8, 1, 0] 9 rfl (by kernel_rfl) (by kernel_rfl)))
  replace hw := st_mask (L' := [pt H (.cells #[.pointer (some ⟨J, 0, none⟩), .map (some mp), .map (some mh), Ix (s.last), Ix (s.su.a0), Ix (s.su.a1), Ix (s.su.a2), Ix (s.su.a3), .map (some mm), .bool false] 91), jourR J S i false, storeR S k, mpR PuM mp s.ps, mpR HoM mh s.hs, mpR MeM mm ms, memR zs, rowF HoF 104 p c (holdsX X)]) [true, true, true, true, true, true, true, true, false] rfl hw
  have hw2 := St.closeHouse (M := [rowF HoF 104 p c (holdsX X)]) hk hpw hw
  exact ⟨p, c, rfl, hw2.perm (List.Perm.swap _ _ _)⟩
end Go.Proofs
