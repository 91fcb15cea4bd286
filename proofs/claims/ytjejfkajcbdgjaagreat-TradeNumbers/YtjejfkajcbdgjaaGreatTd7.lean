/-
 Do: walked. Printed by a program of my own.
-/
import Derived.Test.YtjejfkajcbdgjaaGreatTd6
import Derived.Test.YtjejfkajcbdgjaaGreatTdLk
import Derived.Test.YtjejfkajcbdgjaaGreatJn6
namespace Go.Proofs
open Go Go.Sl Go.Td Go.Jn
def agA : Value → Option Addr | .agg a => sla (a.toList[3]?.getD .nilFunc) | _ => none
def agC : Value → Nat | .agg a => slc (a.toList[3]?.getD .nilFunc) | _ => 0
def tmA (k : Nat) : Value → Nat | .tuple ⟨[.agg a, _]⟩ => mpb (a.toList[k]?.getD .nilFunc) | _ => 0
def tsA : Value → Option Addr | .tuple ⟨[_, .agg a]⟩ => sla (a.toList[3]?.getD .nilFunc) | _ => none
def tcA : Value → Nat | .tuple ⟨[_, .agg a]⟩ => slc (a.toList[3]?.getD .nilFunc) | _ => 0
theorem carry2_ok (β : Base) (w : World) (mp mh mm : Nat) (s : KSt) (ms : List (Int × KMh)) (hw : St β [mpR PuM mp s.ps, mpR HoM mh s.hs, mpR MeM mm ms] w) (au nu : Int) (v : Value) (xs : List KAct) (hs : Sl ActF.R β.heap v xs) (hfo : ∀ x ∈ xs, x.formed = true) (hn : xs.length ≤ 16) (M : Int) (hM : M ≤ 1152921504606846976) (hg : GoodS s M) :
  Calls Tryz.prog 39 #[.agg (stC mp mh mm s.last s.su), .agg #[Ix au, Ix nu, v]] w fun r w' => ∃ mq hq mn p c, r = .returned (.tuple #[.agg (stC mq hq mn (carryF s xs).1.last (carryF s xs).1.su), .agg #[.bool (carryF s xs).2.done, Ix (carryF s xs).2.at_, Ix (carryF s xs).2.e, .slice p (carryF s xs).2.holds.length c]]) ∧ St β [mpR PuM mq (carryF s xs).1.ps, mpR HoM hq (carryF s xs).1.hs, mpR MeM mn (MeM.put ms au ⟨au, nu, sla v, xs.length, slc v, (carryF s xs).2.done, (carryF s xs).2.at_, (carryF s xs).2.e, p, (carryF s xs).2.holds.length, c⟩), rowF IntF 3 p c (carryF s xs).2.holds] w' := by
 refine (carry_ok β w mp mh mm s ms hw au nu v xs hs hfo hn M hM hg).mono ?_
 rintro r w' ⟨mq, hq, mn, p, c, z, ro, h1, h2, h3⟩
 rw [h1]
 exact ⟨mq, hq, mn, p, c, h2, h3⟩
theorem tt96 : cfB Tryz.prog 32 = true := by kernel_rfl
theorem tt97 : cfB Tryz.prog 33 = true := by kernel_rfl
theorem tt98 : stB Tryz.prog 80 [(0, 1), (1, 1), (2, 1)] = true := by kernel_rfl
theorem tt99 : (Tryz.prog.info? 80).bind (·.zero) = some (.agg #[.int .i64 (0), .int .i64 (0), .slice none 0 0]) := by kernel_rfl
theorem tt100 : fldB Tryz.prog 91 1 1 8 true = true := by kernel_rfl
theorem tt101 : tyB Tryz.prog 82 true 7 = true := by kernel_rfl
theorem tt102 : cfB Tryz.prog 34 = true := by kernel_rfl
theorem tt103 : fldB Tryz.prog 82 0 0 3 true = true := by kernel_rfl
theorem tt104 : cfB Tryz.prog 35 = true := by kernel_rfl
theorem tt105 : fldB Tryz.prog 82 1 3 4 true = true := by kernel_rfl
theorem tt106 : cfB Tryz.prog 36 = true := by kernel_rfl
theorem tt107 : cfB Tryz.prog 37 = true := by kernel_rfl
theorem tt108 : cfB Tryz.prog 38 = true := by kernel_rfl
theorem tt109 : cfB Tryz.prog 39 = true := by kernel_rfl
set_option maxHeartbeats 4000000 in
theorem do_ok (β : Base) (w : World) (H S N W : Nat) (pw : Int) (X : KHs) (hw : St β [houseR H S X N W pw] w) (au nu : Int) (v : Value) (al : List KAct) (hs : Sl ActF.R β.heap v al) (hal : al.length ≤ 1048576) (hh63 : hb63 al) (hN : N ≤ 1000000) (hNs : N ≤ 400) : Calls Tryz.prog 12 #[.pointer (some ⟨H, 0, none⟩), Ix au, Ix nu, v] w fun r w' => ∃ X1 R e1, doF X au nu al = (X1, R, e1) ∧ ((∃ p c q, (pw = -1 → q = -1) ∧ r = .returned (.tuple #[.agg #[.bool R.done, Ix R.at_, Ix R.e, .slice p R.holds.length c], Ix e1]) ∧ St β [rowF IntF 3 p c R.holds, houseR H S X1 (N + 1) (W + 494) q] w') ∨ (pw ≠ -1 ∧ e1 = 0 ∧ r = .returned (.tuple #[.agg #[.bool false, .int .i64 0, .int .i64 0, .slice none 0 0], .int .i64 310]) ∧ ∃ q, St β [shelfR S X (N + 1) (W + 494) q] w')) := by
 obtain ⟨va, vc, rfl, vl, vm, ve⟩ := hs.get
 obtain ⟨J, mp, mh, mm, s, ms, zs, i, k, hk, hpw, hw⟩ := St.openHouse hw
 obtain ⟨hd, mal, mhl, hlk, hlo, hnl, hml⟩ := hk.mm.lk au
 have hmb : mhl.length ≤ 1048576 := hlo.few hk.so.ok
 refine enter (n := 132) Tryz.func12 rfl Tryz.ntmps12 rfl ?_ hw
 refine c_seq ?_
 refine c_region ?_
 refine l_mv rfl rfl rfl (m_alloc tt53) ?_
 rintro _ _ ⟨b1, rfl, rfl⟩
 refine l_val (v := .int .i64 (0)) rfl rfl rfl (e_assign) ?_
 refine l_nil ?_
 refine f_then ?_
 refine c_seq ?_
 refine c_seq ?_
 refine c_region ?_
 refine l_val (v := .pointer (some ⟨H, 0, none⟩)) rfl rfl rfl (e_move) ?_
 refine l_call rfl rfl rfl (cl_value (fst := []) (cap := []) (vs := [.pointer (some ⟨H, 0, none⟩)]) (all := [.pointer (some ⟨H, 0, none⟩)]) tt96 rfl rfl rfl) ?_
 intro w hw
 obtain ⟨β1, sb, kn, hw1, back⟩ := St.frame_all hw
 refine (hready_ok β1 w hw1 _ _ _ _ _ s (kn _ (k_pt 1 (vs := [.pointer (some ⟨J, 0, none⟩), .map (some mp), .map (some mh), Ix (s.last), Ix (s.su.a0), Ix (s.su.a1), Ix (s.su.a2), Ix (s.su.a3), .map (some mm), .bool false]) rfl rfl))).mono ?_
 rintro e w' ⟨rfl, hw'⟩
 refine ⟨_, rfl, _, back _ _ hw', ?_⟩
 clear hw hw1 hw' back kn sb
 refine l_val (v := .int .i64 (0)) rfl rfl rfl (e_assign) ?_
 refine l_nil ?_
 refine f_then ?_
 refine c_seq ?_
 refine c_region ?_
 refine l_val (v := .int .i64 (0)) rfl rfl rfl (e_move) ?_
 refine l_val (v := .bool false) rfl rfl rfl (e_neq (a := (0 : Int)) (b := (0 : Int)) rfl rfl) ?_
 refine l_nil ?_
 refine f_then ?_
 refine c_no rfl ?_
 refine c_skip ?_
 refine f_then ?_
 refine c_seq ?_
 refine c_region ?_
 refine l_val (v := Ix (au)) rfl rfl rfl (e_move) ?_
 refine l_val (v := Ix (nu)) rfl rfl rfl (e_move) ?_
 refine l_val (v := .slice va (al.length) (vc)) rfl rfl rfl (e_move) ?_
 refine l_call rfl rfl rfl (cl_value (fst := []) (cap := []) (vs := [.slice va (al.length) (vc)]) (all := [.slice va (al.length) (vc)]) tt97 rfl rfl rfl) ?_
 intro w hw
 obtain ⟨β1, sb, kn, hw1, back⟩ := St.frame_all hw
 refine (cloneA_ok β1 w hw1 _ al (Sl.mono _ _ _ _ _ sb (⟨⟨_, _, rfl, vl, vm, ve⟩⟩ : Sl ActF.R _ _ al)) (by omega)).mono ?_
 rintro e w' ⟨p2, c3, rfl, hw'⟩
 refine ⟨_, rfl, _, back _ _ hw', ?_⟩
 clear hw hw1 hw' back kn sb
 refine l_val (v := .agg #[Ix (au), Ix (nu), .slice p2 (al.length) c3]) rfl rfl rfl (e_build tt99 tt98 (vs := [(0, Ix (au)), (1, Ix (nu)), (2, .slice p2 (al.length) c3)]) (cells := #[Ix (au), Ix (nu), .slice p2 (al.length) c3]) rfl rfl) ?_
 refine l_mv rfl rfl rfl (m_alloc tt99) ?_
 rintro _ _ ⟨b4, rfl, rfl⟩
 refine l_mu rfl rfl (m_store 0 tt65 (b := b4) (o := 0) (T := 80) (cs := #[.int .i64 (0), .int .i64 (0), .slice none 0 0]) (cs' := #[Ix (au), Ix (nu), .slice p2 (al.length) c3]) (v := .agg #[Ix (au), Ix (nu), .slice p2 (al.length) c3]) rfl rfl rfl rfl rfl rfl rfl) ?_
 refine l_nil ?_
 refine f_then ?_
 refine c_seq ?_
 refine c_region ?_
 refine l_val (v := .pointer (some ⟨H, 0, none⟩)) rfl rfl rfl (e_move) ?_
 refine l_val (v := .pointer (some ⟨H, 0, none⟩)) rfl rfl rfl (e_nil (a := ⟨H, 0, none⟩) rfl) ?_
 refine l_val (v := .pointer (some ⟨H, 1, none⟩)) rfl rfl rfl (e_fieldPt (b := H) (o := 0) rfl tt100) ?_
 refine l_val (v := .pointer (some ⟨H, 8, none⟩)) rfl rfl rfl (e_fieldPt (b := H) (o := 1) rfl tt57) ?_
 refine l_val (v := .map (some mm)) rfl rfl rfl (e_load1 tt58 (v := .map (some mm)) rfl (k_pt 3 (cs := #[.pointer (some ⟨J, 0, none⟩), .map (some mp), .map (some mh), Ix (s.last), Ix (s.su.a0), Ix (s.su.a1), Ix (s.su.a2), Ix (s.su.a3), .map (some mm), .bool false]) (vs := [.map (some mm)]) rfl rfl)) ?_
 refine l_val (v := Ix (au)) rfl rfl rfl (e_move) ?_
 refine l_val (v := .tuple #[.agg #[Ix (hd.author), Ix (hd.number), .slice hd.p (hd.n) hd.c, .bool (hd.done), Ix (hd.at_), Ix (hd.e), .slice hd.q (hd.m) hd.k], .bool ((MeM.look ms au).isSome)]) rfl rfl rfl (ev_eq (congrArg (fun z => Value.tuple #[MeM.encv z, .bool (MeM.look ms au).isSome]) hlk) (e_look2 (K := MeM) (b := mm) (ks := ms) (k := au) rfl rfl rfl (Knows.of_res 8 rfl (mpR.mono _ _ _) fun _ h => h))) ?_
 refine l_val (v := .tuple #[.agg #[Ix (hd.author), Ix (hd.number), .slice hd.p (hd.n) hd.c, .bool (hd.done), Ix (hd.at_), Ix (hd.e), .slice hd.q (hd.m) hd.k], .bool ((MeM.look ms au).isSome)]) rfl rfl rfl (e_move) ?_
 refine l_val (v := .agg #[Ix (hd.author), Ix (hd.number), .slice hd.p (hd.n) hd.c, .bool (hd.done), Ix (hd.at_), Ix (hd.e), .slice hd.q (hd.m) hd.k]) rfl rfl rfl (e_extract (vs := #[.agg #[Ix (hd.author), Ix (hd.number), .slice hd.p (hd.n) hd.c, .bool (hd.done), Ix (hd.at_), Ix (hd.e), .slice hd.q (hd.m) hd.k], .bool ((MeM.look ms au).isSome)]) rfl rfl) ?_
 refine l_val (v := .bool ((MeM.look ms au).isSome)) rfl rfl rfl (e_extract (vs := #[.agg #[Ix (hd.author), Ix (hd.number), .slice hd.p (hd.n) hd.c, .bool (hd.done), Ix (hd.at_), Ix (hd.e), .slice hd.q (hd.m) hd.k], .bool ((MeM.look ms au).isSome)]) rfl rfl) ?_
 refine l_mv rfl rfl rfl (m_alloc tt67) ?_
 rintro _ _ ⟨b5, rfl, rfl⟩
 refine l_mu rfl rfl (m_store 0 tt101 (b := b5) (o := 0) (T := 82) (cs := #[.int .i64 (0), .int .i64 (0), .slice none 0 0, .bool false, .int .i64 (0), .int .i64 (0), .slice none 0 0]) (cs' := #[Ix (hd.author), Ix (hd.number), .slice hd.p (hd.n) hd.c, .bool (hd.done), Ix (hd.at_), Ix (hd.e), .slice hd.q (hd.m) hd.k]) (v := .agg #[Ix (hd.author), Ix (hd.number), .slice hd.p (hd.n) hd.c, .bool (hd.done), Ix (hd.at_), Ix (hd.e), .slice hd.q (hd.m) hd.k]) rfl rfl rfl rfl rfl rfl rfl) ?_
 refine l_val (v := .bool ((MeM.look ms au).isSome)) rfl rfl rfl (e_assign) ?_
 refine l_nil ?_
 refine f_then ?_
 refine c_seq ?_
 refine c_block ?_
 refine c_seq ?_
 cases hfm : dformed au nu al
 ·
  have hnf : (!dformed au nu al) = true := by rw [hfm]; rfl
  refine c_region ?_
  refine l_val (v := .agg #[Ix (au), Ix (nu), .slice p2 (al.length) c3]) rfl rfl rfl (e_load tt65 (cs := [Ix (au), Ix (nu), .slice p2 (al.length) c3]) rfl (k_pt 1 (cs := #[Ix (au), Ix (nu), .slice p2 (al.length) c3]) (vs := [Ix (au), Ix (nu), .slice p2 (al.length) c3]) rfl rfl) rfl) ?_
  refine l_call rfl rfl rfl (cl_value (fst := []) (cap := []) (vs := [.agg #[Ix (au), Ix (nu), .slice p2 (al.length) c3]]) (all := [.agg #[Ix (au), Ix (nu), .slice p2 (al.length) c3]]) tt102 rfl rfl rfl) ?_
  intro w hw
  obtain ⟨β1, sb, kn, hw1, back⟩ := St.frame_all hw
  refine (dformed_ok β1 w hw1 au nu _ al (kn _ (k_flN 2 (F := ActF) (m := al.length) rfl rfl))).mono ?_
  rintro e w' ⟨rfl, hw'⟩
  refine ⟨_, rfl, _, back _ _ hw', ?_⟩
  clear hw hw1 hw' back kn sb
  refine l_val (v := .bool (!(dformed au nu al))) rfl rfl rfl (e_not rfl) ?_
  refine l_val (v := .bool (!(dformed au nu al))) rfl rfl rfl (e_assign) ?_
  refine l_nil ?_
  refine f_then ?_
  refine c_ifb (!(dformed au nu al)) rfl (fun hc6 => ?_) (fun hc6 => ?_)
  ·
   refine c_seq ?_
   refine c_region ?_
   refine l_val (v := .agg #[.bool false, .int .i64 (0), .int .i64 (0), .slice none 0 0]) rfl rfl rfl (e_build tt53 tt60 (vs := []) (cells := #[.bool false, .int .i64 (0), .int .i64 (0), .slice none 0 0]) rfl rfl) ?_
   refine l_mu rfl rfl (m_store 3 tt61 (b := b1) (o := 0) (T := 37) (cs := #[.bool false, .int .i64 (0), .int .i64 (0), .slice none 0 0]) (cs' := #[.bool false, .int .i64 (0), .int .i64 (0), .slice none 0 0]) (v := .agg #[.bool false, .int .i64 (0), .int .i64 (0), .slice none 0 0]) rfl rfl rfl rfl rfl rfl rfl) ?_
   refine l_val (v := .int .i64 (2)) rfl rfl rfl (e_assign) ?_
   refine l_nil ?_
   refine f_then ?_
   refine c_ret ?_
   refine f_block_ret ?_
   refine f_then_ret ?_
   refine retG (l := [.cell 8 37, .tmp 9]) (m := [.agg #[.bool false, .int .i64 (0), .int .i64 (0), .slice none 0 0], .int .i64 (2)]) (v := .tuple #[.agg #[.bool false, .int .i64 (0), .int .i64 (0), .slice none 0 0], .int .i64 (2)]) Tryz.results12 ⟨rd_cell tt61 (cs := [.bool false, .int .i64 (0), .int .i64 (0), .slice none 0 0]) rfl (k_pt 3 (cs := #[.bool false, .int .i64 (0), .int .i64 (0), .slice none 0 0]) (vs := [.bool false, .int .i64 (0), .int .i64 (0), .slice none 0 0]) rfl rfl) rfl, rd_tmp (v := .int .i64 (2)) rfl, trivial⟩ rfl ?_
   intro w hw
   replace hw := hw.perm (L' := [pt H (.cells #[.pointer (some ⟨J, 0, none⟩), .map (some mp), .map (some mh), Ix (s.last), Ix (s.su.a0), Ix (s.su.a1), Ix (s.su.a2), Ix (s.su.a3), .map (some mm), .bool false] 91), jourR J S i false, storeR S k, mpR PuM mp s.ps, mpR HoM mh s.hs, mpR MeM mm ms, memR zs, pt b5 (.cells #[Ix (hd.author), Ix (hd.number), .slice hd.p (hd.n) hd.c, .bool (hd.done), Ix (hd.at_), Ix (hd.e), .slice hd.q (hd.m) hd.k] 82), pt b4 (.cells #[Ix (au), Ix (nu), .slice p2 (al.length) c3] 80), rowF ActF 47 p2 c3 al, pt b1 (.cells #[.bool false, .int .i64 (0), .int .i64 (0), .slice none 0 0] 37)]) (by exact (perm_ix [4, 5, 6, 7, 8, 9, 10, 0, 1, 2, 3] 11 rfl (by kernel_rfl) (by kernel_rfl)))
   replace hw := st_mask (L' := [pt H (.cells #[.pointer (some ⟨J, 0, none⟩), .map (some mp), .map (some mh), Ix (s.last), Ix (s.su.a0), Ix (s.su.a1), Ix (s.su.a2), Ix (s.su.a3), .map (some mm), .bool false] 91), jourR J S i false, storeR S k, mpR PuM mp s.ps, mpR HoM mh s.hs, mpR MeM mm ms, memR zs]) [true, true, true, true, true, true, true, false, false, false, false] rfl hw
   have hw2 := St.closeHouse (M := []) (hk.mono (Nat.le_add_right N 1) (Nat.le_add_right W 494)) hpw hw
   exact ⟨_, _, _, do_badF hlo hfm, .inl ⟨none, 0, _, id, rfl, hw2.emp (row_nil _ _ _)⟩⟩
  ·
   rw [hnf] at hc6; cases hc6
 ·
  have hnf : (!dformed au nu al) = false := by rw [hfm]; rfl
  obtain ⟨hfau, hfnu, hfl, hfa⟩ := dformed_iff.1 hfm
  have hlen := recD_len hfm
  refine c_region ?_
  refine l_val (v := .agg #[Ix (au), Ix (nu), .slice p2 (al.length) c3]) rfl rfl rfl (e_load tt65 (cs := [Ix (au), Ix (nu), .slice p2 (al.length) c3]) rfl (k_pt 1 (cs := #[Ix (au), Ix (nu), .slice p2 (al.length) c3]) (vs := [Ix (au), Ix (nu), .slice p2 (al.length) c3]) rfl rfl) rfl) ?_
  refine l_call rfl rfl rfl (cl_value (fst := []) (cap := []) (vs := [.agg #[Ix (au), Ix (nu), .slice p2 (al.length) c3]]) (all := [.agg #[Ix (au), Ix (nu), .slice p2 (al.length) c3]]) tt102 rfl rfl rfl) ?_
  intro w hw
  obtain ⟨β1, sb, kn, hw1, back⟩ := St.frame_all hw
  refine (dformed_ok β1 w hw1 au nu _ al (kn _ (k_flN 2 (F := ActF) (m := al.length) rfl rfl))).mono ?_
  rintro e w' ⟨rfl, hw'⟩
  refine ⟨_, rfl, _, back _ _ hw', ?_⟩
  clear hw hw1 hw' back kn sb
  refine l_val (v := .bool (!(dformed au nu al))) rfl rfl rfl (e_not rfl) ?_
  refine l_val (v := .bool (!(dformed au nu al))) rfl rfl rfl (e_assign) ?_
  refine l_nil ?_
  refine f_then ?_
  refine c_ifb (!(dformed au nu al)) rfl (fun hc7 => ?_) (fun hc7 => ?_)
  ·
   rw [hnf] at hc7; cases hc7
  ·
   refine c_seq ?_
   refine c_region ?_
   refine l_val (v := .bool ((MeM.look ms au).isSome)) rfl rfl rfl (e_move) ?_
   refine l_and5 ((MeM.look ms au).isSome) (decide ((hd.number) = (nu))) rfl (fun hb8 hk8 => ?_) (fun z9 z10 z11 z12 z13 => ?_)
   ·
    refine g_val (v := .pointer (some ⟨b5, 0, none⟩)) rfl rfl rfl rfl rfl (e_fieldPt (b := b5) (o := 0) rfl tt103) ?_
    refine g_val (v := .pointer (some ⟨b5, 1, none⟩)) rfl rfl rfl rfl rfl (e_fieldPt (b := b5) (o := 0) rfl tt21) ?_
    refine g_val (v := Ix (hd.number)) rfl rfl rfl rfl rfl (e_load1 tt2 (v := Ix (hd.number)) rfl (k_pt 0 (cs := #[Ix (hd.author), Ix (hd.number), .slice hd.p (hd.n) hd.c, .bool (hd.done), Ix (hd.at_), Ix (hd.e), .slice hd.q (hd.m) hd.k]) (vs := [Ix (hd.number)]) rfl rfl)) ?_
    refine g_val (v := Ix (nu)) rfl rfl rfl rfl rfl (e_move) ?_
    refine g_val (v := .bool (decide ((hd.number) = (nu)))) rfl rfl rfl rfl rfl (e_eql (a := (hd.number)) (b := (nu)) rfl rfl) ?_
    refine l_val (v := .bool (decide ((hd.number) = (nu)))) rfl rfl rfl (e_pick_t rfl) ?_
    exact hk8 _ _ _ _ _
   refine l_and5 (((MeM.look ms au).isSome) && (decide ((hd.number) = (nu)))) (decide (mal = al)) rfl (fun hb14 hk14 => ?_) (fun z15 z16 z17 z18 z19 => ?_)
   ·
    refine g_val (v := .pointer (some ⟨b5, 0, none⟩)) rfl rfl rfl rfl rfl (e_fieldPt (b := b5) (o := 0) rfl tt103) ?_
    refine g_val (v := .pointer (some ⟨b5, 2, none⟩)) rfl rfl rfl rfl rfl (e_fieldPt (b := b5) (o := 0) rfl tt22) ?_
    refine g_val (v := .slice hd.p (hd.n) hd.c) rfl rfl rfl rfl rfl (e_load1 tt23 (v := .slice hd.p (hd.n) hd.c) rfl (k_pt 0 (cs := #[Ix (hd.author), Ix (hd.number), .slice hd.p (hd.n) hd.c, .bool (hd.done), Ix (hd.at_), Ix (hd.e), .slice hd.q (hd.m) hd.k]) (vs := [.slice hd.p (hd.n) hd.c]) rfl rfl)) ?_
    refine g_val (v := .slice va (al.length) (vc)) rfl rfl rfl rfl rfl (e_move) ?_
    refine g_call rfl rfl rfl rfl rfl (cl_value (fst := []) (cap := []) (vs := [.slice hd.p (hd.n) hd.c, .slice va (al.length) (vc)]) (all := [.slice hd.p (hd.n) hd.c, .slice va (al.length) (vc)]) tt104 rfl rfl rfl) ?_
    intro w hw
    obtain ⟨β1, sb, kn, hw1, back⟩ := St.frame_all hw
    refine (equalA_ok β1 w hw1 _ _ mal al (kn _ (k_lkA 10 rfl hlo)) (Sl.mono _ _ _ _ _ sb (⟨⟨_, _, rfl, vl, vm, ve⟩⟩ : Sl ActF.R _ _ al))).mono ?_
    rintro e w' ⟨rfl, hw'⟩
    refine ⟨_, rfl, _, back _ _ hw', ?_⟩
    clear hw hw1 hw' back kn sb
    refine l_val (v := .bool (decide (mal = al))) rfl rfl rfl (e_pick_t rfl) ?_
    exact hk14 _ _ _ _ _
   refine l_val (v := .bool (((((MeM.look ms au).isSome) && (decide ((hd.number) = (nu)))) && (decide (mal = al))))) rfl rfl rfl (e_assign) ?_
   refine l_nil ?_
   refine f_then ?_
   refine c_ifb (((((MeM.look ms au).isSome) && (decide ((hd.number) = (nu)))) && (decide (mal = al)))) rfl (fun hc20 => ?_) (fun hc20 => ?_)
   ·
    refine c_seq ?_
    refine c_region ?_
    refine l_val (v := .pointer (some ⟨b5, 3, none⟩)) rfl rfl rfl (e_fieldPt (b := b5) (o := 0) rfl tt105) ?_
    refine l_val (v := .agg #[.bool (hd.done), Ix (hd.at_), Ix (hd.e), .slice hd.q (hd.m) hd.k]) rfl rfl rfl (e_load tt61 (cs := [.bool (hd.done), Ix (hd.at_), Ix (hd.e), .slice hd.q (hd.m) hd.k]) rfl (k_pt 0 (cs := #[Ix (hd.author), Ix (hd.number), .slice hd.p (hd.n) hd.c, .bool (hd.done), Ix (hd.at_), Ix (hd.e), .slice hd.q (hd.m) hd.k]) (vs := [.bool (hd.done), Ix (hd.at_), Ix (hd.e), .slice hd.q (hd.m) hd.k]) rfl rfl) rfl) ?_
    refine l_call rfl rfl rfl (cl_value (fst := []) (cap := []) (vs := [.agg #[.bool (hd.done), Ix (hd.at_), Ix (hd.e), .slice hd.q (hd.m) hd.k]]) (all := [.agg #[.bool (hd.done), Ix (hd.at_), Ix (hd.e), .slice hd.q (hd.m) hd.k]]) tt106 rfl rfl rfl) ?_
    intro w hw
    obtain ⟨β1, sb, kn, hw1, back⟩ := St.frame_all hw
    refine (own_ok β1 w hw1 hd.done hd.at_ hd.e _ mhl (kn _ (k_lkH 10 rfl hlo)) (by omega)).mono ?_
    rintro e w' ⟨p21, c22, rfl, hw'⟩
    refine ⟨_, rfl, _, back _ _ hw', ?_⟩
    clear hw hw1 hw' back kn sb
    refine l_mu rfl rfl (m_store 4 tt61 (b := b1) (o := 0) (T := 37) (cs := #[.bool false, .int .i64 (0), .int .i64 (0), .slice none 0 0]) (cs' := #[.bool (hd.done), Ix (hd.at_), Ix (hd.e), .slice p21 (mhl.length) c22]) (v := .agg #[.bool (hd.done), Ix (hd.at_), Ix (hd.e), .slice p21 (mhl.length) c22]) rfl rfl rfl rfl rfl rfl rfl) ?_
    refine l_val (v := .int .i64 (0)) rfl rfl rfl (e_assign) ?_
    refine l_nil ?_
    refine f_then ?_
    refine c_ret ?_
    refine f_block_ret ?_
    refine f_then_ret ?_
    refine retG (l := [.cell 8 37, .tmp 9]) (m := [.agg #[.bool (hd.done), Ix (hd.at_), Ix (hd.e), .slice p21 (mhl.length) c22], .int .i64 (0)]) (v := .tuple #[.agg #[.bool (hd.done), Ix (hd.at_), Ix (hd.e), .slice p21 (mhl.length) c22], .int .i64 (0)]) Tryz.results12 ⟨rd_cell tt61 (cs := [.bool (hd.done), Ix (hd.at_), Ix (hd.e), .slice p21 (mhl.length) c22]) rfl (k_pt 4 (cs := #[.bool (hd.done), Ix (hd.at_), Ix (hd.e), .slice p21 (mhl.length) c22]) (vs := [.bool (hd.done), Ix (hd.at_), Ix (hd.e), .slice p21 (mhl.length) c22]) rfl rfl) rfl, rd_tmp (v := .int .i64 (0)) rfl, trivial⟩ rfl ?_
    intro w hw
    replace hw := hw.perm (L' := [pt H (.cells #[.pointer (some ⟨J, 0, none⟩), .map (some mp), .map (some mh), Ix (s.last), Ix (s.su.a0), Ix (s.su.a1), Ix (s.su.a2), Ix (s.su.a3), .map (some mm), .bool false] 91), jourR J S i false, storeR S k, mpR PuM mp s.ps, mpR HoM mh s.hs, mpR MeM mm ms, memR zs, rowF IntF 3 p21 c22 mhl, pt b5 (.cells #[Ix (hd.author), Ix (hd.number), .slice hd.p (hd.n) hd.c, .bool (hd.done), Ix (hd.at_), Ix (hd.e), .slice hd.q (hd.m) hd.k] 82), pt b4 (.cells #[Ix (au), Ix (nu), .slice p2 (al.length) c3] 80), rowF ActF 47 p2 c3 al, pt b1 (.cells #[.bool (hd.done), Ix (hd.at_), Ix (hd.e), .slice p21 (mhl.length) c22] 37)]) (by exact (perm_ix [5, 6, 7, 8, 9, 10, 11, 0, 1, 2, 3, 4] 12 rfl (by kernel_rfl) (by kernel_rfl)))
    replace hw := st_mask (L' := [pt H (.cells #[.pointer (some ⟨J, 0, none⟩), .map (some mp), .map (some mh), Ix (s.last), Ix (s.su.a0), Ix (s.su.a1), Ix (s.su.a2), Ix (s.su.a3), .map (some mm), .bool false] 91), jourR J S i false, storeR S k, mpR PuM mp s.ps, mpR HoM mh s.hs, mpR MeM mm ms, memR zs, rowF IntF 3 p21 c22 mhl]) [true, true, true, true, true, true, true, true, false, false, false, false] rfl hw
    have hw2 := St.closeHouse (M := [rowF IntF 3 p21 c22 mhl]) (hk.mono (Nat.le_add_right N 1) (Nat.le_add_right W 494)) hpw hw
    exact ⟨_, _, _, do_sameF hlo hfm hc20, .inl ⟨p21, c22, _, id, rfl, hw2.perm (List.Perm.swap _ _ _)⟩⟩
   ·
    refine c_seq ?_
    refine c_region ?_
    refine l_val (v := .bool ((MeM.look ms au).isSome)) rfl rfl rfl (e_move) ?_
    refine l_and5 ((MeM.look ms au).isSome) (decide ((hd.number) = (nu))) rfl (fun hb23 hk23 => ?_) (fun z24 z25 z26 z27 z28 => ?_)
    ·
     refine g_val (v := .pointer (some ⟨b5, 0, none⟩)) rfl rfl rfl rfl rfl (e_fieldPt (b := b5) (o := 0) rfl tt103) ?_
     refine g_val (v := .pointer (some ⟨b5, 1, none⟩)) rfl rfl rfl rfl rfl (e_fieldPt (b := b5) (o := 0) rfl tt21) ?_
     refine g_val (v := Ix (hd.number)) rfl rfl rfl rfl rfl (e_load1 tt2 (v := Ix (hd.number)) rfl (k_pt 0 (cs := #[Ix (hd.author), Ix (hd.number), .slice hd.p (hd.n) hd.c, .bool (hd.done), Ix (hd.at_), Ix (hd.e), .slice hd.q (hd.m) hd.k]) (vs := [Ix (hd.number)]) rfl rfl)) ?_
     refine g_val (v := Ix (nu)) rfl rfl rfl rfl rfl (e_move) ?_
     refine g_val (v := .bool (decide ((hd.number) = (nu)))) rfl rfl rfl rfl rfl (e_eql (a := (hd.number)) (b := (nu)) rfl rfl) ?_
     refine l_val (v := .bool (decide ((hd.number) = (nu)))) rfl rfl rfl (e_pick_t rfl) ?_
     exact hk23 _ _ _ _ _
    refine l_val (v := .bool ((((MeM.look ms au).isSome) && (decide ((hd.number) = (nu)))))) rfl rfl rfl (e_assign) ?_
    refine l_nil ?_
    refine f_then ?_
    refine c_ifb ((((MeM.look ms au).isSome) && (decide ((hd.number) = (nu))))) rfl (fun hc29 => ?_) (fun hc29 => ?_)
    ·
     refine c_seq ?_
     refine c_region ?_
     refine l_val (v := .agg #[.bool false, .int .i64 (0), .int .i64 (0), .slice none 0 0]) rfl rfl rfl (e_build tt53 tt60 (vs := []) (cells := #[.bool false, .int .i64 (0), .int .i64 (0), .slice none 0 0]) rfl rfl) ?_
     refine l_mu rfl rfl (m_store 3 tt61 (b := b1) (o := 0) (T := 37) (cs := #[.bool false, .int .i64 (0), .int .i64 (0), .slice none 0 0]) (cs' := #[.bool false, .int .i64 (0), .int .i64 (0), .slice none 0 0]) (v := .agg #[.bool false, .int .i64 (0), .int .i64 (0), .slice none 0 0]) rfl rfl rfl rfl rfl rfl rfl) ?_
     refine l_val (v := .int .i64 (331)) rfl rfl rfl (e_assign) ?_
     refine l_nil ?_
     refine f_then ?_
     refine c_ret ?_
     refine f_block_ret ?_
     refine f_then_ret ?_
     refine retG (l := [.cell 8 37, .tmp 9]) (m := [.agg #[.bool false, .int .i64 (0), .int .i64 (0), .slice none 0 0], .int .i64 (331)]) (v := .tuple #[.agg #[.bool false, .int .i64 (0), .int .i64 (0), .slice none 0 0], .int .i64 (331)]) Tryz.results12 ⟨rd_cell tt61 (cs := [.bool false, .int .i64 (0), .int .i64 (0), .slice none 0 0]) rfl (k_pt 3 (cs := #[.bool false, .int .i64 (0), .int .i64 (0), .slice none 0 0]) (vs := [.bool false, .int .i64 (0), .int .i64 (0), .slice none 0 0]) rfl rfl) rfl, rd_tmp (v := .int .i64 (331)) rfl, trivial⟩ rfl ?_
     intro w hw
     replace hw := hw.perm (L' := [pt H (.cells #[.pointer (some ⟨J, 0, none⟩), .map (some mp), .map (some mh), Ix (s.last), Ix (s.su.a0), Ix (s.su.a1), Ix (s.su.a2), Ix (s.su.a3), .map (some mm), .bool false] 91), jourR J S i false, storeR S k, mpR PuM mp s.ps, mpR HoM mh s.hs, mpR MeM mm ms, memR zs, pt b5 (.cells #[Ix (hd.author), Ix (hd.number), .slice hd.p (hd.n) hd.c, .bool (hd.done), Ix (hd.at_), Ix (hd.e), .slice hd.q (hd.m) hd.k] 82), pt b4 (.cells #[Ix (au), Ix (nu), .slice p2 (al.length) c3] 80), rowF ActF 47 p2 c3 al, pt b1 (.cells #[.bool false, .int .i64 (0), .int .i64 (0), .slice none 0 0] 37)]) (by exact (perm_ix [4, 5, 6, 7, 8, 9, 10, 0, 1, 2, 3] 11 rfl (by kernel_rfl) (by kernel_rfl)))
     replace hw := st_mask (L' := [pt H (.cells #[.pointer (some ⟨J, 0, none⟩), .map (some mp), .map (some mh), Ix (s.last), Ix (s.su.a0), Ix (s.su.a1), Ix (s.su.a2), Ix (s.su.a3), .map (some mm), .bool false] 91), jourR J S i false, storeR S k, mpR PuM mp s.ps, mpR HoM mh s.hs, mpR MeM mm ms, memR zs]) [true, true, true, true, true, true, true, false, false, false, false] rfl hw
     have hw2 := St.closeHouse (M := []) (hk.mono (Nat.le_add_right N 1) (Nat.le_add_right W 494)) hpw hw
     exact ⟨_, _, _, do_otherF hlo hfm (by rw [hc20]; decide) hc29, .inl ⟨none, 0, _, id, rfl, hw2.emp (row_nil _ _ _)⟩⟩
    ·
     refine c_seq ?_
     refine c_region ?_
     refine l_val (v := .bool ((MeM.look ms au).isSome)) rfl rfl rfl (e_move) ?_
     refine l_and5 ((MeM.look ms au).isSome) (decide ((nu) < (hd.number))) rfl (fun hb30 hk30 => ?_) (fun z31 z32 z33 z34 z35 => ?_)
     ·
      refine g_val (v := .pointer (some ⟨b5, 0, none⟩)) rfl rfl rfl rfl rfl (e_fieldPt (b := b5) (o := 0) rfl tt103) ?_
      refine g_val (v := .pointer (some ⟨b5, 1, none⟩)) rfl rfl rfl rfl rfl (e_fieldPt (b := b5) (o := 0) rfl tt21) ?_
      refine g_val (v := Ix (hd.number)) rfl rfl rfl rfl rfl (e_load1 tt2 (v := Ix (hd.number)) rfl (k_pt 0 (cs := #[Ix (hd.author), Ix (hd.number), .slice hd.p (hd.n) hd.c, .bool (hd.done), Ix (hd.at_), Ix (hd.e), .slice hd.q (hd.m) hd.k]) (vs := [Ix (hd.number)]) rfl rfl)) ?_
      refine g_val (v := Ix (nu)) rfl rfl rfl rfl rfl (e_move) ?_
      refine g_val (v := .bool (decide ((nu) < (hd.number)))) rfl rfl rfl rfl rfl (e_gtr (a := (hd.number)) (b := (nu)) rfl rfl) ?_
      refine l_val (v := .bool (decide ((nu) < (hd.number)))) rfl rfl rfl (e_pick_t rfl) ?_
      exact hk30 _ _ _ _ _
     refine l_val (v := .bool ((((MeM.look ms au).isSome) && (decide ((nu) < (hd.number)))))) rfl rfl rfl (e_assign) ?_
     refine l_nil ?_
     refine f_then ?_
     refine c_ifb ((((MeM.look ms au).isSome) && (decide ((nu) < (hd.number))))) rfl (fun hc36 => ?_) (fun hc36 => ?_)
     ·
      refine c_seq ?_
      refine c_region ?_
      refine l_val (v := .agg #[.bool false, .int .i64 (0), .int .i64 (0), .slice none 0 0]) rfl rfl rfl (e_build tt53 tt60 (vs := []) (cells := #[.bool false, .int .i64 (0), .int .i64 (0), .slice none 0 0]) rfl rfl) ?_
      refine l_mu rfl rfl (m_store 3 tt61 (b := b1) (o := 0) (T := 37) (cs := #[.bool false, .int .i64 (0), .int .i64 (0), .slice none 0 0]) (cs' := #[.bool false, .int .i64 (0), .int .i64 (0), .slice none 0 0]) (v := .agg #[.bool false, .int .i64 (0), .int .i64 (0), .slice none 0 0]) rfl rfl rfl rfl rfl rfl rfl) ?_
      refine l_val (v := .int .i64 (332)) rfl rfl rfl (e_assign) ?_
      refine l_nil ?_
      refine f_then ?_
      refine c_ret ?_
      refine f_block_ret ?_
      refine f_then_ret ?_
      refine retG (l := [.cell 8 37, .tmp 9]) (m := [.agg #[.bool false, .int .i64 (0), .int .i64 (0), .slice none 0 0], .int .i64 (332)]) (v := .tuple #[.agg #[.bool false, .int .i64 (0), .int .i64 (0), .slice none 0 0], .int .i64 (332)]) Tryz.results12 ⟨rd_cell tt61 (cs := [.bool false, .int .i64 (0), .int .i64 (0), .slice none 0 0]) rfl (k_pt 3 (cs := #[.bool false, .int .i64 (0), .int .i64 (0), .slice none 0 0]) (vs := [.bool false, .int .i64 (0), .int .i64 (0), .slice none 0 0]) rfl rfl) rfl, rd_tmp (v := .int .i64 (332)) rfl, trivial⟩ rfl ?_
      intro w hw
      replace hw := hw.perm (L' := [pt H (.cells #[.pointer (some ⟨J, 0, none⟩), .map (some mp), .map (some mh), Ix (s.last), Ix (s.su.a0), Ix (s.su.a1), Ix (s.su.a2), Ix (s.su.a3), .map (some mm), .bool false] 91), jourR J S i false, storeR S k, mpR PuM mp s.ps, mpR HoM mh s.hs, mpR MeM mm ms, memR zs, pt b5 (.cells #[Ix (hd.author), Ix (hd.number), .slice hd.p (hd.n) hd.c, .bool (hd.done), Ix (hd.at_), Ix (hd.e), .slice hd.q (hd.m) hd.k] 82), pt b4 (.cells #[Ix (au), Ix (nu), .slice p2 (al.length) c3] 80), rowF ActF 47 p2 c3 al, pt b1 (.cells #[.bool false, .int .i64 (0), .int .i64 (0), .slice none 0 0] 37)]) (by exact (perm_ix [4, 5, 6, 7, 8, 9, 10, 0, 1, 2, 3] 11 rfl (by kernel_rfl) (by kernel_rfl)))
      replace hw := st_mask (L' := [pt H (.cells #[.pointer (some ⟨J, 0, none⟩), .map (some mp), .map (some mh), Ix (s.last), Ix (s.su.a0), Ix (s.su.a1), Ix (s.su.a2), Ix (s.su.a3), .map (some mm), .bool false] 91), jourR J S i false, storeR S k, mpR PuM mp s.ps, mpR HoM mh s.hs, mpR MeM mm ms, memR zs]) [true, true, true, true, true, true, true, false, false, false, false] rfl hw
      have hw2 := St.closeHouse (M := []) (hk.mono (Nat.le_add_right N 1) (Nat.le_add_right W 494)) hpw hw
      exact ⟨_, _, _, do_oldF hlo hfm (by rw [hc29]; decide) hc36, .inl ⟨none, 0, _, id, rfl, hw2.emp (row_nil _ _ _)⟩⟩
     ·
      refine c_skip ?_
      refine f_block ?_
      refine f_then ?_
      refine c_seq ?_
      refine c_region ?_
      refine l_val (v := .agg #[Ix (au), Ix (nu), .slice p2 (al.length) c3]) rfl rfl rfl (e_load tt65 (cs := [Ix (au), Ix (nu), .slice p2 (al.length) c3]) rfl (k_pt 1 (cs := #[Ix (au), Ix (nu), .slice p2 (al.length) c3]) (vs := [Ix (au), Ix (nu), .slice p2 (al.length) c3]) rfl rfl) rfl) ?_
      refine l_call rfl rfl rfl (cl_value (fst := []) (cap := []) (vs := [.agg #[Ix (au), Ix (nu), .slice p2 (al.length) c3]]) (all := [.agg #[Ix (au), Ix (nu), .slice p2 (al.length) c3]]) tt107 rfl rfl rfl) ?_
      intro w hw
      obtain ⟨β1, sb, kn, hw1, back⟩ := St.frame_all hw
      refine (trecord_ok β1 w hw1 au nu _ al (kn _ (k_flN 2 (F := ActF) (m := al.length) rfl rfl)) hfa (by omega) (by omega) (by omega)).mono ?_
      rintro e w' ⟨p37, c38, rfl, hw'⟩
      refine ⟨_, rfl, _, back _ _ hw', ?_⟩
      clear hw hw1 hw' back kn sb
      refine l_val (v := .slice p37 ((dealB au nu al [] 0)).length c38) rfl rfl rfl (e_assign) ?_
      refine l_nil ?_
      refine f_then ?_
      refine c_seq ?_
      have hroom := hk.so.room hN hlen (hk.so.small hNs hlen)
      by_cases ha : apOk k i (dealB au nu al [] 0)
      ·
       refine c_region ?_
       refine l_val (v := .pointer (some ⟨H, 0, none⟩)) rfl rfl rfl (e_move) ?_
       refine l_val (v := .pointer (some ⟨H, 0, none⟩)) rfl rfl rfl (e_nil (a := ⟨H, 0, none⟩) rfl) ?_
       refine l_val (v := .pointer (some ⟨H, 0, none⟩)) rfl rfl rfl (e_fieldPt (b := H) (o := 0) rfl tt90) ?_
       refine l_val (v := .pointer (some ⟨J, 0, none⟩)) rfl rfl rfl (e_load1 tt91 (v := .pointer (some ⟨J, 0, none⟩)) rfl (k_pt 5 (cs := #[.pointer (some ⟨J, 0, none⟩), .map (some mp), .map (some mh), Ix (s.last), Ix (s.su.a0), Ix (s.su.a1), Ix (s.su.a2), Ix (s.su.a3), .map (some mm), .bool false]) (vs := [.pointer (some ⟨J, 0, none⟩)]) rfl rfl)) ?_
       refine l_val (v := .slice p37 ((dealB au nu al [] 0)).length c38) rfl rfl rfl (e_move) ?_
       refine l_call rfl rfl rfl (cl_value (fst := []) (cap := []) (vs := [.pointer (some ⟨J, 0, none⟩), .slice p37 ((dealB au nu al [] 0)).length c38]) (all := [.pointer (some ⟨J, 0, none⟩), .slice p37 ((dealB au nu al [] 0)).length c38]) tt108 rfl rfl rfl) ?_
       intro w hw
       replace hw := hw.perm (L' := [jourR J S i false, storeR S k, row (.slice p37 ((dealB au nu al [] 0)).length c38) 5 1 (((dealB au nu al [] 0)).length) (BX (dealB au nu al [] 0)), pt b5 (.cells #[Ix (hd.author), Ix (hd.number), .slice hd.p (hd.n) hd.c, .bool (hd.done), Ix (hd.at_), Ix (hd.e), .slice hd.q (hd.m) hd.k] 82), pt b4 (.cells #[Ix (au), Ix (nu), .slice p2 (al.length) c3] 80), rowF ActF 47 p2 c3 al, pt b1 (.cells #[.bool false, .int .i64 (0), .int .i64 (0), .slice none 0 0] 37), pt H (.cells #[.pointer (some ⟨J, 0, none⟩), .map (some mp), .map (some mh), Ix (s.last), Ix (s.su.a0), Ix (s.su.a1), Ix (s.su.a2), Ix (s.su.a3), .map (some mm), .bool false] 91), mpR PuM mp s.ps, mpR HoM mh s.hs, mpR MeM mm ms, memR zs]) (by exact (perm_ix [6, 7, 0, 1, 2, 3, 4, 5, 8, 9, 10, 11] 12 rfl (by kernel_rfl) (by kernel_rfl)))
       obtain ⟨β1, sb, kn, hw1, back⟩ := St.frame (L := [_, _]) (M := _ :: _ :: _ :: _ :: _ :: _ :: _ :: _ :: _ :: _ :: []) hw
       refine (append_ok β1 w J S k i (dealB au nu al [] 0) hroom.1 hroom.2.1 hroom.2.2.1 hroom.2.2.2.1 hroom.2.2.2.2.1 hroom.2.2.2.2.2.1 hroom.2.2.2.2.2.2 ha _ (kn _ (Knows.of_res 0 rfl (Sl.mono U8R _ _) fun _ h => row_u8 h)) hw1).mono ?_
       rintro e w' ⟨rfl, hw'⟩
       refine ⟨_, rfl, _, back _ _ hw', ?_⟩
       clear hw hw1 hw' back kn sb
       refine l_val (v := .tuple #[Nx (i.next), .int .i64 (0)]) rfl rfl rfl (e_move) ?_
       refine l_val (v := Nx (i.next)) rfl rfl rfl (e_extract (vs := #[Nx (i.next), .int .i64 (0)]) rfl rfl) ?_
       refine l_val (v := .int .i64 (0)) rfl rfl rfl (e_extract (vs := #[Nx (i.next), .int .i64 (0)]) rfl rfl) ?_
       refine l_val (v := Nx (i.next)) rfl rfl rfl (e_assign) ?_
       refine l_val (v := .int .i64 (0)) rfl rfl rfl (e_assign) ?_
       refine l_nil ?_
       refine f_then ?_
       refine c_seq ?_
       refine c_seq ?_
       refine c_region ?_
       refine l_val (v := .int .i64 (0)) rfl rfl rfl (e_move) ?_
       refine l_val (v := .bool false) rfl rfl rfl (e_eql (a := (0 : Int)) (b := (4 : Int)) rfl rfl) ?_
       refine l_nil ?_
       refine f_then ?_
       refine c_no rfl ?_
       refine c_skip ?_
       refine f_then ?_
       refine c_seq ?_
       refine c_seq ?_
       refine c_region ?_
       refine l_val (v := .int .i64 (0)) rfl rfl rfl (e_move) ?_
       refine l_val (v := .bool false) rfl rfl rfl (e_neq (a := (0 : Int)) (b := (0 : Int)) rfl rfl) ?_
       refine l_nil ?_
       refine f_then ?_
       refine c_no rfl ?_
       refine c_skip ?_
       refine f_then ?_
       refine c_seq ?_
       have hgs := hk.goodS hN
       have hch : (carryF s al).2.holds.length ≤ al.length := carry_holds
       refine c_any [⟨[], [], [0], [118], fun f => f 118 = .pointer (some ⟨H, 0, none⟩)⟩, ⟨[0], [0], [], [119], fun f => f 119 = .pointer (some ⟨H, 0, none⟩)⟩, ⟨[0, 1], [1], [], [120], fun f => f 120 = .pointer (some ⟨H, 1, none⟩)⟩, ⟨[0, 1, 2], [2], [], [121], fun f => f 121 = .agg #[.map (some mp), .map (some mh), Ix (s.last), Ix (s.su.a0), Ix (s.su.a1), Ix (s.su.a2), Ix (s.su.a3), .map (some mm)]⟩, ⟨[], [], [1], [122], fun f => f 122 = .agg #[Ix (au), Ix (nu), .slice p2 (al.length) c3]⟩, ⟨[0, 1, 2, 3, 4], [3, 4], [], [123], fun f => f 123 = .tuple #[.agg #[.map (some (tmA 0 (f 123))), .map (some (tmA 1 (f 123))), Ix ((carryF s al).1.last), Ix ((carryF s al).1.su.a0), Ix ((carryF s al).1.su.a1), Ix ((carryF s al).1.su.a2), Ix ((carryF s al).1.su.a3), .map (some (tmA 7 (f 123)))], .agg #[.bool ((carryF s al).2.done), Ix ((carryF s al).2.at_), Ix ((carryF s al).2.e), .slice (tsA (f 123)) ((carryF s al).2.holds.length) (tcA (f 123))]]⟩, ⟨[0, 1, 2, 3, 4, 5], [5], [], [117, 123], fun f => f 117 = .tuple #[.agg #[.map (some (tmA 0 (f 123))), .map (some (tmA 1 (f 123))), Ix ((carryF s al).1.last), Ix ((carryF s al).1.su.a0), Ix ((carryF s al).1.su.a1), Ix ((carryF s al).1.su.a2), Ix ((carryF s al).1.su.a3), .map (some (tmA 7 (f 123)))], .agg #[.bool ((carryF s al).2.done), Ix ((carryF s al).2.at_), Ix ((carryF s al).2.e), .slice (tsA (f 123)) ((carryF s al).2.holds.length) (tcA (f 123))]]⟩, ⟨[0, 1, 2, 3, 4, 5, 6], [6], [], [123, 124], fun f => f 124 = .agg #[.map (some (tmA 0 (f 123))), .map (some (tmA 1 (f 123))), Ix ((carryF s al).1.last), Ix ((carryF s al).1.su.a0), Ix ((carryF s al).1.su.a1), Ix ((carryF s al).1.su.a2), Ix ((carryF s al).1.su.a3), .map (some (tmA 7 (f 123)))]⟩, ⟨[0, 1, 2, 3, 4, 5, 6], [6], [], [123, 125], fun f => f 125 = .agg #[.bool ((carryF s al).2.done), Ix ((carryF s al).2.at_), Ix ((carryF s al).2.e), .slice (tsA (f 123)) ((carryF s al).2.holds.length) (tcA (f 123))]⟩, ⟨[], [], [], [17], fun f => f 17 = .pointer (some ⟨(blk (f 17)), 0, none⟩)⟩, ⟨[], [], [], [18], fun f => f 18 = .pointer (some ⟨(blk (f 18)), 0, none⟩)⟩, ⟨[0, 1, 2, 3, 4, 5, 6, 7, 9, 10], [9, 7], [], [], fun _ => True⟩, ⟨[0, 1, 2, 3, 4, 5, 6, 7, 8, 9, 10, 11], [10, 8], [], [], fun _ => True⟩] [⟨none, none, [], [], fun _ => jourR J S (apI i (dealB au nu al [] 0)) false⟩, ⟨none, none, [], [], fun _ => storeR S (apS k i (dealB au nu al [] 0))⟩, ⟨none, none, [], [], fun _ => row (.slice p37 ((dealB au nu al [] 0)).length c38) 5 1 (((dealB au nu al [] 0)).length) (BX (dealB au nu al [] 0))⟩, ⟨none, none, [], [], fun _ => pt b5 (.cells #[Ix (hd.author), Ix (hd.number), .slice hd.p (hd.n) hd.c, .bool (hd.done), Ix (hd.at_), Ix (hd.e), .slice hd.q (hd.m) hd.k] 82)⟩, ⟨none, none, [4], [], fun _ => pt b4 (.cells #[Ix (au), Ix (nu), .slice p2 (al.length) c3] 80)⟩, ⟨none, none, [5], [], fun _ => rowF ActF 47 p2 c3 al⟩, ⟨none, none, [], [], fun _ => pt b1 (.cells #[.bool false, .int .i64 (0), .int .i64 (0), .slice none 0 0] 37)⟩, ⟨none, none, [3], [], fun _ => pt H (.cells #[.pointer (some ⟨J, 0, none⟩), .map (some mp), .map (some mh), Ix (s.last), Ix (s.su.a0), Ix (s.su.a1), Ix (s.su.a2), Ix (s.su.a3), .map (some mm), .bool false] 91)⟩, ⟨none, (some 5), [5], [], fun _ => mpR PuM mp s.ps⟩, ⟨none, (some 5), [5], [], fun _ => mpR HoM mh s.hs⟩, ⟨none, (some 5), [5], [], fun _ => mpR MeM mm ms⟩, ⟨none, none, [], [], fun _ => memR zs⟩, ⟨(some 5), none, [], [123], fun f => mpR PuM (tmA 0 (f 123)) ((carryF s al).1.ps)⟩, ⟨(some 5), none, [], [123], fun f => mpR HoM (tmA 1 (f 123)) ((carryF s al).1.hs)⟩, ⟨(some 5), none, [], [123], fun f => mpR MeM (tmA 7 (f 123)) (MeM.put ms au (⟨au, nu, p2, al.length, c3, (carryF s al).2.done, (carryF s al).2.at_, (carryF s al).2.e, (tsA (f 123)), (carryF s al).2.holds.length, (tcA (f 123))⟩ : KMh))⟩, ⟨(some 5), none, [], [123], fun f => rowF IntF 3 (tsA (f 123)) (tcA (f 123)) ((carryF s al).2.holds)⟩, ⟨(some 9), (some 11), [11], [17], fun f => pt (blk (f 17)) (.cells #[.map none, .map none, .int .i64 (0), .int .i64 (0), .int .i64 (0), .int .i64 (0), .int .i64 (0), .map none] 88)⟩, ⟨(some 10), (some 12), [12], [18], fun f => pt (blk (f 18)) (.cells #[.bool false, .int .i64 (0), .int .i64 (0), .slice none 0 0] 37)⟩, ⟨(some 11), none, [], [17, 123], fun f => pt (blk (f 17)) (.cells #[.map (some (tmA 0 (f 123))), .map (some (tmA 1 (f 123))), Ix ((carryF s al).1.last), Ix ((carryF s al).1.su.a0), Ix ((carryF s al).1.su.a1), Ix ((carryF s al).1.su.a2), Ix ((carryF s al).1.su.a3), .map (some (tmA 7 (f 123)))] 88)⟩, ⟨(some 12), none, [], [18, 123], fun f => pt (blk (f 18)) (.cells #[.bool ((carryF s al).2.done), Ix ((carryF s al).2.at_), Ix ((carryF s al).2.e), .slice (tsA (f 123)) ((carryF s al).2.holds.length) (tcA (f 123))] 37)⟩] [(0, .pointer (some ⟨H, 0, none⟩)), (11, .pointer (some ⟨b4, 0, none⟩)), (8, .pointer (some ⟨b1, 0, none⟩))] [0, 2] [] (by kernel_rfl) (by kernel_rfl) (by kernel_rfl) (by kernel_rfl) rfl ⟨rfl, rfl, rfl, trivial⟩ ⟨?_, ?_, ?_, ?_, ?_, ?_, ?_, ?_, ?_, ?_, ?_, ?_, ?_, trivial⟩ ?_
       ·rintro f M - ⟨i0, -⟩
        have hs0 : f 0 = .pointer (some ⟨H, 0, none⟩) := i0
        refine ob_start (L' := M) (by rfl) (up_cons rfl hs0) ?_
        refine l_val (v := .pointer (some ⟨H, 0, none⟩)) rfl rfl rfl (e_move) ?_
        refine l_nil ?_
        exact f_owes_d (up_cons rfl hs0) rfl (List.Perm.refl _)
       ·rintro f M ⟨k0, -⟩ -
        have hs118 : f 118 = .pointer (some ⟨H, 0, none⟩) := k0
        refine ob_start (L' := M) (by rfl) (up_cons rfl hs118) ?_
        refine l_val (v := .pointer (some ⟨H, 0, none⟩)) rfl rfl rfl (e_nil (a := ⟨H, 0, none⟩) rfl) ?_
        refine l_nil ?_
        exact f_owes_d (up_cons rfl hs118) rfl (List.Perm.refl _)
       ·rintro f M ⟨k0, -⟩ -
        have hs119 : f 119 = .pointer (some ⟨H, 0, none⟩) := k0
        refine ob_start (L' := M) (by rfl) (up_cons rfl hs119) ?_
        refine l_val (v := .pointer (some ⟨H, 1, none⟩)) rfl rfl rfl (e_fieldPt (b := H) (o := 0) rfl tt100) ?_
        refine l_nil ?_
        exact f_owes_d (up_cons rfl hs119) rfl (List.Perm.refl _)
       ·rintro f M ⟨k0, -⟩ -
        have hs120 : f 120 = .pointer (some ⟨H, 1, none⟩) := k0
        refine ob_start (L' := pt H (.cells #[.pointer (some ⟨J, 0, none⟩), .map (some mp), .map (some mh), Ix (s.last), Ix (s.su.a0), Ix (s.su.a1), Ix (s.su.a2), Ix (s.su.a3), .map (some mm), .bool false] 91) :: M) (by rfl) (up_cons rfl hs120) ?_
        refine l_val (v := .agg #[.map (some mp), .map (some mh), Ix (s.last), Ix (s.su.a0), Ix (s.su.a1), Ix (s.su.a2), Ix (s.su.a3), .map (some mm)]) rfl rfl rfl (e_load tt54 (cs := [.map (some mp), .map (some mh), Ix (s.last), Ix (s.su.a0), Ix (s.su.a1), Ix (s.su.a2), Ix (s.su.a3), .map (some mm)]) rfl (k_pt 0 (cs := #[.pointer (some ⟨J, 0, none⟩), .map (some mp), .map (some mh), Ix (s.last), Ix (s.su.a0), Ix (s.su.a1), Ix (s.su.a2), Ix (s.su.a3), .map (some mm), .bool false]) (vs := [.map (some mp), .map (some mh), Ix (s.last), Ix (s.su.a0), Ix (s.su.a1), Ix (s.su.a2), Ix (s.su.a3), .map (some mm)]) rfl rfl) rfl) ?_
        refine l_nil ?_
        exact f_owes_d (up_cons rfl hs120) rfl (perm_front 0 rfl)
       ·rintro f M - ⟨i0, -⟩
        have hs11 : f 11 = .pointer (some ⟨b4, 0, none⟩) := i0
        refine ob_start (L' := pt b4 (.cells #[Ix (au), Ix (nu), .slice p2 (al.length) c3] 80) :: M) (by rfl) (up_cons rfl hs11) ?_
        refine l_val (v := .agg #[Ix (au), Ix (nu), .slice p2 (al.length) c3]) rfl rfl rfl (e_load tt65 (cs := [Ix (au), Ix (nu), .slice p2 (al.length) c3]) rfl (k_pt 0 (cs := #[Ix (au), Ix (nu), .slice p2 (al.length) c3]) (vs := [Ix (au), Ix (nu), .slice p2 (al.length) c3]) rfl rfl) rfl) ?_
        refine l_nil ?_
        exact f_owes_d (up_cons rfl hs11) rfl (perm_front 0 rfl)
       ·rintro f M ⟨k0, k1, -⟩ -
        have hs121 : f 121 = .agg #[.map (some mp), .map (some mh), Ix (s.last), Ix (s.su.a0), Ix (s.su.a1), Ix (s.su.a2), Ix (s.su.a3), .map (some mm)] := k0
        have hs122 : f 122 = .agg #[Ix (au), Ix (nu), .slice p2 (al.length) c3] := k1
        refine ob_start (L' := rowF ActF 47 p2 c3 al :: mpR PuM mp s.ps :: mpR HoM mh s.hs :: mpR MeM mm ms :: M) (by rfl) (up_cons (up_cons rfl hs121) hs122) ?_
        refine l_call rfl rfl rfl (cl_value (fst := []) (cap := []) (vs := [.agg #[.map (some mp), .map (some mh), Ix (s.last), Ix (s.su.a0), Ix (s.su.a1), Ix (s.su.a2), Ix (s.su.a3), .map (some mm)], .agg #[Ix (au), Ix (nu), .slice p2 (al.length) c3]]) (all := [.agg #[.map (some mp), .map (some mh), Ix (s.last), Ix (s.su.a0), Ix (s.su.a1), Ix (s.su.a2), Ix (s.su.a3), .map (some mm)], .agg #[Ix (au), Ix (nu), .slice p2 (al.length) c3]]) tt109 rfl rfl rfl) ?_
        intro w hw
        replace hw := hw.perm (L' := _ :: _ :: _ :: _ :: M) (by exact ((((perm_front 0 rfl).trans (perm_front 3 rfl)).trans (perm_front 3 rfl)).trans (perm_front 3 rfl)))
        obtain ⟨β1, sb, kn, hw1, back⟩ := St.frame (L := [_, _, _]) (M := _ :: M) hw
        refine (carry2_ok β1 w mp mh mm s ms hw1 au nu _ al (kn _ (k_flN 0 (F := ActF) (m := al.length) rfl rfl)) hfa (by omega) _ (Int.le_refl _) hgs).mono ?_
        rintro e w' ⟨mq44, hq45, mn46, p47, c48, rfl, hw'⟩
        refine ⟨_, rfl, _, back _ _ hw', ?_⟩
        clear hw hw1 hw' back kn sb
        refine l_nil ?_
        exact f_owes_d (up_cons (up_cons rfl hs121) hs122) rfl (((((perm_front 3 rfl).trans (perm_front 3 rfl)).trans (perm_front 3 rfl)).trans (perm_front 3 rfl)).trans (perm_front 4 rfl))
       ·rintro f M ⟨k0, -⟩ -
        have hs123 : f 123 = .tuple #[.agg #[.map (some (tmA 0 (f 123))), .map (some (tmA 1 (f 123))), Ix ((carryF s al).1.last), Ix ((carryF s al).1.su.a0), Ix ((carryF s al).1.su.a1), Ix ((carryF s al).1.su.a2), Ix ((carryF s al).1.su.a3), .map (some (tmA 7 (f 123)))], .agg #[.bool ((carryF s al).2.done), Ix ((carryF s al).2.at_), Ix ((carryF s al).2.e), .slice (tsA (f 123)) ((carryF s al).2.holds.length) (tcA (f 123))]] := k0
        refine ob_start (L' := M) (by rfl) (up_cons rfl hs123) ?_
        refine l_val (v := .tuple #[.agg #[.map (some (tmA 0 (f 123))), .map (some (tmA 1 (f 123))), Ix ((carryF s al).1.last), Ix ((carryF s al).1.su.a0), Ix ((carryF s al).1.su.a1), Ix ((carryF s al).1.su.a2), Ix ((carryF s al).1.su.a3), .map (some (tmA 7 (f 123)))], .agg #[.bool ((carryF s al).2.done), Ix ((carryF s al).2.at_), Ix ((carryF s al).2.e), .slice (tsA (f 123)) ((carryF s al).2.holds.length) (tcA (f 123))]]) rfl rfl rfl (e_move) ?_
        refine l_nil ?_
        exact f_owes_d (up_cons rfl hs123) rfl (List.Perm.refl _)
       ·rintro f M ⟨k0, -⟩ -
        have hs117 : f 117 = .tuple #[.agg #[.map (some (tmA 0 (f 123))), .map (some (tmA 1 (f 123))), Ix ((carryF s al).1.last), Ix ((carryF s al).1.su.a0), Ix ((carryF s al).1.su.a1), Ix ((carryF s al).1.su.a2), Ix ((carryF s al).1.su.a3), .map (some (tmA 7 (f 123)))], .agg #[.bool ((carryF s al).2.done), Ix ((carryF s al).2.at_), Ix ((carryF s al).2.e), .slice (tsA (f 123)) ((carryF s al).2.holds.length) (tcA (f 123))]] := k0
        refine ob_start (L' := M) (by rfl) (up_cons rfl hs117) ?_
        refine l_val (v := .agg #[.map (some (tmA 0 (f 123))), .map (some (tmA 1 (f 123))), Ix ((carryF s al).1.last), Ix ((carryF s al).1.su.a0), Ix ((carryF s al).1.su.a1), Ix ((carryF s al).1.su.a2), Ix ((carryF s al).1.su.a3), .map (some (tmA 7 (f 123)))]) rfl rfl rfl (e_extract (vs := #[.agg #[.map (some (tmA 0 (f 123))), .map (some (tmA 1 (f 123))), Ix ((carryF s al).1.last), Ix ((carryF s al).1.su.a0), Ix ((carryF s al).1.su.a1), Ix ((carryF s al).1.su.a2), Ix ((carryF s al).1.su.a3), .map (some (tmA 7 (f 123)))], .agg #[.bool ((carryF s al).2.done), Ix ((carryF s al).2.at_), Ix ((carryF s al).2.e), .slice (tsA (f 123)) ((carryF s al).2.holds.length) (tcA (f 123))]]) rfl rfl) ?_
        refine l_nil ?_
        exact f_owes_d (up_cons rfl hs117) rfl (List.Perm.refl _)
       ·rintro f M ⟨k0, -⟩ -
        have hs117 : f 117 = .tuple #[.agg #[.map (some (tmA 0 (f 123))), .map (some (tmA 1 (f 123))), Ix ((carryF s al).1.last), Ix ((carryF s al).1.su.a0), Ix ((carryF s al).1.su.a1), Ix ((carryF s al).1.su.a2), Ix ((carryF s al).1.su.a3), .map (some (tmA 7 (f 123)))], .agg #[.bool ((carryF s al).2.done), Ix ((carryF s al).2.at_), Ix ((carryF s al).2.e), .slice (tsA (f 123)) ((carryF s al).2.holds.length) (tcA (f 123))]] := k0
        refine ob_start (L' := M) (by rfl) (up_cons rfl hs117) ?_
        refine l_val (v := .agg #[.bool ((carryF s al).2.done), Ix ((carryF s al).2.at_), Ix ((carryF s al).2.e), .slice (tsA (f 123)) ((carryF s al).2.holds.length) (tcA (f 123))]) rfl rfl rfl (e_extract (vs := #[.agg #[.map (some (tmA 0 (f 123))), .map (some (tmA 1 (f 123))), Ix ((carryF s al).1.last), Ix ((carryF s al).1.su.a0), Ix ((carryF s al).1.su.a1), Ix ((carryF s al).1.su.a2), Ix ((carryF s al).1.su.a3), .map (some (tmA 7 (f 123)))], .agg #[.bool ((carryF s al).2.done), Ix ((carryF s al).2.at_), Ix ((carryF s al).2.e), .slice (tsA (f 123)) ((carryF s al).2.holds.length) (tcA (f 123))]]) rfl rfl) ?_
        refine l_nil ?_
        exact f_owes_d (up_cons rfl hs117) rfl (List.Perm.refl _)
       ·rintro f M - -
        refine ob_start (L' := M) (by rfl) rfl ?_
        refine l_mv rfl rfl rfl (m_alloc tt52) ?_
        rintro _ _ ⟨b50, rfl, rfl⟩
        refine l_nil ?_
        exact f_owes_d rfl rfl (perm_front 0 rfl)
       ·rintro f M - -
        refine ob_start (L' := M) (by rfl) rfl ?_
        refine l_mv rfl rfl rfl (m_alloc tt53) ?_
        rintro _ _ ⟨b52, rfl, rfl⟩
        refine l_nil ?_
        exact f_owes_d rfl rfl (perm_front 0 rfl)
       ·rintro f M ⟨k0, k1, -⟩ -
        have hs17 : f 17 = .pointer (some ⟨(blk (f 17)), 0, none⟩) := k0
        have hs124 : f 124 = .agg #[.map (some (tmA 0 (f 123))), .map (some (tmA 1 (f 123))), Ix ((carryF s al).1.last), Ix ((carryF s al).1.su.a0), Ix ((carryF s al).1.su.a1), Ix ((carryF s al).1.su.a2), Ix ((carryF s al).1.su.a3), .map (some (tmA 7 (f 123)))] := k1
        refine ob_start (L' := pt (blk (f 17)) (.cells #[.map none, .map none, .int .i64 (0), .int .i64 (0), .int .i64 (0), .int .i64 (0), .int .i64 (0), .map none] 88) :: M) (by rfl) (up_cons (up_cons rfl hs17) hs124) ?_
        refine l_mu rfl rfl (m_store 0 tt54 (b := (blk (f 17))) (o := 0) (T := 88) (cs := #[.map none, .map none, .int .i64 (0), .int .i64 (0), .int .i64 (0), .int .i64 (0), .int .i64 (0), .map none]) (cs' := #[.map (some (tmA 0 (f 123))), .map (some (tmA 1 (f 123))), Ix ((carryF s al).1.last), Ix ((carryF s al).1.su.a0), Ix ((carryF s al).1.su.a1), Ix ((carryF s al).1.su.a2), Ix ((carryF s al).1.su.a3), .map (some (tmA 7 (f 123)))]) (v := .agg #[.map (some (tmA 0 (f 123))), .map (some (tmA 1 (f 123))), Ix ((carryF s al).1.last), Ix ((carryF s al).1.su.a0), Ix ((carryF s al).1.su.a1), Ix ((carryF s al).1.su.a2), Ix ((carryF s al).1.su.a3), .map (some (tmA 7 (f 123)))]) rfl rfl rfl rfl rfl rfl rfl) ?_
        refine l_nil ?_
        exact f_owes_n (up_cons (up_cons rfl hs17) hs124) trivial (perm_front 0 rfl)
       ·rintro f M ⟨k0, k1, -⟩ -
        have hs18 : f 18 = .pointer (some ⟨(blk (f 18)), 0, none⟩) := k0
        have hs125 : f 125 = .agg #[.bool ((carryF s al).2.done), Ix ((carryF s al).2.at_), Ix ((carryF s al).2.e), .slice (tsA (f 123)) ((carryF s al).2.holds.length) (tcA (f 123))] := k1
        refine ob_start (L' := pt (blk (f 18)) (.cells #[.bool false, .int .i64 (0), .int .i64 (0), .slice none 0 0] 37) :: M) (by rfl) (up_cons (up_cons rfl hs18) hs125) ?_
        refine l_mu rfl rfl (m_store 0 tt61 (b := (blk (f 18))) (o := 0) (T := 37) (cs := #[.bool false, .int .i64 (0), .int .i64 (0), .slice none 0 0]) (cs' := #[.bool ((carryF s al).2.done), Ix ((carryF s al).2.at_), Ix ((carryF s al).2.e), .slice (tsA (f 123)) ((carryF s al).2.holds.length) (tcA (f 123))]) (v := .agg #[.bool ((carryF s al).2.done), Ix ((carryF s al).2.at_), Ix ((carryF s al).2.e), .slice (tsA (f 123)) ((carryF s al).2.holds.length) (tcA (f 123))]) rfl rfl rfl rfl rfl rfl rfl) ?_
        refine l_nil ?_
        exact f_owes_n (up_cons (up_cons rfl hs18) hs125) trivial (perm_front 0 rfl)
       rintro fa53 ⟨-, -, -, -, -, -, -, -, -, k9, k10, -, -, -⟩ ⟨j0, j1, -⟩
       refine f_re (L' := [jourR J S (apI i (dealB au nu al [] 0)) false, storeR S (apS k i (dealB au nu al [] 0)), row (.slice p37 ((dealB au nu al [] 0)).length c38) 5 1 (((dealB au nu al [] 0)).length) (BX (dealB au nu al [] 0)), pt b5 (.cells #[Ix (hd.author), Ix (hd.number), .slice hd.p (hd.n) hd.c, .bool (hd.done), Ix (hd.at_), Ix (hd.e), .slice hd.q (hd.m) hd.k] 82), pt b4 (.cells #[Ix (au), Ix (nu), .slice p2 (al.length) c3] 80), rowF ActF 47 p2 c3 al, pt b1 (.cells #[.bool false, .int .i64 (0), .int .i64 (0), .slice none 0 0] 37), pt H (.cells #[.pointer (some ⟨J, 0, none⟩), .map (some mp), .map (some mh), Ix (s.last), Ix (s.su.a0), Ix (s.su.a1), Ix (s.su.a2), Ix (s.su.a3), .map (some mm), .bool false] 91), memR zs, mpR PuM (tmA 0 (fa53 123)) ((carryF s al).1.ps), mpR HoM (tmA 1 (fa53 123)) ((carryF s al).1.hs), mpR MeM (tmA 7 (fa53 123)) (MeM.put ms au (⟨au, nu, p2, al.length, c3, (carryF s al).2.done, (carryF s al).2.at_, (carryF s al).2.e, (tsA (fa53 123)), (carryF s al).2.holds.length, (tcA (fa53 123))⟩ : KMh)), rowF IntF 3 (tsA (fa53 123)) (tcA (fa53 123)) ((carryF s al).2.holds), pt (blk (fa53 17)) (.cells #[.map (some (tmA 0 (fa53 123))), .map (some (tmA 1 (fa53 123))), Ix ((carryF s al).1.last), Ix ((carryF s al).1.su.a0), Ix ((carryF s al).1.su.a1), Ix ((carryF s al).1.su.a2), Ix ((carryF s al).1.su.a3), .map (some (tmA 7 (fa53 123)))] 88), pt (blk (fa53 18)) (.cells #[.bool ((carryF s al).2.done), Ix ((carryF s al).2.at_), Ix ((carryF s al).2.e), .slice (tsA (fa53 123)) ((carryF s al).2.holds.length) (tcA (fa53 123))] 37)]) (by rfl) ?_
       refine f_rebase (d := 0) (v := .pointer (some ⟨H, 0, none⟩)) j0 ?_
       refine f_rebase (d := 8) (v := .pointer (some ⟨b1, 0, none⟩)) j1 ?_
       refine f_rebase (d := 17) (v := .pointer (some ⟨(blk (fa53 17)), 0, none⟩)) k9 ?_
       refine f_rebase (d := 18) (v := .pointer (some ⟨(blk (fa53 18)), 0, none⟩)) k10 ?_
       refine f_then ?_
       refine c_seq ?_
       refine c_region ?_
       refine l_val (v := .pointer (some ⟨H, 0, none⟩)) rfl rfl rfl (e_move) ?_
       refine l_val (v := .agg #[.map (some (tmA 0 (fa53 123))), .map (some (tmA 1 (fa53 123))), Ix ((carryF s al).1.last), Ix ((carryF s al).1.su.a0), Ix ((carryF s al).1.su.a1), Ix ((carryF s al).1.su.a2), Ix ((carryF s al).1.su.a3), .map (some (tmA 7 (fa53 123)))]) rfl rfl rfl (e_load tt54 (cs := [.map (some (tmA 0 (fa53 123))), .map (some (tmA 1 (fa53 123))), Ix ((carryF s al).1.last), Ix ((carryF s al).1.su.a0), Ix ((carryF s al).1.su.a1), Ix ((carryF s al).1.su.a2), Ix ((carryF s al).1.su.a3), .map (some (tmA 7 (fa53 123)))]) rfl (k_pt 13 (cs := #[.map (some (tmA 0 (fa53 123))), .map (some (tmA 1 (fa53 123))), Ix ((carryF s al).1.last), Ix ((carryF s al).1.su.a0), Ix ((carryF s al).1.su.a1), Ix ((carryF s al).1.su.a2), Ix ((carryF s al).1.su.a3), .map (some (tmA 7 (fa53 123)))]) (vs := [.map (some (tmA 0 (fa53 123))), .map (some (tmA 1 (fa53 123))), Ix ((carryF s al).1.last), Ix ((carryF s al).1.su.a0), Ix ((carryF s al).1.su.a1), Ix ((carryF s al).1.su.a2), Ix ((carryF s al).1.su.a3), .map (some (tmA 7 (fa53 123)))]) rfl rfl) rfl) ?_
       refine l_val (v := .pointer (some ⟨H, 0, none⟩)) rfl rfl rfl (e_nil (a := ⟨H, 0, none⟩) rfl) ?_
       refine l_val (v := .pointer (some ⟨H, 1, none⟩)) rfl rfl rfl (e_fieldPt (b := H) (o := 0) rfl tt100) ?_
       refine l_mu rfl rfl (m_store 7 tt54 (b := H) (o := 1) (T := 91) (cs := #[.pointer (some ⟨J, 0, none⟩), .map (some mp), .map (some mh), Ix (s.last), Ix (s.su.a0), Ix (s.su.a1), Ix (s.su.a2), Ix (s.su.a3), .map (some mm), .bool false]) (cs' := #[.pointer (some ⟨J, 0, none⟩), .map (some (tmA 0 (fa53 123))), .map (some (tmA 1 (fa53 123))), Ix ((carryF s al).1.last), Ix ((carryF s al).1.su.a0), Ix ((carryF s al).1.su.a1), Ix ((carryF s al).1.su.a2), Ix ((carryF s al).1.su.a3), .map (some (tmA 7 (fa53 123))), .bool false]) (v := .agg #[.map (some (tmA 0 (fa53 123))), .map (some (tmA 1 (fa53 123))), Ix ((carryF s al).1.last), Ix ((carryF s al).1.su.a0), Ix ((carryF s al).1.su.a1), Ix ((carryF s al).1.su.a2), Ix ((carryF s al).1.su.a3), .map (some (tmA 7 (fa53 123)))]) rfl rfl rfl rfl rfl rfl rfl) ?_
       refine l_nil ?_
       refine f_then ?_
       refine c_seq ?_
       refine c_region ?_
       refine l_val (v := .agg #[.bool ((carryF s al).2.done), Ix ((carryF s al).2.at_), Ix ((carryF s al).2.e), .slice (tsA (fa53 123)) ((carryF s al).2.holds.length) (tcA (fa53 123))]) rfl rfl rfl (e_load tt61 (cs := [.bool ((carryF s al).2.done), Ix ((carryF s al).2.at_), Ix ((carryF s al).2.e), .slice (tsA (fa53 123)) ((carryF s al).2.holds.length) (tcA (fa53 123))]) rfl (k_pt 14 (cs := #[.bool ((carryF s al).2.done), Ix ((carryF s al).2.at_), Ix ((carryF s al).2.e), .slice (tsA (fa53 123)) ((carryF s al).2.holds.length) (tcA (fa53 123))]) (vs := [.bool ((carryF s al).2.done), Ix ((carryF s al).2.at_), Ix ((carryF s al).2.e), .slice (tsA (fa53 123)) ((carryF s al).2.holds.length) (tcA (fa53 123))]) rfl rfl) rfl) ?_
       refine l_call rfl rfl rfl (cl_value (fst := []) (cap := []) (vs := [.agg #[.bool ((carryF s al).2.done), Ix ((carryF s al).2.at_), Ix ((carryF s al).2.e), .slice (tsA (fa53 123)) ((carryF s al).2.holds.length) (tcA (fa53 123))]]) (all := [.agg #[.bool ((carryF s al).2.done), Ix ((carryF s al).2.at_), Ix ((carryF s al).2.e), .slice (tsA (fa53 123)) ((carryF s al).2.holds.length) (tcA (fa53 123))]]) tt106 rfl rfl rfl) ?_
       intro w hw
       obtain ⟨β1, sb, kn, hw1, back⟩ := St.frame_all hw
       refine (own_ok β1 w hw1 ((carryF s al).2.done) ((carryF s al).2.at_) ((carryF s al).2.e) _ ((carryF s al).2.holds) (kn _ (k_flN 12 (F := IntF) (m := (carryF s al).2.holds.length) rfl rfl)) (by omega)).mono ?_
       rintro e w' ⟨p54, c55, rfl, hw'⟩
       refine ⟨_, rfl, _, back _ _ hw', ?_⟩
       clear hw hw1 hw' back kn sb
       refine l_mu rfl rfl (m_store 7 tt61 (b := b1) (o := 0) (T := 37) (cs := #[.bool false, .int .i64 (0), .int .i64 (0), .slice none 0 0]) (cs' := #[.bool ((carryF s al).2.done), Ix ((carryF s al).2.at_), Ix ((carryF s al).2.e), .slice p54 (((carryF s al).2.holds).length) c55]) (v := .agg #[.bool ((carryF s al).2.done), Ix ((carryF s al).2.at_), Ix ((carryF s al).2.e), .slice p54 (((carryF s al).2.holds).length) c55]) rfl rfl rfl rfl rfl rfl rfl) ?_
       refine l_val (v := .int .i64 (0)) rfl rfl rfl (e_assign) ?_
       refine l_nil ?_
       refine f_then ?_
       refine c_ret ?_
       refine retG (l := [.cell 8 37, .tmp 9]) (m := [.agg #[.bool ((carryF s al).2.done), Ix ((carryF s al).2.at_), Ix ((carryF s al).2.e), .slice p54 (((carryF s al).2.holds).length) c55], .int .i64 (0)]) (v := .tuple #[.agg #[.bool ((carryF s al).2.done), Ix ((carryF s al).2.at_), Ix ((carryF s al).2.e), .slice p54 (((carryF s al).2.holds).length) c55], .int .i64 (0)]) Tryz.results12 ⟨rd_cell tt61 (cs := [.bool ((carryF s al).2.done), Ix ((carryF s al).2.at_), Ix ((carryF s al).2.e), .slice p54 (((carryF s al).2.holds).length) c55]) rfl (k_pt 7 (cs := #[.bool ((carryF s al).2.done), Ix ((carryF s al).2.at_), Ix ((carryF s al).2.e), .slice p54 (((carryF s al).2.holds).length) c55]) (vs := [.bool ((carryF s al).2.done), Ix ((carryF s al).2.at_), Ix ((carryF s al).2.e), .slice p54 (((carryF s al).2.holds).length) c55]) rfl rfl) rfl, rd_tmp (v := .int .i64 (0)) rfl, trivial⟩ rfl ?_
       intro w hw
       replace hw := hw.perm (L' := [rowF ActF 47 p2 c3 al, rowF IntF 3 (tsA (fa53 123)) (tcA (fa53 123)) ((carryF s al).2.holds), memR zs, pt H (.cells #[.pointer (some ⟨J, 0, none⟩), .map (some (tmA 0 (fa53 123))), .map (some (tmA 1 (fa53 123))), Ix ((carryF s al).1.last), Ix ((carryF s al).1.su.a0), Ix ((carryF s al).1.su.a1), Ix ((carryF s al).1.su.a2), Ix ((carryF s al).1.su.a3), .map (some (tmA 7 (fa53 123))), .bool false] 91), jourR J S (apI i (dealB au nu al [] 0)) false, storeR S (apS k i (dealB au nu al [] 0)), mpR PuM (tmA 0 (fa53 123)) ((carryF s al).1.ps), mpR HoM (tmA 1 (fa53 123)) ((carryF s al).1.hs), mpR MeM (tmA 7 (fa53 123)) (MeM.put ms au (⟨au, nu, p2, al.length, c3, (carryF s al).2.done, (carryF s al).2.at_, (carryF s al).2.e, (tsA (fa53 123)), (carryF s al).2.holds.length, (tcA (fa53 123))⟩ : KMh)), rowF IntF 3 p54 c55 ((carryF s al).2.holds), row (.slice p37 ((dealB au nu al [] 0)).length c38) 5 1 (((dealB au nu al [] 0)).length) (BX (dealB au nu al [] 0)), pt b5 (.cells #[Ix (hd.author), Ix (hd.number), .slice hd.p (hd.n) hd.c, .bool (hd.done), Ix (hd.at_), Ix (hd.e), .slice hd.q (hd.m) hd.k] 82), pt b4 (.cells #[Ix (au), Ix (nu), .slice p2 (al.length) c3] 80), pt b1 (.cells #[.bool ((carryF s al).2.done), Ix ((carryF s al).2.at_), Ix ((carryF s al).2.e), .slice p54 (((carryF s al).2.holds).length) c55] 37), pt (blk (fa53 17)) (.cells #[.map (some (tmA 0 (fa53 123))), .map (some (tmA 1 (fa53 123))), Ix ((carryF s al).1.last), Ix ((carryF s al).1.su.a0), Ix ((carryF s al).1.su.a1), Ix ((carryF s al).1.su.a2), Ix ((carryF s al).1.su.a3), .map (some (tmA 7 (fa53 123)))] 88), pt (blk (fa53 18)) (.cells #[.bool ((carryF s al).2.done), Ix ((carryF s al).2.at_), Ix ((carryF s al).2.e), .slice (tsA (fa53 123)) ((carryF s al).2.holds.length) (tcA (fa53 123))] 37)]) (by exact (perm_ix [6, 13, 9, 8, 1, 2, 10, 11, 12, 0, 3, 4, 5, 7, 14, 15] 16 rfl (by kernel_rfl) (by kernel_rfl)))
       replace hw := st_mask (L' := [rowF ActF 47 p2 c3 al, rowF IntF 3 (tsA (fa53 123)) (tcA (fa53 123)) ((carryF s al).2.holds), memR zs, pt H (.cells #[.pointer (some ⟨J, 0, none⟩), .map (some (tmA 0 (fa53 123))), .map (some (tmA 1 (fa53 123))), Ix ((carryF s al).1.last), Ix ((carryF s al).1.su.a0), Ix ((carryF s al).1.su.a1), Ix ((carryF s al).1.su.a2), Ix ((carryF s al).1.su.a3), .map (some (tmA 7 (fa53 123))), .bool false] 91), jourR J S (apI i (dealB au nu al [] 0)) false, storeR S (apS k i (dealB au nu al [] 0)), mpR PuM (tmA 0 (fa53 123)) ((carryF s al).1.ps), mpR HoM (tmA 1 (fa53 123)) ((carryF s al).1.hs), mpR MeM (tmA 7 (fa53 123)) (MeM.put ms au (⟨au, nu, p2, al.length, c3, (carryF s al).2.done, (carryF s al).2.at_, (carryF s al).2.e, (tsA (fa53 123)), (carryF s al).2.holds.length, (tcA (fa53 123))⟩ : KMh)), rowF IntF 3 p54 c55 ((carryF s al).2.holds)]) [true, true, true, true, true, true, true, true, true, true, false, false, false, false, false, false] rfl hw
       have hw2 := St.merge (L := [rowF ActF 47 p2 c3 al, rowF IntF 3 (tsA (fa53 123)) (tcA (fa53 123)) ((carryF s al).2.holds), memR zs]) (M := [pt H (.cells #[.pointer (some ⟨J, 0, none⟩), .map (some (tmA 0 (fa53 123))), .map (some (tmA 1 (fa53 123))), Ix ((carryF s al).1.last), Ix ((carryF s al).1.su.a0), Ix ((carryF s al).1.su.a1), Ix ((carryF s al).1.su.a2), Ix ((carryF s al).1.su.a3), .map (some (tmA 7 (fa53 123))), .bool false] 91), jourR J S (apI i (dealB au nu al [] 0)) false, storeR S (apS k i (dealB au nu al [] 0)), mpR PuM (tmA 0 (fa53 123)) ((carryF s al).1.ps), mpR HoM (tmA 1 (fa53 123)) ((carryF s al).1.hs), mpR MeM (tmA 7 (fa53 123)) (MeM.put ms au (⟨au, nu, p2, al.length, c3, (carryF s al).2.done, (carryF s al).2.at_, (carryF s al).2.e, (tsA (fa53 123)), (carryF s al).2.holds.length, (tcA (fa53 123))⟩ : KMh)), rowF IntF 3 p54 c55 ((carryF s al).2.holds)]) (r := memR (zs ++ [((⟨au, nu, p2, al.length, c3, (carryF s al).2.done, (carryF s al).2.at_, (carryF s al).2.e, (tsA (fa53 123)), (carryF s al).2.holds.length, (tcA (fa53 123))⟩ : KMh), ⟨⟨au, nu, al⟩, (carryF s al).2⟩)])) hw (fun a ha => memR_add a ha)
       replace hw := hw2
       replace hw := hw.perm (L' := [pt H (.cells #[.pointer (some ⟨J, 0, none⟩), .map (some (tmA 0 (fa53 123))), .map (some (tmA 1 (fa53 123))), Ix ((carryF s al).1.last), Ix ((carryF s al).1.su.a0), Ix ((carryF s al).1.su.a1), Ix ((carryF s al).1.su.a2), Ix ((carryF s al).1.su.a3), .map (some (tmA 7 (fa53 123))), .bool false] 91), jourR J S (apI i (dealB au nu al [] 0)) false, storeR S (apS k i (dealB au nu al [] 0)), mpR PuM (tmA 0 (fa53 123)) ((carryF s al).1.ps), mpR HoM (tmA 1 (fa53 123)) ((carryF s al).1.hs), mpR MeM (tmA 7 (fa53 123)) (MeM.put ms au (⟨au, nu, p2, al.length, c3, (carryF s al).2.done, (carryF s al).2.at_, (carryF s al).2.e, (tsA (fa53 123)), (carryF s al).2.holds.length, (tcA (fa53 123))⟩ : KMh)), memR (zs ++ [((⟨au, nu, p2, al.length, c3, (carryF s al).2.done, (carryF s al).2.at_, (carryF s al).2.e, (tsA (fa53 123)), (carryF s al).2.holds.length, (tcA (fa53 123))⟩ : KMh), ⟨⟨au, nu, al⟩, (carryF s al).2⟩)]), rowF IntF 3 p54 c55 ((carryF s al).2.holds)]) (by exact (perm_ix [1, 2, 3, 4, 5, 6, 0, 7] 8 rfl (by kernel_rfl) (by kernel_rfl)))
       obtain ⟨hk2, hro⟩ := hk.ap (z := (carryF s al).1) (ro := (carryF s al).2) rfl (hk.so.ap hN hfm hh63 (hk.so.small hNs hlen) ha) (hd := (⟨au, nu, p2, al.length, c3, (carryF s al).2.done, (carryF s al).2.at_, (carryF s al).2.e, (tsA (fa53 123)), (carryF s al).2.holds.length, (tcA (fa53 123))⟩ : KMh)) ⟨rfl, rfl, rfl, rfl, rfl, rfl, rfl⟩
       have hw2 := St.closeHouse (M := [rowF IntF 3 p54 c55 ((carryF s al).2.holds)]) hk2 rfl hw
       refine ⟨_, _, _, do_newF hlo hfm (by rw [hc29]; decide) (by rw [hc36]; decide), .inl ⟨p54, c55, _, fun q => apS_neg1 (hpw.trans q), by rw [hro] <;> rfl, hw2.perm (L' := [_, _]) (by rw [hro]; exact List.Perm.swap _ _ _)⟩⟩
      ·
       refine c_region ?_
       refine l_val (v := .pointer (some ⟨H, 0, none⟩)) rfl rfl rfl (e_move) ?_
       refine l_val (v := .pointer (some ⟨H, 0, none⟩)) rfl rfl rfl (e_nil (a := ⟨H, 0, none⟩) rfl) ?_
       refine l_val (v := .pointer (some ⟨H, 0, none⟩)) rfl rfl rfl (e_fieldPt (b := H) (o := 0) rfl tt90) ?_
       refine l_val (v := .pointer (some ⟨J, 0, none⟩)) rfl rfl rfl (e_load1 tt91 (v := .pointer (some ⟨J, 0, none⟩)) rfl (k_pt 5 (cs := #[.pointer (some ⟨J, 0, none⟩), .map (some mp), .map (some mh), Ix (s.last), Ix (s.su.a0), Ix (s.su.a1), Ix (s.su.a2), Ix (s.su.a3), .map (some mm), .bool false]) (vs := [.pointer (some ⟨J, 0, none⟩)]) rfl rfl)) ?_
       refine l_val (v := .slice p37 ((dealB au nu al [] 0)).length c38) rfl rfl rfl (e_move) ?_
       refine l_call rfl rfl rfl (cl_value (fst := []) (cap := []) (vs := [.pointer (some ⟨J, 0, none⟩), .slice p37 ((dealB au nu al [] 0)).length c38]) (all := [.pointer (some ⟨J, 0, none⟩), .slice p37 ((dealB au nu al [] 0)).length c38]) tt108 rfl rfl rfl) ?_
       intro w hw
       replace hw := hw.perm (L' := [jourR J S i false, storeR S k, row (.slice p37 ((dealB au nu al [] 0)).length c38) 5 1 (((dealB au nu al [] 0)).length) (BX (dealB au nu al [] 0)), pt b5 (.cells #[Ix (hd.author), Ix (hd.number), .slice hd.p (hd.n) hd.c, .bool (hd.done), Ix (hd.at_), Ix (hd.e), .slice hd.q (hd.m) hd.k] 82), pt b4 (.cells #[Ix (au), Ix (nu), .slice p2 (al.length) c3] 80), rowF ActF 47 p2 c3 al, pt b1 (.cells #[.bool false, .int .i64 (0), .int .i64 (0), .slice none 0 0] 37), pt H (.cells #[.pointer (some ⟨J, 0, none⟩), .map (some mp), .map (some mh), Ix (s.last), Ix (s.su.a0), Ix (s.su.a1), Ix (s.su.a2), Ix (s.su.a3), .map (some mm), .bool false] 91), mpR PuM mp s.ps, mpR HoM mh s.hs, mpR MeM mm ms, memR zs]) (by exact (perm_ix [6, 7, 0, 1, 2, 3, 4, 5, 8, 9, 10, 11] 12 rfl (by kernel_rfl) (by kernel_rfl)))
       obtain ⟨β1, sb, kn, hw1, back⟩ := St.frame (L := [_, _]) (M := _ :: _ :: _ :: _ :: _ :: _ :: _ :: _ :: _ :: _ :: []) hw
       refine (append_fail β1 w J S k i (dealB au nu al [] 0) hroom.1 hroom.2.1 hroom.2.2.1 hroom.2.2.2.1 hroom.2.2.2.2.1 hroom.2.2.2.2.2.1 hroom.2.2.2.2.2.2 ha _ (kn _ (Knows.of_res 0 rfl (Sl.mono U8R _ _) fun _ h => row_u8 h)) hw1).mono ?_
       rintro e w' ⟨rfl, hw'⟩
       refine ⟨_, rfl, _, back _ _ hw', ?_⟩
       clear hw hw1 hw' back kn sb
       refine l_val (v := .tuple #[.int .i64 (0), .int .i64 (310)]) rfl rfl rfl (e_move) ?_
       refine l_val (v := .int .i64 (0)) rfl rfl rfl (e_extract (vs := #[.int .i64 (0), .int .i64 (310)]) rfl rfl) ?_
       refine l_val (v := .int .i64 (310)) rfl rfl rfl (e_extract (vs := #[.int .i64 (0), .int .i64 (310)]) rfl rfl) ?_
       refine l_val (v := .int .i64 (0)) rfl rfl rfl (e_assign) ?_
       refine l_val (v := .int .i64 (310)) rfl rfl rfl (e_assign) ?_
       refine l_nil ?_
       refine f_then ?_
       refine c_seq ?_
       refine c_seq ?_
       refine c_region ?_
       refine l_val (v := .int .i64 (310)) rfl rfl rfl (e_move) ?_
       refine l_val (v := .bool false) rfl rfl rfl (e_eql (a := (310 : Int)) (b := (4 : Int)) rfl rfl) ?_
       refine l_nil ?_
       refine f_then ?_
       refine c_no rfl ?_
       refine c_skip ?_
       refine f_then ?_
       refine c_seq ?_
       refine c_seq ?_
       refine c_region ?_
       refine l_val (v := .int .i64 (310)) rfl rfl rfl (e_move) ?_
       refine l_val (v := .bool true) rfl rfl rfl (e_neq (a := (310 : Int)) (b := (0 : Int)) rfl rfl) ?_
       refine l_nil ?_
       refine f_then ?_
       refine c_yes rfl ?_
       refine c_seq ?_
       refine c_region ?_
       refine l_val (v := .pointer (some ⟨H, 0, none⟩)) rfl rfl rfl (e_move) ?_
       refine l_val (v := .pointer (some ⟨H, 0, none⟩)) rfl rfl rfl (e_nil (a := ⟨H, 0, none⟩) rfl) ?_
       refine l_val (v := .pointer (some ⟨H, 9, none⟩)) rfl rfl rfl (e_fieldPt (b := H) (o := 0) rfl tt94) ?_
       refine l_mu rfl rfl (m_store 7 tt95 (b := H) (o := 9) (T := 91) (cs := #[.pointer (some ⟨J, 0, none⟩), .map (some mp), .map (some mh), Ix (s.last), Ix (s.su.a0), Ix (s.su.a1), Ix (s.su.a2), Ix (s.su.a3), .map (some mm), .bool false]) (cs' := #[.pointer (some ⟨J, 0, none⟩), .map (some mp), .map (some mh), Ix (s.last), Ix (s.su.a0), Ix (s.su.a1), Ix (s.su.a2), Ix (s.su.a3), .map (some mm), .bool true]) (v := .bool true) rfl rfl rfl rfl rfl rfl rfl) ?_
       refine l_nil ?_
       refine f_then ?_
       refine c_seq ?_
       refine c_region ?_
       refine l_val (v := .agg #[.bool false, .int .i64 (0), .int .i64 (0), .slice none 0 0]) rfl rfl rfl (e_build tt53 tt60 (vs := []) (cells := #[.bool false, .int .i64 (0), .int .i64 (0), .slice none 0 0]) rfl rfl) ?_
       refine l_val (v := .int .i64 (310)) rfl rfl rfl (e_move) ?_
       refine l_mu rfl rfl (m_store 6 tt61 (b := b1) (o := 0) (T := 37) (cs := #[.bool false, .int .i64 (0), .int .i64 (0), .slice none 0 0]) (cs' := #[.bool false, .int .i64 (0), .int .i64 (0), .slice none 0 0]) (v := .agg #[.bool false, .int .i64 (0), .int .i64 (0), .slice none 0 0]) rfl rfl rfl rfl rfl rfl rfl) ?_
       refine l_val (v := .int .i64 (310)) rfl rfl rfl (e_assign) ?_
       refine l_nil ?_
       refine f_then ?_
       refine c_ret ?_
       refine f_then_ret ?_
       refine retG (l := [.cell 8 37, .tmp 9]) (m := [.agg #[.bool false, .int .i64 (0), .int .i64 (0), .slice none 0 0], .int .i64 (310)]) (v := .tuple #[.agg #[.bool false, .int .i64 (0), .int .i64 (0), .slice none 0 0], .int .i64 (310)]) Tryz.results12 ⟨rd_cell tt61 (cs := [.bool false, .int .i64 (0), .int .i64 (0), .slice none 0 0]) rfl (k_pt 6 (cs := #[.bool false, .int .i64 (0), .int .i64 (0), .slice none 0 0]) (vs := [.bool false, .int .i64 (0), .int .i64 (0), .slice none 0 0]) rfl rfl) rfl, rd_tmp (v := .int .i64 (310)) rfl, trivial⟩ rfl ?_
       intro w hw
       replace hw := hw.perm (L' := [storeR S (apS k i (dealB au nu al [] 0)), jourR J S i true, row (.slice p37 ((dealB au nu al [] 0)).length c38) 5 1 (((dealB au nu al [] 0)).length) (BX (dealB au nu al [] 0)), pt b5 (.cells #[Ix (hd.author), Ix (hd.number), .slice hd.p (hd.n) hd.c, .bool (hd.done), Ix (hd.at_), Ix (hd.e), .slice hd.q (hd.m) hd.k] 82), pt b4 (.cells #[Ix (au), Ix (nu), .slice p2 (al.length) c3] 80), rowF ActF 47 p2 c3 al, pt b1 (.cells #[.bool false, .int .i64 (0), .int .i64 (0), .slice none 0 0] 37), pt H (.cells #[.pointer (some ⟨J, 0, none⟩), .map (some mp), .map (some mh), Ix (s.last), Ix (s.su.a0), Ix (s.su.a1), Ix (s.su.a2), Ix (s.su.a3), .map (some mm), .bool true] 91), mpR PuM mp s.ps, mpR HoM mh s.hs, mpR MeM mm ms, memR zs]) (by exact (perm_ix [1, 0, 2, 3, 4, 5, 6, 7, 8, 9, 10, 11] 12 rfl (by kernel_rfl) (by kernel_rfl)))
       replace hw := st_mask (L' := [storeR S (apS k i (dealB au nu al [] 0))]) [true, false, false, false, false, false, false, false, false, false, false, false] rfl hw
       exact ⟨_, _, _, do_newF hlo hfm (by rw [hc29]; decide) (by rw [hc36]; decide), .inr ⟨fun q => ha (ap_neg1 (hpw.trans q)), rfl, rfl, _, St.closeShelf (M := []) ((hk.so.ap_no (hk.so.small hNs hlen) (by omega) ha).mono (Nat.le_refl _) (by omega)) rfl hw⟩⟩
end Go.Proofs
