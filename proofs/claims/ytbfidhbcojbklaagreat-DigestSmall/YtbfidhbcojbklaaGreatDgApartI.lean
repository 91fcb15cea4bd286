/-
  Own work; plain Lean (DgApartI).
-/
import Derived.Test.YtbfidhbcojbklaaGreatDgFindsR
namespace Go.Proofs
open Go Go.Sl
theorem tf168 : fldB Tryz.prog 73 1 1 1 false = true := by kernel_rfl
theorem tf169 : tyB Tryz.prog 31 false 1 = true := by kernel_rfl
theorem tf170 : fldB Tryz.prog 73 0 0 1 false = true := by kernel_rfl
theorem tf171 : tyB Tryz.prog 53 false 1 = true := by kernel_rfl
theorem tf172 : cfB Tryz.prog 47 = true := by kernel_rfl
theorem tf173 : cfB Tryz.prog 48 = true := by kernel_rfl
theorem tf174 : fldB Tryz.prog 73 2 2 1 false = true := by kernel_rfl
theorem tf175 : tyB Tryz.prog 54 false 1 = true := by kernel_rfl
theorem tf176 : cfB Tryz.prog 49 = true := by kernel_rfl
theorem tf177 : fldB Tryz.prog 73 3 3 1 false = true := by kernel_rfl
theorem tf178 : tyB Tryz.prog 55 false 1 = true := by kernel_rfl
theorem tf179 : cfB Tryz.prog 50 = true := by kernel_rfl
theorem tf180 : fldB Tryz.prog 73 4 4 1 false = true := by kernel_rfl
theorem tf181 : tyB Tryz.prog 56 false 1 = true := by kernel_rfl
theorem tf182 : cfB Tryz.prog 51 = true := by kernel_rfl
theorem tf183 : fldB Tryz.prog 73 5 5 1 false = true := by kernel_rfl
theorem tf184 : tyB Tryz.prog 57 false 1 = true := by kernel_rfl
theorem tf185 : cfB Tryz.prog 52 = true := by kernel_rfl
theorem tf186 : fldB Tryz.prog 73 6 6 1 false = true := by kernel_rfl
theorem tf187 : tyB Tryz.prog 58 false 1 = true := by kernel_rfl
theorem tf188 : cfB Tryz.prog 53 = true := by kernel_rfl
theorem tf189 : fldB Tryz.prog 73 7 7 1 false = true := by kernel_rfl
theorem tf190 : tyB Tryz.prog 59 false 1 = true := by kernel_rfl
theorem tf191 : cfB Tryz.prog 54 = true := by kernel_rfl
theorem tf192 : fldB Tryz.prog 73 8 8 1 false = true := by kernel_rfl
theorem tf193 : tyB Tryz.prog 60 false 1 = true := by kernel_rfl
theorem tf194 : cfB Tryz.prog 55 = true := by kernel_rfl
theorem tf195 : fldB Tryz.prog 73 9 9 1 false = true := by kernel_rfl
theorem tf196 : tyB Tryz.prog 61 false 1 = true := by kernel_rfl
theorem tf197 : cfB Tryz.prog 56 = true := by kernel_rfl
theorem tf198 : fldB Tryz.prog 73 10 10 1 false = true := by kernel_rfl
theorem tf199 : tyB Tryz.prog 62 false 1 = true := by kernel_rfl
theorem tf200 : cfB Tryz.prog 57 = true := by kernel_rfl
theorem tf201 : fldB Tryz.prog 73 11 11 1 false = true := by kernel_rfl
theorem tf202 : tyB Tryz.prog 63 false 1 = true := by kernel_rfl
theorem tf203 : cfB Tryz.prog 58 = true := by kernel_rfl
theorem tf204 : fldB Tryz.prog 73 12 12 1 false = true := by kernel_rfl
theorem tf205 : tyB Tryz.prog 64 false 1 = true := by kernel_rfl
theorem tf206 : cfB Tryz.prog 59 = true := by kernel_rfl
theorem tf207 : fldB Tryz.prog 73 13 13 1 false = true := by kernel_rfl
theorem tf208 : tyB Tryz.prog 65 false 1 = true := by kernel_rfl
theorem tf209 : cfB Tryz.prog 60 = true := by kernel_rfl
theorem tf210 : fldB Tryz.prog 73 14 14 1 false = true := by kernel_rfl
theorem tf211 : tyB Tryz.prog 66 false 1 = true := by kernel_rfl
theorem tf212 : cfB Tryz.prog 61 = true := by kernel_rfl
theorem tf213 : fldB Tryz.prog 73 15 15 1 false = true := by kernel_rfl
theorem tf214 : tyB Tryz.prog 67 false 1 = true := by kernel_rfl
theorem tf215 : cfB Tryz.prog 62 = true := by kernel_rfl
theorem tf216 : fldB Tryz.prog 73 16 16 1 false = true := by kernel_rfl
theorem tf217 : tyB Tryz.prog 68 false 1 = true := by kernel_rfl
theorem tf218 : cfB Tryz.prog 63 = true := by kernel_rfl
theorem tf219 : fldB Tryz.prog 73 17 17 1 false = true := by kernel_rfl
theorem tf220 : tyB Tryz.prog 69 false 1 = true := by kernel_rfl
theorem tf221 : cfB Tryz.prog 64 = true := by kernel_rfl
theorem tf222 : fldB Tryz.prog 73 18 18 1 false = true := by kernel_rfl
theorem tf223 : tyB Tryz.prog 70 false 1 = true := by kernel_rfl
theorem tf224 : cfB Tryz.prog 65 = true := by kernel_rfl
theorem tf225 : fldB Tryz.prog 73 19 19 1 false = true := by kernel_rfl
theorem tf226 : tyB Tryz.prog 71 false 1 = true := by kernel_rfl
theorem tf227 : cfB Tryz.prog 66 = true := by kernel_rfl
theorem tf228 : stB Tryz.prog 73 [(0, 1), (1, 1), (2, 1), (3, 1), (4, 1), (5, 1), (6, 1), (7, 1), (8, 1), (9, 1), (10, 1), (11, 1), (12, 1), (13, 1), (14, 1), (15, 1), (16, 1), (17, 1), (18, 1), (19, 1)] = true := by kernel_rfl
theorem tf229 : (Tryz.prog.info? 73).bind (·.zero) = some (.agg #[.slice none 0 0, .slice none 0 0, .slice none 0 0, .slice none 0 0, .slice none 0 0, .slice none 0 0, .slice none 0 0, .slice none 0 0, .slice none 0 0, .slice none 0 0, .slice none 0 0, .slice none 0 0, .slice none 0 0, .slice none 0 0, .slice none 0 0, .slice none 0 0, .slice none 0 0, .slice none 0 0, .slice none 0 0, .slice none 0 0]) := by kernel_rfl
theorem tf230 : cfB Tryz.prog 24 = true := by kernel_rfl
theorem tf231 : cfB Tryz.prog 25 = true := by kernel_rfl
theorem putInts_ok (β : Base) (w : World) (b : Nat) (s : Value) (n : Nat) (vs : List Value) (hn : n ≤ 10) (pv : Option Addr) (nv cv : Nat) (hs1 : s.oneCell' = true) (hw : St β [pt b (.cells #[.slice none 0 0, s, .slice none 0 0, .slice none 0 0, .slice none 0 0, .slice none 0 0, .slice none 0 0, .slice none 0 0, .slice none 0 0, .slice none 0 0, .slice none 0 0, .slice none 0 0, .slice none 0 0, .slice none 0 0, .slice none 0 0, .slice none 0 0, .slice none 0 0, .slice none 0 0, .slice none 0 0, .slice none 0 0] 73), row s 26 1 n vs] w) : Calls Tryz.prog 24 #[.pointer (some ⟨b, 0, none⟩), .slice pv nv cv] w fun r w' => ∃ p c, r = .returned (.tuple #[]) ∧ St β [pt b (.cells #[.slice none 0 0, .slice p (n + 1) c, .slice none 0 0, .slice none 0 0, .slice none 0 0, .slice none 0 0, .slice none 0 0, .slice none 0 0, .slice none 0 0, .slice none 0 0, .slice none 0 0, .slice none 0 0, .slice none 0 0, .slice none 0 0, .slice none 0 0, .slice none 0 0, .slice none 0 0, .slice none 0 0, .slice none 0 0, .slice none 0 0] 73), row (.slice p (n + 1) c) 26 1 (n + 1) (vs ++ [.slice pv nv cv])] w' := by
  refine enter (n := 14) Tryz.func24 rfl Tryz.ntmps24 rfl ?_ hw
  refine c_region ?_
  refine l_val (v := .pointer (some ⟨b, 0, none⟩)) rfl rfl rfl (e_move) ?_
  refine l_val (v := .pointer (some ⟨b, 0, none⟩)) rfl rfl rfl (e_move) ?_
  refine l_val (v := .pointer (some ⟨b, 0, none⟩)) rfl rfl rfl (e_nil (a := ⟨b, 0, none⟩) rfl) ?_
  refine l_val (v := .pointer (some ⟨b, 1, none⟩)) rfl rfl rfl (e_fieldPt (b := b) (o := 0) rfl tf168) ?_
  refine l_val (v := s) rfl rfl rfl (e_load1 tf169 (v := s) rfl (k_pt 0 (cs := #[.slice none 0 0, s, .slice none 0 0, .slice none 0 0, .slice none 0 0, .slice none 0 0, .slice none 0 0, .slice none 0 0, .slice none 0 0, .slice none 0 0, .slice none 0 0, .slice none 0 0, .slice none 0 0, .slice none 0 0, .slice none 0 0, .slice none 0 0, .slice none 0 0, .slice none 0 0, .slice none 0 0, .slice none 0 0]) (vs := [s]) rfl rfl)) ?_
  refine l_val (v := .slice pv nv cv) rfl rfl rfl (e_move) ?_
  refine l_mv rfl rfl rfl (m_slices tf164 tf167 (vs := [(0, .slice pv nv cv)]) (cells := #[.slice pv nv cv]) rfl rfl rfl rfl) ?_
  rintro _ _ ⟨b1, rfl, rfl⟩
  refine l_mv rfl rfl rfl (m_append_w 2 tf164 tf166 (v := s) (m := n) (vs := vs) (ao := some ⟨b1, 0, none⟩) (k := 1) (c := 1) (news := [.slice pv nv cv]) rfl rfl rfl rfl (k_pt 0 (cs := #[.slice pv nv cv]) (vs := [.slice pv nv cv]) rfl rfl) rfl (fun _ => rfl) (by unfold maxLen; omega) (by omega)) ?_
  rintro _ _ ⟨rp2, rc3, rfl, rfl⟩
  refine l_val (v := .pointer (some ⟨b, 0, none⟩)) rfl rfl rfl (e_nil (a := ⟨b, 0, none⟩) rfl) ?_
  refine l_val (v := .pointer (some ⟨b, 1, none⟩)) rfl rfl rfl (e_fieldPt (b := b) (o := 0) rfl tf168) ?_
  refine l_mu rfl rfl (m_store 1 tf169 (b := b) (o := 1) (T := 73) (cs := #[.slice none 0 0, s, .slice none 0 0, .slice none 0 0, .slice none 0 0, .slice none 0 0, .slice none 0 0, .slice none 0 0, .slice none 0 0, .slice none 0 0, .slice none 0 0, .slice none 0 0, .slice none 0 0, .slice none 0 0, .slice none 0 0, .slice none 0 0, .slice none 0 0, .slice none 0 0, .slice none 0 0, .slice none 0 0]) (cs' := #[.slice none 0 0, .slice rp2 (n + 1) rc3, .slice none 0 0, .slice none 0 0, .slice none 0 0, .slice none 0 0, .slice none 0 0, .slice none 0 0, .slice none 0 0, .slice none 0 0, .slice none 0 0, .slice none 0 0, .slice none 0 0, .slice none 0 0, .slice none 0 0, .slice none 0 0, .slice none 0 0, .slice none 0 0, .slice none 0 0, .slice none 0 0]) (v := .slice rp2 (n + 1) rc3) rfl rfl rfl rfl rfl rfl rfl) ?_
  refine l_nil ?_
  refine end0 Tryz.results24 ?_
  intro w hw
  exact ⟨_, _, rfl, st_mask [false, true, true] rfl hw⟩
set_option maxRecDepth 100000 in
theorem apart_bag_ok (β : Base) (w : World) (b : Nat) (p : Option Addr) (lc : Nat) (p0 p1 : Option Addr) (c0 c1 : Nat) (xs0 xs1 : List Int) (h0 : xs0.length ≤ 1000000) (h1 : xs1.length ≤ 1000000) (hw : St β [pt b (.cells #[.slice none 0 0, .slice p 2 lc, .slice none 0 0, .slice none 0 0, .slice none 0 0, .slice none 0 0, .slice none 0 0, .slice none 0 0, .slice none 0 0, .slice none 0 0, .slice none 0 0, .slice none 0 0, .slice none 0 0, .slice none 0 0, .slice none 0 0, .slice none 0 0, .slice none 0 0, .slice none 0 0, .slice none 0 0, .slice none 0 0] 73), row (.slice p 2 lc) 26 1 2 [.slice p0 (xs0.length) c0, .slice p1 (xs1.length) c1], row (.slice p0 (xs0.length) c0) 3 1 (xs0.length) ((xs0.map fun z => Ix z)), row (.slice p1 (xs1.length) c1) 3 1 (xs1.length) ((xs1.map fun z => Ix z))] w) : Calls Tryz.prog 25 #[.pointer (some ⟨b, 0, none⟩)] w fun r w' => r = .returned (.bool true) ∧ St β [] w' := by
  refine enter (n := 141) Tryz.func25 rfl Tryz.ntmps25 rfl ?_ hw
  refine c_seq ?_
  refine c_region ?_
  refine l_val (v := .bool false) rfl rfl rfl (e_assign) ?_
  refine l_nil ?_
  refine f_then ?_
  refine c_seq ?_
  refine c_rowsome 1 rfl (by decide) (fun hp => ?_)
  refine c_perm (L' := [pt b (.cells #[.slice none 0 0, .slice p 2 lc, .slice none 0 0, .slice none 0 0, .slice none 0 0, .slice none 0 0, .slice none 0 0, .slice none 0 0, .slice none 0 0, .slice none 0 0, .slice none 0 0, .slice none 0 0, .slice none 0 0, .slice none 0 0, .slice none 0 0, .slice none 0 0, .slice none 0 0, .slice none 0 0, .slice none 0 0, .slice none 0 0] 73), row (.slice p0 (xs0.length) c0) 3 1 (xs0.length) ((xs0.map fun z => Ix z)), row (.slice p1 (xs1.length) c1) 3 1 (xs1.length) ((xs1.map fun z => Ix z)), row (.slice p 2 lc) 26 1 (2) ([.slice p0 (xs0.length) c0, .slice p1 (xs1.length) c1])]) ((((perm_front 1 rfl).trans (perm_front 3 rfl)).trans (perm_front 3 rfl)).trans (perm_front 3 rfl)) ?_
  refine c_freeze (M := [pt b (.cells #[.slice none 0 0, .slice p 2 lc, .slice none 0 0, .slice none 0 0, .slice none 0 0, .slice none 0 0, .slice none 0 0, .slice none 0 0, .slice none 0 0, .slice none 0 0, .slice none 0 0, .slice none 0 0, .slice none 0 0, .slice none 0 0, .slice none 0 0, .slice none 0 0, .slice none 0 0, .slice none 0 0, .slice none 0 0, .slice none 0 0] 73), row (.slice p0 (xs0.length) c0) 3 1 (xs0.length) ((xs0.map fun z => Ix z)), row (.slice p1 (xs1.length) c1) 3 1 (xs1.length) ((xs1.map fun z => Ix z))]) (K := [row (.slice p 2 lc) 26 1 (2) ([.slice p0 (xs0.length) c0, .slice p1 (xs1.length) c1])]) rfl (fun β₁ ext₁ kn₁ => ?_)
  have hls := kn₁ _ (k_row_all (p := p) (m := 2) 0 rfl (by decide))
  refine c_region ?_
  refine l_val (v := .pointer (some ⟨b, 0, none⟩)) rfl rfl rfl (e_move) ?_
  refine l_val (v := .pointer (some ⟨b, 0, none⟩)) rfl rfl rfl (e_nil (a := ⟨b, 0, none⟩) rfl) ?_
  refine l_val (v := .pointer (some ⟨b, 0, none⟩)) rfl rfl rfl (e_fieldPt (b := b) (o := 0) rfl tf170) ?_
  refine l_val (v := .slice none 0 0) rfl rfl rfl (e_load1 tf171 (v := .slice none 0 0) rfl (k_pt 0 (cs := #[.slice none 0 0, .slice p 2 lc, .slice none 0 0, .slice none 0 0, .slice none 0 0, .slice none 0 0, .slice none 0 0, .slice none 0 0, .slice none 0 0, .slice none 0 0, .slice none 0 0, .slice none 0 0, .slice none 0 0, .slice none 0 0, .slice none 0 0, .slice none 0 0, .slice none 0 0, .slice none 0 0, .slice none 0 0, .slice none 0 0]) (vs := [.slice none 0 0]) rfl rfl)) ?_
  refine l_call rfl rfl rfl (cl_value (fst := []) (cap := []) (vs := [.slice none 0 0]) (all := [.slice none 0 0]) tf172 rfl rfl rfl) ?_
  intro w hw
  obtain ⟨β1, sb, kn, hw1, back⟩ := St.frame_all hw
  refine (flatLimbs_nil β1 w hw1).mono ?_
  rintro e w' ⟨rfl, hw'⟩
  refine ⟨_, rfl, _, back _ _ hw', ?_⟩
  clear hw hw1 hw' back kn sb
  refine l_val (v := .bool true) rfl rfl rfl (e_move) ?_
  refine g_val (v := .pointer (some ⟨b, 0, none⟩)) rfl rfl rfl rfl rfl (e_move) ?_
  refine g_val (v := .pointer (some ⟨b, 0, none⟩)) rfl rfl rfl rfl rfl (e_nil (a := ⟨b, 0, none⟩) rfl) ?_
  refine g_val (v := .pointer (some ⟨b, 1, none⟩)) rfl rfl rfl rfl rfl (e_fieldPt (b := b) (o := 0) rfl tf168) ?_
  refine g_val (v := .slice p 2 lc) rfl rfl rfl rfl rfl (e_load1 tf169 (v := .slice p 2 lc) rfl (k_pt 0 (cs := #[.slice none 0 0, .slice p 2 lc, .slice none 0 0, .slice none 0 0, .slice none 0 0, .slice none 0 0, .slice none 0 0, .slice none 0 0, .slice none 0 0, .slice none 0 0, .slice none 0 0, .slice none 0 0, .slice none 0 0, .slice none 0 0, .slice none 0 0, .slice none 0 0, .slice none 0 0, .slice none 0 0, .slice none 0 0, .slice none 0 0]) (vs := [.slice p 2 lc]) rfl rfl)) ?_
  refine g_call rfl rfl rfl rfl rfl (cl_value (fst := []) (cap := []) (vs := [.slice p 2 lc]) (all := [.slice p 2 lc]) tf173 rfl rfl rfl) ?_
  intro w hw
  replace hw := hw.perm (L' := _ :: _ :: _ :: []) (by exact (((perm_front 0 rfl).trans (perm_front 2 rfl)).trans (perm_front 2 rfl)))
  obtain ⟨β1, sb, kn, hw1, back⟩ := St.frame (L := [_, _]) (M := _ :: []) hw
  refine (flatInts_ok β1 w p lc hp p0 p1 c0 c1 xs0 xs1 h0 h1 (Cs.mono _ _ _ _ sb hls) hw1).mono ?_
  rintro e w' ⟨rfl, hw'⟩
  refine ⟨_, rfl, _, back _ _ hw', ?_⟩
  clear hw hw1 hw' back kn sb
  refine l_val (v := .bool true) rfl rfl rfl (e_pick_t rfl) ?_
  refine l_val (v := .bool true) rfl rfl rfl (e_move) ?_
  refine g_val (v := .pointer (some ⟨b, 0, none⟩)) rfl rfl rfl rfl rfl (e_move) ?_
  refine g_val (v := .pointer (some ⟨b, 0, none⟩)) rfl rfl rfl rfl rfl (e_nil (a := ⟨b, 0, none⟩) rfl) ?_
  refine g_val (v := .pointer (some ⟨b, 2, none⟩)) rfl rfl rfl rfl rfl (e_fieldPt (b := b) (o := 0) rfl tf174) ?_
  refine g_val (v := .slice none 0 0) rfl rfl rfl rfl rfl (e_load1 tf175 (v := .slice none 0 0) rfl (k_pt 0 (cs := #[.slice none 0 0, .slice p 2 lc, .slice none 0 0, .slice none 0 0, .slice none 0 0, .slice none 0 0, .slice none 0 0, .slice none 0 0, .slice none 0 0, .slice none 0 0, .slice none 0 0, .slice none 0 0, .slice none 0 0, .slice none 0 0, .slice none 0 0, .slice none 0 0, .slice none 0 0, .slice none 0 0, .slice none 0 0, .slice none 0 0]) (vs := [.slice none 0 0]) rfl rfl)) ?_
  refine g_call rfl rfl rfl rfl rfl (cl_value (fst := []) (cap := []) (vs := [.slice none 0 0]) (all := [.slice none 0 0]) tf176 rfl rfl rfl) ?_
  intro w hw
  obtain ⟨β1, sb, kn, hw1, back⟩ := St.frame_all hw
  refine (flatTexts_nil β1 w hw1).mono ?_
  rintro e w' ⟨rfl, hw'⟩
  refine ⟨_, rfl, _, back _ _ hw', ?_⟩
  clear hw hw1 hw' back kn sb
  refine l_val (v := .bool true) rfl rfl rfl (e_pick_t rfl) ?_
  refine l_val (v := .bool true) rfl rfl rfl (e_move) ?_
  refine g_val (v := .pointer (some ⟨b, 0, none⟩)) rfl rfl rfl rfl rfl (e_move) ?_
  refine g_val (v := .pointer (some ⟨b, 0, none⟩)) rfl rfl rfl rfl rfl (e_nil (a := ⟨b, 0, none⟩) rfl) ?_
  refine g_val (v := .pointer (some ⟨b, 3, none⟩)) rfl rfl rfl rfl rfl (e_fieldPt (b := b) (o := 0) rfl tf177) ?_
  refine g_val (v := .slice none 0 0) rfl rfl rfl rfl rfl (e_load1 tf178 (v := .slice none 0 0) rfl (k_pt 0 (cs := #[.slice none 0 0, .slice p 2 lc, .slice none 0 0, .slice none 0 0, .slice none 0 0, .slice none 0 0, .slice none 0 0, .slice none 0 0, .slice none 0 0, .slice none 0 0, .slice none 0 0, .slice none 0 0, .slice none 0 0, .slice none 0 0, .slice none 0 0, .slice none 0 0, .slice none 0 0, .slice none 0 0, .slice none 0 0, .slice none 0 0]) (vs := [.slice none 0 0]) rfl rfl)) ?_
  refine g_call rfl rfl rfl rfl rfl (cl_value (fst := []) (cap := []) (vs := [.slice none 0 0]) (all := [.slice none 0 0]) tf179 rfl rfl rfl) ?_
  intro w hw
  obtain ⟨β1, sb, kn, hw1, back⟩ := St.frame_all hw
  refine (flatBytes_nil β1 w hw1).mono ?_
  rintro e w' ⟨rfl, hw'⟩
  refine ⟨_, rfl, _, back _ _ hw', ?_⟩
  clear hw hw1 hw' back kn sb
  refine l_val (v := .bool true) rfl rfl rfl (e_pick_t rfl) ?_
  refine l_val (v := .bool true) rfl rfl rfl (e_move) ?_
  refine g_val (v := .pointer (some ⟨b, 0, none⟩)) rfl rfl rfl rfl rfl (e_move) ?_
  refine g_val (v := .pointer (some ⟨b, 0, none⟩)) rfl rfl rfl rfl rfl (e_nil (a := ⟨b, 0, none⟩) rfl) ?_
  refine g_val (v := .pointer (some ⟨b, 4, none⟩)) rfl rfl rfl rfl rfl (e_fieldPt (b := b) (o := 0) rfl tf180) ?_
  refine g_val (v := .slice none 0 0) rfl rfl rfl rfl rfl (e_load1 tf181 (v := .slice none 0 0) rfl (k_pt 0 (cs := #[.slice none 0 0, .slice p 2 lc, .slice none 0 0, .slice none 0 0, .slice none 0 0, .slice none 0 0, .slice none 0 0, .slice none 0 0, .slice none 0 0, .slice none 0 0, .slice none 0 0, .slice none 0 0, .slice none 0 0, .slice none 0 0, .slice none 0 0, .slice none 0 0, .slice none 0 0, .slice none 0 0, .slice none 0 0, .slice none 0 0]) (vs := [.slice none 0 0]) rfl rfl)) ?_
  refine g_call rfl rfl rfl rfl rfl (cl_value (fst := []) (cap := []) (vs := [.slice none 0 0]) (all := [.slice none 0 0]) tf182 rfl rfl rfl) ?_
  intro w hw
  obtain ⟨β1, sb, kn, hw1, back⟩ := St.frame_all hw
  refine (flatComps_nil β1 w hw1).mono ?_
  rintro e w' ⟨rfl, hw'⟩
  refine ⟨_, rfl, _, back _ _ hw', ?_⟩
  clear hw hw1 hw' back kn sb
  refine l_val (v := .bool true) rfl rfl rfl (e_pick_t rfl) ?_
  refine l_val (v := .bool true) rfl rfl rfl (e_move) ?_
  refine g_val (v := .pointer (some ⟨b, 0, none⟩)) rfl rfl rfl rfl rfl (e_move) ?_
  refine g_val (v := .pointer (some ⟨b, 0, none⟩)) rfl rfl rfl rfl rfl (e_nil (a := ⟨b, 0, none⟩) rfl) ?_
  refine g_val (v := .pointer (some ⟨b, 5, none⟩)) rfl rfl rfl rfl rfl (e_fieldPt (b := b) (o := 0) rfl tf183) ?_
  refine g_val (v := .slice none 0 0) rfl rfl rfl rfl rfl (e_load1 tf184 (v := .slice none 0 0) rfl (k_pt 0 (cs := #[.slice none 0 0, .slice p 2 lc, .slice none 0 0, .slice none 0 0, .slice none 0 0, .slice none 0 0, .slice none 0 0, .slice none 0 0, .slice none 0 0, .slice none 0 0, .slice none 0 0, .slice none 0 0, .slice none 0 0, .slice none 0 0, .slice none 0 0, .slice none 0 0, .slice none 0 0, .slice none 0 0, .slice none 0 0, .slice none 0 0]) (vs := [.slice none 0 0]) rfl rfl)) ?_
  refine g_call rfl rfl rfl rfl rfl (cl_value (fst := []) (cap := []) (vs := [.slice none 0 0]) (all := [.slice none 0 0]) tf185 rfl rfl rfl) ?_
  intro w hw
  obtain ⟨β1, sb, kn, hw1, back⟩ := St.frame_all hw
  refine (flatEntities_nil β1 w hw1).mono ?_
  rintro e w' ⟨rfl, hw'⟩
  refine ⟨_, rfl, _, back _ _ hw', ?_⟩
  clear hw hw1 hw' back kn sb
  refine l_val (v := .bool true) rfl rfl rfl (e_pick_t rfl) ?_
  refine l_val (v := .bool true) rfl rfl rfl (e_move) ?_
  refine g_val (v := .pointer (some ⟨b, 0, none⟩)) rfl rfl rfl rfl rfl (e_move) ?_
  refine g_val (v := .pointer (some ⟨b, 0, none⟩)) rfl rfl rfl rfl rfl (e_nil (a := ⟨b, 0, none⟩) rfl) ?_
  refine g_val (v := .pointer (some ⟨b, 6, none⟩)) rfl rfl rfl rfl rfl (e_fieldPt (b := b) (o := 0) rfl tf186) ?_
  refine g_val (v := .slice none 0 0) rfl rfl rfl rfl rfl (e_load1 tf187 (v := .slice none 0 0) rfl (k_pt 0 (cs := #[.slice none 0 0, .slice p 2 lc, .slice none 0 0, .slice none 0 0, .slice none 0 0, .slice none 0 0, .slice none 0 0, .slice none 0 0, .slice none 0 0, .slice none 0 0, .slice none 0 0, .slice none 0 0, .slice none 0 0, .slice none 0 0, .slice none 0 0, .slice none 0 0, .slice none 0 0, .slice none 0 0, .slice none 0 0, .slice none 0 0]) (vs := [.slice none 0 0]) rfl rfl)) ?_
  refine g_call rfl rfl rfl rfl rfl (cl_value (fst := []) (cap := []) (vs := [.slice none 0 0]) (all := [.slice none 0 0]) tf188 rfl rfl rfl) ?_
  intro w hw
  obtain ⟨β1, sb, kn, hw1, back⟩ := St.frame_all hw
  refine (flatWorlds_nil β1 w hw1).mono ?_
  rintro e w' ⟨rfl, hw'⟩
  refine ⟨_, rfl, _, back _ _ hw', ?_⟩
  clear hw hw1 hw' back kn sb
  refine l_val (v := .bool true) rfl rfl rfl (e_pick_t rfl) ?_
  refine l_val (v := .bool true) rfl rfl rfl (e_move) ?_
  refine g_val (v := .pointer (some ⟨b, 0, none⟩)) rfl rfl rfl rfl rfl (e_move) ?_
  refine g_val (v := .pointer (some ⟨b, 0, none⟩)) rfl rfl rfl rfl rfl (e_nil (a := ⟨b, 0, none⟩) rfl) ?_
  refine g_val (v := .pointer (some ⟨b, 7, none⟩)) rfl rfl rfl rfl rfl (e_fieldPt (b := b) (o := 0) rfl tf189) ?_
  refine g_val (v := .slice none 0 0) rfl rfl rfl rfl rfl (e_load1 tf190 (v := .slice none 0 0) rfl (k_pt 0 (cs := #[.slice none 0 0, .slice p 2 lc, .slice none 0 0, .slice none 0 0, .slice none 0 0, .slice none 0 0, .slice none 0 0, .slice none 0 0, .slice none 0 0, .slice none 0 0, .slice none 0 0, .slice none 0 0, .slice none 0 0, .slice none 0 0, .slice none 0 0, .slice none 0 0, .slice none 0 0, .slice none 0 0, .slice none 0 0, .slice none 0 0]) (vs := [.slice none 0 0]) rfl rfl)) ?_
  refine g_call rfl rfl rfl rfl rfl (cl_value (fst := []) (cap := []) (vs := [.slice none 0 0]) (all := [.slice none 0 0]) tf191 rfl rfl rfl) ?_
  intro w hw
  obtain ⟨β1, sb, kn, hw1, back⟩ := St.frame_all hw
  refine (flatVecs_nil β1 w hw1).mono ?_
  rintro e w' ⟨rfl, hw'⟩
  refine ⟨_, rfl, _, back _ _ hw', ?_⟩
  clear hw hw1 hw' back kn sb
  refine l_val (v := .bool true) rfl rfl rfl (e_pick_t rfl) ?_
  refine l_val (v := .bool true) rfl rfl rfl (e_move) ?_
  refine g_val (v := .pointer (some ⟨b, 0, none⟩)) rfl rfl rfl rfl rfl (e_move) ?_
  refine g_val (v := .pointer (some ⟨b, 0, none⟩)) rfl rfl rfl rfl rfl (e_nil (a := ⟨b, 0, none⟩) rfl) ?_
  refine g_val (v := .pointer (some ⟨b, 8, none⟩)) rfl rfl rfl rfl rfl (e_fieldPt (b := b) (o := 0) rfl tf192) ?_
  refine g_val (v := .slice none 0 0) rfl rfl rfl rfl rfl (e_load1 tf193 (v := .slice none 0 0) rfl (k_pt 0 (cs := #[.slice none 0 0, .slice p 2 lc, .slice none 0 0, .slice none 0 0, .slice none 0 0, .slice none 0 0, .slice none 0 0, .slice none 0 0, .slice none 0 0, .slice none 0 0, .slice none 0 0, .slice none 0 0, .slice none 0 0, .slice none 0 0, .slice none 0 0, .slice none 0 0, .slice none 0 0, .slice none 0 0, .slice none 0 0, .slice none 0 0]) (vs := [.slice none 0 0]) rfl rfl)) ?_
  refine g_call rfl rfl rfl rfl rfl (cl_value (fst := []) (cap := []) (vs := [.slice none 0 0]) (all := [.slice none 0 0]) tf194 rfl rfl rfl) ?_
  intro w hw
  obtain ⟨β1, sb, kn, hw1, back⟩ := St.frame_all hw
  refine (flatBodies_nil β1 w hw1).mono ?_
  rintro e w' ⟨rfl, hw'⟩
  refine ⟨_, rfl, _, back _ _ hw', ?_⟩
  clear hw hw1 hw' back kn sb
  refine l_val (v := .bool true) rfl rfl rfl (e_pick_t rfl) ?_
  refine l_val (v := .bool true) rfl rfl rfl (e_move) ?_
  refine g_val (v := .pointer (some ⟨b, 0, none⟩)) rfl rfl rfl rfl rfl (e_move) ?_
  refine g_val (v := .pointer (some ⟨b, 0, none⟩)) rfl rfl rfl rfl rfl (e_nil (a := ⟨b, 0, none⟩) rfl) ?_
  refine g_val (v := .pointer (some ⟨b, 9, none⟩)) rfl rfl rfl rfl rfl (e_fieldPt (b := b) (o := 0) rfl tf195) ?_
  refine g_val (v := .slice none 0 0) rfl rfl rfl rfl rfl (e_load1 tf196 (v := .slice none 0 0) rfl (k_pt 0 (cs := #[.slice none 0 0, .slice p 2 lc, .slice none 0 0, .slice none 0 0, .slice none 0 0, .slice none 0 0, .slice none 0 0, .slice none 0 0, .slice none 0 0, .slice none 0 0, .slice none 0 0, .slice none 0 0, .slice none 0 0, .slice none 0 0, .slice none 0 0, .slice none 0 0, .slice none 0 0, .slice none 0 0, .slice none 0 0, .slice none 0 0]) (vs := [.slice none 0 0]) rfl rfl)) ?_
  refine g_call rfl rfl rfl rfl rfl (cl_value (fst := []) (cap := []) (vs := [.slice none 0 0]) (all := [.slice none 0 0]) tf197 rfl rfl rfl) ?_
  intro w hw
  obtain ⟨β1, sb, kn, hw1, back⟩ := St.frame_all hw
  refine (flatSystems_nil β1 w hw1).mono ?_
  rintro e w' ⟨rfl, hw'⟩
  refine ⟨_, rfl, _, back _ _ hw', ?_⟩
  clear hw hw1 hw' back kn sb
  refine l_val (v := .bool true) rfl rfl rfl (e_pick_t rfl) ?_
  refine l_val (v := .bool true) rfl rfl rfl (e_move) ?_
  refine g_val (v := .pointer (some ⟨b, 0, none⟩)) rfl rfl rfl rfl rfl (e_move) ?_
  refine g_val (v := .pointer (some ⟨b, 0, none⟩)) rfl rfl rfl rfl rfl (e_nil (a := ⟨b, 0, none⟩) rfl) ?_
  refine g_val (v := .pointer (some ⟨b, 10, none⟩)) rfl rfl rfl rfl rfl (e_fieldPt (b := b) (o := 0) rfl tf198) ?_
  refine g_val (v := .slice none 0 0) rfl rfl rfl rfl rfl (e_load1 tf199 (v := .slice none 0 0) rfl (k_pt 0 (cs := #[.slice none 0 0, .slice p 2 lc, .slice none 0 0, .slice none 0 0, .slice none 0 0, .slice none 0 0, .slice none 0 0, .slice none 0 0, .slice none 0 0, .slice none 0 0, .slice none 0 0, .slice none 0 0, .slice none 0 0, .slice none 0 0, .slice none 0 0, .slice none 0 0, .slice none 0 0, .slice none 0 0, .slice none 0 0, .slice none 0 0]) (vs := [.slice none 0 0]) rfl rfl)) ?_
  refine g_call rfl rfl rfl rfl rfl (cl_value (fst := []) (cap := []) (vs := [.slice none 0 0]) (all := [.slice none 0 0]) tf200 rfl rfl rfl) ?_
  intro w hw
  obtain ⟨β1, sb, kn, hw1, back⟩ := St.frame_all hw
  refine (flatInputs_nil β1 w hw1).mono ?_
  rintro e w' ⟨rfl, hw'⟩
  refine ⟨_, rfl, _, back _ _ hw', ?_⟩
  clear hw hw1 hw' back kn sb
  refine l_val (v := .bool true) rfl rfl rfl (e_pick_t rfl) ?_
  refine l_val (v := .bool true) rfl rfl rfl (e_move) ?_
  refine g_val (v := .pointer (some ⟨b, 0, none⟩)) rfl rfl rfl rfl rfl (e_move) ?_
  refine g_val (v := .pointer (some ⟨b, 0, none⟩)) rfl rfl rfl rfl rfl (e_nil (a := ⟨b, 0, none⟩) rfl) ?_
  refine g_val (v := .pointer (some ⟨b, 11, none⟩)) rfl rfl rfl rfl rfl (e_fieldPt (b := b) (o := 0) rfl tf201) ?_
  refine g_val (v := .slice none 0 0) rfl rfl rfl rfl rfl (e_load1 tf202 (v := .slice none 0 0) rfl (k_pt 0 (cs := #[.slice none 0 0, .slice p 2 lc, .slice none 0 0, .slice none 0 0, .slice none 0 0, .slice none 0 0, .slice none 0 0, .slice none 0 0, .slice none 0 0, .slice none 0 0, .slice none 0 0, .slice none 0 0, .slice none 0 0, .slice none 0 0, .slice none 0 0, .slice none 0 0, .slice none 0 0, .slice none 0 0, .slice none 0 0, .slice none 0 0]) (vs := [.slice none 0 0]) rfl rfl)) ?_
  refine g_call rfl rfl rfl rfl rfl (cl_value (fst := []) (cap := []) (vs := [.slice none 0 0]) (all := [.slice none 0 0]) tf203 rfl rfl rfl) ?_
  intro w hw
  obtain ⟨β1, sb, kn, hw1, back⟩ := St.frame_all hw
  refine (flatAreas_nil β1 w hw1).mono ?_
  rintro e w' ⟨rfl, hw'⟩
  refine ⟨_, rfl, _, back _ _ hw', ?_⟩
  clear hw hw1 hw' back kn sb
  refine l_val (v := .bool true) rfl rfl rfl (e_pick_t rfl) ?_
  refine l_val (v := .bool true) rfl rfl rfl (e_move) ?_
  refine g_val (v := .pointer (some ⟨b, 0, none⟩)) rfl rfl rfl rfl rfl (e_move) ?_
  refine g_val (v := .pointer (some ⟨b, 0, none⟩)) rfl rfl rfl rfl rfl (e_nil (a := ⟨b, 0, none⟩) rfl) ?_
  refine g_val (v := .pointer (some ⟨b, 12, none⟩)) rfl rfl rfl rfl rfl (e_fieldPt (b := b) (o := 0) rfl tf204) ?_
  refine g_val (v := .slice none 0 0) rfl rfl rfl rfl rfl (e_load1 tf205 (v := .slice none 0 0) rfl (k_pt 0 (cs := #[.slice none 0 0, .slice p 2 lc, .slice none 0 0, .slice none 0 0, .slice none 0 0, .slice none 0 0, .slice none 0 0, .slice none 0 0, .slice none 0 0, .slice none 0 0, .slice none 0 0, .slice none 0 0, .slice none 0 0, .slice none 0 0, .slice none 0 0, .slice none 0 0, .slice none 0 0, .slice none 0 0, .slice none 0 0, .slice none 0 0]) (vs := [.slice none 0 0]) rfl rfl)) ?_
  refine g_call rfl rfl rfl rfl rfl (cl_value (fst := []) (cap := []) (vs := [.slice none 0 0]) (all := [.slice none 0 0]) tf206 rfl rfl rfl) ?_
  intro w hw
  obtain ⟨β1, sb, kn, hw1, back⟩ := St.frame_all hw
  refine (flatPairs_nil β1 w hw1).mono ?_
  rintro e w' ⟨rfl, hw'⟩
  refine ⟨_, rfl, _, back _ _ hw', ?_⟩
  clear hw hw1 hw' back kn sb
  refine l_val (v := .bool true) rfl rfl rfl (e_pick_t rfl) ?_
  refine l_val (v := .bool true) rfl rfl rfl (e_move) ?_
  refine g_val (v := .pointer (some ⟨b, 0, none⟩)) rfl rfl rfl rfl rfl (e_move) ?_
  refine g_val (v := .pointer (some ⟨b, 0, none⟩)) rfl rfl rfl rfl rfl (e_nil (a := ⟨b, 0, none⟩) rfl) ?_
  refine g_val (v := .pointer (some ⟨b, 13, none⟩)) rfl rfl rfl rfl rfl (e_fieldPt (b := b) (o := 0) rfl tf207) ?_
  refine g_val (v := .slice none 0 0) rfl rfl rfl rfl rfl (e_load1 tf208 (v := .slice none 0 0) rfl (k_pt 0 (cs := #[.slice none 0 0, .slice p 2 lc, .slice none 0 0, .slice none 0 0, .slice none 0 0, .slice none 0 0, .slice none 0 0, .slice none 0 0, .slice none 0 0, .slice none 0 0, .slice none 0 0, .slice none 0 0, .slice none 0 0, .slice none 0 0, .slice none 0 0, .slice none 0 0, .slice none 0 0, .slice none 0 0, .slice none 0 0, .slice none 0 0]) (vs := [.slice none 0 0]) rfl rfl)) ?_
  refine g_call rfl rfl rfl rfl rfl (cl_value (fst := []) (cap := []) (vs := [.slice none 0 0]) (all := [.slice none 0 0]) tf209 rfl rfl rfl) ?_
  intro w hw
  obtain ⟨β1, sb, kn, hw1, back⟩ := St.frame_all hw
  refine (flatRopes_nil β1 w hw1).mono ?_
  rintro e w' ⟨rfl, hw'⟩
  refine ⟨_, rfl, _, back _ _ hw', ?_⟩
  clear hw hw1 hw' back kn sb
  refine l_val (v := .bool true) rfl rfl rfl (e_pick_t rfl) ?_
  refine l_val (v := .bool true) rfl rfl rfl (e_move) ?_
  refine g_val (v := .pointer (some ⟨b, 0, none⟩)) rfl rfl rfl rfl rfl (e_move) ?_
  refine g_val (v := .pointer (some ⟨b, 0, none⟩)) rfl rfl rfl rfl rfl (e_nil (a := ⟨b, 0, none⟩) rfl) ?_
  refine g_val (v := .pointer (some ⟨b, 14, none⟩)) rfl rfl rfl rfl rfl (e_fieldPt (b := b) (o := 0) rfl tf210) ?_
  refine g_val (v := .slice none 0 0) rfl rfl rfl rfl rfl (e_load1 tf211 (v := .slice none 0 0) rfl (k_pt 0 (cs := #[.slice none 0 0, .slice p 2 lc, .slice none 0 0, .slice none 0 0, .slice none 0 0, .slice none 0 0, .slice none 0 0, .slice none 0 0, .slice none 0 0, .slice none 0 0, .slice none 0 0, .slice none 0 0, .slice none 0 0, .slice none 0 0, .slice none 0 0, .slice none 0 0, .slice none 0 0, .slice none 0 0, .slice none 0 0, .slice none 0 0]) (vs := [.slice none 0 0]) rfl rfl)) ?_
  refine g_call rfl rfl rfl rfl rfl (cl_value (fst := []) (cap := []) (vs := [.slice none 0 0]) (all := [.slice none 0 0]) tf212 rfl rfl rfl) ?_
  intro w hw
  obtain ⟨β1, sb, kn, hw1, back⟩ := St.frame_all hw
  refine (flatExprs_nil β1 w hw1).mono ?_
  rintro e w' ⟨rfl, hw'⟩
  refine ⟨_, rfl, _, back _ _ hw', ?_⟩
  clear hw hw1 hw' back kn sb
  refine l_val (v := .bool true) rfl rfl rfl (e_pick_t rfl) ?_
  refine l_val (v := .bool true) rfl rfl rfl (e_move) ?_
  refine g_val (v := .pointer (some ⟨b, 0, none⟩)) rfl rfl rfl rfl rfl (e_move) ?_
  refine g_val (v := .pointer (some ⟨b, 0, none⟩)) rfl rfl rfl rfl rfl (e_nil (a := ⟨b, 0, none⟩) rfl) ?_
  refine g_val (v := .pointer (some ⟨b, 15, none⟩)) rfl rfl rfl rfl rfl (e_fieldPt (b := b) (o := 0) rfl tf213) ?_
  refine g_val (v := .slice none 0 0) rfl rfl rfl rfl rfl (e_load1 tf214 (v := .slice none 0 0) rfl (k_pt 0 (cs := #[.slice none 0 0, .slice p 2 lc, .slice none 0 0, .slice none 0 0, .slice none 0 0, .slice none 0 0, .slice none 0 0, .slice none 0 0, .slice none 0 0, .slice none 0 0, .slice none 0 0, .slice none 0 0, .slice none 0 0, .slice none 0 0, .slice none 0 0, .slice none 0 0, .slice none 0 0, .slice none 0 0, .slice none 0 0, .slice none 0 0]) (vs := [.slice none 0 0]) rfl rfl)) ?_
  refine g_call rfl rfl rfl rfl rfl (cl_value (fst := []) (cap := []) (vs := [.slice none 0 0]) (all := [.slice none 0 0]) tf215 rfl rfl rfl) ?_
  intro w hw
  obtain ⟨β1, sb, kn, hw1, back⟩ := St.frame_all hw
  refine (flatStmts_nil β1 w hw1).mono ?_
  rintro e w' ⟨rfl, hw'⟩
  refine ⟨_, rfl, _, back _ _ hw', ?_⟩
  clear hw hw1 hw' back kn sb
  refine l_val (v := .bool true) rfl rfl rfl (e_pick_t rfl) ?_
  refine l_val (v := .bool true) rfl rfl rfl (e_move) ?_
  refine g_val (v := .pointer (some ⟨b, 0, none⟩)) rfl rfl rfl rfl rfl (e_move) ?_
  refine g_val (v := .pointer (some ⟨b, 0, none⟩)) rfl rfl rfl rfl rfl (e_nil (a := ⟨b, 0, none⟩) rfl) ?_
  refine g_val (v := .pointer (some ⟨b, 16, none⟩)) rfl rfl rfl rfl rfl (e_fieldPt (b := b) (o := 0) rfl tf216) ?_
  refine g_val (v := .slice none 0 0) rfl rfl rfl rfl rfl (e_load1 tf217 (v := .slice none 0 0) rfl (k_pt 0 (cs := #[.slice none 0 0, .slice p 2 lc, .slice none 0 0, .slice none 0 0, .slice none 0 0, .slice none 0 0, .slice none 0 0, .slice none 0 0, .slice none 0 0, .slice none 0 0, .slice none 0 0, .slice none 0 0, .slice none 0 0, .slice none 0 0, .slice none 0 0, .slice none 0 0, .slice none 0 0, .slice none 0 0, .slice none 0 0, .slice none 0 0]) (vs := [.slice none 0 0]) rfl rfl)) ?_
  refine g_call rfl rfl rfl rfl rfl (cl_value (fst := []) (cap := []) (vs := [.slice none 0 0]) (all := [.slice none 0 0]) tf218 rfl rfl rfl) ?_
  intro w hw
  obtain ⟨β1, sb, kn, hw1, back⟩ := St.frame_all hw
  refine (flatScenes_nil β1 w hw1).mono ?_
  rintro e w' ⟨rfl, hw'⟩
  refine ⟨_, rfl, _, back _ _ hw', ?_⟩
  clear hw hw1 hw' back kn sb
  refine l_val (v := .bool true) rfl rfl rfl (e_pick_t rfl) ?_
  refine l_val (v := .bool true) rfl rfl rfl (e_move) ?_
  refine g_val (v := .pointer (some ⟨b, 0, none⟩)) rfl rfl rfl rfl rfl (e_move) ?_
  refine g_val (v := .pointer (some ⟨b, 0, none⟩)) rfl rfl rfl rfl rfl (e_nil (a := ⟨b, 0, none⟩) rfl) ?_
  refine g_val (v := .pointer (some ⟨b, 17, none⟩)) rfl rfl rfl rfl rfl (e_fieldPt (b := b) (o := 0) rfl tf219) ?_
  refine g_val (v := .slice none 0 0) rfl rfl rfl rfl rfl (e_load1 tf220 (v := .slice none 0 0) rfl (k_pt 0 (cs := #[.slice none 0 0, .slice p 2 lc, .slice none 0 0, .slice none 0 0, .slice none 0 0, .slice none 0 0, .slice none 0 0, .slice none 0 0, .slice none 0 0, .slice none 0 0, .slice none 0 0, .slice none 0 0, .slice none 0 0, .slice none 0 0, .slice none 0 0, .slice none 0 0, .slice none 0 0, .slice none 0 0, .slice none 0 0, .slice none 0 0]) (vs := [.slice none 0 0]) rfl rfl)) ?_
  refine g_call rfl rfl rfl rfl rfl (cl_value (fst := []) (cap := []) (vs := [.slice none 0 0]) (all := [.slice none 0 0]) tf221 rfl rfl rfl) ?_
  intro w hw
  obtain ⟨β1, sb, kn, hw1, back⟩ := St.frame_all hw
  refine (flatStops_nil β1 w hw1).mono ?_
  rintro e w' ⟨rfl, hw'⟩
  refine ⟨_, rfl, _, back _ _ hw', ?_⟩
  clear hw hw1 hw' back kn sb
  refine l_val (v := .bool true) rfl rfl rfl (e_pick_t rfl) ?_
  refine l_val (v := .bool true) rfl rfl rfl (e_move) ?_
  refine g_val (v := .pointer (some ⟨b, 0, none⟩)) rfl rfl rfl rfl rfl (e_move) ?_
  refine g_val (v := .pointer (some ⟨b, 0, none⟩)) rfl rfl rfl rfl rfl (e_nil (a := ⟨b, 0, none⟩) rfl) ?_
  refine g_val (v := .pointer (some ⟨b, 18, none⟩)) rfl rfl rfl rfl rfl (e_fieldPt (b := b) (o := 0) rfl tf222) ?_
  refine g_val (v := .slice none 0 0) rfl rfl rfl rfl rfl (e_load1 tf223 (v := .slice none 0 0) rfl (k_pt 0 (cs := #[.slice none 0 0, .slice p 2 lc, .slice none 0 0, .slice none 0 0, .slice none 0 0, .slice none 0 0, .slice none 0 0, .slice none 0 0, .slice none 0 0, .slice none 0 0, .slice none 0 0, .slice none 0 0, .slice none 0 0, .slice none 0 0, .slice none 0 0, .slice none 0 0, .slice none 0 0, .slice none 0 0, .slice none 0 0, .slice none 0 0]) (vs := [.slice none 0 0]) rfl rfl)) ?_
  refine g_call rfl rfl rfl rfl rfl (cl_value (fst := []) (cap := []) (vs := [.slice none 0 0]) (all := [.slice none 0 0]) tf224 rfl rfl rfl) ?_
  intro w hw
  obtain ⟨β1, sb, kn, hw1, back⟩ := St.frame_all hw
  refine (flatPortals_nil β1 w hw1).mono ?_
  rintro e w' ⟨rfl, hw'⟩
  refine ⟨_, rfl, _, back _ _ hw', ?_⟩
  clear hw hw1 hw' back kn sb
  refine l_val (v := .bool true) rfl rfl rfl (e_pick_t rfl) ?_
  refine l_val (v := .bool true) rfl rfl rfl (e_move) ?_
  refine g_val (v := .pointer (some ⟨b, 0, none⟩)) rfl rfl rfl rfl rfl (e_move) ?_
  refine g_val (v := .pointer (some ⟨b, 0, none⟩)) rfl rfl rfl rfl rfl (e_nil (a := ⟨b, 0, none⟩) rfl) ?_
  refine g_val (v := .pointer (some ⟨b, 19, none⟩)) rfl rfl rfl rfl rfl (e_fieldPt (b := b) (o := 0) rfl tf225) ?_
  refine g_val (v := .slice none 0 0) rfl rfl rfl rfl rfl (e_load1 tf226 (v := .slice none 0 0) rfl (k_pt 0 (cs := #[.slice none 0 0, .slice p 2 lc, .slice none 0 0, .slice none 0 0, .slice none 0 0, .slice none 0 0, .slice none 0 0, .slice none 0 0, .slice none 0 0, .slice none 0 0, .slice none 0 0, .slice none 0 0, .slice none 0 0, .slice none 0 0, .slice none 0 0, .slice none 0 0, .slice none 0 0, .slice none 0 0, .slice none 0 0, .slice none 0 0]) (vs := [.slice none 0 0]) rfl rfl)) ?_
  refine g_call rfl rfl rfl rfl rfl (cl_value (fst := []) (cap := []) (vs := [.slice none 0 0]) (all := [.slice none 0 0]) tf227 rfl rfl rfl) ?_
  intro w hw
  obtain ⟨β1, sb, kn, hw1, back⟩ := St.frame_all hw
  refine (flatStores_nil β1 w hw1).mono ?_
  rintro e w' ⟨rfl, hw'⟩
  refine ⟨_, rfl, _, back _ _ hw', ?_⟩
  clear hw hw1 hw' back kn sb
  refine l_val (v := .bool true) rfl rfl rfl (e_pick_t rfl) ?_
  refine l_val (v := .bool true) rfl rfl rfl (e_assign) ?_
  refine l_nil ?_
  refine f_then ?_
  refine c_ret ?_
  refine ret1 Tryz.results25 (v := .bool true) rfl ?_
  intro w hw
  exact ⟨rfl, St.weaken ext₁ (st_mask [false] rfl hw)⟩
set_option maxRecDepth 100000 in
theorem apartInts_ok (β : Base) (w : World) (p : Option Addr) (lc : Nat) (hp : p = some (ba p)) (p0 p1 : Option Addr) (c0 c1 : Nat) (xs0 xs1 : List Int) (h0 : xs0.length ≤ 1000000) (h1 : xs1.length ≤ 1000000) (hls : Cs β.heap (ba p) [.slice p0 (xs0.length) c0, .slice p1 (xs1.length) c1]) (hw : St β [row (.slice p0 (xs0.length) c0) 3 1 (xs0.length) ((xs0.map fun z => Ix z)), row (.slice p1 (xs1.length) c1) 3 1 (xs1.length) ((xs1.map fun z => Ix z))] w) : Calls Tryz.prog 11 #[.slice p 2 lc] w fun r w' => r = .returned (.bool true) ∧ St β [] w' := by
  refine enter (n := 21) Tryz.func11 rfl Tryz.ntmps11 rfl ?_ hw
  refine c_seq ?_
  refine c_region ?_
  refine l_val (v := .bool false) rfl rfl rfl (e_assign) ?_
  refine l_nil ?_
  refine f_then ?_
  refine c_seq ?_
  refine c_region ?_
  refine l_val (v := .agg #[.slice none 0 0, .slice none 0 0, .slice none 0 0, .slice none 0 0, .slice none 0 0, .slice none 0 0, .slice none 0 0, .slice none 0 0, .slice none 0 0, .slice none 0 0, .slice none 0 0, .slice none 0 0, .slice none 0 0, .slice none 0 0, .slice none 0 0, .slice none 0 0, .slice none 0 0, .slice none 0 0, .slice none 0 0, .slice none 0 0]) rfl rfl rfl (e_build tf229 tf228 (vs := []) (cells := #[.slice none 0 0, .slice none 0 0, .slice none 0 0, .slice none 0 0, .slice none 0 0, .slice none 0 0, .slice none 0 0, .slice none 0 0, .slice none 0 0, .slice none 0 0, .slice none 0 0, .slice none 0 0, .slice none 0 0, .slice none 0 0, .slice none 0 0, .slice none 0 0, .slice none 0 0, .slice none 0 0, .slice none 0 0, .slice none 0 0]) rfl rfl) ?_
  refine l_mv rfl rfl rfl (m_box (v := .agg #[.slice none 0 0, .slice none 0 0, .slice none 0 0, .slice none 0 0, .slice none 0 0, .slice none 0 0, .slice none 0 0, .slice none 0 0, .slice none 0 0, .slice none 0 0, .slice none 0 0, .slice none 0 0, .slice none 0 0, .slice none 0 0, .slice none 0 0, .slice none 0 0, .slice none 0 0, .slice none 0 0, .slice none 0 0, .slice none 0 0]) rfl) ?_
  rintro _ _ ⟨b1, rfl, rfl⟩
  refine l_val (v := .pointer (some ⟨b1, 0, none⟩)) rfl rfl rfl (e_assign) ?_
  refine l_nil ?_
  refine f_then ?_
  refine c_seq ?_
  refine c_seq ?_
  refine c_emp (r := row (.slice none 0 0) 26 1 0 []) (row_nil _ _ _) ?_
  refine c_region ?_
  refine l_val (v := .int .i64 (0)) rfl rfl rfl (e_assign) ?_
  refine l_nil ?_
  refine f_then ?_
  refine c_block ?_
  refine c_unroll 3 ?_
  refine un_succ 2 ?_
  refine c_seq ?_
  refine c_seq ?_
  refine c_region ?_
  refine l_val (v := .int .i64 (0)) rfl rfl rfl (e_move) ?_
  refine l_val (v := .slice p 2 lc) rfl rfl rfl (e_move) ?_
  refine l_val (v := .int .i64 (2)) rfl rfl rfl (e_len (a := p) (n := 2) (c := lc) rfl tf163) ?_
  refine l_val (v := .bool true) rfl rfl rfl (e_lss (a := (0 : Int)) (b := (2 : Int)) rfl rfl) ?_
  refine l_nil ?_
  refine f_then ?_
  refine c_yes rfl ?_
  refine c_skip ?_
  refine f_then ?_
  refine c_seq ?_
  refine c_block ?_
  refine c_region ?_
  refine l_val (v := .pointer (some ⟨b1, 0, none⟩)) rfl rfl rfl (e_move) ?_
  refine l_val (v := .slice p 2 lc) rfl rfl rfl (e_move) ?_
  refine l_val (v := .int .i64 (0)) rfl rfl rfl (e_move) ?_
  refine l_val (v := .pointer (some ((ba p).add (0 * 1)))) rfl rfl rfl (e_indexAddr (k := 0) (len := 2) (cap := lc) (a := p) rfl rfl tf164 (by decide) hp) ?_
  refine l_val (v := .slice p0 (xs0.length) c0) rfl rfl rfl (e_load1 tf165 (v := .slice p0 (xs0.length) c0) rfl (Knows.of_base (Cs.mono _ _) (Cs.sub (vs := [.slice p0 (xs0.length) c0]) (0 * 1) hls rfl))) ?_
  refine l_call rfl rfl rfl (cl_value (fst := []) (cap := []) (vs := [.pointer (some ⟨b1, 0, none⟩), .slice p0 (xs0.length) c0]) (all := [.pointer (some ⟨b1, 0, none⟩), .slice p0 (xs0.length) c0]) tf230 rfl rfl rfl) ?_
  intro w hw
  replace hw := hw.perm (L' := _ :: _ :: _ :: _ :: []) (by exact ((((perm_front 3 rfl).trans (perm_front 3 rfl)).trans (perm_front 2 rfl)).trans (perm_front 3 rfl)))
  obtain ⟨β1, sb, kn, hw1, back⟩ := St.frame (L := [_, _]) (M := _ :: _ :: []) hw
  refine (putInts_ok β1 w b1 _ 0 [] (by omega) p0 xs0.length c0 rfl hw1).mono ?_
  rintro e w' ⟨p2, c3, rfl, hw'⟩
  refine ⟨_, rfl, _, back _ _ hw', ?_⟩
  clear hw hw1 hw' back kn sb
  refine l_nil ?_
  refine f_block ?_
  refine f_then ?_
  refine c_region ?_
  refine l_val (v := .int .i64 (0)) rfl rfl rfl (e_move) ?_
  refine l_val (v := .int .i64 (1)) rfl rfl rfl (e_add (a := (0 : Int)) (b := (1 : Int)) rfl rfl (by decide)) ?_
  refine l_val (v := .int .i64 (1)) rfl rfl rfl (e_assign) ?_
  refine l_nil ?_
  refine f_cut ?_
  refine un_succ 1 ?_
  refine c_seq ?_
  refine c_seq ?_
  refine c_region ?_
  refine l_val (v := .int .i64 (1)) rfl rfl rfl (e_move) ?_
  refine l_val (v := .slice p 2 lc) rfl rfl rfl (e_move) ?_
  refine l_val (v := .int .i64 (2)) rfl rfl rfl (e_len (a := p) (n := 2) (c := lc) rfl tf163) ?_
  refine l_val (v := .bool true) rfl rfl rfl (e_lss (a := (1 : Int)) (b := (2 : Int)) rfl rfl) ?_
  refine l_nil ?_
  refine f_then ?_
  refine c_yes rfl ?_
  refine c_skip ?_
  refine f_then ?_
  refine c_seq ?_
  refine c_block ?_
  refine c_region ?_
  refine l_val (v := .pointer (some ⟨b1, 0, none⟩)) rfl rfl rfl (e_move) ?_
  refine l_val (v := .slice p 2 lc) rfl rfl rfl (e_move) ?_
  refine l_val (v := .int .i64 (1)) rfl rfl rfl (e_move) ?_
  refine l_val (v := .pointer (some ((ba p).add (1 * 1)))) rfl rfl rfl (e_indexAddr (k := 1) (len := 2) (cap := lc) (a := p) rfl rfl tf164 (by decide) hp) ?_
  refine l_val (v := .slice p1 (xs1.length) c1) rfl rfl rfl (e_load1 tf165 (v := .slice p1 (xs1.length) c1) rfl (Knows.of_base (Cs.mono _ _) (Cs.sub (vs := [.slice p1 (xs1.length) c1]) (1 * 1) hls rfl))) ?_
  refine l_call rfl rfl rfl (cl_value (fst := []) (cap := []) (vs := [.pointer (some ⟨b1, 0, none⟩), .slice p1 (xs1.length) c1]) (all := [.pointer (some ⟨b1, 0, none⟩), .slice p1 (xs1.length) c1]) tf230 rfl rfl rfl) ?_
  intro w hw
  replace hw := hw.perm (L' := _ :: _ :: _ :: _ :: []) (by exact ((((perm_front 3 rfl).trans (perm_front 3 rfl)).trans (perm_front 3 rfl)).trans (perm_front 3 rfl)))
  obtain ⟨β1, sb, kn, hw1, back⟩ := St.frame (L := [_, _]) (M := _ :: _ :: []) hw
  refine (putInts_ok β1 w b1 _ (0 + 1) ([] ++ [.slice p0 (xs0.length) c0]) (by omega) p1 xs1.length c1 rfl hw1).mono ?_
  rintro e w' ⟨p4, c5, rfl, hw'⟩
  refine ⟨_, rfl, _, back _ _ hw', ?_⟩
  clear hw hw1 hw' back kn sb
  refine l_nil ?_
  refine f_block ?_
  refine f_then ?_
  refine c_region ?_
  refine l_val (v := .int .i64 (1)) rfl rfl rfl (e_move) ?_
  refine l_val (v := .int .i64 (2)) rfl rfl rfl (e_add (a := (1 : Int)) (b := (1 : Int)) rfl rfl (by decide)) ?_
  refine l_val (v := .int .i64 (2)) rfl rfl rfl (e_assign) ?_
  refine l_nil ?_
  refine f_cut ?_
  refine un_succ 0 ?_
  refine c_seq ?_
  refine c_seq ?_
  refine c_region ?_
  refine l_val (v := .int .i64 (2)) rfl rfl rfl (e_move) ?_
  refine l_val (v := .slice p 2 lc) rfl rfl rfl (e_move) ?_
  refine l_val (v := .int .i64 (2)) rfl rfl rfl (e_len (a := p) (n := 2) (c := lc) rfl tf163) ?_
  refine l_val (v := .bool false) rfl rfl rfl (e_lss (a := (2 : Int)) (b := (2 : Int)) rfl rfl) ?_
  refine l_nil ?_
  refine f_then ?_
  refine c_no rfl ?_
  refine c_exit ?_
  refine f_then_exit ?_
  refine f_then_exit ?_
  refine f_exit ?_
  refine f_then ?_
  refine c_seq ?_
  refine c_region ?_
  refine l_val (v := .pointer (some ⟨b1, 0, none⟩)) rfl rfl rfl (e_move) ?_
  refine l_call rfl rfl rfl (cl_value (fst := []) (cap := []) (vs := [.pointer (some ⟨b1, 0, none⟩)]) (all := [.pointer (some ⟨b1, 0, none⟩)]) tf231 rfl rfl rfl) ?_
  intro w hw
  replace hw := hw.perm (L' := _ :: _ :: _ :: _ :: []) (by exact ((((perm_front 3 rfl).trans (perm_front 3 rfl)).trans (perm_front 3 rfl)).trans (perm_front 3 rfl)))
  obtain ⟨β1, sb, kn, hw1, back⟩ := St.frame (L := [_, _, _, _]) (M := []) hw
  refine (apart_bag_ok β1 w b1 p4 c5 p0 p1 c0 c1 xs0 xs1 h0 h1 hw1).mono ?_
  rintro e w' ⟨rfl, hw'⟩
  refine ⟨_, rfl, _, back _ _ hw', ?_⟩
  clear hw hw1 hw' back kn sb
  refine l_val (v := .bool true) rfl rfl rfl (e_assign) ?_
  refine l_nil ?_
  refine f_then ?_
  refine c_ret ?_
  refine ret1 Tryz.results11 (v := .bool true) rfl ?_
  intro w hw
  exact ⟨rfl, st_mask [] rfl hw⟩
end Go.Proofs
