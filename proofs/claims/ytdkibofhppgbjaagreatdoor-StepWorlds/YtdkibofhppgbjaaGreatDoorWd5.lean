/-
 The bag of two worlds. Printed by a program of my own.
-/
import Derived.Test.YtdkibofhppgbjaaGreatDoorWd4
namespace Go.Stp
open Go.Sl Go.Proofs
def KHd.h3 (h : KHd) : H3 := ⟨h.p, h.n, h.c⟩
def KWd.h3 (h : KWd) : H3 := ⟨h.p, h.n, h.c⟩
theorem sat_app {α : Type} {F : Fl α} {T : Nat} {cv dv : List (HV α)} : ∀ a, Sat [Sat (cv.map (ownV F T)), Sat (dv.map (ownV F T))] a → Sat ((cv ++ dv).map (ownV F T)) a := fun a ⟨b, d, h1, h2, h3, h4, b2, _, _, h6, _, h7, _⟩ => by
 rw [List.map_append]; exact Sat.append.2 ⟨b, d, h1, h2, h3, h4, h7.mono h6⟩
theorem mem2 {α : Type} {P : α → Prop} {a b : α} (ha : P a) (hb : P b) : ∀ v ∈ [a, b], P v := fun v h => by
 rcases List.mem_cons.1 h with e | e
 ·rw [e]; exact ha
 ·rw [List.mem_singleton.1 e]; exact hb
theorem tk_map {hs : List H3} {l : List KHd} {k : Nat} {x : KHd} (hx : l[k]? = some x) : hs ++ (l.take k).map KHd.h3 ++ [(⟨x.p, x.n, x.c⟩ : H3)] = hs ++ (l.take (k + 1)).map KHd.h3 := by
 rw [List.take_add_one, hx, List.map_append, List.append_assoc]; rfl
end Go.Stp
namespace Go.Proofs
open Go Go.Sl Go.Stp
theorem tw151 : fldB Tryz.prog 149 4 4 1 false = true := by kernel_rfl
theorem tw152 : tyB Tryz.prog 133 false 1 = true := by kernel_rfl
theorem tw153 : cfB Tryz.prog 238 = true := by kernel_rfl
theorem tw154 : fldB Tryz.prog 149 5 5 1 false = true := by kernel_rfl
theorem tw155 : tyB Tryz.prog 134 false 1 = true := by kernel_rfl
theorem tw156 : cfB Tryz.prog 214 = true := by kernel_rfl
theorem tw157 : cfB Tryz.prog 181 = true := by kernel_rfl
theorem tw158 : fldB Tryz.prog 149 6 6 1 false = true := by kernel_rfl
theorem tw159 : tyB Tryz.prog 69 false 1 = true := by kernel_rfl
theorem tw160 : cfB Tryz.prog 119 = true := by kernel_rfl
theorem tw161 : fldB Tryz.prog 149 0 0 1 false = true := by kernel_rfl
theorem tw162 : tyB Tryz.prog 130 false 1 = true := by kernel_rfl
theorem tw163 : cfB Tryz.prog 120 = true := by kernel_rfl
theorem tw164 : fldB Tryz.prog 149 1 1 1 false = true := by kernel_rfl
theorem tw165 : tyB Tryz.prog 42 false 1 = true := by kernel_rfl
theorem tw166 : cfB Tryz.prog 121 = true := by kernel_rfl
theorem tw167 : fldB Tryz.prog 149 2 2 1 false = true := by kernel_rfl
theorem tw168 : tyB Tryz.prog 131 false 1 = true := by kernel_rfl
theorem tw169 : cfB Tryz.prog 122 = true := by kernel_rfl
theorem tw170 : fldB Tryz.prog 149 3 3 1 false = true := by kernel_rfl
theorem tw171 : tyB Tryz.prog 132 false 1 = true := by kernel_rfl
theorem tw172 : cfB Tryz.prog 123 = true := by kernel_rfl
theorem tw173 : cfB Tryz.prog 124 = true := by kernel_rfl
theorem tw174 : cfB Tryz.prog 125 = true := by kernel_rfl
theorem tw175 : cfB Tryz.prog 126 = true := by kernel_rfl
theorem tw176 : fldB Tryz.prog 149 7 7 1 false = true := by kernel_rfl
theorem tw177 : tyB Tryz.prog 135 false 1 = true := by kernel_rfl
theorem tw178 : cfB Tryz.prog 127 = true := by kernel_rfl
theorem tw179 : fldB Tryz.prog 149 8 8 1 false = true := by kernel_rfl
theorem tw180 : tyB Tryz.prog 136 false 1 = true := by kernel_rfl
theorem tw181 : cfB Tryz.prog 128 = true := by kernel_rfl
theorem tw182 : fldB Tryz.prog 149 9 9 1 false = true := by kernel_rfl
theorem tw183 : tyB Tryz.prog 137 false 1 = true := by kernel_rfl
theorem tw184 : cfB Tryz.prog 129 = true := by kernel_rfl
theorem tw185 : fldB Tryz.prog 149 10 10 1 false = true := by kernel_rfl
theorem tw186 : tyB Tryz.prog 138 false 1 = true := by kernel_rfl
theorem tw187 : cfB Tryz.prog 130 = true := by kernel_rfl
theorem tw188 : fldB Tryz.prog 149 11 11 1 false = true := by kernel_rfl
theorem tw189 : tyB Tryz.prog 139 false 1 = true := by kernel_rfl
theorem tw190 : cfB Tryz.prog 131 = true := by kernel_rfl
theorem tw191 : fldB Tryz.prog 149 12 12 1 false = true := by kernel_rfl
theorem tw192 : tyB Tryz.prog 140 false 1 = true := by kernel_rfl
theorem tw193 : cfB Tryz.prog 132 = true := by kernel_rfl
theorem tw194 : fldB Tryz.prog 149 13 13 1 false = true := by kernel_rfl
theorem tw195 : tyB Tryz.prog 141 false 1 = true := by kernel_rfl
theorem tw196 : cfB Tryz.prog 133 = true := by kernel_rfl
theorem tw197 : fldB Tryz.prog 149 14 14 1 false = true := by kernel_rfl
theorem tw198 : tyB Tryz.prog 142 false 1 = true := by kernel_rfl
theorem tw199 : cfB Tryz.prog 134 = true := by kernel_rfl
theorem tw200 : fldB Tryz.prog 149 15 15 1 false = true := by kernel_rfl
theorem tw201 : tyB Tryz.prog 143 false 1 = true := by kernel_rfl
theorem tw202 : cfB Tryz.prog 135 = true := by kernel_rfl
theorem tw203 : fldB Tryz.prog 149 16 16 1 false = true := by kernel_rfl
theorem tw204 : tyB Tryz.prog 144 false 1 = true := by kernel_rfl
theorem tw205 : cfB Tryz.prog 136 = true := by kernel_rfl
theorem tw206 : fldB Tryz.prog 149 17 17 1 false = true := by kernel_rfl
theorem tw207 : tyB Tryz.prog 145 false 1 = true := by kernel_rfl
theorem tw208 : cfB Tryz.prog 137 = true := by kernel_rfl
theorem tw209 : fldB Tryz.prog 149 18 18 1 false = true := by kernel_rfl
theorem tw210 : tyB Tryz.prog 146 false 1 = true := by kernel_rfl
theorem tw211 : cfB Tryz.prog 138 = true := by kernel_rfl
theorem tw212 : fldB Tryz.prog 149 19 19 1 false = true := by kernel_rfl
theorem tw213 : tyB Tryz.prog 147 false 1 = true := by kernel_rfl
theorem tw214 : cfB Tryz.prog 139 = true := by kernel_rfl
theorem tw215 : stB Tryz.prog 149 [(0, 1), (1, 1), (2, 1), (3, 1), (4, 1), (5, 1), (6, 1), (7, 1), (8, 1), (9, 1), (10, 1), (11, 1), (12, 1), (13, 1), (14, 1), (15, 1), (16, 1), (17, 1), (18, 1), (19, 1)] = true := by kernel_rfl
theorem tw216 : (Tryz.prog.info? 149).bind (·.zero) = some (.agg #[.slice none 0 0, .slice none 0 0, .slice none 0 0, .slice none 0 0, .slice none 0 0, .slice none 0 0, .slice none 0 0, .slice none 0 0, .slice none 0 0, .slice none 0 0, .slice none 0 0, .slice none 0 0, .slice none 0 0, .slice none 0 0, .slice none 0 0, .slice none 0 0, .slice none 0 0, .slice none 0 0, .slice none 0 0, .slice none 0 0]) := by kernel_rfl
theorem tw217 : cfB Tryz.prog 76 = true := by kernel_rfl
theorem tw218 : cfB Tryz.prog 77 = true := by kernel_rfl
theorem putC_ok (β : Base) (w : World) (b : Nat) (p : Option Addr) (c : Nat) (hs : List H3) (hn : hs.length ≤ 1000) (xe xw : Value) (vp : Option Addr) (vn vc : Nat) (hw : St β [pt b (.cells #[.slice none 0 0, .slice none 0 0, .slice none 0 0, .slice none 0 0, .slice p (hs.length) c, xe, xw, .slice none 0 0, .slice none 0 0, .slice none 0 0, .slice none 0 0, .slice none 0 0, .slice none 0 0, .slice none 0 0, .slice none 0 0, .slice none 0 0, .slice none 0 0, .slice none 0 0, .slice none 0 0, .slice none 0 0] 149), rowF H3F 57 p c hs] w) : Calls Tryz.prog 238 #[.pointer (some ⟨b, 0, none⟩), .slice vp vn vc] w fun r w' => ∃ p' c', r = .returned (.tuple #[]) ∧ St β [pt b (.cells #[.slice none 0 0, .slice none 0 0, .slice none 0 0, .slice none 0 0, .slice p' ((hs ++ [(⟨vp, vn, vc⟩ : H3)]).length) c', xe, xw, .slice none 0 0, .slice none 0 0, .slice none 0 0, .slice none 0 0, .slice none 0 0, .slice none 0 0, .slice none 0 0, .slice none 0 0, .slice none 0 0, .slice none 0 0, .slice none 0 0, .slice none 0 0, .slice none 0 0] 149), rowF H3F 57 p' c' (hs ++ [(⟨vp, vn, vc⟩ : H3)])] w' := by
 refine enter (n := 14) Tryz.func238 rfl Tryz.ntmps238 rfl ?_ hw
 refine c_region ?_
 refine l_val (v := .pointer (some ⟨b, 0, none⟩)) rfl rfl rfl (e_move) ?_
 refine l_val (v := .pointer (some ⟨b, 0, none⟩)) rfl rfl rfl (e_move) ?_
 refine l_val (v := .pointer (some ⟨b, 0, none⟩)) rfl rfl rfl (e_nil (a := ⟨b, 0, none⟩) rfl) ?_
 refine l_val (v := .pointer (some ⟨b, 4, none⟩)) rfl rfl rfl (e_fieldPt (b := b) (o := 0) rfl tw151) ?_
 refine l_val (v := .slice p (hs.length) c) rfl rfl rfl (e_load1 tw152 (v := .slice p (hs.length) c) rfl (k_pt 0 (cs := #[.slice none 0 0, .slice none 0 0, .slice none 0 0, .slice none 0 0, .slice p (hs.length) c, xe, xw, .slice none 0 0, .slice none 0 0, .slice none 0 0, .slice none 0 0, .slice none 0 0, .slice none 0 0, .slice none 0 0, .slice none 0 0, .slice none 0 0, .slice none 0 0, .slice none 0 0, .slice none 0 0, .slice none 0 0]) (vs := [.slice p (hs.length) c]) rfl rfl)) ?_
 refine l_val (v := .slice vp (vn) vc) rfl rfl rfl (e_move) ?_
 refine l_mv rfl rfl rfl (m_slices tw79 tw81 (vs := [(0, .slice vp (vn) vc)]) (cells := #[.slice vp (vn) vc]) rfl rfl rfl rfl) ?_
 rintro _ _ ⟨b1, rfl, rfl⟩
 refine l_mv rfl rfl rfl (m_appendFlN (F := H3F) 2 tw79 tw80 (p := p) (m := hs.length) (xs := hs) (ys := [(⟨vp, vn, vc⟩ : H3)]) (ao := (some ⟨b1, 0, none⟩)) (k := 1) (c := 1) rfl rfl rfl rfl rfl (k_ptFl (z := (⟨vp, vn, vc⟩ : H3)) 0 rfl rfl) (by first | omega | simp only [List.length_nil, List.length_cons, List.length_append, List.length_set]; omega) (by first | omega | simp only [List.length_nil, List.length_cons, List.length_append, List.length_set]; omega)) ?_
 rintro _ _ ⟨rp2, rc3, rfl, rfl⟩
 refine l_val (v := .pointer (some ⟨b, 0, none⟩)) rfl rfl rfl (e_nil (a := ⟨b, 0, none⟩) rfl) ?_
 refine l_val (v := .pointer (some ⟨b, 4, none⟩)) rfl rfl rfl (e_fieldPt (b := b) (o := 0) rfl tw151) ?_
 refine l_mu rfl rfl (m_store 1 tw152 (b := b) (o := 4) (T := 149) (cs := #[.slice none 0 0, .slice none 0 0, .slice none 0 0, .slice none 0 0, .slice p (hs.length) c, xe, xw, .slice none 0 0, .slice none 0 0, .slice none 0 0, .slice none 0 0, .slice none 0 0, .slice none 0 0, .slice none 0 0, .slice none 0 0, .slice none 0 0, .slice none 0 0, .slice none 0 0, .slice none 0 0, .slice none 0 0]) (cs' := #[.slice none 0 0, .slice none 0 0, .slice none 0 0, .slice none 0 0, .slice rp2 ((hs ++ [(⟨vp, vn, vc⟩ : H3)]).length) rc3, xe, xw, .slice none 0 0, .slice none 0 0, .slice none 0 0, .slice none 0 0, .slice none 0 0, .slice none 0 0, .slice none 0 0, .slice none 0 0, .slice none 0 0, .slice none 0 0, .slice none 0 0, .slice none 0 0, .slice none 0 0]) (v := .slice rp2 ((hs ++ [(⟨vp, vn, vc⟩ : H3)]).length) rc3) rfl rfl rfl rfl rfl rfl rfl) ?_
 refine l_nil ?_
 refine end0 Tryz.results238 ?_
 intro w hw
 replace hw := hw.perm (L' := [pt b (.cells #[.slice none 0 0, .slice none 0 0, .slice none 0 0, .slice none 0 0, .slice rp2 ((hs ++ [(⟨vp, vn, vc⟩ : H3)]).length) rc3, xe, xw, .slice none 0 0, .slice none 0 0, .slice none 0 0, .slice none 0 0, .slice none 0 0, .slice none 0 0, .slice none 0 0, .slice none 0 0, .slice none 0 0, .slice none 0 0, .slice none 0 0, .slice none 0 0, .slice none 0 0] 149), rowF H3F 57 rp2 rc3 (hs ++ [(⟨vp, vn, vc⟩ : H3)]), pt b1 (.cells #[.slice vp (vn) vc] 57)]) (by exact (perm_ix [1, 2, 0] 3 rfl (by kernel_rfl) (by kernel_rfl)))
 exact ⟨rp2, rc3, rfl, st_mask [true, true, false] rfl hw⟩
theorem oneE_ok (β : Base) (w : World) (b : Nat) (p : Option Addr) (c : Nat) (hs : List H3) (hn : hs.length ≤ 1000) (xe xw : Value) (id : Int) (vp : Option Addr) (vn vc : Nat) (hw : St β [pt b (.cells #[.slice none 0 0, .slice none 0 0, .slice none 0 0, .slice none 0 0, .slice p (hs.length) c, xe, xw, .slice none 0 0, .slice none 0 0, .slice none 0 0, .slice none 0 0, .slice none 0 0, .slice none 0 0, .slice none 0 0, .slice none 0 0, .slice none 0 0, .slice none 0 0, .slice none 0 0, .slice none 0 0, .slice none 0 0] 149), rowF H3F 57 p c hs] w) : Calls Tryz.prog 214 #[.pointer (some ⟨b, 0, none⟩), .agg #[Ix id, .slice vp vn vc]] w fun r w' => ∃ p' c', r = .returned (.tuple #[]) ∧ St β [pt b (.cells #[.slice none 0 0, .slice none 0 0, .slice none 0 0, .slice none 0 0, .slice p' ((hs ++ [(⟨vp, vn, vc⟩ : H3)]).length) c', xe, xw, .slice none 0 0, .slice none 0 0, .slice none 0 0, .slice none 0 0, .slice none 0 0, .slice none 0 0, .slice none 0 0, .slice none 0 0, .slice none 0 0, .slice none 0 0, .slice none 0 0, .slice none 0 0, .slice none 0 0] 149), rowF H3F 57 p' c' (hs ++ [(⟨vp, vn, vc⟩ : H3)])] w' := by
 refine enter (n := 8) Tryz.func214 rfl Tryz.ntmps214 rfl ?_ hw
 refine c_seq ?_
 refine c_region ?_
 refine l_mv rfl rfl rfl (m_box (v := .agg #[Ix (id), .slice vp (vn) vc]) rfl) ?_
 rintro _ _ ⟨b1, rfl, rfl⟩
 refine l_nil ?_
 refine f_then ?_
 refine c_region ?_
 refine l_val (v := .pointer (some ⟨b, 0, none⟩)) rfl rfl rfl (e_move) ?_
 refine l_val (v := .pointer (some ⟨b1, 1, none⟩)) rfl rfl rfl (e_fieldPt (b := b1) (o := 0) rfl tw0) ?_
 refine l_val (v := .slice vp (vn) vc) rfl rfl rfl (e_load1 tw1 (v := .slice vp (vn) vc) rfl (k_pt 0 (cs := #[Ix (id), .slice vp (vn) vc]) (vs := [.slice vp (vn) vc]) rfl rfl)) ?_
 refine l_call rfl rfl rfl (cl_value (fst := []) (cap := []) (vs := [.pointer (some ⟨b, 0, none⟩), .slice vp (vn) vc]) (all := [.pointer (some ⟨b, 0, none⟩), .slice vp (vn) vc]) tw153 rfl rfl rfl) ?_
 intro w hw
 replace hw := hw.perm (L' := _ :: _ :: _ :: []) (by exact (((perm_front 0 rfl).trans (perm_front 2 rfl)).trans (perm_front 2 rfl)))
 obtain ⟨β1, sb, kn, hw1, back⟩ := St.frame (L := [_, _]) (M := _ :: []) hw
 refine (putC_ok β1 w b p c hs (by omega) _ _ vp vn vc hw1).mono ?_
 rintro e w' ⟨p2, c3, rfl, hw'⟩
 refine ⟨_, rfl, _, back _ _ hw', ?_⟩
 clear hw hw1 hw' back kn sb
 refine l_nil ?_
 refine end0 Tryz.results214 ?_
 intro w hw
 exact ⟨p2, c3, rfl, st_mask [true, true, false] rfl hw⟩
set_option maxHeartbeats 4000000 in
theorem putE_ok (β : Base) (w : World) (b : Nat) (p : Option Addr) (c : Nat) (hs : List H3) (q : Option Addr) (d : Nat) (gs : List H3) (hn : hs.length ≤ 500) (hn2 : gs.length ≤ 500) (xw : Value) (va : Option Addr) (vc : Nat) (es : List KHd) (hes : Sl HdF.R β.heap (.slice va es.length vc) es) (hen : es.length ≤ 500) (hw : St β [pt b (.cells #[.slice none 0 0, .slice none 0 0, .slice none 0 0, .slice none 0 0, .slice p (hs.length) c, .slice q (gs.length) d, xw, .slice none 0 0, .slice none 0 0, .slice none 0 0, .slice none 0 0, .slice none 0 0, .slice none 0 0, .slice none 0 0, .slice none 0 0, .slice none 0 0, .slice none 0 0, .slice none 0 0, .slice none 0 0, .slice none 0 0] 149), rowF H3F 57 p c hs, rowF H3F 22 q d gs] w) : Calls Tryz.prog 181 #[.pointer (some ⟨b, 0, none⟩), .slice va es.length vc] w fun r w' => ∃ p' c' q' d', r = .returned (.tuple #[]) ∧ St β [pt b (.cells #[.slice none 0 0, .slice none 0 0, .slice none 0 0, .slice none 0 0, .slice p' ((hs ++ es.map KHd.h3).length) c', .slice q' ((gs ++ [(⟨va, es.length, vc⟩ : H3)]).length) d', xw, .slice none 0 0, .slice none 0 0, .slice none 0 0, .slice none 0 0, .slice none 0 0, .slice none 0 0, .slice none 0 0, .slice none 0 0, .slice none 0 0, .slice none 0 0, .slice none 0 0, .slice none 0 0, .slice none 0 0] 149), rowF H3F 57 p' c' (hs ++ es.map KHd.h3), rowF H3F 22 q' d' (gs ++ [(⟨va, es.length, vc⟩ : H3)])] w' := by
 obtain ⟨-, vl, vm, ve⟩ := Sl.parts hes
 refine enter (n := 27) Tryz.func181 rfl Tryz.ntmps181 rfl ?_ hw
 refine c_seq ?_
 refine c_region ?_
 refine l_val (v := .pointer (some ⟨b, 0, none⟩)) rfl rfl rfl (e_move) ?_
 refine l_val (v := .pointer (some ⟨b, 0, none⟩)) rfl rfl rfl (e_move) ?_
 refine l_val (v := .pointer (some ⟨b, 0, none⟩)) rfl rfl rfl (e_nil (a := ⟨b, 0, none⟩) rfl) ?_
 refine l_val (v := .pointer (some ⟨b, 5, none⟩)) rfl rfl rfl (e_fieldPt (b := b) (o := 0) rfl tw154) ?_
 refine l_val (v := .slice q (gs.length) d) rfl rfl rfl (e_load1 tw155 (v := .slice q (gs.length) d) rfl (k_pt 0 (cs := #[.slice none 0 0, .slice none 0 0, .slice none 0 0, .slice none 0 0, .slice p (hs.length) c, .slice q (gs.length) d, xw, .slice none 0 0, .slice none 0 0, .slice none 0 0, .slice none 0 0, .slice none 0 0, .slice none 0 0, .slice none 0 0, .slice none 0 0, .slice none 0 0, .slice none 0 0, .slice none 0 0, .slice none 0 0, .slice none 0 0]) (vs := [.slice q (gs.length) d]) rfl rfl)) ?_
 refine l_val (v := .slice va (es.length) (vc)) rfl rfl rfl (e_move) ?_
 refine l_mv rfl rfl rfl (m_slices tw86 tw88 (vs := [(0, .slice va (es.length) (vc))]) (cells := #[.slice va (es.length) (vc)]) rfl rfl rfl rfl) ?_
 rintro _ _ ⟨b1, rfl, rfl⟩
 refine l_mv rfl rfl rfl (m_appendFlN (F := H3F) 3 tw86 tw87 (p := q) (m := gs.length) (xs := gs) (ys := [(⟨va, es.length, vc⟩ : H3)]) (ao := (some ⟨b1, 0, none⟩)) (k := 1) (c := 1) rfl rfl rfl rfl rfl (k_ptFl (z := (⟨va, es.length, vc⟩ : H3)) 0 rfl rfl) (by first | omega | simp only [List.length_nil, List.length_cons, List.length_append, List.length_set]; omega) (by first | omega | simp only [List.length_nil, List.length_cons, List.length_append, List.length_set]; omega)) ?_
 rintro _ _ ⟨rp2, rc3, rfl, rfl⟩
 refine l_val (v := .pointer (some ⟨b, 0, none⟩)) rfl rfl rfl (e_nil (a := ⟨b, 0, none⟩) rfl) ?_
 refine l_val (v := .pointer (some ⟨b, 5, none⟩)) rfl rfl rfl (e_fieldPt (b := b) (o := 0) rfl tw154) ?_
 refine l_mu rfl rfl (m_store 1 tw155 (b := b) (o := 5) (T := 149) (cs := #[.slice none 0 0, .slice none 0 0, .slice none 0 0, .slice none 0 0, .slice p (hs.length) c, .slice q (gs.length) d, xw, .slice none 0 0, .slice none 0 0, .slice none 0 0, .slice none 0 0, .slice none 0 0, .slice none 0 0, .slice none 0 0, .slice none 0 0, .slice none 0 0, .slice none 0 0, .slice none 0 0, .slice none 0 0, .slice none 0 0]) (cs' := #[.slice none 0 0, .slice none 0 0, .slice none 0 0, .slice none 0 0, .slice p (hs.length) c, .slice rp2 ((gs ++ [(⟨va, es.length, vc⟩ : H3)]).length) rc3, xw, .slice none 0 0, .slice none 0 0, .slice none 0 0, .slice none 0 0, .slice none 0 0, .slice none 0 0, .slice none 0 0, .slice none 0 0, .slice none 0 0, .slice none 0 0, .slice none 0 0, .slice none 0 0, .slice none 0 0]) (v := .slice rp2 ((gs ++ [(⟨va, es.length, vc⟩ : H3)]).length) rc3) rfl rfl rfl rfl rfl rfl rfl) ?_
 refine l_nil ?_
 refine f_then ?_
 refine c_seq ?_
 refine c_region ?_
 refine l_val (v := .int .i64 (0)) rfl rfl rfl (e_assign) ?_
 refine l_nil ?_
 refine f_then ?_
 refine c_block ?_
 refine c_loop (fun (x_ : Nat × Option Addr × Nat) (f : Fm) (L : List Res) => match x_ with | (k, p, c) => (f 0 = .pointer (some ⟨b, 0, none⟩) ∧ f 1 = .slice va (es.length) (vc) ∧ f 4 = Nx (k)) ∧ L = [pt b1 (.cells #[.slice va (es.length) (vc)] 22), pt b (.cells #[.slice none 0 0, .slice none 0 0, .slice none 0 0, .slice none 0 0, .slice p ((hs ++ (es.take k).map KHd.h3).length) c, .slice rp2 ((gs ++ [(⟨va, es.length, vc⟩ : H3)]).length) rc3, xw, .slice none 0 0, .slice none 0 0, .slice none 0 0, .slice none 0 0, .slice none 0 0, .slice none 0 0, .slice none 0 0, .slice none 0 0, .slice none 0 0, .slice none 0 0, .slice none 0 0, .slice none 0 0, .slice none 0 0] 149), rowF H3F 57 p c (hs ++ (es.take k).map KHd.h3), rowF H3F 22 rp2 rc3 (gs ++ [(⟨va, es.length, vc⟩ : H3)])] ∧ (k ≤ es.length)) (fun (x_ : Nat × Option Addr × Nat) => match x_ with | (k, p, c) => es.length - k) (0, p, c) ?_ ?_
 ·exact ⟨⟨rfl, rfl, rfl⟩, by simp only [List.take_zero, List.map_nil, List.append_nil] <;> rfl, by omega⟩
 rintro ⟨k, p, c⟩ f0 L0 ⟨⟨hs0, hs1, hs4⟩, hL, hk⟩
 subst L0
 refine rebase (d := 0) hs0 ?_
 refine rebase (d := 1) hs1 ?_
 refine rebase (d := 4) hs4 ?_
 clear hs0 hs1 hs4
 have htl : (hs ++ (es.take k).map KHd.h3).length ≤ 1000 := by rw [List.length_append, List.length_map, List.length_take]; omega
 refine c_seq ?_
 refine c_seq ?_
 refine c_region ?_
 refine l_val (v := Nx (k)) rfl rfl rfl (e_move) ?_
 refine l_val (v := .slice va (es.length) (vc)) rfl rfl rfl (e_move) ?_
 refine l_val (v := Nx (es.length)) rfl rfl rfl (e_len (a := va) (n := es.length) (c := vc) rfl tw28) ?_
 refine l_val (v := .bool (decide (((k : Nat) : Int) < ((es.length : Nat) : Int)))) rfl rfl rfl (e_lss (a := ((k : Nat) : Int)) (b := ((es.length : Nat) : Int)) rfl rfl) ?_
 refine l_nil ?_
 refine f_then ?_
 refine c_if (((k : Nat) : Int) < ((es.length : Nat) : Int)) rfl (fun hc4 => ?_) (fun hc4 => ?_)
 ·
  refine c_skip ?_
  refine f_then ?_
  refine c_seq ?_
  refine c_block ?_
  refine c_region ?_
  refine l_val (v := .pointer (some ⟨b, 0, none⟩)) rfl rfl rfl (e_move) ?_
  refine l_val (v := .slice va (es.length) (vc)) rfl rfl rfl (e_move) ?_
  refine l_val (v := Nx (k)) rfl rfl rfl (e_move) ?_
  obtain ⟨x5, hx6⟩ : ∃ x_, (es)[k]? = some x_ := ⟨_, List.getElem?_eq_getElem (by omega)⟩
  obtain ⟨ha7, cs8, hc9, rfl⟩ := ve _ _ hx6
  refine l_val (v := .pointer (some ((ba va).add (k * 2)))) rfl rfl rfl (e_indexAddr (k := k) (len := es.length) (cap := vc) (a := va) rfl rfl tw29 (by omega) ha7) ?_
  refine l_val (v := .agg #[Ix (x5.id), .slice x5.p (x5.n) x5.c]) rfl rfl rfl (e_load tw7 (cs := [Ix (x5.id), .slice x5.p (x5.n) x5.c]) rfl (Knows.of_base (Cs.mono _ _) hc9) rfl) ?_
  refine l_call rfl rfl rfl (cl_value (fst := []) (cap := []) (vs := [.pointer (some ⟨b, 0, none⟩), .agg #[Ix (x5.id), .slice x5.p (x5.n) x5.c]]) (all := [.pointer (some ⟨b, 0, none⟩), .agg #[Ix (x5.id), .slice x5.p (x5.n) x5.c]]) tw156 rfl rfl rfl) ?_
  intro w hw
  replace hw := hw.perm (L' := _ :: _ :: _ :: _ :: []) (by exact ((((perm_front 3 rfl).trans (perm_front 1 rfl)).trans (perm_front 3 rfl)).trans (perm_front 3 rfl)))
  obtain ⟨β1, sb, kn, hw1, back⟩ := St.frame (L := [_, _]) (M := _ :: _ :: []) hw
  refine (oneE_ok β1 w b p c (hs ++ (es.take k).map KHd.h3) (by omega) _ _ (x5.id) x5.p x5.n x5.c hw1).mono ?_
  rintro e w' ⟨p11, c12, rfl, hw'⟩
  refine ⟨_, rfl, _, back _ _ hw', ?_⟩
  clear hw hw1 hw' back kn sb
  refine l_nil ?_
  refine f_block ?_
  refine f_then ?_
  refine c_region ?_
  refine l_val (v := Nx (k)) rfl rfl rfl (e_move) ?_
  refine l_val (v := Nx (k + 1)) rfl rfl rfl (e_add (a := ((k : Nat) : Int)) (b := (1 : Int)) rfl rfl (i64n (by omega) (by omega))) ?_
  refine l_val (v := Nx (k + 1)) rfl rfl rfl (e_assign) ?_
  refine l_nil ?_
  refine f_perm (L' := [pt b1 (.cells #[.slice va (es.length) (vc)] 22), pt b (.cells #[.slice none 0 0, .slice none 0 0, .slice none 0 0, .slice none 0 0, .slice p11 (((hs ++ (es.take k).map KHd.h3) ++ [(⟨x5.p, x5.n, x5.c⟩ : H3)]).length) c12, .slice rp2 ((gs ++ [(⟨va, es.length, vc⟩ : H3)]).length) rc3, xw, .slice none 0 0, .slice none 0 0, .slice none 0 0, .slice none 0 0, .slice none 0 0, .slice none 0 0, .slice none 0 0, .slice none 0 0, .slice none 0 0, .slice none 0 0, .slice none 0 0, .slice none 0 0, .slice none 0 0] 149), rowF H3F 57 p11 c12 ((hs ++ (es.take k).map KHd.h3) ++ [(⟨x5.p, x5.n, x5.c⟩ : H3)]), rowF H3F 22 rp2 rc3 (gs ++ [(⟨va, es.length, vc⟩ : H3)])]) (perm_ix [2, 0, 1, 3] 4 rfl (by kernel_rfl) (by kernel_rfl)) ?_
  exact f_cut ⟨(k + 1, p11, c12), ⟨⟨rfl, rfl, rfl⟩, by rw [tk_map hx6], by omega⟩, (show es.length - (k + 1) < es.length - k from by omega)⟩
 ·
  refine c_exit ?_
  refine f_then_exit ?_
  refine f_then_exit ?_
  refine f_exit ?_
  refine end0 Tryz.results181 ?_
  intro w hw
  have htk : es.take k = es := List.take_of_length_le (by omega)
  rw [htk] at hw
  replace hw := hw.perm (L' := [pt b (.cells #[.slice none 0 0, .slice none 0 0, .slice none 0 0, .slice none 0 0, .slice p ((hs ++ es.map KHd.h3).length) c, .slice rp2 ((gs ++ [(⟨va, es.length, vc⟩ : H3)]).length) rc3, xw, .slice none 0 0, .slice none 0 0, .slice none 0 0, .slice none 0 0, .slice none 0 0, .slice none 0 0, .slice none 0 0, .slice none 0 0, .slice none 0 0, .slice none 0 0, .slice none 0 0, .slice none 0 0, .slice none 0 0] 149), rowF H3F 57 p c (hs ++ es.map KHd.h3), rowF H3F 22 rp2 rc3 (gs ++ [(⟨va, es.length, vc⟩ : H3)]), pt b1 (.cells #[.slice va (es.length) (vc)] 22)]) (by exact (perm_ix [1, 2, 3, 0] 4 rfl (by kernel_rfl) (by kernel_rfl)))
  exact ⟨p, c, rp2, rc3, rfl, st_mask [true, true, true, false] rfl hw⟩
theorem oneW_ok (β : Base) (w : World) (b : Nat) (p : Option Addr) (c : Nat) (hs : List H3) (q : Option Addr) (d : Nat) (gs : List H3) (hn : hs.length ≤ 500) (hn2 : gs.length ≤ 500) (xw : Value) (tk : Int) (va : Option Addr) (vc : Nat) (es : List KHd) (hes : Sl HdF.R β.heap (.slice va es.length vc) es) (hen : es.length ≤ 500) (hw : St β [pt b (.cells #[.slice none 0 0, .slice none 0 0, .slice none 0 0, .slice none 0 0, .slice p (hs.length) c, .slice q (gs.length) d, xw, .slice none 0 0, .slice none 0 0, .slice none 0 0, .slice none 0 0, .slice none 0 0, .slice none 0 0, .slice none 0 0, .slice none 0 0, .slice none 0 0, .slice none 0 0, .slice none 0 0, .slice none 0 0, .slice none 0 0] 149), rowF H3F 57 p c hs, rowF H3F 22 q d gs] w) : Calls Tryz.prog 119 #[.pointer (some ⟨b, 0, none⟩), .agg #[Ix tk, .slice va es.length vc]] w fun r w' => ∃ p' c' q' d', r = .returned (.tuple #[]) ∧ St β [pt b (.cells #[.slice none 0 0, .slice none 0 0, .slice none 0 0, .slice none 0 0, .slice p' ((hs ++ es.map KHd.h3).length) c', .slice q' ((gs ++ [(⟨va, es.length, vc⟩ : H3)]).length) d', xw, .slice none 0 0, .slice none 0 0, .slice none 0 0, .slice none 0 0, .slice none 0 0, .slice none 0 0, .slice none 0 0, .slice none 0 0, .slice none 0 0, .slice none 0 0, .slice none 0 0, .slice none 0 0, .slice none 0 0] 149), rowF H3F 57 p' c' (hs ++ es.map KHd.h3), rowF H3F 22 q' d' (gs ++ [(⟨va, es.length, vc⟩ : H3)])] w' := by
 obtain ⟨-, vl, vm, ve⟩ := Sl.parts hes
 refine enter (n := 8) Tryz.func119 rfl Tryz.ntmps119 rfl ?_ hw
 refine c_seq ?_
 refine c_region ?_
 refine l_mv rfl rfl rfl (m_box (v := .agg #[Ix (tk), .slice va (es.length) (vc)]) rfl) ?_
 rintro _ _ ⟨b1, rfl, rfl⟩
 refine l_nil ?_
 refine f_then ?_
 refine c_region ?_
 refine l_val (v := .pointer (some ⟨b, 0, none⟩)) rfl rfl rfl (e_move) ?_
 refine l_val (v := .pointer (some ⟨b1, 1, none⟩)) rfl rfl rfl (e_fieldPt (b := b1) (o := 0) rfl tw26) ?_
 refine l_val (v := .slice va (es.length) (vc)) rfl rfl rfl (e_load1 tw27 (v := .slice va (es.length) (vc)) rfl (k_pt 0 (cs := #[Ix (tk), .slice va (es.length) (vc)]) (vs := [.slice va (es.length) (vc)]) rfl rfl)) ?_
 refine l_call rfl rfl rfl (cl_value (fst := []) (cap := []) (vs := [.pointer (some ⟨b, 0, none⟩), .slice va (es.length) (vc)]) (all := [.pointer (some ⟨b, 0, none⟩), .slice va (es.length) (vc)]) tw157 rfl rfl rfl) ?_
 intro w hw
 replace hw := hw.perm (L' := _ :: _ :: _ :: _ :: []) (by exact ((((perm_front 0 rfl).trans (perm_front 3 rfl)).trans (perm_front 3 rfl)).trans (perm_front 3 rfl)))
 obtain ⟨β1, sb, kn, hw1, back⟩ := St.frame (L := [_, _, _]) (M := _ :: []) hw
 refine (putE_ok β1 w b p c hs q d gs (by first | omega | (simp only [List.length_append, List.length_map, List.length_nil]; omega)) (by first | omega | (simp only [List.length_append, List.length_cons, List.length_nil]; omega)) _ va vc es (Sl.mono _ _ _ _ _ sb hes) (by omega) hw1).mono ?_
 rintro e w' ⟨p2, c3, q4, d5, rfl, hw'⟩
 refine ⟨_, rfl, _, back _ _ hw', ?_⟩
 clear hw hw1 hw' back kn sb
 refine l_nil ?_
 refine end0 Tryz.results119 ?_
 intro w hw
 exact ⟨p2, c3, q4, d5, rfl, st_mask [true, true, true, false] rfl hw⟩
set_option maxHeartbeats 4000000 in
theorem putW_ok (β : Base) (w : World) (b : Nat) (p : Option Addr) (c : Nat) (hs : List H3) (q : Option Addr) (d : Nat) (gs : List H3) (hn : hs.length ≤ 500) (hn2 : gs.length ≤ 500) (s : Option Addr) (t : Nat) (us : List H3) (hn3 : us.length ≤ 500) (tk : Int) (wa : Option Addr) (wc : Nat) (va : Option Addr) (vc : Nat) (es : List KHd) (hes : Sl HdF.R β.heap (.slice va es.length vc) es) (hen : es.length ≤ 500) (hws : Sl WdF.R β.heap (.slice wa 1 wc) [(⟨tk, va, es.length, vc⟩ : KWd)]) (hw : St β [pt b (.cells #[.slice none 0 0, .slice none 0 0, .slice none 0 0, .slice none 0 0, .slice p (hs.length) c, .slice q (gs.length) d, .slice s (us.length) t, .slice none 0 0, .slice none 0 0, .slice none 0 0, .slice none 0 0, .slice none 0 0, .slice none 0 0, .slice none 0 0, .slice none 0 0, .slice none 0 0, .slice none 0 0, .slice none 0 0, .slice none 0 0, .slice none 0 0] 149), rowF H3F 57 p c hs, rowF H3F 22 q d gs, rowF H3F 68 s t us] w) : Calls Tryz.prog 76 #[.pointer (some ⟨b, 0, none⟩), .slice wa 1 wc] w fun r w' => ∃ p' c' q' d' s' t', r = .returned (.tuple #[]) ∧ St β [pt b (.cells #[.slice none 0 0, .slice none 0 0, .slice none 0 0, .slice none 0 0, .slice p' ((hs ++ es.map KHd.h3).length) c', .slice q' ((gs ++ [(⟨va, es.length, vc⟩ : H3)]).length) d', .slice s' ((us ++ [(⟨wa, 1, wc⟩ : H3)]).length) t', .slice none 0 0, .slice none 0 0, .slice none 0 0, .slice none 0 0, .slice none 0 0, .slice none 0 0, .slice none 0 0, .slice none 0 0, .slice none 0 0, .slice none 0 0, .slice none 0 0, .slice none 0 0, .slice none 0 0] 149), rowF H3F 57 p' c' (hs ++ es.map KHd.h3), rowF H3F 22 q' d' (gs ++ [(⟨va, es.length, vc⟩ : H3)]), rowF H3F 68 s' t' (us ++ [(⟨wa, 1, wc⟩ : H3)])] w' := by
 obtain ⟨-, vl, vm, ve⟩ := Sl.parts hes
 obtain ⟨-, wl, wm, we⟩ := Sl.parts hws
 obtain ⟨hwa, cs_, hwc, rfl⟩ := we 0 (⟨tk, va, es.length, vc⟩ : KWd) rfl
 refine enter (n := 27) Tryz.func76 rfl Tryz.ntmps76 rfl ?_ hw
 refine c_seq ?_
 refine c_region ?_
 refine l_val (v := .pointer (some ⟨b, 0, none⟩)) rfl rfl rfl (e_move) ?_
 refine l_val (v := .pointer (some ⟨b, 0, none⟩)) rfl rfl rfl (e_move) ?_
 refine l_val (v := .pointer (some ⟨b, 0, none⟩)) rfl rfl rfl (e_nil (a := ⟨b, 0, none⟩) rfl) ?_
 refine l_val (v := .pointer (some ⟨b, 6, none⟩)) rfl rfl rfl (e_fieldPt (b := b) (o := 0) rfl tw158) ?_
 refine l_val (v := .slice s (us.length) t) rfl rfl rfl (e_load1 tw159 (v := .slice s (us.length) t) rfl (k_pt 0 (cs := #[.slice none 0 0, .slice none 0 0, .slice none 0 0, .slice none 0 0, .slice p (hs.length) c, .slice q (gs.length) d, .slice s (us.length) t, .slice none 0 0, .slice none 0 0, .slice none 0 0, .slice none 0 0, .slice none 0 0, .slice none 0 0, .slice none 0 0, .slice none 0 0, .slice none 0 0, .slice none 0 0, .slice none 0 0, .slice none 0 0, .slice none 0 0]) (vs := [.slice s (us.length) t]) rfl rfl)) ?_
 refine l_val (v := .slice wa (1) (wc)) rfl rfl rfl (e_move) ?_
 refine l_mv rfl rfl rfl (m_slices tw91 tw97 (vs := [(0, .slice wa (1) (wc))]) (cells := #[.slice wa (1) (wc)]) rfl rfl rfl rfl) ?_
 rintro _ _ ⟨b1, rfl, rfl⟩
 refine l_mv rfl rfl rfl (m_appendFlN (F := H3F) 4 tw91 tw96 (p := s) (m := us.length) (xs := us) (ys := [(⟨wa, 1, wc⟩ : H3)]) (ao := (some ⟨b1, 0, none⟩)) (k := 1) (c := 1) rfl rfl rfl rfl rfl (k_ptFl (z := (⟨wa, 1, wc⟩ : H3)) 0 rfl rfl) (by first | omega | simp only [List.length_nil, List.length_cons, List.length_append, List.length_set]; omega) (by first | omega | simp only [List.length_nil, List.length_cons, List.length_append, List.length_set]; omega)) ?_
 rintro _ _ ⟨rp2, rc3, rfl, rfl⟩
 refine l_val (v := .pointer (some ⟨b, 0, none⟩)) rfl rfl rfl (e_nil (a := ⟨b, 0, none⟩) rfl) ?_
 refine l_val (v := .pointer (some ⟨b, 6, none⟩)) rfl rfl rfl (e_fieldPt (b := b) (o := 0) rfl tw158) ?_
 refine l_mu rfl rfl (m_store 1 tw159 (b := b) (o := 6) (T := 149) (cs := #[.slice none 0 0, .slice none 0 0, .slice none 0 0, .slice none 0 0, .slice p (hs.length) c, .slice q (gs.length) d, .slice s (us.length) t, .slice none 0 0, .slice none 0 0, .slice none 0 0, .slice none 0 0, .slice none 0 0, .slice none 0 0, .slice none 0 0, .slice none 0 0, .slice none 0 0, .slice none 0 0, .slice none 0 0, .slice none 0 0, .slice none 0 0]) (cs' := #[.slice none 0 0, .slice none 0 0, .slice none 0 0, .slice none 0 0, .slice p (hs.length) c, .slice q (gs.length) d, .slice rp2 ((us ++ [(⟨wa, 1, wc⟩ : H3)]).length) rc3, .slice none 0 0, .slice none 0 0, .slice none 0 0, .slice none 0 0, .slice none 0 0, .slice none 0 0, .slice none 0 0, .slice none 0 0, .slice none 0 0, .slice none 0 0, .slice none 0 0, .slice none 0 0, .slice none 0 0]) (v := .slice rp2 ((us ++ [(⟨wa, 1, wc⟩ : H3)]).length) rc3) rfl rfl rfl rfl rfl rfl rfl) ?_
 refine l_nil ?_
 refine f_then ?_
 refine c_seq ?_
 refine c_region ?_
 refine l_val (v := .int .i64 (0)) rfl rfl rfl (e_assign) ?_
 refine l_nil ?_
 refine f_then ?_
 refine c_block ?_
 refine c_unroll 2 ?_
 refine un_succ 1 ?_
 refine c_seq ?_
 refine c_seq ?_
 refine c_region ?_
 refine l_val (v := .int .i64 (0)) rfl rfl rfl (e_move) ?_
 refine l_val (v := .slice wa (1) (wc)) rfl rfl rfl (e_move) ?_
 refine l_val (v := Nx (1)) rfl rfl rfl (e_len (a := wa) (n := 1) (c := wc) rfl tw93) ?_
 refine l_val (v := .bool (decide ((0 : Int) < ((1 : Nat) : Int)))) rfl rfl rfl (e_lss (a := (0 : Int)) (b := ((1 : Nat) : Int)) rfl rfl) ?_
 refine l_nil ?_
 refine f_then ?_
 refine c_if ((0 : Int) < ((1 : Nat) : Int)) rfl (fun hc4 => ?_) (fun hc4 => ?_)
 ·
  refine c_skip ?_
  refine f_then ?_
  refine c_seq ?_
  refine c_block ?_
  refine c_region ?_
  refine l_val (v := .pointer (some ⟨b, 0, none⟩)) rfl rfl rfl (e_move) ?_
  refine l_val (v := .slice wa (1) (wc)) rfl rfl rfl (e_move) ?_
  refine l_val (v := .int .i64 (0)) rfl rfl rfl (e_move) ?_
  refine l_val (v := .pointer (some ((ba wa).add (0 * 2)))) rfl rfl rfl (e_indexAddr (k := 0) (len := 1) (cap := wc) (a := wa) rfl rfl tw95 (by omega) hwa) ?_
  refine l_val (v := .agg #[Ix (tk), .slice va (es.length) vc]) rfl rfl rfl (e_load tw48 (cs := [Ix (tk), .slice va (es.length) vc]) rfl (Knows.of_base (Cs.mono _ _) hwc) rfl) ?_
  refine l_call rfl rfl rfl (cl_value (fst := []) (cap := []) (vs := [.pointer (some ⟨b, 0, none⟩), .agg #[Ix (tk), .slice va (es.length) vc]]) (all := [.pointer (some ⟨b, 0, none⟩), .agg #[Ix (tk), .slice va (es.length) vc]]) tw160 rfl rfl rfl) ?_
  intro w hw
  replace hw := hw.perm (L' := _ :: _ :: _ :: _ :: _ :: []) (by exact (((((perm_front 4 rfl).trans (perm_front 1 rfl)).trans (perm_front 4 rfl)).trans (perm_front 4 rfl)).trans (perm_front 4 rfl)))
  obtain ⟨β1, sb, kn, hw1, back⟩ := St.frame (L := [_, _, _]) (M := _ :: _ :: []) hw
  refine (oneW_ok β1 w b p c hs q d gs (by first | omega | (simp only [List.length_append, List.length_map, List.length_nil]; omega)) (by first | omega | (simp only [List.length_append, List.length_cons, List.length_nil]; omega)) _ (tk) va vc es (Sl.mono _ _ _ _ _ sb hes) (by omega) hw1).mono ?_
  rintro e w' ⟨p5, c6, q7, d8, rfl, hw'⟩
  refine ⟨_, rfl, _, back _ _ hw', ?_⟩
  clear hw hw1 hw' back kn sb
  refine l_nil ?_
  refine f_block ?_
  refine f_then ?_
  refine c_region ?_
  refine l_val (v := .int .i64 (0)) rfl rfl rfl (e_move) ?_
  refine l_val (v := .int .i64 (1)) rfl rfl rfl (e_add (a := (0 : Int)) (b := (1 : Int)) rfl rfl (by decide)) ?_
  refine l_val (v := .int .i64 (1)) rfl rfl rfl (e_assign) ?_
  refine l_nil ?_
  refine f_cut ?_
  refine un_succ 0 ?_
  refine c_seq ?_
  refine c_seq ?_
  refine c_region ?_
  refine l_val (v := .int .i64 (1)) rfl rfl rfl (e_move) ?_
  refine l_val (v := .slice wa (1) (wc)) rfl rfl rfl (e_move) ?_
  refine l_val (v := Nx (1)) rfl rfl rfl (e_len (a := wa) (n := 1) (c := wc) rfl tw93) ?_
  refine l_val (v := .bool (decide ((1 : Int) < ((1 : Nat) : Int)))) rfl rfl rfl (e_lss (a := (1 : Int)) (b := ((1 : Nat) : Int)) rfl rfl) ?_
  refine l_nil ?_
  refine f_then ?_
  refine c_if ((1 : Int) < ((1 : Nat) : Int)) rfl (fun hc9 => ?_) (fun hc9 => ?_)
  ·
   exact absurd hc9 (by decide)
  ·
   refine c_exit ?_
   refine f_then_exit ?_
   refine f_then_exit ?_
   refine f_exit ?_
   refine end0 Tryz.results76 ?_
   intro w hw
   replace hw := hw.perm (L' := [pt b (.cells #[.slice none 0 0, .slice none 0 0, .slice none 0 0, .slice none 0 0, .slice p5 ((hs ++ es.map KHd.h3).length) c6, .slice q7 ((gs ++ [(⟨va, es.length, vc⟩ : H3)]).length) d8, .slice rp2 ((us ++ [(⟨wa, 1, wc⟩ : H3)]).length) rc3, .slice none 0 0, .slice none 0 0, .slice none 0 0, .slice none 0 0, .slice none 0 0, .slice none 0 0, .slice none 0 0, .slice none 0 0, .slice none 0 0, .slice none 0 0, .slice none 0 0, .slice none 0 0, .slice none 0 0] 149), rowF H3F 57 p5 c6 (hs ++ es.map KHd.h3), rowF H3F 22 q7 d8 (gs ++ [(⟨va, es.length, vc⟩ : H3)]), rowF H3F 68 rp2 rc3 (us ++ [(⟨wa, 1, wc⟩ : H3)]), pt b1 (.cells #[.slice wa (1) (wc)] 68)]) (by exact (perm_ix [0, 1, 2, 4, 3] 5 rfl (by kernel_rfl) (by kernel_rfl)))
   exact ⟨p5, c6, q7, d8, rp2, rc3, rfl, st_mask [true, true, true, true, false] rfl hw⟩
 ·
  exact absurd (by decide) hc4
set_option maxRecDepth 100000 in
set_option maxHeartbeats 4000000 in
theorem bagW_ok (β : Base) (w : World) (b : Nat) (p : Option Addr) (c : Nat) (hs : List H3) (q : Option Addr) (d : Nat) (gs : List H3) (s : Option Addr) (t : Nat) (us : List H3) (hn : hs.length ≤ 1000) (hn2 : gs.length ≤ 1000) (hn3 : us.length ≤ 1000) (hv : List (HV KComp)) (hhs : hs = hv.map HV.h) (hbd : ∀ v ∈ hv, v.xs.length ≤ 1000000) (ev : List (HV KHd)) (hgs : gs = ev.map HV.h) (hbe : ∀ v ∈ ev, v.xs.length ≤ 1000000) (wv : List (HV KWd)) (hus : us = wv.map HV.h) (hbw : ∀ v ∈ wv, v.xs.length ≤ 1000000) (hw : St β [pt b (.cells #[.slice none 0 0, .slice none 0 0, .slice none 0 0, .slice none 0 0, .slice p (hs.length) c, .slice q (gs.length) d, .slice s (us.length) t, .slice none 0 0, .slice none 0 0, .slice none 0 0, .slice none 0 0, .slice none 0 0, .slice none 0 0, .slice none 0 0, .slice none 0 0, .slice none 0 0, .slice none 0 0, .slice none 0 0, .slice none 0 0, .slice none 0 0] 149), rowF H3F 57 p c hs, rowF H3F 22 q d gs, rowF H3F 68 s t us, Sat (hv.map (ownV CompF 120)), Sat (ev.map (ownV HdF 59)), Sat (wv.map (ownV WdF 24))] w) : Calls Tryz.prog 77 #[.pointer (some ⟨b, 0, none⟩)] w fun r w' => r = .returned (.bool true) ∧ St β [] w' := by
 refine enter (n := 141) Tryz.func77 rfl Tryz.ntmps77 rfl ?_ hw
 refine c_seq ?_
 refine c_region ?_
 refine l_val (v := .bool false) rfl rfl rfl (e_assign) ?_
 refine l_nil ?_
 refine f_then ?_
 refine c_seq ?_
 refine c_perm (L' := [pt b (.cells #[.slice none 0 0, .slice none 0 0, .slice none 0 0, .slice none 0 0, .slice p (hs.length) c, .slice q (gs.length) d, .slice s (us.length) t, .slice none 0 0, .slice none 0 0, .slice none 0 0, .slice none 0 0, .slice none 0 0, .slice none 0 0, .slice none 0 0, .slice none 0 0, .slice none 0 0, .slice none 0 0, .slice none 0 0, .slice none 0 0, .slice none 0 0] 149), Sat (hv.map (ownV CompF 120)), Sat (ev.map (ownV HdF 59)), Sat (wv.map (ownV WdF 24)), rowF H3F 57 p c hs, rowF H3F 22 q d gs, rowF H3F 68 s t us]) (perm_ix [0, 4, 5, 6, 1, 2, 3] 7 rfl (by kernel_rfl) (by kernel_rfl)) ?_
 refine c_freeze2 (M := [pt b (.cells #[.slice none 0 0, .slice none 0 0, .slice none 0 0, .slice none 0 0, .slice p (hs.length) c, .slice q (gs.length) d, .slice s (us.length) t, .slice none 0 0, .slice none 0 0, .slice none 0 0, .slice none 0 0, .slice none 0 0, .slice none 0 0, .slice none 0 0, .slice none 0 0, .slice none 0 0, .slice none 0 0, .slice none 0 0, .slice none 0 0, .slice none 0 0] 149), Sat (hv.map (ownV CompF 120)), Sat (ev.map (ownV HdF 59)), Sat (wv.map (ownV WdF 24))]) (K := [rowF H3F 57 p c hs, rowF H3F 22 q d gs, rowF H3F 68 s t us]) rfl (fun βf ext1 kn1 bk1 => ?_)
 have hsl0 := kn1 _ (k_fl 0 (F := H3F) rfl)
 obtain ⟨-, hcl0, hml0, hel0⟩ := hsl0.parts
 have hsl1 := kn1 _ (k_fl 1 (F := H3F) rfl)
 obtain ⟨-, hcl1, hml1, hel1⟩ := hsl1.parts
 have hsl2 := kn1 _ (k_fl 2 (F := H3F) rfl)
 obtain ⟨-, hcl2, hml2, hel2⟩ := hsl2.parts
 refine c_region ?_
 refine l_val (v := .pointer (some ⟨b, 0, none⟩)) rfl rfl rfl (e_move) ?_
 refine l_val (v := .pointer (some ⟨b, 0, none⟩)) rfl rfl rfl (e_nil (a := ⟨b, 0, none⟩) rfl) ?_
 refine l_val (v := .pointer (some ⟨b, 0, none⟩)) rfl rfl rfl (e_fieldPt (b := b) (o := 0) rfl tw161) ?_
 refine l_val (v := .slice none 0 0) rfl rfl rfl (e_load1 tw162 (v := .slice none 0 0) rfl (k_pt 0 (cs := #[.slice none 0 0, .slice none 0 0, .slice none 0 0, .slice none 0 0, .slice p (hs.length) (c), .slice q (gs.length) (d), .slice s (us.length) (t), .slice none 0 0, .slice none 0 0, .slice none 0 0, .slice none 0 0, .slice none 0 0, .slice none 0 0, .slice none 0 0, .slice none 0 0, .slice none 0 0, .slice none 0 0, .slice none 0 0, .slice none 0 0, .slice none 0 0]) (vs := [.slice none 0 0]) rfl rfl)) ?_
 refine l_call rfl rfl rfl (cl_value (fst := []) (cap := []) (vs := [.slice none 0 0]) (all := [.slice none 0 0]) tw163 rfl rfl rfl) ?_
 intro w hw
 obtain ⟨β1, sb, kn, hw1, back⟩ := St.frame_all hw
 refine (flatLimbs_nil β1 w hw1).mono ?_
 rintro e w' ⟨rfl, hw'⟩
 refine ⟨_, rfl, _, back _ _ hw', ?_⟩
 clear hw hw1 hw' back kn sb
 refine l_val (v := .bool true) rfl rfl rfl (e_move) ?_
 refine g_val (v := .pointer (some ⟨b, 0, none⟩)) rfl rfl rfl rfl rfl (e_move) ?_
 refine g_val (v := .pointer (some ⟨b, 0, none⟩)) rfl rfl rfl rfl rfl (e_nil (a := ⟨b, 0, none⟩) rfl) ?_
 refine g_val (v := .pointer (some ⟨b, 1, none⟩)) rfl rfl rfl rfl rfl (e_fieldPt (b := b) (o := 0) rfl tw164) ?_
 refine g_val (v := .slice none 0 0) rfl rfl rfl rfl rfl (e_load1 tw165 (v := .slice none 0 0) rfl (k_pt 0 (cs := #[.slice none 0 0, .slice none 0 0, .slice none 0 0, .slice none 0 0, .slice p (hs.length) (c), .slice q (gs.length) (d), .slice s (us.length) (t), .slice none 0 0, .slice none 0 0, .slice none 0 0, .slice none 0 0, .slice none 0 0, .slice none 0 0, .slice none 0 0, .slice none 0 0, .slice none 0 0, .slice none 0 0, .slice none 0 0, .slice none 0 0, .slice none 0 0]) (vs := [.slice none 0 0]) rfl rfl)) ?_
 refine g_call rfl rfl rfl rfl rfl (cl_value (fst := []) (cap := []) (vs := [.slice none 0 0]) (all := [.slice none 0 0]) tw166 rfl rfl rfl) ?_
 intro w hw
 obtain ⟨β1, sb, kn, hw1, back⟩ := St.frame_all hw
 refine (flatInts_nil β1 w hw1).mono ?_
 rintro e w' ⟨rfl, hw'⟩
 refine ⟨_, rfl, _, back _ _ hw', ?_⟩
 clear hw hw1 hw' back kn sb
 refine l_val (v := .bool true) rfl rfl rfl (e_pick_t rfl) ?_
 refine l_val (v := .bool true) rfl rfl rfl (e_move) ?_
 refine g_val (v := .pointer (some ⟨b, 0, none⟩)) rfl rfl rfl rfl rfl (e_move) ?_
 refine g_val (v := .pointer (some ⟨b, 0, none⟩)) rfl rfl rfl rfl rfl (e_nil (a := ⟨b, 0, none⟩) rfl) ?_
 refine g_val (v := .pointer (some ⟨b, 2, none⟩)) rfl rfl rfl rfl rfl (e_fieldPt (b := b) (o := 0) rfl tw167) ?_
 refine g_val (v := .slice none 0 0) rfl rfl rfl rfl rfl (e_load1 tw168 (v := .slice none 0 0) rfl (k_pt 0 (cs := #[.slice none 0 0, .slice none 0 0, .slice none 0 0, .slice none 0 0, .slice p (hs.length) (c), .slice q (gs.length) (d), .slice s (us.length) (t), .slice none 0 0, .slice none 0 0, .slice none 0 0, .slice none 0 0, .slice none 0 0, .slice none 0 0, .slice none 0 0, .slice none 0 0, .slice none 0 0, .slice none 0 0, .slice none 0 0, .slice none 0 0, .slice none 0 0]) (vs := [.slice none 0 0]) rfl rfl)) ?_
 refine g_call rfl rfl rfl rfl rfl (cl_value (fst := []) (cap := []) (vs := [.slice none 0 0]) (all := [.slice none 0 0]) tw169 rfl rfl rfl) ?_
 intro w hw
 obtain ⟨β1, sb, kn, hw1, back⟩ := St.frame_all hw
 refine (flatTexts_nil β1 w hw1).mono ?_
 rintro e w' ⟨rfl, hw'⟩
 refine ⟨_, rfl, _, back _ _ hw', ?_⟩
 clear hw hw1 hw' back kn sb
 refine l_val (v := .bool true) rfl rfl rfl (e_pick_t rfl) ?_
 refine l_val (v := .bool true) rfl rfl rfl (e_move) ?_
 refine g_val (v := .pointer (some ⟨b, 0, none⟩)) rfl rfl rfl rfl rfl (e_move) ?_
 refine g_val (v := .pointer (some ⟨b, 0, none⟩)) rfl rfl rfl rfl rfl (e_nil (a := ⟨b, 0, none⟩) rfl) ?_
 refine g_val (v := .pointer (some ⟨b, 3, none⟩)) rfl rfl rfl rfl rfl (e_fieldPt (b := b) (o := 0) rfl tw170) ?_
 refine g_val (v := .slice none 0 0) rfl rfl rfl rfl rfl (e_load1 tw171 (v := .slice none 0 0) rfl (k_pt 0 (cs := #[.slice none 0 0, .slice none 0 0, .slice none 0 0, .slice none 0 0, .slice p (hs.length) (c), .slice q (gs.length) (d), .slice s (us.length) (t), .slice none 0 0, .slice none 0 0, .slice none 0 0, .slice none 0 0, .slice none 0 0, .slice none 0 0, .slice none 0 0, .slice none 0 0, .slice none 0 0, .slice none 0 0, .slice none 0 0, .slice none 0 0, .slice none 0 0]) (vs := [.slice none 0 0]) rfl rfl)) ?_
 refine g_call rfl rfl rfl rfl rfl (cl_value (fst := []) (cap := []) (vs := [.slice none 0 0]) (all := [.slice none 0 0]) tw172 rfl rfl rfl) ?_
 intro w hw
 obtain ⟨β1, sb, kn, hw1, back⟩ := St.frame_all hw
 refine (flatBytes_nil β1 w hw1).mono ?_
 rintro e w' ⟨rfl, hw'⟩
 refine ⟨_, rfl, _, back _ _ hw', ?_⟩
 clear hw hw1 hw' back kn sb
 refine l_val (v := .bool true) rfl rfl rfl (e_pick_t rfl) ?_
 refine l_val (v := .bool true) rfl rfl rfl (e_move) ?_
 refine g_val (v := .pointer (some ⟨b, 0, none⟩)) rfl rfl rfl rfl rfl (e_move) ?_
 refine g_val (v := .pointer (some ⟨b, 0, none⟩)) rfl rfl rfl rfl rfl (e_nil (a := ⟨b, 0, none⟩) rfl) ?_
 refine g_val (v := .pointer (some ⟨b, 4, none⟩)) rfl rfl rfl rfl rfl (e_fieldPt (b := b) (o := 0) rfl tw151) ?_
 refine g_val (v := .slice p (hs.length) (c)) rfl rfl rfl rfl rfl (e_load1 tw152 (v := .slice p (hs.length) (c)) rfl (k_pt 0 (cs := #[.slice none 0 0, .slice none 0 0, .slice none 0 0, .slice none 0 0, .slice p (hs.length) (c), .slice q (gs.length) (d), .slice s (us.length) (t), .slice none 0 0, .slice none 0 0, .slice none 0 0, .slice none 0 0, .slice none 0 0, .slice none 0 0, .slice none 0 0, .slice none 0 0, .slice none 0 0, .slice none 0 0, .slice none 0 0, .slice none 0 0, .slice none 0 0]) (vs := [.slice p (hs.length) (c)]) rfl rfl)) ?_
 refine g_call rfl rfl rfl rfl rfl (cl_value (fst := []) (cap := []) (vs := [.slice p (hs.length) (c)]) (all := [.slice p (hs.length) (c)]) tw173 rfl rfl rfl) ?_
 intro w hw
 replace hw := hw.perm (L' := _ :: _ :: _ :: _ :: []) (by exact ((((perm_front 3 rfl).trans (perm_front 3 rfl)).trans (perm_front 2 rfl)).trans (perm_front 3 rfl)))
 obtain ⟨β1, sb, kn, hw1, back⟩ := St.frame (L := [_]) (M := _ :: _ :: _ :: []) hw
 refine (flatC_ok β1 w _ hs hv hhs (Sl.mono _ _ _ _ _ sb hsl0) (by omega) hbd hw1).mono ?_
 rintro e w' ⟨rfl, hw'⟩
 refine ⟨_, rfl, _, back _ _ hw', ?_⟩
 clear hw hw1 hw' back kn sb
 refine l_val (v := .bool true) rfl rfl rfl (e_pick_t rfl) ?_
 refine l_val (v := .bool true) rfl rfl rfl (e_move) ?_
 refine g_val (v := .pointer (some ⟨b, 0, none⟩)) rfl rfl rfl rfl rfl (e_move) ?_
 refine g_val (v := .pointer (some ⟨b, 0, none⟩)) rfl rfl rfl rfl rfl (e_nil (a := ⟨b, 0, none⟩) rfl) ?_
 refine g_val (v := .pointer (some ⟨b, 5, none⟩)) rfl rfl rfl rfl rfl (e_fieldPt (b := b) (o := 0) rfl tw154) ?_
 refine g_val (v := .slice q (gs.length) (d)) rfl rfl rfl rfl rfl (e_load1 tw155 (v := .slice q (gs.length) (d)) rfl (k_pt 0 (cs := #[.slice none 0 0, .slice none 0 0, .slice none 0 0, .slice none 0 0, .slice p (hs.length) (c), .slice q (gs.length) (d), .slice s (us.length) (t), .slice none 0 0, .slice none 0 0, .slice none 0 0, .slice none 0 0, .slice none 0 0, .slice none 0 0, .slice none 0 0, .slice none 0 0, .slice none 0 0, .slice none 0 0, .slice none 0 0, .slice none 0 0, .slice none 0 0]) (vs := [.slice q (gs.length) (d)]) rfl rfl)) ?_
 refine g_call rfl rfl rfl rfl rfl (cl_value (fst := []) (cap := []) (vs := [.slice q (gs.length) (d)]) (all := [.slice q (gs.length) (d)]) tw174 rfl rfl rfl) ?_
 intro w hw
 replace hw := hw.perm (L' := _ :: _ :: _ :: []) (by exact (((perm_front 2 rfl).trans (perm_front 1 rfl)).trans (perm_front 2 rfl)))
 obtain ⟨β1, sb, kn, hw1, back⟩ := St.frame (L := [_]) (M := _ :: _ :: []) hw
 refine (flatE_ok β1 w _ gs ev hgs (Sl.mono _ _ _ _ _ sb hsl1) (by omega) hbe hw1).mono ?_
 rintro e w' ⟨rfl, hw'⟩
 refine ⟨_, rfl, _, back _ _ hw', ?_⟩
 clear hw hw1 hw' back kn sb
 refine l_val (v := .bool true) rfl rfl rfl (e_pick_t rfl) ?_
 refine l_val (v := .bool true) rfl rfl rfl (e_move) ?_
 refine g_val (v := .pointer (some ⟨b, 0, none⟩)) rfl rfl rfl rfl rfl (e_move) ?_
 refine g_val (v := .pointer (some ⟨b, 0, none⟩)) rfl rfl rfl rfl rfl (e_nil (a := ⟨b, 0, none⟩) rfl) ?_
 refine g_val (v := .pointer (some ⟨b, 6, none⟩)) rfl rfl rfl rfl rfl (e_fieldPt (b := b) (o := 0) rfl tw158) ?_
 refine g_val (v := .slice s (us.length) (t)) rfl rfl rfl rfl rfl (e_load1 tw159 (v := .slice s (us.length) (t)) rfl (k_pt 0 (cs := #[.slice none 0 0, .slice none 0 0, .slice none 0 0, .slice none 0 0, .slice p (hs.length) (c), .slice q (gs.length) (d), .slice s (us.length) (t), .slice none 0 0, .slice none 0 0, .slice none 0 0, .slice none 0 0, .slice none 0 0, .slice none 0 0, .slice none 0 0, .slice none 0 0, .slice none 0 0, .slice none 0 0, .slice none 0 0, .slice none 0 0, .slice none 0 0]) (vs := [.slice s (us.length) (t)]) rfl rfl)) ?_
 refine g_call rfl rfl rfl rfl rfl (cl_value (fst := []) (cap := []) (vs := [.slice s (us.length) (t)]) (all := [.slice s (us.length) (t)]) tw175 rfl rfl rfl) ?_
 intro w hw
 replace hw := hw.perm (L' := _ :: _ :: []) (by exact ((perm_front 0 rfl).trans (perm_front 1 rfl)))
 obtain ⟨β1, sb, kn, hw1, back⟩ := St.frame (L := [_]) (M := _ :: []) hw
 refine (flatW_ok β1 w _ us wv hus (Sl.mono _ _ _ _ _ sb hsl2) (by omega) hbw hw1).mono ?_
 rintro e w' ⟨rfl, hw'⟩
 refine ⟨_, rfl, _, back _ _ hw', ?_⟩
 clear hw hw1 hw' back kn sb
 refine l_val (v := .bool true) rfl rfl rfl (e_pick_t rfl) ?_
 refine l_val (v := .bool true) rfl rfl rfl (e_move) ?_
 refine g_val (v := .pointer (some ⟨b, 0, none⟩)) rfl rfl rfl rfl rfl (e_move) ?_
 refine g_val (v := .pointer (some ⟨b, 0, none⟩)) rfl rfl rfl rfl rfl (e_nil (a := ⟨b, 0, none⟩) rfl) ?_
 refine g_val (v := .pointer (some ⟨b, 7, none⟩)) rfl rfl rfl rfl rfl (e_fieldPt (b := b) (o := 0) rfl tw176) ?_
 refine g_val (v := .slice none 0 0) rfl rfl rfl rfl rfl (e_load1 tw177 (v := .slice none 0 0) rfl (k_pt 0 (cs := #[.slice none 0 0, .slice none 0 0, .slice none 0 0, .slice none 0 0, .slice p (hs.length) (c), .slice q (gs.length) (d), .slice s (us.length) (t), .slice none 0 0, .slice none 0 0, .slice none 0 0, .slice none 0 0, .slice none 0 0, .slice none 0 0, .slice none 0 0, .slice none 0 0, .slice none 0 0, .slice none 0 0, .slice none 0 0, .slice none 0 0, .slice none 0 0]) (vs := [.slice none 0 0]) rfl rfl)) ?_
 refine g_call rfl rfl rfl rfl rfl (cl_value (fst := []) (cap := []) (vs := [.slice none 0 0]) (all := [.slice none 0 0]) tw178 rfl rfl rfl) ?_
 intro w hw
 obtain ⟨β1, sb, kn, hw1, back⟩ := St.frame_all hw
 refine (flatVecs_nil β1 w hw1).mono ?_
 rintro e w' ⟨rfl, hw'⟩
 refine ⟨_, rfl, _, back _ _ hw', ?_⟩
 clear hw hw1 hw' back kn sb
 refine l_val (v := .bool true) rfl rfl rfl (e_pick_t rfl) ?_
 refine l_val (v := .bool true) rfl rfl rfl (e_move) ?_
 refine g_val (v := .pointer (some ⟨b, 0, none⟩)) rfl rfl rfl rfl rfl (e_move) ?_
 refine g_val (v := .pointer (some ⟨b, 0, none⟩)) rfl rfl rfl rfl rfl (e_nil (a := ⟨b, 0, none⟩) rfl) ?_
 refine g_val (v := .pointer (some ⟨b, 8, none⟩)) rfl rfl rfl rfl rfl (e_fieldPt (b := b) (o := 0) rfl tw179) ?_
 refine g_val (v := .slice none 0 0) rfl rfl rfl rfl rfl (e_load1 tw180 (v := .slice none 0 0) rfl (k_pt 0 (cs := #[.slice none 0 0, .slice none 0 0, .slice none 0 0, .slice none 0 0, .slice p (hs.length) (c), .slice q (gs.length) (d), .slice s (us.length) (t), .slice none 0 0, .slice none 0 0, .slice none 0 0, .slice none 0 0, .slice none 0 0, .slice none 0 0, .slice none 0 0, .slice none 0 0, .slice none 0 0, .slice none 0 0, .slice none 0 0, .slice none 0 0, .slice none 0 0]) (vs := [.slice none 0 0]) rfl rfl)) ?_
 refine g_call rfl rfl rfl rfl rfl (cl_value (fst := []) (cap := []) (vs := [.slice none 0 0]) (all := [.slice none 0 0]) tw181 rfl rfl rfl) ?_
 intro w hw
 obtain ⟨β1, sb, kn, hw1, back⟩ := St.frame_all hw
 refine (flatBodies_nil β1 w hw1).mono ?_
 rintro e w' ⟨rfl, hw'⟩
 refine ⟨_, rfl, _, back _ _ hw', ?_⟩
 clear hw hw1 hw' back kn sb
 refine l_val (v := .bool true) rfl rfl rfl (e_pick_t rfl) ?_
 refine l_val (v := .bool true) rfl rfl rfl (e_move) ?_
 refine g_val (v := .pointer (some ⟨b, 0, none⟩)) rfl rfl rfl rfl rfl (e_move) ?_
 refine g_val (v := .pointer (some ⟨b, 0, none⟩)) rfl rfl rfl rfl rfl (e_nil (a := ⟨b, 0, none⟩) rfl) ?_
 refine g_val (v := .pointer (some ⟨b, 9, none⟩)) rfl rfl rfl rfl rfl (e_fieldPt (b := b) (o := 0) rfl tw182) ?_
 refine g_val (v := .slice none 0 0) rfl rfl rfl rfl rfl (e_load1 tw183 (v := .slice none 0 0) rfl (k_pt 0 (cs := #[.slice none 0 0, .slice none 0 0, .slice none 0 0, .slice none 0 0, .slice p (hs.length) (c), .slice q (gs.length) (d), .slice s (us.length) (t), .slice none 0 0, .slice none 0 0, .slice none 0 0, .slice none 0 0, .slice none 0 0, .slice none 0 0, .slice none 0 0, .slice none 0 0, .slice none 0 0, .slice none 0 0, .slice none 0 0, .slice none 0 0, .slice none 0 0]) (vs := [.slice none 0 0]) rfl rfl)) ?_
 refine g_call rfl rfl rfl rfl rfl (cl_value (fst := []) (cap := []) (vs := [.slice none 0 0]) (all := [.slice none 0 0]) tw184 rfl rfl rfl) ?_
 intro w hw
 obtain ⟨β1, sb, kn, hw1, back⟩ := St.frame_all hw
 refine (flatSystems_nil β1 w hw1).mono ?_
 rintro e w' ⟨rfl, hw'⟩
 refine ⟨_, rfl, _, back _ _ hw', ?_⟩
 clear hw hw1 hw' back kn sb
 refine l_val (v := .bool true) rfl rfl rfl (e_pick_t rfl) ?_
 refine l_val (v := .bool true) rfl rfl rfl (e_move) ?_
 refine g_val (v := .pointer (some ⟨b, 0, none⟩)) rfl rfl rfl rfl rfl (e_move) ?_
 refine g_val (v := .pointer (some ⟨b, 0, none⟩)) rfl rfl rfl rfl rfl (e_nil (a := ⟨b, 0, none⟩) rfl) ?_
 refine g_val (v := .pointer (some ⟨b, 10, none⟩)) rfl rfl rfl rfl rfl (e_fieldPt (b := b) (o := 0) rfl tw185) ?_
 refine g_val (v := .slice none 0 0) rfl rfl rfl rfl rfl (e_load1 tw186 (v := .slice none 0 0) rfl (k_pt 0 (cs := #[.slice none 0 0, .slice none 0 0, .slice none 0 0, .slice none 0 0, .slice p (hs.length) (c), .slice q (gs.length) (d), .slice s (us.length) (t), .slice none 0 0, .slice none 0 0, .slice none 0 0, .slice none 0 0, .slice none 0 0, .slice none 0 0, .slice none 0 0, .slice none 0 0, .slice none 0 0, .slice none 0 0, .slice none 0 0, .slice none 0 0, .slice none 0 0]) (vs := [.slice none 0 0]) rfl rfl)) ?_
 refine g_call rfl rfl rfl rfl rfl (cl_value (fst := []) (cap := []) (vs := [.slice none 0 0]) (all := [.slice none 0 0]) tw187 rfl rfl rfl) ?_
 intro w hw
 obtain ⟨β1, sb, kn, hw1, back⟩ := St.frame_all hw
 refine (flatInputs_nil β1 w hw1).mono ?_
 rintro e w' ⟨rfl, hw'⟩
 refine ⟨_, rfl, _, back _ _ hw', ?_⟩
 clear hw hw1 hw' back kn sb
 refine l_val (v := .bool true) rfl rfl rfl (e_pick_t rfl) ?_
 refine l_val (v := .bool true) rfl rfl rfl (e_move) ?_
 refine g_val (v := .pointer (some ⟨b, 0, none⟩)) rfl rfl rfl rfl rfl (e_move) ?_
 refine g_val (v := .pointer (some ⟨b, 0, none⟩)) rfl rfl rfl rfl rfl (e_nil (a := ⟨b, 0, none⟩) rfl) ?_
 refine g_val (v := .pointer (some ⟨b, 11, none⟩)) rfl rfl rfl rfl rfl (e_fieldPt (b := b) (o := 0) rfl tw188) ?_
 refine g_val (v := .slice none 0 0) rfl rfl rfl rfl rfl (e_load1 tw189 (v := .slice none 0 0) rfl (k_pt 0 (cs := #[.slice none 0 0, .slice none 0 0, .slice none 0 0, .slice none 0 0, .slice p (hs.length) (c), .slice q (gs.length) (d), .slice s (us.length) (t), .slice none 0 0, .slice none 0 0, .slice none 0 0, .slice none 0 0, .slice none 0 0, .slice none 0 0, .slice none 0 0, .slice none 0 0, .slice none 0 0, .slice none 0 0, .slice none 0 0, .slice none 0 0, .slice none 0 0]) (vs := [.slice none 0 0]) rfl rfl)) ?_
 refine g_call rfl rfl rfl rfl rfl (cl_value (fst := []) (cap := []) (vs := [.slice none 0 0]) (all := [.slice none 0 0]) tw190 rfl rfl rfl) ?_
 intro w hw
 obtain ⟨β1, sb, kn, hw1, back⟩ := St.frame_all hw
 refine (flatAreas_nil β1 w hw1).mono ?_
 rintro e w' ⟨rfl, hw'⟩
 refine ⟨_, rfl, _, back _ _ hw', ?_⟩
 clear hw hw1 hw' back kn sb
 refine l_val (v := .bool true) rfl rfl rfl (e_pick_t rfl) ?_
 refine l_val (v := .bool true) rfl rfl rfl (e_move) ?_
 refine g_val (v := .pointer (some ⟨b, 0, none⟩)) rfl rfl rfl rfl rfl (e_move) ?_
 refine g_val (v := .pointer (some ⟨b, 0, none⟩)) rfl rfl rfl rfl rfl (e_nil (a := ⟨b, 0, none⟩) rfl) ?_
 refine g_val (v := .pointer (some ⟨b, 12, none⟩)) rfl rfl rfl rfl rfl (e_fieldPt (b := b) (o := 0) rfl tw191) ?_
 refine g_val (v := .slice none 0 0) rfl rfl rfl rfl rfl (e_load1 tw192 (v := .slice none 0 0) rfl (k_pt 0 (cs := #[.slice none 0 0, .slice none 0 0, .slice none 0 0, .slice none 0 0, .slice p (hs.length) (c), .slice q (gs.length) (d), .slice s (us.length) (t), .slice none 0 0, .slice none 0 0, .slice none 0 0, .slice none 0 0, .slice none 0 0, .slice none 0 0, .slice none 0 0, .slice none 0 0, .slice none 0 0, .slice none 0 0, .slice none 0 0, .slice none 0 0, .slice none 0 0]) (vs := [.slice none 0 0]) rfl rfl)) ?_
 refine g_call rfl rfl rfl rfl rfl (cl_value (fst := []) (cap := []) (vs := [.slice none 0 0]) (all := [.slice none 0 0]) tw193 rfl rfl rfl) ?_
 intro w hw
 obtain ⟨β1, sb, kn, hw1, back⟩ := St.frame_all hw
 refine (flatPairs_nil β1 w hw1).mono ?_
 rintro e w' ⟨rfl, hw'⟩
 refine ⟨_, rfl, _, back _ _ hw', ?_⟩
 clear hw hw1 hw' back kn sb
 refine l_val (v := .bool true) rfl rfl rfl (e_pick_t rfl) ?_
 refine l_val (v := .bool true) rfl rfl rfl (e_move) ?_
 refine g_val (v := .pointer (some ⟨b, 0, none⟩)) rfl rfl rfl rfl rfl (e_move) ?_
 refine g_val (v := .pointer (some ⟨b, 0, none⟩)) rfl rfl rfl rfl rfl (e_nil (a := ⟨b, 0, none⟩) rfl) ?_
 refine g_val (v := .pointer (some ⟨b, 13, none⟩)) rfl rfl rfl rfl rfl (e_fieldPt (b := b) (o := 0) rfl tw194) ?_
 refine g_val (v := .slice none 0 0) rfl rfl rfl rfl rfl (e_load1 tw195 (v := .slice none 0 0) rfl (k_pt 0 (cs := #[.slice none 0 0, .slice none 0 0, .slice none 0 0, .slice none 0 0, .slice p (hs.length) (c), .slice q (gs.length) (d), .slice s (us.length) (t), .slice none 0 0, .slice none 0 0, .slice none 0 0, .slice none 0 0, .slice none 0 0, .slice none 0 0, .slice none 0 0, .slice none 0 0, .slice none 0 0, .slice none 0 0, .slice none 0 0, .slice none 0 0, .slice none 0 0]) (vs := [.slice none 0 0]) rfl rfl)) ?_
 refine g_call rfl rfl rfl rfl rfl (cl_value (fst := []) (cap := []) (vs := [.slice none 0 0]) (all := [.slice none 0 0]) tw196 rfl rfl rfl) ?_
 intro w hw
 obtain ⟨β1, sb, kn, hw1, back⟩ := St.frame_all hw
 refine (flatRopes_nil β1 w hw1).mono ?_
 rintro e w' ⟨rfl, hw'⟩
 refine ⟨_, rfl, _, back _ _ hw', ?_⟩
 clear hw hw1 hw' back kn sb
 refine l_val (v := .bool true) rfl rfl rfl (e_pick_t rfl) ?_
 refine l_val (v := .bool true) rfl rfl rfl (e_move) ?_
 refine g_val (v := .pointer (some ⟨b, 0, none⟩)) rfl rfl rfl rfl rfl (e_move) ?_
 refine g_val (v := .pointer (some ⟨b, 0, none⟩)) rfl rfl rfl rfl rfl (e_nil (a := ⟨b, 0, none⟩) rfl) ?_
 refine g_val (v := .pointer (some ⟨b, 14, none⟩)) rfl rfl rfl rfl rfl (e_fieldPt (b := b) (o := 0) rfl tw197) ?_
 refine g_val (v := .slice none 0 0) rfl rfl rfl rfl rfl (e_load1 tw198 (v := .slice none 0 0) rfl (k_pt 0 (cs := #[.slice none 0 0, .slice none 0 0, .slice none 0 0, .slice none 0 0, .slice p (hs.length) (c), .slice q (gs.length) (d), .slice s (us.length) (t), .slice none 0 0, .slice none 0 0, .slice none 0 0, .slice none 0 0, .slice none 0 0, .slice none 0 0, .slice none 0 0, .slice none 0 0, .slice none 0 0, .slice none 0 0, .slice none 0 0, .slice none 0 0, .slice none 0 0]) (vs := [.slice none 0 0]) rfl rfl)) ?_
 refine g_call rfl rfl rfl rfl rfl (cl_value (fst := []) (cap := []) (vs := [.slice none 0 0]) (all := [.slice none 0 0]) tw199 rfl rfl rfl) ?_
 intro w hw
 obtain ⟨β1, sb, kn, hw1, back⟩ := St.frame_all hw
 refine (flatExprs_nil β1 w hw1).mono ?_
 rintro e w' ⟨rfl, hw'⟩
 refine ⟨_, rfl, _, back _ _ hw', ?_⟩
 clear hw hw1 hw' back kn sb
 refine l_val (v := .bool true) rfl rfl rfl (e_pick_t rfl) ?_
 refine l_val (v := .bool true) rfl rfl rfl (e_move) ?_
 refine g_val (v := .pointer (some ⟨b, 0, none⟩)) rfl rfl rfl rfl rfl (e_move) ?_
 refine g_val (v := .pointer (some ⟨b, 0, none⟩)) rfl rfl rfl rfl rfl (e_nil (a := ⟨b, 0, none⟩) rfl) ?_
 refine g_val (v := .pointer (some ⟨b, 15, none⟩)) rfl rfl rfl rfl rfl (e_fieldPt (b := b) (o := 0) rfl tw200) ?_
 refine g_val (v := .slice none 0 0) rfl rfl rfl rfl rfl (e_load1 tw201 (v := .slice none 0 0) rfl (k_pt 0 (cs := #[.slice none 0 0, .slice none 0 0, .slice none 0 0, .slice none 0 0, .slice p (hs.length) (c), .slice q (gs.length) (d), .slice s (us.length) (t), .slice none 0 0, .slice none 0 0, .slice none 0 0, .slice none 0 0, .slice none 0 0, .slice none 0 0, .slice none 0 0, .slice none 0 0, .slice none 0 0, .slice none 0 0, .slice none 0 0, .slice none 0 0, .slice none 0 0]) (vs := [.slice none 0 0]) rfl rfl)) ?_
 refine g_call rfl rfl rfl rfl rfl (cl_value (fst := []) (cap := []) (vs := [.slice none 0 0]) (all := [.slice none 0 0]) tw202 rfl rfl rfl) ?_
 intro w hw
 obtain ⟨β1, sb, kn, hw1, back⟩ := St.frame_all hw
 refine (flatStmts_nil β1 w hw1).mono ?_
 rintro e w' ⟨rfl, hw'⟩
 refine ⟨_, rfl, _, back _ _ hw', ?_⟩
 clear hw hw1 hw' back kn sb
 refine l_val (v := .bool true) rfl rfl rfl (e_pick_t rfl) ?_
 refine l_val (v := .bool true) rfl rfl rfl (e_move) ?_
 refine g_val (v := .pointer (some ⟨b, 0, none⟩)) rfl rfl rfl rfl rfl (e_move) ?_
 refine g_val (v := .pointer (some ⟨b, 0, none⟩)) rfl rfl rfl rfl rfl (e_nil (a := ⟨b, 0, none⟩) rfl) ?_
 refine g_val (v := .pointer (some ⟨b, 16, none⟩)) rfl rfl rfl rfl rfl (e_fieldPt (b := b) (o := 0) rfl tw203) ?_
 refine g_val (v := .slice none 0 0) rfl rfl rfl rfl rfl (e_load1 tw204 (v := .slice none 0 0) rfl (k_pt 0 (cs := #[.slice none 0 0, .slice none 0 0, .slice none 0 0, .slice none 0 0, .slice p (hs.length) (c), .slice q (gs.length) (d), .slice s (us.length) (t), .slice none 0 0, .slice none 0 0, .slice none 0 0, .slice none 0 0, .slice none 0 0, .slice none 0 0, .slice none 0 0, .slice none 0 0, .slice none 0 0, .slice none 0 0, .slice none 0 0, .slice none 0 0, .slice none 0 0]) (vs := [.slice none 0 0]) rfl rfl)) ?_
 refine g_call rfl rfl rfl rfl rfl (cl_value (fst := []) (cap := []) (vs := [.slice none 0 0]) (all := [.slice none 0 0]) tw205 rfl rfl rfl) ?_
 intro w hw
 obtain ⟨β1, sb, kn, hw1, back⟩ := St.frame_all hw
 refine (flatScenes_nil β1 w hw1).mono ?_
 rintro e w' ⟨rfl, hw'⟩
 refine ⟨_, rfl, _, back _ _ hw', ?_⟩
 clear hw hw1 hw' back kn sb
 refine l_val (v := .bool true) rfl rfl rfl (e_pick_t rfl) ?_
 refine l_val (v := .bool true) rfl rfl rfl (e_move) ?_
 refine g_val (v := .pointer (some ⟨b, 0, none⟩)) rfl rfl rfl rfl rfl (e_move) ?_
 refine g_val (v := .pointer (some ⟨b, 0, none⟩)) rfl rfl rfl rfl rfl (e_nil (a := ⟨b, 0, none⟩) rfl) ?_
 refine g_val (v := .pointer (some ⟨b, 17, none⟩)) rfl rfl rfl rfl rfl (e_fieldPt (b := b) (o := 0) rfl tw206) ?_
 refine g_val (v := .slice none 0 0) rfl rfl rfl rfl rfl (e_load1 tw207 (v := .slice none 0 0) rfl (k_pt 0 (cs := #[.slice none 0 0, .slice none 0 0, .slice none 0 0, .slice none 0 0, .slice p (hs.length) (c), .slice q (gs.length) (d), .slice s (us.length) (t), .slice none 0 0, .slice none 0 0, .slice none 0 0, .slice none 0 0, .slice none 0 0, .slice none 0 0, .slice none 0 0, .slice none 0 0, .slice none 0 0, .slice none 0 0, .slice none 0 0, .slice none 0 0, .slice none 0 0]) (vs := [.slice none 0 0]) rfl rfl)) ?_
 refine g_call rfl rfl rfl rfl rfl (cl_value (fst := []) (cap := []) (vs := [.slice none 0 0]) (all := [.slice none 0 0]) tw208 rfl rfl rfl) ?_
 intro w hw
 obtain ⟨β1, sb, kn, hw1, back⟩ := St.frame_all hw
 refine (flatStops_nil β1 w hw1).mono ?_
 rintro e w' ⟨rfl, hw'⟩
 refine ⟨_, rfl, _, back _ _ hw', ?_⟩
 clear hw hw1 hw' back kn sb
 refine l_val (v := .bool true) rfl rfl rfl (e_pick_t rfl) ?_
 refine l_val (v := .bool true) rfl rfl rfl (e_move) ?_
 refine g_val (v := .pointer (some ⟨b, 0, none⟩)) rfl rfl rfl rfl rfl (e_move) ?_
 refine g_val (v := .pointer (some ⟨b, 0, none⟩)) rfl rfl rfl rfl rfl (e_nil (a := ⟨b, 0, none⟩) rfl) ?_
 refine g_val (v := .pointer (some ⟨b, 18, none⟩)) rfl rfl rfl rfl rfl (e_fieldPt (b := b) (o := 0) rfl tw209) ?_
 refine g_val (v := .slice none 0 0) rfl rfl rfl rfl rfl (e_load1 tw210 (v := .slice none 0 0) rfl (k_pt 0 (cs := #[.slice none 0 0, .slice none 0 0, .slice none 0 0, .slice none 0 0, .slice p (hs.length) (c), .slice q (gs.length) (d), .slice s (us.length) (t), .slice none 0 0, .slice none 0 0, .slice none 0 0, .slice none 0 0, .slice none 0 0, .slice none 0 0, .slice none 0 0, .slice none 0 0, .slice none 0 0, .slice none 0 0, .slice none 0 0, .slice none 0 0, .slice none 0 0]) (vs := [.slice none 0 0]) rfl rfl)) ?_
 refine g_call rfl rfl rfl rfl rfl (cl_value (fst := []) (cap := []) (vs := [.slice none 0 0]) (all := [.slice none 0 0]) tw211 rfl rfl rfl) ?_
 intro w hw
 obtain ⟨β1, sb, kn, hw1, back⟩ := St.frame_all hw
 refine (flatPortals_nil β1 w hw1).mono ?_
 rintro e w' ⟨rfl, hw'⟩
 refine ⟨_, rfl, _, back _ _ hw', ?_⟩
 clear hw hw1 hw' back kn sb
 refine l_val (v := .bool true) rfl rfl rfl (e_pick_t rfl) ?_
 refine l_val (v := .bool true) rfl rfl rfl (e_move) ?_
 refine g_val (v := .pointer (some ⟨b, 0, none⟩)) rfl rfl rfl rfl rfl (e_move) ?_
 refine g_val (v := .pointer (some ⟨b, 0, none⟩)) rfl rfl rfl rfl rfl (e_nil (a := ⟨b, 0, none⟩) rfl) ?_
 refine g_val (v := .pointer (some ⟨b, 19, none⟩)) rfl rfl rfl rfl rfl (e_fieldPt (b := b) (o := 0) rfl tw212) ?_
 refine g_val (v := .slice none 0 0) rfl rfl rfl rfl rfl (e_load1 tw213 (v := .slice none 0 0) rfl (k_pt 0 (cs := #[.slice none 0 0, .slice none 0 0, .slice none 0 0, .slice none 0 0, .slice p (hs.length) (c), .slice q (gs.length) (d), .slice s (us.length) (t), .slice none 0 0, .slice none 0 0, .slice none 0 0, .slice none 0 0, .slice none 0 0, .slice none 0 0, .slice none 0 0, .slice none 0 0, .slice none 0 0, .slice none 0 0, .slice none 0 0, .slice none 0 0, .slice none 0 0]) (vs := [.slice none 0 0]) rfl rfl)) ?_
 refine g_call rfl rfl rfl rfl rfl (cl_value (fst := []) (cap := []) (vs := [.slice none 0 0]) (all := [.slice none 0 0]) tw214 rfl rfl rfl) ?_
 intro w hw
 obtain ⟨β1, sb, kn, hw1, back⟩ := St.frame_all hw
 refine (flatStores_nil β1 w hw1).mono ?_
 rintro e w' ⟨rfl, hw'⟩
 refine ⟨_, rfl, _, back _ _ hw', ?_⟩
 clear hw hw1 hw' back kn sb
 refine l_val (v := .bool true) rfl rfl rfl (e_pick_t rfl) ?_
 refine l_val (v := .bool true) rfl rfl rfl (e_assign) ?_
 refine l_nil ?_
 refine f_then ?_
 refine c_ret ?_
 refine ret1 Tryz.results77 (v := .bool true) rfl ?_
 intro w hw
 exact ⟨rfl, st_mask [false, false, false] rfl (bk1 _ _ (st_mask [false] rfl hw))⟩
set_option maxHeartbeats 4000000 in
theorem apartW_ok (β : Base) (w : World) (la : Option Addr) (lc : Nat) (wa : Option Addr) (wc : Nat) (ya : Option Addr) (yc : Nat) (t1 t2 : Int) (ea : Option Addr) (ec : Nat) (es : List KHd) (fa : Option Addr) (fc : Nat) (fs : List KHd) (cv dv : List (HV KComp)) (hls : Sl H3F.R β.heap (.slice la 2 lc) [(⟨wa, 1, wc⟩ : H3), ⟨ya, 1, yc⟩]) (hcv : es.map KHd.h3 = cv.map HV.h) (hdv : fs.map KHd.h3 = dv.map HV.h) (hen : es.length ≤ 100) (hfn : fs.length ≤ 100) (hbc : ∀ v ∈ cv, v.xs.length ≤ 1000000) (hbd : ∀ v ∈ dv, v.xs.length ≤ 1000000) (hw : St β [rowF WdF 24 wa wc [(⟨t1, ea, es.length, ec⟩ : KWd)], rowF WdF 24 ya yc [(⟨t2, fa, fs.length, fc⟩ : KWd)], rowF HdF 59 ea ec es, rowF HdF 59 fa fc fs, Sat (cv.map (ownV CompF 120)), Sat (dv.map (ownV CompF 120))] w) : Calls Tryz.prog 26 #[.slice la 2 lc] w fun r w' => r = .returned (.bool true) ∧ St β [] w' := by
 obtain ⟨-, ll, lm, le⟩ := Sl.parts hls
 obtain ⟨hl0, cs0, hc0, rfl⟩ := le 0 _ rfl
 obtain ⟨hl1, cs1, hc1, rfl⟩ := le 1 _ rfl
 refine enter (n := 21) Tryz.func26 rfl Tryz.ntmps26 rfl ?_ hw
 refine c_seq ?_
 refine c_region ?_
 refine l_val (v := .bool false) rfl rfl rfl (e_assign) ?_
 refine l_nil ?_
 refine f_then ?_
 refine c_seq ?_
 refine c_region ?_
 refine l_val (v := .agg #[.slice none 0 0, .slice none 0 0, .slice none 0 0, .slice none 0 0, .slice none 0 0, .slice none 0 0, .slice none 0 0, .slice none 0 0, .slice none 0 0, .slice none 0 0, .slice none 0 0, .slice none 0 0, .slice none 0 0, .slice none 0 0, .slice none 0 0, .slice none 0 0, .slice none 0 0, .slice none 0 0, .slice none 0 0, .slice none 0 0]) rfl rfl rfl (e_build tw216 tw215 (vs := []) (cells := #[.slice none 0 0, .slice none 0 0, .slice none 0 0, .slice none 0 0, .slice none 0 0, .slice none 0 0, .slice none 0 0, .slice none 0 0, .slice none 0 0, .slice none 0 0, .slice none 0 0, .slice none 0 0, .slice none 0 0, .slice none 0 0, .slice none 0 0, .slice none 0 0, .slice none 0 0, .slice none 0 0, .slice none 0 0, .slice none 0 0]) rfl (by kernel_rfl)) ?_
 refine l_mv rfl rfl rfl (m_box (v := .agg #[.slice none 0 0, .slice none 0 0, .slice none 0 0, .slice none 0 0, .slice none 0 0, .slice none 0 0, .slice none 0 0, .slice none 0 0, .slice none 0 0, .slice none 0 0, .slice none 0 0, .slice none 0 0, .slice none 0 0, .slice none 0 0, .slice none 0 0, .slice none 0 0, .slice none 0 0, .slice none 0 0, .slice none 0 0, .slice none 0 0]) rfl) ?_
 rintro _ _ ⟨b1, rfl, rfl⟩
 refine l_val (v := .pointer (some ⟨b1, 0, none⟩)) rfl rfl rfl (e_assign) ?_
 refine l_nil ?_
 refine f_then ?_
 refine c_seq ?_
 refine c_seq ?_
 refine c_emp (r := rowF H3F 57 none 0 []) (row_nil _ _ _) ?_
 refine c_emp (r := rowF H3F 22 none 0 []) (row_nil _ _ _) ?_
 refine c_emp (r := rowF H3F 68 none 0 []) (row_nil _ _ _) ?_
 refine c_region ?_
 refine l_val (v := .int .i64 (0)) rfl rfl rfl (e_assign) ?_
 refine l_nil ?_
 refine f_then ?_
 refine c_block ?_
 refine c_unroll 3 ?_
 refine un_succ 2 ?_
 refine c_seq ?_
 refine c_seq ?_
 refine c_region ?_
 refine l_val (v := .int .i64 (0)) rfl rfl rfl (e_move) ?_
 refine l_val (v := .slice la (2) (lc)) rfl rfl rfl (e_move) ?_
 refine l_val (v := Nx (2)) rfl rfl rfl (e_len (a := la) (n := 2) (c := lc) rfl tw90) ?_
 refine l_val (v := .bool (decide ((0 : Int) < ((2 : Nat) : Int)))) rfl rfl rfl (e_lss (a := (0 : Int)) (b := ((2 : Nat) : Int)) rfl rfl) ?_
 refine l_nil ?_
 refine f_then ?_
 refine c_if ((0 : Int) < ((2 : Nat) : Int)) rfl (fun hc2 => ?_) (fun hc2 => ?_)
 ·
  refine c_skip ?_
  refine f_then ?_
  refine c_seq ?_
  refine c_block ?_
  refine c_region ?_
  refine l_val (v := .pointer (some ⟨b1, 0, none⟩)) rfl rfl rfl (e_move) ?_
  refine l_val (v := .slice la (2) (lc)) rfl rfl rfl (e_move) ?_
  refine l_val (v := .int .i64 (0)) rfl rfl rfl (e_move) ?_
  refine l_val (v := .pointer (some ((ba la).add (0 * 1)))) rfl rfl rfl (e_indexAddr (k := 0) (len := 2) (cap := lc) (a := la) rfl rfl tw91 (by omega) hl0) ?_
  refine l_val (v := .slice wa (1) wc) rfl rfl rfl (e_load1 tw92 (v := .slice wa (1) wc) rfl (Knows.of_base (Cs.mono _ _) hc0)) ?_
  refine l_call rfl rfl rfl (cl_value (fst := []) (cap := []) (vs := [.pointer (some ⟨b1, 0, none⟩), .slice wa (1) wc]) (all := [.pointer (some ⟨b1, 0, none⟩), .slice wa (1) wc]) tw217 rfl rfl rfl) ?_
  intro w hw
  replace hw := hw.perm (L' := _ :: _ :: _ :: _ :: _ :: _ :: _ :: _ :: _ :: _ :: []) (by exact ((((((((((perm_front 9 rfl).trans (perm_front 9 rfl)).trans (perm_front 9 rfl)).trans (perm_front 9 rfl)).trans (perm_front 9 rfl)).trans (perm_front 9 rfl)).trans (perm_front 6 rfl)).trans (perm_front 7 rfl)).trans (perm_front 8 rfl)).trans (perm_front 9 rfl)))
  obtain ⟨β1, sb, kn, hw1, back⟩ := St.frame (L := [_, _, _, _]) (M := _ :: _ :: _ :: _ :: _ :: _ :: []) hw
  refine (putW_ok β1 w b1 none 0 [] none 0 [] (by first | omega | (simp only [List.length_append, List.length_map, List.length_cons, List.length_nil]; omega)) (by first | omega | (simp only [List.length_append, List.length_map, List.length_cons, List.length_nil]; omega)) none 0 [] (by first | omega | (simp only [List.length_append, List.length_map, List.length_cons, List.length_nil]; omega)) t1 wa wc ea ec es (kn _ (k_flN 2 (F := HdF) (m := es.length) (xs := es) rfl rfl)) (by omega) (kn _ (k_flN 0 (F := WdF) (m := 1) (xs := [(⟨t1, ea, es.length, ec⟩ : KWd)]) rfl rfl)) hw1).mono ?_
  rintro e w' ⟨p3, c4, q5, d6, s7, t8, rfl, hw'⟩
  refine ⟨_, rfl, _, back _ _ hw', ?_⟩
  clear hw hw1 hw' back kn sb
  refine l_nil ?_
  refine f_block ?_
  refine f_then ?_
  refine c_region ?_
  refine l_val (v := .int .i64 (0)) rfl rfl rfl (e_move) ?_
  refine l_val (v := .int .i64 (1)) rfl rfl rfl (e_add (a := (0 : Int)) (b := (1 : Int)) rfl rfl (by decide)) ?_
  refine l_val (v := .int .i64 (1)) rfl rfl rfl (e_assign) ?_
  refine l_nil ?_
  refine f_cut ?_
  refine un_succ 1 ?_
  refine c_seq ?_
  refine c_seq ?_
  refine c_region ?_
  refine l_val (v := .int .i64 (1)) rfl rfl rfl (e_move) ?_
  refine l_val (v := .slice la (2) (lc)) rfl rfl rfl (e_move) ?_
  refine l_val (v := Nx (2)) rfl rfl rfl (e_len (a := la) (n := 2) (c := lc) rfl tw90) ?_
  refine l_val (v := .bool (decide ((1 : Int) < ((2 : Nat) : Int)))) rfl rfl rfl (e_lss (a := (1 : Int)) (b := ((2 : Nat) : Int)) rfl rfl) ?_
  refine l_nil ?_
  refine f_then ?_
  refine c_if ((1 : Int) < ((2 : Nat) : Int)) rfl (fun hc9 => ?_) (fun hc9 => ?_)
  ·
   refine c_skip ?_
   refine f_then ?_
   refine c_seq ?_
   refine c_block ?_
   refine c_region ?_
   refine l_val (v := .pointer (some ⟨b1, 0, none⟩)) rfl rfl rfl (e_move) ?_
   refine l_val (v := .slice la (2) (lc)) rfl rfl rfl (e_move) ?_
   refine l_val (v := .int .i64 (1)) rfl rfl rfl (e_move) ?_
   refine l_val (v := .pointer (some ((ba la).add (1 * 1)))) rfl rfl rfl (e_indexAddr (k := 1) (len := 2) (cap := lc) (a := la) rfl rfl tw91 (by omega) hl1) ?_
   refine l_val (v := .slice ya (1) yc) rfl rfl rfl (e_load1 tw92 (v := .slice ya (1) yc) rfl (Knows.of_base (Cs.mono _ _) hc1)) ?_
   refine l_call rfl rfl rfl (cl_value (fst := []) (cap := []) (vs := [.pointer (some ⟨b1, 0, none⟩), .slice ya (1) yc]) (all := [.pointer (some ⟨b1, 0, none⟩), .slice ya (1) yc]) tw217 rfl rfl rfl) ?_
   intro w hw
   replace hw := hw.perm (L' := _ :: _ :: _ :: _ :: _ :: _ :: _ :: _ :: _ :: _ :: []) (by exact ((((((((((perm_front 9 rfl).trans (perm_front 9 rfl)).trans (perm_front 9 rfl)).trans (perm_front 9 rfl)).trans (perm_front 9 rfl)).trans (perm_front 9 rfl)).trans (perm_front 9 rfl)).trans (perm_front 9 rfl)).trans (perm_front 9 rfl)).trans (perm_front 9 rfl)))
   obtain ⟨β1, sb, kn, hw1, back⟩ := St.frame (L := [_, _, _, _]) (M := _ :: _ :: _ :: _ :: _ :: _ :: []) hw
   refine (putW_ok β1 w b1 p3 c4 ([] ++ es.map KHd.h3) q5 d6 ([] ++ [(⟨ea, es.length, ec⟩ : H3)]) (by first | omega | (simp only [List.length_append, List.length_map, List.length_cons, List.length_nil]; omega)) (by first | omega | (simp only [List.length_append, List.length_map, List.length_cons, List.length_nil]; omega)) s7 t8 ([] ++ [(⟨wa, 1, wc⟩ : H3)]) (by first | omega | (simp only [List.length_append, List.length_map, List.length_cons, List.length_nil]; omega)) t2 ya yc fa fc fs (kn _ (k_flN 3 (F := HdF) (m := fs.length) (xs := fs) rfl rfl)) (by omega) (kn _ (k_flN 1 (F := WdF) (m := 1) (xs := [(⟨t2, fa, fs.length, fc⟩ : KWd)]) rfl rfl)) hw1).mono ?_
   rintro e w' ⟨p10, c11, q12, d13, s14, t15, rfl, hw'⟩
   refine ⟨_, rfl, _, back _ _ hw', ?_⟩
   clear hw hw1 hw' back kn sb
   refine l_nil ?_
   refine f_block ?_
   refine f_then ?_
   refine c_region ?_
   refine l_val (v := .int .i64 (1)) rfl rfl rfl (e_move) ?_
   refine l_val (v := .int .i64 (2)) rfl rfl rfl (e_add (a := (1 : Int)) (b := (1 : Int)) rfl rfl (by decide)) ?_
   refine l_val (v := .int .i64 (2)) rfl rfl rfl (e_assign) ?_
   refine l_nil ?_
   refine f_cut ?_
   refine un_succ 0 ?_
   refine c_seq ?_
   refine c_seq ?_
   refine c_region ?_
   refine l_val (v := .int .i64 (2)) rfl rfl rfl (e_move) ?_
   refine l_val (v := .slice la (2) (lc)) rfl rfl rfl (e_move) ?_
   refine l_val (v := Nx (2)) rfl rfl rfl (e_len (a := la) (n := 2) (c := lc) rfl tw90) ?_
   refine l_val (v := .bool (decide ((2 : Int) < ((2 : Nat) : Int)))) rfl rfl rfl (e_lss (a := (2 : Int)) (b := ((2 : Nat) : Int)) rfl rfl) ?_
   refine l_nil ?_
   refine f_then ?_
   refine c_if ((2 : Int) < ((2 : Nat) : Int)) rfl (fun hc16 => ?_) (fun hc16 => ?_)
   ·
    exact absurd hc16 (by decide)
   ·
    refine c_exit ?_
    refine f_then_exit ?_
    refine f_then_exit ?_
    refine f_exit ?_
    refine f_then ?_
    refine c_seq ?_
    refine c_perm (L' := [Sat (cv.map (ownV CompF 120)), Sat (dv.map (ownV CompF 120)), pt b1 (.cells #[.slice none 0 0, .slice none 0 0, .slice none 0 0, .slice none 0 0, .slice p10 ((([] ++ es.map KHd.h3) ++ fs.map KHd.h3).length) c11, .slice q12 ((([] ++ [(⟨ea, es.length, ec⟩ : H3)]) ++ [(⟨fa, fs.length, fc⟩ : H3)]).length) d13, .slice s14 ((([] ++ [(⟨wa, 1, wc⟩ : H3)]) ++ [(⟨ya, 1, yc⟩ : H3)]).length) t15, .slice none 0 0, .slice none 0 0, .slice none 0 0, .slice none 0 0, .slice none 0 0, .slice none 0 0, .slice none 0 0, .slice none 0 0, .slice none 0 0, .slice none 0 0, .slice none 0 0, .slice none 0 0, .slice none 0 0] 149), rowF H3F 57 p10 c11 (([] ++ es.map KHd.h3) ++ fs.map KHd.h3), rowF H3F 22 q12 d13 (([] ++ [(⟨ea, es.length, ec⟩ : H3)]) ++ [(⟨fa, fs.length, fc⟩ : H3)]), rowF H3F 68 s14 t15 (([] ++ [(⟨wa, 1, wc⟩ : H3)]) ++ [(⟨ya, 1, yc⟩ : H3)]), rowF WdF 24 wa wc [(⟨t1, ea, es.length, ec⟩ : KWd)], rowF WdF 24 ya yc [(⟨t2, fa, fs.length, fc⟩ : KWd)], rowF HdF 59 ea ec es, rowF HdF 59 fa fc fs]) (perm_ix [8, 9, 0, 1, 2, 3, 4, 5, 6, 7] 10 rfl (by kernel_rfl) (by kernel_rfl)) ?_
    refine c_merge (L := [Sat (cv.map (ownV CompF 120)), Sat (dv.map (ownV CompF 120))]) (M := [pt b1 (.cells #[.slice none 0 0, .slice none 0 0, .slice none 0 0, .slice none 0 0, .slice p10 ((([] ++ es.map KHd.h3) ++ fs.map KHd.h3).length) c11, .slice q12 ((([] ++ [(⟨ea, es.length, ec⟩ : H3)]) ++ [(⟨fa, fs.length, fc⟩ : H3)]).length) d13, .slice s14 ((([] ++ [(⟨wa, 1, wc⟩ : H3)]) ++ [(⟨ya, 1, yc⟩ : H3)]).length) t15, .slice none 0 0, .slice none 0 0, .slice none 0 0, .slice none 0 0, .slice none 0 0, .slice none 0 0, .slice none 0 0, .slice none 0 0, .slice none 0 0, .slice none 0 0, .slice none 0 0, .slice none 0 0, .slice none 0 0] 149), rowF H3F 57 p10 c11 (([] ++ es.map KHd.h3) ++ fs.map KHd.h3), rowF H3F 22 q12 d13 (([] ++ [(⟨ea, es.length, ec⟩ : H3)]) ++ [(⟨fa, fs.length, fc⟩ : H3)]), rowF H3F 68 s14 t15 (([] ++ [(⟨wa, 1, wc⟩ : H3)]) ++ [(⟨ya, 1, yc⟩ : H3)]), rowF WdF 24 wa wc [(⟨t1, ea, es.length, ec⟩ : KWd)], rowF WdF 24 ya yc [(⟨t2, fa, fs.length, fc⟩ : KWd)], rowF HdF 59 ea ec es, rowF HdF 59 fa fc fs]) (r := Sat ((cv ++ dv).map (ownV CompF 120))) sat_app ?_
    refine c_perm (L' := [rowF HdF 59 ea ec es, rowF HdF 59 fa fc fs, Sat ((cv ++ dv).map (ownV CompF 120)), pt b1 (.cells #[.slice none 0 0, .slice none 0 0, .slice none 0 0, .slice none 0 0, .slice p10 ((([] ++ es.map KHd.h3) ++ fs.map KHd.h3).length) c11, .slice q12 ((([] ++ [(⟨ea, es.length, ec⟩ : H3)]) ++ [(⟨fa, fs.length, fc⟩ : H3)]).length) d13, .slice s14 ((([] ++ [(⟨wa, 1, wc⟩ : H3)]) ++ [(⟨ya, 1, yc⟩ : H3)]).length) t15, .slice none 0 0, .slice none 0 0, .slice none 0 0, .slice none 0 0, .slice none 0 0, .slice none 0 0, .slice none 0 0, .slice none 0 0, .slice none 0 0, .slice none 0 0, .slice none 0 0, .slice none 0 0, .slice none 0 0] 149), rowF H3F 57 p10 c11 (([] ++ es.map KHd.h3) ++ fs.map KHd.h3), rowF H3F 22 q12 d13 (([] ++ [(⟨ea, es.length, ec⟩ : H3)]) ++ [(⟨fa, fs.length, fc⟩ : H3)]), rowF H3F 68 s14 t15 (([] ++ [(⟨wa, 1, wc⟩ : H3)]) ++ [(⟨ya, 1, yc⟩ : H3)]), rowF WdF 24 wa wc [(⟨t1, ea, es.length, ec⟩ : KWd)], rowF WdF 24 ya yc [(⟨t2, fa, fs.length, fc⟩ : KWd)]]) (perm_ix [7, 8, 0, 1, 2, 3, 4, 5, 6] 9 rfl (by kernel_rfl) (by kernel_rfl)) ?_
    refine c_merge (L := [rowF HdF 59 ea ec es, rowF HdF 59 fa fc fs]) (M := [Sat ((cv ++ dv).map (ownV CompF 120)), pt b1 (.cells #[.slice none 0 0, .slice none 0 0, .slice none 0 0, .slice none 0 0, .slice p10 ((([] ++ es.map KHd.h3) ++ fs.map KHd.h3).length) c11, .slice q12 ((([] ++ [(⟨ea, es.length, ec⟩ : H3)]) ++ [(⟨fa, fs.length, fc⟩ : H3)]).length) d13, .slice s14 ((([] ++ [(⟨wa, 1, wc⟩ : H3)]) ++ [(⟨ya, 1, yc⟩ : H3)]).length) t15, .slice none 0 0, .slice none 0 0, .slice none 0 0, .slice none 0 0, .slice none 0 0, .slice none 0 0, .slice none 0 0, .slice none 0 0, .slice none 0 0, .slice none 0 0, .slice none 0 0, .slice none 0 0, .slice none 0 0] 149), rowF H3F 57 p10 c11 (([] ++ es.map KHd.h3) ++ fs.map KHd.h3), rowF H3F 22 q12 d13 (([] ++ [(⟨ea, es.length, ec⟩ : H3)]) ++ [(⟨fa, fs.length, fc⟩ : H3)]), rowF H3F 68 s14 t15 (([] ++ [(⟨wa, 1, wc⟩ : H3)]) ++ [(⟨ya, 1, yc⟩ : H3)]), rowF WdF 24 wa wc [(⟨t1, ea, es.length, ec⟩ : KWd)], rowF WdF 24 ya yc [(⟨t2, fa, fs.length, fc⟩ : KWd)]]) (r := Sat ([(⟨ea, ec, es⟩ : HV KHd), ⟨fa, fc, fs⟩].map (ownV HdF 59))) (fun _ q => q) ?_
    refine c_perm (L' := [rowF WdF 24 wa wc [(⟨t1, ea, es.length, ec⟩ : KWd)], rowF WdF 24 ya yc [(⟨t2, fa, fs.length, fc⟩ : KWd)], Sat ([(⟨ea, ec, es⟩ : HV KHd), ⟨fa, fc, fs⟩].map (ownV HdF 59)), Sat ((cv ++ dv).map (ownV CompF 120)), pt b1 (.cells #[.slice none 0 0, .slice none 0 0, .slice none 0 0, .slice none 0 0, .slice p10 ((([] ++ es.map KHd.h3) ++ fs.map KHd.h3).length) c11, .slice q12 ((([] ++ [(⟨ea, es.length, ec⟩ : H3)]) ++ [(⟨fa, fs.length, fc⟩ : H3)]).length) d13, .slice s14 ((([] ++ [(⟨wa, 1, wc⟩ : H3)]) ++ [(⟨ya, 1, yc⟩ : H3)]).length) t15, .slice none 0 0, .slice none 0 0, .slice none 0 0, .slice none 0 0, .slice none 0 0, .slice none 0 0, .slice none 0 0, .slice none 0 0, .slice none 0 0, .slice none 0 0, .slice none 0 0, .slice none 0 0, .slice none 0 0] 149), rowF H3F 57 p10 c11 (([] ++ es.map KHd.h3) ++ fs.map KHd.h3), rowF H3F 22 q12 d13 (([] ++ [(⟨ea, es.length, ec⟩ : H3)]) ++ [(⟨fa, fs.length, fc⟩ : H3)]), rowF H3F 68 s14 t15 (([] ++ [(⟨wa, 1, wc⟩ : H3)]) ++ [(⟨ya, 1, yc⟩ : H3)])]) (perm_ix [6, 7, 0, 1, 2, 3, 4, 5] 8 rfl (by kernel_rfl) (by kernel_rfl)) ?_
    refine c_merge (L := [rowF WdF 24 wa wc [(⟨t1, ea, es.length, ec⟩ : KWd)], rowF WdF 24 ya yc [(⟨t2, fa, fs.length, fc⟩ : KWd)]]) (M := [Sat ([(⟨ea, ec, es⟩ : HV KHd), ⟨fa, fc, fs⟩].map (ownV HdF 59)), Sat ((cv ++ dv).map (ownV CompF 120)), pt b1 (.cells #[.slice none 0 0, .slice none 0 0, .slice none 0 0, .slice none 0 0, .slice p10 ((([] ++ es.map KHd.h3) ++ fs.map KHd.h3).length) c11, .slice q12 ((([] ++ [(⟨ea, es.length, ec⟩ : H3)]) ++ [(⟨fa, fs.length, fc⟩ : H3)]).length) d13, .slice s14 ((([] ++ [(⟨wa, 1, wc⟩ : H3)]) ++ [(⟨ya, 1, yc⟩ : H3)]).length) t15, .slice none 0 0, .slice none 0 0, .slice none 0 0, .slice none 0 0, .slice none 0 0, .slice none 0 0, .slice none 0 0, .slice none 0 0, .slice none 0 0, .slice none 0 0, .slice none 0 0, .slice none 0 0, .slice none 0 0] 149), rowF H3F 57 p10 c11 (([] ++ es.map KHd.h3) ++ fs.map KHd.h3), rowF H3F 22 q12 d13 (([] ++ [(⟨ea, es.length, ec⟩ : H3)]) ++ [(⟨fa, fs.length, fc⟩ : H3)]), rowF H3F 68 s14 t15 (([] ++ [(⟨wa, 1, wc⟩ : H3)]) ++ [(⟨ya, 1, yc⟩ : H3)])]) (r := Sat ([(⟨wa, wc, [(⟨t1, ea, es.length, ec⟩ : KWd)]⟩ : HV KWd), ⟨ya, yc, [(⟨t2, fa, fs.length, fc⟩ : KWd)]⟩].map (ownV WdF 24))) (fun _ q => q) ?_
    refine c_region ?_
    refine l_val (v := .pointer (some ⟨b1, 0, none⟩)) rfl rfl rfl (e_move) ?_
    refine l_call rfl rfl rfl (cl_value (fst := []) (cap := []) (vs := [.pointer (some ⟨b1, 0, none⟩)]) (all := [.pointer (some ⟨b1, 0, none⟩)]) tw218 rfl rfl rfl) ?_
    intro w hw
    replace hw := hw.perm (L' := _ :: _ :: _ :: _ :: _ :: _ :: _ :: []) (by exact (((((((perm_front 0 rfl).trans (perm_front 1 rfl)).trans (perm_front 2 rfl)).trans (perm_front 6 rfl)).trans (perm_front 6 rfl)).trans (perm_front 6 rfl)).trans (perm_front 6 rfl)))
    obtain ⟨β1, sb, kn, hw1, back⟩ := St.frame (L := [_, _, _, _, _, _, _]) (M := []) hw
    refine (bagW_ok β1 w b1 p10 c11 _ q12 d13 _ s14 t15 _ (by first | omega | (simp only [List.length_append, List.length_map, List.length_cons, List.length_nil]; omega)) (by first | omega | (simp only [List.length_append, List.length_map, List.length_cons, List.length_nil]; omega)) (by first | omega | (simp only [List.length_append, List.length_map, List.length_cons, List.length_nil]; omega)) (cv ++ dv) (by rw [List.nil_append, List.map_append, hcv, hdv]) (fun v h => (List.mem_append.1 h).elim (hbc v) (hbd v)) [(⟨ea, ec, es⟩ : HV KHd), ⟨fa, fc, fs⟩] rfl (mem2 (by show es.length ≤ _; omega) (by show fs.length ≤ _; omega)) [(⟨wa, wc, [(⟨t1, ea, es.length, ec⟩ : KWd)]⟩ : HV KWd), ⟨ya, yc, [(⟨t2, fa, fs.length, fc⟩ : KWd)]⟩] rfl (mem2 (by simp) (by simp)) hw1).mono ?_
    rintro e w' ⟨rfl, hw'⟩
    refine ⟨_, rfl, _, back _ _ hw', ?_⟩
    clear hw hw1 hw' back kn sb
    refine l_val (v := .bool true) rfl rfl rfl (e_assign) ?_
    refine l_nil ?_
    refine f_then ?_
    refine c_ret ?_
    refine ret1 Tryz.results26 (v := .bool true) rfl ?_
    intro w hw
    exact ⟨rfl, st_mask [] rfl hw⟩
  ·
   exact absurd (by decide) hc9
 ·
  exact absurd (by decide) hc2
end Go.Proofs
