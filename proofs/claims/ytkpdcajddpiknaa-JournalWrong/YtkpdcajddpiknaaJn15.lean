/-
 JournalEvery, walked. Printed by a program of my own.
-/
import Derived.Test.YtkpdcajddpiknaaJn12
import Derived.Test.YtkpdcajddpiknaaJnLaw8
namespace Go.Proofs
open Go Go.Sl Go.Jn
theorem tf117 : cfB Try.prog 72 = true := by kernel_rfl
theorem tf118 : cfB Try.prog 32 = true := by kernel_rfl
theorem copyb_ok (β : Base) (w : World) (hw : St β [] w) (xs : Bs) (v : Value) (hx : xs.length ≤ 1048576) (hs : Sl U8R β.heap v xs) : Calls Try.prog 72 #[v] w fun r w' => ∃ p c, r = .returned (.slice p xs.length c) ∧ St β [row (.slice p xs.length c) 5 1 xs.length (BX xs)] w' := by
 obtain ⟨va, vc, rfl, vl, vm, ve⟩ := hs.get
 refine enter (n := 7) Try.func72 rfl Try.ntmps72 rfl ?_ hw
 refine c_seq ?_
 refine c_region ?_
 refine l_val (v := .slice none 0 0) rfl rfl rfl (e_assign) ?_
 refine l_nil ?_
 refine f_then ?_
 refine c_seq ?_
 refine c_region ?_
 refine l_val (v := .slice none 0 0) rfl rfl rfl (e_assign) ?_
 refine l_nil ?_
 refine f_then ?_
 refine c_seq ?_
 refine c_region ?_
 refine l_val (v := .slice none 0 0) rfl rfl rfl (e_move) ?_
 refine l_val (v := .slice va (xs.length) (vc)) rfl rfl rfl (e_move) ?_
 refine l_emp (r := row (.slice none 0 0) 5 1 0 (BX [])) (row_nil _ _ _) ?_
 refine l_mv rfl rfl rfl (m_appendE (enc := fun c : UInt8 => Bx c) 0 bx_cell tf12 tf15 (v := .slice none 0 0) (xs := []) (ys := xs) (ao := va) (c := vc) rfl rfl (by first | rfl | simp) rfl (by first | rfl | simp) (Knows.of_base (Elems.mono _ _ _) ve) (by first | omega | (simp only [List.length_append, List.length_nil, List.length_cons, be_length] at *; omega)) (by first | omega | (simp only [List.length_append, List.length_nil, List.length_cons, be_length] at *; omega))) ?_
 rintro _ _ ⟨rp1, rc2, rfl, rfl⟩
 refine l_val (v := .slice rp1 ([] ++ xs).length rc2) rfl rfl rfl (e_assign) ?_
 refine l_nil ?_
 refine f_then ?_
 refine c_ret ?_
 refine ret1 Try.results72 (v := .slice rp1 ([] ++ xs).length rc2) rfl ?_
 intro w hw
 exact ⟨_, _, rfl, st_mask [true] rfl hw⟩
theorem copys_ok (β : Base) (w : World) (hw : St β [] w) (k : KS) (vh va vb : Value) (hH : Sl U8R β.heap vh k.head) (hA : Sl U8R β.heap va k.a) (hB : Sl U8R β.heap vb k.b) (h1 : k.head.length ≤ 1048576) (h2 : k.a.length ≤ 1048576) (h3 : k.b.length ≤ 1048576) : Calls Try.prog 32 #[.agg #[vh, va, vb, Ix k.power]] w fun r w' => ∃ pH pA pB cH cA cB, r = .returned (.agg #[.slice pH k.head.length cH, .slice pA k.a.length cA, .slice pB k.b.length cB, Ix k.power]) ∧ St β [row (.slice pH k.head.length cH) 5 1 k.head.length (BX k.head), row (.slice pA k.a.length cA) 5 1 k.a.length (BX k.a), row (.slice pB k.b.length cB) 5 1 k.b.length (BX k.b)] w' := by
 obtain ⟨vha, vhc, rfl, vhl, vhm, vhe⟩ := hH.get
 obtain ⟨vaa, vac, rfl, val, vam, vae⟩ := hA.get
 obtain ⟨vba, vbc, rfl, vbl, vbm, vbe⟩ := hB.get
 refine enter (n := 16) Try.func32 rfl Try.ntmps32 rfl ?_ hw
 refine c_seq ?_
 refine c_region ?_
 refine l_mv rfl rfl rfl (m_box (v := .agg #[.slice vha (k.head.length) (vhc), .slice vaa (k.a.length) (vac), .slice vba (k.b.length) (vbc), Ix (k.power)]) rfl) ?_
 rintro _ _ ⟨b1, rfl, rfl⟩
 refine l_mv rfl rfl rfl (m_alloc tf106) ?_
 rintro _ _ ⟨b2, rfl, rfl⟩
 refine l_nil ?_
 refine f_then ?_
 refine c_seq ?_
 refine c_region ?_
 refine l_val (v := .pointer (some ⟨b1, 0, none⟩)) rfl rfl rfl (e_fieldPt (b := b1) (o := 0) rfl tf20) ?_
 refine l_val (v := .slice vha (k.head.length) (vhc)) rfl rfl rfl (e_load1 tf21 (v := .slice vha (k.head.length) (vhc)) rfl (k_pt 1 (cs := #[.slice vha (k.head.length) (vhc), .slice vaa (k.a.length) (vac), .slice vba (k.b.length) (vbc), Ix (k.power)]) (vs := [.slice vha (k.head.length) (vhc)]) rfl rfl)) ?_
 refine l_call rfl rfl rfl (cl_value (fst := []) (cap := []) (vs := [.slice vha (k.head.length) (vhc)]) (all := [.slice vha (k.head.length) (vhc)]) tf117 rfl rfl rfl) ?_
 intro w hw
 obtain ⟨β1, sb, kn, hw1, back⟩ := St.frame_all hw
 refine (copyb_ok β1 w hw1 k.head _ (by omega) (Sl.mono _ _ _ _ _ sb (⟨⟨_, _, rfl, vhl, vhm, vhe⟩⟩ : Sl U8R _ _ k.head))).mono ?_
 rintro e w' ⟨p3, c4, rfl, hw'⟩
 refine ⟨_, rfl, _, back _ _ hw', ?_⟩
 clear hw hw1 hw' back kn sb
 refine l_val (v := .pointer (some ⟨b1, 0, none⟩)) rfl rfl rfl (e_fieldPt (b := b1) (o := 0) rfl tf20) ?_
 refine l_mu rfl rfl (m_store 2 tf21 (b := b1) (o := 0) (T := 32) (cs := #[.slice vha (k.head.length) (vhc), .slice vaa (k.a.length) (vac), .slice vba (k.b.length) (vbc), Ix (k.power)]) (cs' := #[.slice p3 (k.head).length c4, .slice vaa (k.a.length) (vac), .slice vba (k.b.length) (vbc), Ix (k.power)]) (v := .slice p3 (k.head).length c4) rfl rfl rfl rfl rfl rfl rfl) ?_
 refine l_nil ?_
 refine f_then ?_
 refine c_seq ?_
 refine c_region ?_
 refine l_val (v := .pointer (some ⟨b1, 1, none⟩)) rfl rfl rfl (e_fieldPt (b := b1) (o := 0) rfl tf22) ?_
 refine l_val (v := .slice vaa (k.a.length) (vac)) rfl rfl rfl (e_load1 tf21 (v := .slice vaa (k.a.length) (vac)) rfl (k_pt 2 (cs := #[.slice p3 (k.head).length c4, .slice vaa (k.a.length) (vac), .slice vba (k.b.length) (vbc), Ix (k.power)]) (vs := [.slice vaa (k.a.length) (vac)]) rfl rfl)) ?_
 refine l_call rfl rfl rfl (cl_value (fst := []) (cap := []) (vs := [.slice vaa (k.a.length) (vac)]) (all := [.slice vaa (k.a.length) (vac)]) tf117 rfl rfl rfl) ?_
 intro w hw
 obtain ⟨β1, sb, kn, hw1, back⟩ := St.frame_all hw
 refine (copyb_ok β1 w hw1 k.a _ (by omega) (Sl.mono _ _ _ _ _ sb (⟨⟨_, _, rfl, val, vam, vae⟩⟩ : Sl U8R _ _ k.a))).mono ?_
 rintro e w' ⟨p5, c6, rfl, hw'⟩
 refine ⟨_, rfl, _, back _ _ hw', ?_⟩
 clear hw hw1 hw' back kn sb
 refine l_val (v := .pointer (some ⟨b1, 1, none⟩)) rfl rfl rfl (e_fieldPt (b := b1) (o := 0) rfl tf22) ?_
 refine l_mu rfl rfl (m_store 3 tf21 (b := b1) (o := 1) (T := 32) (cs := #[.slice p3 (k.head).length c4, .slice vaa (k.a.length) (vac), .slice vba (k.b.length) (vbc), Ix (k.power)]) (cs' := #[.slice p3 (k.head).length c4, .slice p5 (k.a).length c6, .slice vba (k.b.length) (vbc), Ix (k.power)]) (v := .slice p5 (k.a).length c6) rfl rfl rfl rfl rfl rfl rfl) ?_
 refine l_nil ?_
 refine f_then ?_
 refine c_seq ?_
 refine c_region ?_
 refine l_val (v := .pointer (some ⟨b1, 2, none⟩)) rfl rfl rfl (e_fieldPt (b := b1) (o := 0) rfl tf23) ?_
 refine l_val (v := .slice vba (k.b.length) (vbc)) rfl rfl rfl (e_load1 tf21 (v := .slice vba (k.b.length) (vbc)) rfl (k_pt 3 (cs := #[.slice p3 (k.head).length c4, .slice p5 (k.a).length c6, .slice vba (k.b.length) (vbc), Ix (k.power)]) (vs := [.slice vba (k.b.length) (vbc)]) rfl rfl)) ?_
 refine l_call rfl rfl rfl (cl_value (fst := []) (cap := []) (vs := [.slice vba (k.b.length) (vbc)]) (all := [.slice vba (k.b.length) (vbc)]) tf117 rfl rfl rfl) ?_
 intro w hw
 obtain ⟨β1, sb, kn, hw1, back⟩ := St.frame_all hw
 refine (copyb_ok β1 w hw1 k.b _ (by omega) (Sl.mono _ _ _ _ _ sb (⟨⟨_, _, rfl, vbl, vbm, vbe⟩⟩ : Sl U8R _ _ k.b))).mono ?_
 rintro e w' ⟨p7, c8, rfl, hw'⟩
 refine ⟨_, rfl, _, back _ _ hw', ?_⟩
 clear hw hw1 hw' back kn sb
 refine l_val (v := .pointer (some ⟨b1, 2, none⟩)) rfl rfl rfl (e_fieldPt (b := b1) (o := 0) rfl tf23) ?_
 refine l_mu rfl rfl (m_store 4 tf21 (b := b1) (o := 2) (T := 32) (cs := #[.slice p3 (k.head).length c4, .slice p5 (k.a).length c6, .slice vba (k.b.length) (vbc), Ix (k.power)]) (cs' := #[.slice p3 (k.head).length c4, .slice p5 (k.a).length c6, .slice p7 (k.b).length c8, Ix (k.power)]) (v := .slice p7 (k.b).length c8) rfl rfl rfl rfl rfl rfl rfl) ?_
 refine l_nil ?_
 refine f_then ?_
 refine c_seq ?_
 refine c_region ?_
 refine l_val (v := .agg #[.slice p3 (k.head).length c4, .slice p5 (k.a).length c6, .slice p7 (k.b).length c8, Ix (k.power)]) rfl rfl rfl (e_load tf56 (cs := [.slice p3 (k.head).length c4, .slice p5 (k.a).length c6, .slice p7 (k.b).length c8, Ix (k.power)]) rfl (k_pt 4 (cs := #[.slice p3 (k.head).length c4, .slice p5 (k.a).length c6, .slice p7 (k.b).length c8, Ix (k.power)]) (vs := [.slice p3 (k.head).length c4, .slice p5 (k.a).length c6, .slice p7 (k.b).length c8, Ix (k.power)]) rfl rfl) rfl) ?_
 refine l_mu rfl rfl (m_store 3 tf56 (b := b2) (o := 0) (T := 32) (cs := #[.slice none 0 0, .slice none 0 0, .slice none 0 0, .int .i64 (0)]) (cs' := #[.slice p3 (k.head).length c4, .slice p5 (k.a).length c6, .slice p7 (k.b).length c8, Ix (k.power)]) (v := .agg #[.slice p3 (k.head).length c4, .slice p5 (k.a).length c6, .slice p7 (k.b).length c8, Ix (k.power)]) rfl rfl rfl rfl rfl rfl rfl) ?_
 refine l_nil ?_
 refine f_then ?_
 refine c_ret ?_
 refine retG (l := [.cell 2 32]) (m := [.agg #[.slice p3 (k.head).length c4, .slice p5 (k.a).length c6, .slice p7 (k.b).length c8, Ix (k.power)]]) (v := .agg #[.slice p3 (k.head).length c4, .slice p5 (k.a).length c6, .slice p7 (k.b).length c8, Ix (k.power)]) Try.results32 ⟨rd_cell tf56 (cs := [.slice p3 (k.head).length c4, .slice p5 (k.a).length c6, .slice p7 (k.b).length c8, Ix (k.power)]) rfl (k_pt 3 (cs := #[.slice p3 (k.head).length c4, .slice p5 (k.a).length c6, .slice p7 (k.b).length c8, Ix (k.power)]) (vs := [.slice p3 (k.head).length c4, .slice p5 (k.a).length c6, .slice p7 (k.b).length c8, Ix (k.power)]) rfl rfl) rfl, trivial⟩ rfl ?_
 intro w hw
 exact ⟨_, _, _, _, _, _, rfl, st_mask [true, true, true, false, false] rfl (hw.perm (L' := [row (.slice p3 (k.head).length c4) 5 1 ((k.head).length) (BX k.head), row (.slice p5 (k.a).length c6) 5 1 ((k.a).length) (BX k.a), row (.slice p7 (k.b).length c8) 5 1 ((k.b).length) (BX k.b), pt b2 (.cells #[.slice p3 (k.head).length c4, .slice p5 (k.a).length c6, .slice p7 (k.b).length c8, Ix (k.power)] 32), pt b1 (.cells #[.slice p3 (k.head).length c4, .slice p5 (k.a).length c6, .slice p7 (k.b).length c8, Ix (k.power)] 32)]) (by exact (((((perm_front 4 rfl).trans (perm_front 4 rfl)).trans (perm_front 2 rfl)).trans (perm_front 3 rfl)).trans (perm_front 4 rfl))))⟩
end Go.Proofs
