/-
 JournalEvery, walked. Printed by a program of my own.
-/
import Derived.Test.YtkpdcajddpiknaaJn12
import Derived.Test.YtkpdcajddpiknaaJnLaw8
import Derived.Test.YtkpdcajddpiknaaSlC
namespace Go.Proofs
open Go Go.Sl Go.Jn
theorem tf117 : cfB Try.prog 72 = true := by kernel_rfl
theorem tf118 : cfB Try.prog 32 = true := by kernel_rfl
theorem copyb_ok (β : Base) (w : World) (hw : St β [] w) (xs : Bs) (v : Value) (hx : xs.length ≤ 1048576) (hs : Sl U8R β.heap v xs) : Calls Try.prog 72 #[v] w fun r w' => ∃ p c, r = .returned (sB p xs c) ∧ St β [rB p xs c] w' := by
 obtain ⟨va, vc, rfl, vl, vm, ve⟩ := hs.get
 refine enter (n := 7) Try.func72 rfl Try.ntmps72 rfl ?_ hw
 refine csr ?_
 refine lv (v := .slice none 0 0) e_assign ?_
 refine lnc ?_
 refine lv (v := .slice none 0 0) e_assign ?_
 refine lnc ?_
 refine lv (v := .slice none 0 0) e_move ?_
 refine lv (v := sB va xs (vc)) e_move ?_
 refine l_emp (r := row (.slice none 0 0) 5 1 0 (BX [])) (row_nil _ _ _) ?_
 refine l_mv rfl rfl rfl (m_appendE (enc := fun c : UInt8 => Bx c) 0 bx_cell tf12 tf15 (v := .slice none 0 0) (xs := []) (ys := xs) (ao := va) (c := vc) rfl rfl (by first | rfl | simp) rfl (by first | rfl | simp) (Knows.of_base (Elems.mono _ _ _) ve) (by first | omega | (simp only [List.length_append, List.length_nil, List.length_cons, be_length] at *; omega)) (by first | omega | (simp only [List.length_append, List.length_nil, List.length_cons, be_length] at *; omega))) ?_
 rintro _ _ ⟨rp1, rc2, rfl, rfl⟩
 refine lv (v := sB rp1 ([] ++ xs) rc2) e_assign ?_
 refine lnf ?_
 refine c_ret ?_
 refine ret1 Try.results72 (v := sB rp1 ([] ++ xs) rc2) rfl ?_
 intro w hw
 exact ⟨_, _, rfl, st_mask [true] rfl hw⟩
theorem copys_ok (β : Base) (w : World) (hw : St β [] w) (k : KS) (vh va vb : Value) (hH : Sl U8R β.heap vh k.head) (hA : Sl U8R β.heap va k.a) (hB : Sl U8R β.heap vb k.b) (h1 : k.head.length ≤ 1048576) (h2 : k.a.length ≤ 1048576) (h3 : k.b.length ≤ 1048576) : Calls Try.prog 32 #[.agg #[vh, va, vb, Ix k.power]] w fun r w' => ∃ pH pA pB cH cA cB, r = .returned (.agg #[sB pH k.head cH, sB pA k.a cA, sB pB k.b cB, Ix k.power]) ∧ St β [rB pH k.head cH, rB pA k.a cA, rB pB k.b cB] w' := by
 obtain ⟨vha, vhc, rfl, vhl, vhm, vhe⟩ := hH.get
 obtain ⟨vaa, vac, rfl, val, vam, vae⟩ := hA.get
 obtain ⟨vba, vbc, rfl, vbl, vbm, vbe⟩ := hB.get
 refine enter (n := 16) Try.func32 rfl Try.ntmps32 rfl ?_ hw
 refine csr ?_
 refine l_mv rfl rfl rfl (m_box (v := .agg #[sB vha k.head (vhc), sB vaa k.a (vac), sB vba k.b (vbc), Ix (k.power)]) rfl) ?_
 rintro _ _ ⟨b1, rfl, rfl⟩
 refine l_mv rfl rfl rfl (m_alloc tf106) ?_
 rintro _ _ ⟨b2, rfl, rfl⟩
 refine lnc ?_
 refine lv (v := pp b1 0) (e_fieldPt rfl tf20) ?_
 refine lv (v := sB vha k.head (vhc)) (e_load1 tf21 rfl (k_pt 1 rfl rfl)) ?_
 refine lcf (cl0 (vs := [sB vha k.head (vhc)]) tf117 rfl rfl) rfl fun w β1 sb kn hw1 back => (copyb_ok β1 w hw1 k.head _ (by omega) (Sl.mono _ _ _ _ _ sb (⟨⟨_, _, rfl, vhl, vhm, vhe⟩⟩ : Sl U8R _ _ k.head))).mono ?_
 rintro e w' ⟨p3, c4, rfl, hw'⟩
 refine ⟨_, rfl, _, back _ _ hw', ?_⟩
 clear hw1 hw' back kn sb
 refine lv (v := pp b1 0) (e_fieldPt rfl tf20) ?_
 refine lu (m_store 2 tf21 (cs' := #[sB p3 k.head c4, sB vaa k.a (vac), sB vba k.b (vbc), Ix (k.power)]) rfl rfl rfl rfl rfl rfl rfl) ?_
 refine lnc ?_
 refine lv (v := pp b1 1) (e_fieldPt rfl tf22) ?_
 refine lv (v := sB vaa k.a (vac)) (e_load1 tf21 rfl (k_pt 2 rfl rfl)) ?_
 refine lcf (cl0 (vs := [sB vaa k.a (vac)]) tf117 rfl rfl) rfl fun w β1 sb kn hw1 back => (copyb_ok β1 w hw1 k.a _ (by omega) (Sl.mono _ _ _ _ _ sb (⟨⟨_, _, rfl, val, vam, vae⟩⟩ : Sl U8R _ _ k.a))).mono ?_
 rintro e w' ⟨p5, c6, rfl, hw'⟩
 refine ⟨_, rfl, _, back _ _ hw', ?_⟩
 clear hw1 hw' back kn sb
 refine lv (v := pp b1 1) (e_fieldPt rfl tf22) ?_
 refine lu (m_store 3 tf21 (cs' := #[sB p3 k.head c4, sB p5 k.a c6, sB vba k.b (vbc), Ix (k.power)]) rfl rfl rfl rfl rfl rfl rfl) ?_
 refine lnc ?_
 refine lv (v := pp b1 2) (e_fieldPt rfl tf23) ?_
 refine lv (v := sB vba k.b (vbc)) (e_load1 tf21 rfl (k_pt 3 rfl rfl)) ?_
 refine lcf (cl0 (vs := [sB vba k.b (vbc)]) tf117 rfl rfl) rfl fun w β1 sb kn hw1 back => (copyb_ok β1 w hw1 k.b _ (by omega) (Sl.mono _ _ _ _ _ sb (⟨⟨_, _, rfl, vbl, vbm, vbe⟩⟩ : Sl U8R _ _ k.b))).mono ?_
 rintro e w' ⟨p7, c8, rfl, hw'⟩
 refine ⟨_, rfl, _, back _ _ hw', ?_⟩
 clear hw1 hw' back kn sb
 refine lv (v := pp b1 2) (e_fieldPt rfl tf23) ?_
 refine lu (m_store 4 tf21 (cs' := #[sB p3 k.head c4, sB p5 k.a c6, sB p7 k.b c8, Ix (k.power)]) rfl rfl rfl rfl rfl rfl rfl) ?_
 refine lnc ?_
 refine lv (v := .agg #[sB p3 k.head c4, sB p5 k.a c6, sB p7 k.b c8, Ix (k.power)]) (e_load tf56 rfl (k_pt 4 rfl rfl) rfl) ?_
 refine lu (m_store 3 tf56 (cs' := #[sB p3 k.head c4, sB p5 k.a c6, sB p7 k.b c8, Ix (k.power)]) rfl rfl rfl rfl rfl rfl rfl) ?_
 refine lnf ?_
 refine c_ret ?_
 refine retG (m := [.agg #[sB p3 k.head c4, sB p5 k.a c6, sB p7 k.b c8, Ix (k.power)]]) Try.results32 ⟨rd_cell tf56 rfl (k_pt 3 rfl rfl) rfl, trivial⟩ rfl ?_
 intro w hw
 exact ⟨_, _, _, _, _, _, rfl, st_mask [true, true, true, false, false] rfl (hw.perm (L' := [rB p3 k.head c4, rB p5 k.a c6, rB p7 k.b c8, pt b2 (.cells #[sB p3 k.head c4, sB p5 k.a c6, sB p7 k.b c8, Ix (k.power)] 32), pt b1 (.cells #[sB p3 k.head c4, sB p5 k.a c6, sB p7 k.b c8, Ix (k.power)] 32)]) (by exact (perm_ix [2, 1, 0, 3, 4] 5 rfl (by kernel_rfl) (by kernel_rfl))))⟩
end Go.Proofs
