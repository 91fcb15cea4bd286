/-
 JournalEvery, walked. Printed by a program of my own.
-/
import Derived.Test.YtkpdcajddpiknaaJn12
import Derived.Test.YtkpdcajddpiknaaJnLaw8
namespace Go.Proofs
open Go Go.Sl Go.Jn
theorem isP_old_ap {C : KC} {I : KI} {b : Bs} (h : isP C I) : ¬ isP C (apI I b) := fun q => by
 have h1 := h.2.1
 have h2 : I.next + 1 = C.next := q.2.1
 omega
theorem tf117 : cfB Try.prog 72 = true := by kernel_rfl
theorem tf118 : cfB Try.prog 32 = true := by kernel_rfl
theorem copyb_ok (β : Base) (w : World) (hw : St β [] w) (xs : Bs) (v : Value) (hx : xs.length ≤ 1048576) (hs : Sl U8R β.heap v xs) : Calls Try.prog 72 #[v] w fun r w' => ∃ p c, r = .returned (.slice p xs.length c) ∧ St β [row (.slice p xs.length c) 5 1 xs.length (BX xs)] w' := by
 obtain ⟨va, vc, rfl, vl, vm, ve⟩ := hs.get
 refine enter (n := 7) Try.func72 rfl Try.ntmps72 rfl ?_ hw
 refine c_seq ?_
 refine c_region ?_
 refine l_val (v := .slice none 0 0) rfl rfl rfl (e_assign) ?_
 refine l_nil ?_
 refine f_then ?_
 refine c_seq ?_
 refine c_region ?_
 refine l_val (v := .slice none 0 0) rfl rfl rfl (e_assign) ?_
 refine l_nil ?_
 refine f_then ?_
 refine c_seq ?_
 refine c_region ?_
 refine l_val (v := .slice none 0 0) rfl rfl rfl (e_move) ?_
 refine l_val (v := .slice va (xs.length) (vc)) rfl rfl rfl (e_move) ?_
 refine l_emp (r := row (.slice none 0 0) 5 1 0 (BX [])) (row_nil _ _ _) ?_
 refine l_mv rfl rfl rfl (m_appendE (enc := fun c : UInt8 => Bx c) 0 bx_cell tf12 tf15 (v := .slice none 0 0) (xs := []) (ys := xs) (ao := va) (c := vc) rfl rfl (by first | rfl | simp) rfl (by first | rfl | simp) (Knows.of_base (Elems.mono _ _ _) ve) (by first | omega | (simp only [List.length_append, List.length_nil, List.length_cons, be_length] at *; omega)) (by first | omega | (simp only [List.length_append, List.length_nil, List.length_cons, be_length] at *; omega))) ?_
 rintro _ _ ⟨rp1, rc2, rfl, rfl⟩
 refine l_val (v := .slice rp1 ([] ++ xs).length rc2) rfl rfl rfl (e_assign) ?_
 refine l_nil ?_
 refine f_then ?_
 refine c_ret ?_
 refine ret1 Try.results72 (v := .slice rp1 ([] ++ xs).length rc2) rfl ?_
 intro w hw
 exact ⟨_, _, rfl, st_mask [true] rfl hw⟩
theorem copys_ok (β : Base) (w : World) (hw : St β [] w) (k : KS) (vh va vb : Value) (hH : Sl U8R β.heap vh k.head) (hA : Sl U8R β.heap va k.a) (hB : Sl U8R β.heap vb k.b) (h1 : k.head.length ≤ 1048576) (h2 : k.a.length ≤ 1048576) (h3 : k.b.length ≤ 1048576) : Calls Try.prog 32 #[.agg #[vh, va, vb, Ix k.power]] w fun r w' => ∃ pH pA pB cH cA cB, r = .returned (.agg #[.slice pH k.head.length cH, .slice pA k.a.length cA, .slice pB k.b.length cB, Ix k.power]) ∧ St β [row (.slice pH k.head.length cH) 5 1 k.head.length (BX k.head), row (.slice pA k.a.length cA) 5 1 k.a.length (BX k.a), row (.slice pB k.b.length cB) 5 1 k.b.length (BX k.b)] w' := by
 obtain ⟨vha, vhc, rfl, vhl, vhm, vhe⟩ := hH.get
 obtain ⟨vaa, vac, rfl, val, vam, vae⟩ := hA.get
 obtain ⟨vba, vbc, rfl, vbl, vbm, vbe⟩ := hB.get
 refine enter (n := 16) Try.func32 rfl Try.ntmps32 rfl ?_ hw
 refine c_seq ?_
 refine c_region ?_
 refine l_mv rfl rfl rfl (m_box (v := .agg #[.slice vha (k.head.length) (vhc), .slice vaa (k.a.length) (vac), .slice vba (k.b.length) (vbc), Ix (k.power)]) rfl) ?_
 rintro _ _ ⟨b1, rfl, rfl⟩
 refine l_mv rfl rfl rfl (m_alloc tf106) ?_
 rintro _ _ ⟨b2, rfl, rfl⟩
 refine l_nil ?_
 refine f_then ?_
 refine c_seq ?_
 refine c_region ?_
 refine l_val (v := .pointer (some ⟨b1, 0, none⟩)) rfl rfl rfl (e_fieldPt (b := b1) (o := 0) rfl tf20) ?_
 refine l_val (v := .slice vha (k.head.length) (vhc)) rfl rfl rfl (e_load1 tf21 (v := .slice vha (k.head.length) (vhc)) rfl (k_pt 1 (cs := #[.slice vha (k.head.length) (vhc), .slice vaa (k.a.length) (vac), .slice vba (k.b.length) (vbc), Ix (k.power)]) (vs := [.slice vha (k.head.length) (vhc)]) rfl rfl)) ?_
 refine l_call rfl rfl rfl (cl_value (fst := []) (cap := []) (vs := [.slice vha (k.head.length) (vhc)]) (all := [.slice vha (k.head.length) (vhc)]) tf117 rfl rfl rfl) ?_
 intro w hw
 obtain ⟨β1, sb, kn, hw1, back⟩ := St.frame_all hw
 refine (copyb_ok β1 w hw1 k.head _ (by omega) (Sl.mono _ _ _ _ _ sb (⟨⟨_, _, rfl, vhl, vhm, vhe⟩⟩ : Sl U8R _ _ k.head))).mono ?_
 rintro e w' ⟨p3, c4, rfl, hw'⟩
 refine ⟨_, rfl, _, back _ _ hw', ?_⟩
 clear hw hw1 hw' back kn sb
 refine l_val (v := .pointer (some ⟨b1, 0, none⟩)) rfl rfl rfl (e_fieldPt (b := b1) (o := 0) rfl tf20) ?_
 refine l_mu rfl rfl (m_store 2 tf21 (b := b1) (o := 0) (T := 32) (cs := #[.slice vha (k.head.length) (vhc), .slice vaa (k.a.length) (vac), .slice vba (k.b.length) (vbc), Ix (k.power)]) (cs' := #[.slice p3 (k.head).length c4, .slice vaa (k.a.length) (vac), .slice vba (k.b.length) (vbc), Ix (k.power)]) (v := .slice p3 (k.head).length c4) rfl rfl rfl rfl rfl rfl rfl) ?_
 refine l_nil ?_
 refine f_then ?_
 refine c_seq ?_
 refine c_region ?_
 refine l_val (v := .pointer (some ⟨b1, 1, none⟩)) rfl rfl rfl (e_fieldPt (b := b1) (o := 0) rfl tf22) ?_
 refine l_val (v := .slice vaa (k.a.length) (vac)) rfl rfl rfl (e_load1 tf21 (v := .slice vaa (k.a.length) (vac)) rfl (k_pt 2 (cs := #[.slice p3 (k.head).length c4, .slice vaa (k.a.length) (vac), .slice vba (k.b.length) (vbc), Ix (k.power)]) (vs := [.slice vaa (k.a.length) (vac)]) rfl rfl)) ?_
 refine l_call rfl rfl rfl (cl_value (fst := []) (cap := []) (vs := [.slice vaa (k.a.length) (vac)]) (all := [.slice vaa (k.a.length) (vac)]) tf117 rfl rfl rfl) ?_
 intro w hw
 obtain ⟨β1, sb, kn, hw1, back⟩ := St.frame_all hw
 refine (copyb_ok β1 w hw1 k.a _ (by omega) (Sl.mono _ _ _ _ _ sb (⟨⟨_, _, rfl, val, vam, vae⟩⟩ : Sl U8R _ _ k.a))).mono ?_
 rintro e w' ⟨p5, c6, rfl, hw'⟩
 refine ⟨_, rfl, _, back _ _ hw', ?_⟩
 clear hw hw1 hw' back kn sb
 refine l_val (v := .pointer (some ⟨b1, 1, none⟩)) rfl rfl rfl (e_fieldPt (b := b1) (o := 0) rfl tf22) ?_
 refine l_mu rfl rfl (m_store 3 tf21 (b := b1) (o := 1) (T := 32) (cs := #[.slice p3 (k.head).length c4, .slice vaa (k.a.length) (vac), .slice vba (k.b.length) (vbc), Ix (k.power)]) (cs' := #[.slice p3 (k.head).length c4, .slice p5 (k.a).length c6, .slice vba (k.b.length) (vbc), Ix (k.power)]) (v := .slice p5 (k.a).length c6) rfl rfl rfl rfl rfl rfl rfl) ?_
 refine l_nil ?_
 refine f_then ?_
 refine c_seq ?_
 refine c_region ?_
 refine l_val (v := .pointer (some ⟨b1, 2, none⟩)) rfl rfl rfl (e_fieldPt (b := b1) (o := 0) rfl tf23) ?_
 refine l_val (v := .slice vba (k.b.length) (vbc)) rfl rfl rfl (e_load1 tf21 (v := .slice vba (k.b.length) (vbc)) rfl (k_pt 3 (cs := #[.slice p3 (k.head).length c4, .slice p5 (k.a).length c6, .slice vba (k.b.length) (vbc), Ix (k.power)]) (vs := [.slice vba (k.b.length) (vbc)]) rfl rfl)) ?_
 refine l_call rfl rfl rfl (cl_value (fst := []) (cap := []) (vs := [.slice vba (k.b.length) (vbc)]) (all := [.slice vba (k.b.length) (vbc)]) tf117 rfl rfl rfl) ?_
 intro w hw
 obtain ⟨β1, sb, kn, hw1, back⟩ := St.frame_all hw
 refine (copyb_ok β1 w hw1 k.b _ (by omega) (Sl.mono _ _ _ _ _ sb (⟨⟨_, _, rfl, vbl, vbm, vbe⟩⟩ : Sl U8R _ _ k.b))).mono ?_
 rintro e w' ⟨p7, c8, rfl, hw'⟩
 refine ⟨_, rfl, _, back _ _ hw', ?_⟩
 clear hw hw1 hw' back kn sb
 refine l_val (v := .pointer (some ⟨b1, 2, none⟩)) rfl rfl rfl (e_fieldPt (b := b1) (o := 0) rfl tf23) ?_
 refine l_mu rfl rfl (m_store 4 tf21 (b := b1) (o := 2) (T := 32) (cs := #[.slice p3 (k.head).length c4, .slice p5 (k.a).length c6, .slice vba (k.b.length) (vbc), Ix (k.power)]) (cs' := #[.slice p3 (k.head).length c4, .slice p5 (k.a).length c6, .slice p7 (k.b).length c8, Ix (k.power)]) (v := .slice p7 (k.b).length c8) rfl rfl rfl rfl rfl rfl rfl) ?_
 refine l_nil ?_
 refine f_then ?_
 refine c_seq ?_
 refine c_region ?_
 refine l_val (v := .agg #[.slice p3 (k.head).length c4, .slice p5 (k.a).length c6, .slice p7 (k.b).length c8, Ix (k.power)]) rfl rfl rfl (e_load tf56 (cs := [.slice p3 (k.head).length c4, .slice p5 (k.a).length c6, .slice p7 (k.b).length c8, Ix (k.power)]) rfl (k_pt 4 (cs := #[.slice p3 (k.head).length c4, .slice p5 (k.a).length c6, .slice p7 (k.b).length c8, Ix (k.power)]) (vs := [.slice p3 (k.head).length c4, .slice p5 (k.a).length c6, .slice p7 (k.b).length c8, Ix (k.power)]) rfl rfl) rfl) ?_
 refine l_mu rfl rfl (m_store 3 tf56 (b := b2) (o := 0) (T := 32) (cs := #[.slice none 0 0, .slice none 0 0, .slice none 0 0, .int .i64 (0)]) (cs' := #[.slice p3 (k.head).length c4, .slice p5 (k.a).length c6, .slice p7 (k.b).length c8, Ix (k.power)]) (v := .agg #[.slice p3 (k.head).length c4, .slice p5 (k.a).length c6, .slice p7 (k.b).length c8, Ix (k.power)]) rfl rfl rfl rfl rfl rfl rfl) ?_
 refine l_nil ?_
 refine f_then ?_
 refine c_ret ?_
 refine retG (l := [.cell 2 32]) (m := [.agg #[.slice p3 (k.head).length c4, .slice p5 (k.a).length c6, .slice p7 (k.b).length c8, Ix (k.power)]]) (v := .agg #[.slice p3 (k.head).length c4, .slice p5 (k.a).length c6, .slice p7 (k.b).length c8, Ix (k.power)]) Try.results32 ⟨rd_cell tf56 (cs := [.slice p3 (k.head).length c4, .slice p5 (k.a).length c6, .slice p7 (k.b).length c8, Ix (k.power)]) rfl (k_pt 3 (cs := #[.slice p3 (k.head).length c4, .slice p5 (k.a).length c6, .slice p7 (k.b).length c8, Ix (k.power)]) (vs := [.slice p3 (k.head).length c4, .slice p5 (k.a).length c6, .slice p7 (k.b).length c8, Ix (k.power)]) rfl rfl) rfl, trivial⟩ rfl ?_
 intro w hw
 exact ⟨_, _, _, _, _, _, rfl, st_mask [true, true, true, false, false] rfl (hw.perm (L' := [row (.slice p3 (k.head).length c4) 5 1 ((k.head).length) (BX k.head), row (.slice p5 (k.a).length c6) 5 1 ((k.a).length) (BX k.a), row (.slice p7 (k.b).length c8) 5 1 ((k.b).length) (BX k.b), pt b2 (.cells #[.slice p3 (k.head).length c4, .slice p5 (k.a).length c6, .slice p7 (k.b).length c8, Ix (k.power)] 32), pt b1 (.cells #[.slice p3 (k.head).length c4, .slice p5 (k.a).length c6, .slice p7 (k.b).length c8, Ix (k.power)] 32)]) (by exact (((((perm_front 4 rfl).trans (perm_front 4 rfl)).trans (perm_front 2 rfl)).trans (perm_front 3 rfl)).trans (perm_front 4 rfl))))⟩
set_option maxHeartbeats 4000000 in
theorem every_ok (β : Base) (w : World) (hw : St β [] w) (xs : List KOp) (v : Value) (hs : Sl OpR β.heap v xs) (o : KOp) (oa : Option Addr) (oc : Nat) (ol : o.body.length ≤ oc) (om : oc ≤ 9223372036854775807) (oe : Elems U8R β.heap oa o.body) : Calls Try.prog 8 #[v, .agg #[Bx o.kind, Bx o.power, .slice oa o.body.length oc]] w fun r w' => r = .returned (.bool true) ∧ St β [] w' := by
 obtain ⟨va, vc, rfl, vl, vm, ve⟩ := hs.get
 refine enter (n := 159) Try.func8 rfl Try.ntmps8 rfl ?_ hw
 refine c_seq ?_
 refine c_region ?_
 refine l_mv rfl rfl rfl (m_box (v := .agg #[Bx (o.kind), Bx (o.power), .slice oa (o.body.length) (oc)]) rfl) ?_
 rintro _ _ ⟨b1, rfl, rfl⟩
 refine l_val (v := .bool false) rfl rfl rfl (e_assign) ?_
 refine l_nil ?_
 refine f_then ?_
 refine c_seq ?_
 refine c_region ?_
 refine l_val (v := .agg #[.slice none 0 0, .slice none 0 0, .slice none 0 0, .int .i64 (-1)]) rfl rfl rfl (e_build tf106 tf105 (vs := [(3, .int .i64 (-1))]) (cells := #[.slice none 0 0, .slice none 0 0, .slice none 0 0, .int .i64 (-1)]) rfl rfl) ?_
 refine l_mv rfl rfl rfl (m_box (v := .agg #[.slice none 0 0, .slice none 0 0, .slice none 0 0, .int .i64 (-1)]) rfl) ?_
 rintro _ _ ⟨b2, rfl, rfl⟩
 refine l_val (v := .pointer (some ⟨b2, 0, none⟩)) rfl rfl rfl (e_assign) ?_
 refine l_nil ?_
 refine f_then ?_
 refine c_seq ?_
 refine c_emp (r := row (.slice none 0 0) 5 1 0 (BX [])) (row_nil _ _ _) ?_
 refine c_emp (r := row (.slice none 0 0) 5 1 0 (BX [])) (row_nil _ _ _) ?_
 refine c_emp (r := row (.slice none 0 0) 5 1 0 (BX [])) (row_nil _ _ _) ?_
 refine c_perm (L' := (pt b2 (.cells #[.slice none 0 0, .slice none 0 0, .slice none 0 0, .int .i64 (-1)] 32) :: row (.slice none 0 0) 5 1 0 (BX []) :: row (.slice none 0 0) 5 1 0 (BX []) :: row (.slice none 0 0) 5 1 0 (BX []) :: pt b1 (.cells #[Bx (o.kind), Bx (o.power), .slice oa (o.body.length) (oc)] 47) :: [])) (by exact (((((perm_front 4 rfl).trans (perm_front 3 rfl)).trans (perm_front 3 rfl)).trans (perm_front 3 rfl)).trans (perm_front 4 rfl))) ?_
 refine c_closeStore (S := b2) (k := aK0) (pH := none) (pA := none) (pB := none) (cH := 0) (cA := 0) (cB := 0) (M := (pt b1 (.cells #[Bx (o.kind), Bx (o.power), .slice oa (o.body.length) (oc)] 47) :: [])) (by rfl) ?_
 refine c_region ?_
 refine l_val (v := .pointer (some ⟨b2, 0, none⟩)) rfl rfl rfl (e_move) ?_
 refine l_call rfl rfl rfl (cl_value (fst := []) (cap := []) (vs := [.pointer (some ⟨b2, 0, none⟩)]) (all := [.pointer (some ⟨b2, 0, none⟩)]) tf107 rfl rfl rfl) ?_
 intro w hw
 replace hw := hw.perm (L' := _ :: _ :: []) (by exact ((perm_front 1 rfl).trans (perm_front 1 rfl)))
 obtain ⟨β1, sb, kn, hw1, back⟩ := St.frame (L := [_]) (M := _ :: []) hw
 refine (again_ok β1 w b2 aK0 ((aw_invz.pow (p := -1) (by decide) (by decide)).okP (by omega)) aI0 aw_invz.read hw1).mono ?_
 rintro e w' ⟨J3, rfl, hw'⟩
 refine ⟨_, rfl, _, back _ _ hw', ?_⟩
 clear hw hw1 hw' back kn sb
 refine l_val (v := .tuple #[.pointer (some ⟨J3, 0, none⟩), .bool true]) rfl rfl rfl (e_move) ?_
 refine l_val (v := .pointer (some ⟨J3, 0, none⟩)) rfl rfl rfl (e_extract (vs := #[.pointer (some ⟨J3, 0, none⟩), .bool true]) rfl rfl) ?_
 refine l_val (v := .bool true) rfl rfl rfl (e_extract (vs := #[.pointer (some ⟨J3, 0, none⟩), .bool true]) rfl rfl) ?_
 refine l_val (v := .pointer (some ⟨J3, 0, none⟩)) rfl rfl rfl (e_assign) ?_
 refine l_val (v := .bool true) rfl rfl rfl (e_assign) ?_
 refine l_nil ?_
 refine f_then ?_
 refine c_seq ?_
 refine c_seq ?_
 refine c_region ?_
 refine l_val (v := .bool true) rfl rfl rfl (e_move) ?_
 refine l_val (v := .bool false) rfl rfl rfl (e_not (a := true) rfl) ?_
 refine l_nil ?_
 refine f_then ?_
 refine c_no rfl ?_
 refine c_skip ?_
 refine f_then ?_
 refine c_seq ?_
 refine c_region ?_
 refine l_mv rfl rfl rfl (m_alloc tf112) ?_
 rintro _ _ ⟨b4, rfl, rfl⟩
 refine l_nil ?_
 refine f_then ?_
 refine c_seq ?_
 refine c_region ?_
 refine l_val (v := .agg #[Bx (o.kind), Bx (o.power), .slice oa (o.body.length) (oc)]) rfl rfl rfl (e_load tf87 (cs := [Bx (o.kind), Bx (o.power), .slice oa (o.body.length) (oc)]) rfl (k_pt 3 (cs := #[Bx (o.kind), Bx (o.power), .slice oa (o.body.length) (oc)]) (vs := [Bx (o.kind), Bx (o.power), .slice oa (o.body.length) (oc)]) rfl rfl) rfl) ?_
 refine l_call rfl rfl rfl (cl_value (fst := []) (cap := []) (vs := [.agg #[Bx (o.kind), Bx (o.power), .slice oa (o.body.length) (oc)]]) (all := [.agg #[Bx (o.kind), Bx (o.power), .slice oa (o.body.length) (oc)]]) tf116 rfl rfl rfl) ?_
 intro w hw
 obtain ⟨β1, sb, kn, hw1, back⟩ := St.frame_all hw
 refine (short_ok β1 w hw1 o oa oc (by omega) (by omega) (Elems.mono _ _ _ _ _ sb oe)).mono ?_
 rintro e w' ⟨rfl, hw'⟩
 refine ⟨_, rfl, _, back _ _ hw', ?_⟩
 clear hw hw1 hw' back kn sb
 refine l_mu rfl rfl (m_store 3 tf87 (b := b1) (o := 0) (T := 47) (cs := #[Bx (o.kind), Bx (o.power), .slice oa (o.body.length) (oc)]) (cs' := #[Bx ((shortO o).kind), .int .u8 (0), .slice oa ((o.body.take 20).length) (oc)]) (v := .agg #[Bx ((shortO o).kind), .int .u8 (0), .slice oa ((o.body.take 20).length) (oc)]) rfl rfl rfl rfl rfl rfl rfl) ?_
 refine l_nil ?_
 refine f_then ?_
 refine c_seq ?_
 refine c_seq ?_
 refine c_region ?_
 refine l_val (v := .slice va (xs.length) (vc)) rfl rfl rfl (e_move) ?_
 refine l_val (v := .slice va (xs.length) (vc)) rfl rfl rfl (e_move) ?_
 refine l_val (v := Nx (xs.length)) rfl rfl rfl (e_len (a := va) (n := xs.length) (c := vc) rfl tf108) ?_
 refine l_val (v := Nx (min xs.length 6)) rfl rfl rfl (ev_eq (congrArg (Value.int .i64) (by omega)) (e_min (a := ((xs.length : Nat) : Int)) (b := (6 : Int)) rfl rfl)) ?_
 obtain ⟨zs5, hz6⟩ : ∃ zs, zs = (xs.take (min xs.length 6)) := ⟨_, rfl⟩
 have zl7 : zs5.length = min (min xs.length 6) (xs).length - 0 := by rw [hz6]; simp; try omega
 have ze8 := (Elems.take (min xs.length 6) ve)
 rw [← hz6] at ze8
 refine l_val (v := .slice va (zs5.length) (vc)) rfl rfl rfl (ev_eq (by rw [show zs5.length = min xs.length 6 by omega]) (e_slice_hi (a := va) (len := xs.length) (cap := vc) (h := min xs.length 6) tf109 rfl rfl (by omega))) ?_
 refine l_val (v := Nx (zs5.length)) rfl rfl rfl (e_len (a := va) (n := zs5.length) (c := vc) rfl tf108) ?_
 refine l_val (v := .int .i64 (0)) rfl rfl rfl (e_move) ?_
 refine l_nil ?_
 refine f_then ?_
 refine c_block ?_
 refine c_emp (r := row (.slice none 0 0) 9 1 0 ([].map (fun s : ByteArray => Value.string s))) (row_nil _ _ _) ?_
 refine c_perm (L' := [jourR J3 b2 aI0 false, storeR b2 (cutS (powS aK0) aI0.epoch aI0.size), pt b4 (.cells #[.int .i64 (0), .int .i64 (0), .string ((⟨#[]⟩ : ByteArray)), .slice none 0 0] 27), row (.slice none 0 0) 9 1 (0) ([].map (fun s : ByteArray => Value.string s)), pt b1 (.cells #[Bx ((shortO o).kind), .int .u8 (0), .slice oa ((o.body.take 20).length) (oc)] 47)]) (by exact (((((perm_front 4 rfl).trans (perm_front 1 rfl)).trans (perm_front 2 rfl)).trans (perm_front 4 rfl)).trans (perm_front 4 rfl))) ?_
 refine c_mask [true, true, true, true, true] rfl ?_
 refine c_loop (fun (x_ : Nat × KS × KI × KC × Option Addr × Nat) (f : Fm) (L : List Res) => match x_ with | (k, K, I, C, pn, cn) => (f 3 = .pointer (some ⟨b1, 0, none⟩) ∧ f 5 = .pointer (some ⟨b2, 0, none⟩) ∧ f 6 = .pointer (some ⟨J3, 0, none⟩) ∧ f 8 = .pointer (some ⟨b4, 0, none⟩) ∧ f 36 = .slice va (zs5.length) (vc) ∧ f 37 = Nx (zs5.length) ∧ f 38 = Nx (k)) ∧ L = [jourR J3 b2 I false, storeR b2 K, pt b4 (.cells #[Nx (C.epoch), Nx (C.next), .string (C.state), .slice pn (C.recs).length cn] 27), row (.slice pn (C.recs).length cn) 9 1 ((C.recs).length) (C.recs.map (fun s : ByteArray => Value.string s)), pt b1 (.cells #[Bx ((shortO o).kind), .int .u8 (0), .slice oa ((o.body.take 20).length) (oc)] 47)] ∧ (k ≤ 6 ∧ Inv K I k true ∧ isP C I ∧ K.power = -1)) (fun (x_ : Nat × KS × KI × KC × Option Addr × Nat) => match x_ with | (k, K, I, C, pn, cn) => 6 - k) (0, (cutS (powS aK0) aI0.epoch aI0.size), aI0, (⟨0, 0, (⟨#[]⟩ : ByteArray), []⟩ : KC), none, 0) ?_ ?_
 ·exact ⟨⟨rfl, rfl, rfl, rfl, rfl, rfl, rfl⟩, rfl, ⟨by omega, aw_inv0, by decide, by decide⟩⟩
 rintro ⟨k, K, I, C, pn, cn⟩ f0 L0 ⟨⟨hs3, hs5, hs6, hs8, hs36, hs37, hs38⟩, hL, ⟨hk, hI, hC, hP⟩⟩
 subst L0
 refine rebase (d := 3) hs3 ?_
 refine rebase (d := 5) hs5 ?_
 refine rebase (d := 6) hs6 ?_
 refine rebase (d := 8) hs8 ?_
 refine rebase (d := 36) hs36 ?_
 refine rebase (d := 37) hs37 ?_
 refine rebase (d := 38) hs38 ?_
 clear hs3 hs5 hs6 hs8 hs36 hs37 hs38
 have hfit := hI.fits (show k ≤ 100 by omega)
 have hnN := hI.nN
 have hsz0 := hI.sz
 have heN := hI.eN
 have hrl0 := hI.wf.next
 refine c_seq ?_
 refine c_region ?_
 refine l_val (v := .bool (decide (((k : Nat) : Int) < ((zs5.length : Nat) : Int)))) rfl rfl rfl (e_lss (a := ((k : Nat) : Int)) (b := ((zs5.length : Nat) : Int)) rfl rfl) ?_
 refine l_nil ?_
 refine f_then ?_
 refine c_seq ?_
 refine c_if (((k : Nat) : Int) < ((zs5.length : Nat) : Int)) rfl (fun hc9 => ?_) (fun hc9 => ?_)
 ·
  refine c_skip ?_
  refine f_then ?_
  refine c_seq ?_
  refine c_block ?_
  refine c_seq ?_
  refine c_region ?_
  obtain ⟨x10, hx11⟩ : ∃ x_, (zs5)[k]? = some x_ := ⟨_, List.getElem?_eq_getElem (by omega)⟩
  obtain ⟨ha12, cs13, hc14, hr15⟩ := ze8 _ _ hx11
  obtain ⟨v16, rfl, hv17⟩ := hr15
  obtain ⟨a18, c19, rfl, hl20, hm21, he22⟩ := (hv17).get
  refine l_val (v := .pointer (some ((ba va).add (k * 3)))) rfl rfl rfl (e_indexAddr (k := k) (len := zs5.length) (cap := vc) (a := va) rfl rfl tf109 (by omega) ha12) ?_
  refine l_val (v := .agg #[Bx (x10.kind), Bx (x10.power), .slice a18 (x10.body.length) (c19)]) rfl rfl rfl (e_load tf87 (cs := [Bx (x10.kind), Bx (x10.power), .slice a18 (x10.body.length) (c19)]) rfl (Knows.of_base (Cs.mono _ _) hc14) rfl) ?_
  refine l_mv rfl rfl rfl (m_alloc tf84) ?_
  rintro _ _ ⟨b23, rfl, rfl⟩
  refine l_mu rfl rfl (m_store 0 tf87 (b := b23) (o := 0) (T := 47) (cs := #[.int .u8 (0), .int .u8 (0), .slice none 0 0]) (cs' := #[Bx (x10.kind), Bx (x10.power), .slice a18 (x10.body.length) (c19)]) (v := .agg #[Bx (x10.kind), Bx (x10.power), .slice a18 (x10.body.length) (c19)]) rfl rfl rfl rfl rfl rfl rfl) ?_
  refine l_nil ?_
  refine f_then ?_
  refine c_seq ?_
  refine c_rowcap 4 rfl (fun hcl hcm => ?_)
  have hcm2 : cn ≤ 9223372036854775807 := by unfold maxLen at hcm; omega
  have hC1 := hC.1
  have hC2n := hC.2.1
  have hC4 := congrArg List.length hC.2.2.2
  rw [List.length_map] at hC4
  refine c_region ?_
  refine l_val (v := .agg #[Bx (x10.kind), Bx (x10.power), .slice a18 (x10.body.length) (c19)]) rfl rfl rfl (e_load tf87 (cs := [Bx (x10.kind), Bx (x10.power), .slice a18 (x10.body.length) (c19)]) rfl (k_pt 0 (cs := #[Bx (x10.kind), Bx (x10.power), .slice a18 (x10.body.length) (c19)]) (vs := [Bx (x10.kind), Bx (x10.power), .slice a18 (x10.body.length) (c19)]) rfl rfl) rfl) ?_
  refine l_call rfl rfl rfl (cl_value (fst := []) (cap := []) (vs := [.agg #[Bx (x10.kind), Bx (x10.power), .slice a18 (x10.body.length) (c19)]]) (all := [.agg #[Bx (x10.kind), Bx (x10.power), .slice a18 (x10.body.length) (c19)]]) tf116 rfl rfl rfl) ?_
  intro w hw
  obtain ⟨β1, sb, kn, hw1, back⟩ := St.frame_all hw
  refine (short_ok β1 w hw1 x10 a18 c19 (by omega) (by omega) (Elems.mono _ _ _ _ _ sb he22)).mono ?_
  rintro e w' ⟨rfl, hw'⟩
  refine ⟨_, rfl, _, back _ _ hw', ?_⟩
  clear hw hw1 hw' back kn sb
  refine l_mu rfl rfl (m_store 0 tf87 (b := b23) (o := 0) (T := 47) (cs := #[Bx (x10.kind), Bx (x10.power), .slice a18 (x10.body.length) (c19)]) (cs' := #[Bx ((shortO x10).kind), .int .u8 (0), .slice a18 ((x10.body.take 20).length) (c19)]) (v := .agg #[Bx ((shortO x10).kind), .int .u8 (0), .slice a18 ((x10.body.take 20).length) (c19)]) rfl rfl rfl rfl rfl rfl rfl) ?_
  refine l_nil ?_
  refine f_then ?_
  refine c_seq ?_
  refine c_seq ?_
  have hsl := short_lt x10
  by_cases hkd : (shortO x10).kind.toNat % 5 = 2
  ·
   have hc : ckOk K (I.epoch + 1) I.next ((shortO x10).body.take 300) := ck_neg hP
   have hI2 := hI.ck_ok (by omega) (by simp; omega) hc
   have hC2 := isP_ck (b := ((shortO x10).body.take 300)) hC
   have hP2 : (ckS K (I.epoch + 1) I.next ((shortO x10).body.take 300)).power = -1 := ckS_neg hP
   refine c_region ?_
   refine l_val (v := .pointer (some ⟨J3, 0, none⟩)) rfl rfl rfl (e_move) ?_
   refine l_val (v := .agg #[Bx ((shortO x10).kind), .int .u8 (0), .slice a18 ((x10.body.take 20).length) (c19)]) rfl rfl rfl (e_load tf87 (cs := [Bx ((shortO x10).kind), .int .u8 (0), .slice a18 ((x10.body.take 20).length) (c19)]) rfl (k_pt 0 (cs := #[Bx ((shortO x10).kind), .int .u8 (0), .slice a18 ((x10.body.take 20).length) (c19)]) (vs := [Bx ((shortO x10).kind), .int .u8 (0), .slice a18 ((x10.body.take 20).length) (c19)]) rfl rfl) rfl) ?_
   refine l_call rfl rfl rfl (cl_value (fst := []) (cap := []) (vs := [.pointer (some ⟨J3, 0, none⟩), .agg #[Bx ((shortO x10).kind), .int .u8 (0), .slice a18 ((x10.body.take 20).length) (c19)]]) (all := [.pointer (some ⟨J3, 0, none⟩), .agg #[Bx ((shortO x10).kind), .int .u8 (0), .slice a18 ((x10.body.take 20).length) (c19)]]) tf113 rfl rfl rfl) ?_
   intro w hw
   replace hw := hw.perm (L' := _ :: _ :: _ :: _ :: _ :: _ :: []) (by exact ((((((perm_front 5 rfl).trans (perm_front 5 rfl)).trans (perm_front 5 rfl)).trans (perm_front 3 rfl)).trans (perm_front 5 rfl)).trans (perm_front 5 rfl)))
   obtain ⟨β1, sb, kn, hw1, back⟩ := St.frame (L := [_, _]) (M := _ :: _ :: _ :: _ :: []) hw
   refine (does_ck_ok β1 w J3 b2 K I hfit (by omega) (by omega) (by omega) (by omega) (shortO x10) a18 c19 (show ((x10.body.take 20) : Bs).length ≤ c19 by simp only [List.length_take]; omega) (by omega) (Elems.mono _ _ _ _ _ sb (Elems.take 20 he22)) hkd hc hw1).mono ?_
   rintro e w' ⟨rfl, hw'⟩
   refine ⟨_, rfl, _, back _ _ hw', ?_⟩
   clear hw hw1 hw' back kn sb
   refine l_val (v := .bool false) rfl rfl rfl (e_neq (a := (0 : Int)) (b := (0 : Int)) rfl rfl) ?_
   refine l_nil ?_
   refine f_then ?_
   refine c_no rfl ?_
   refine c_skip ?_
   refine f_then ?_
   refine c_region ?_
   refine l_val (v := .agg #[Nx (C.epoch), Nx (C.next), .string (C.state), .slice pn (C.recs).length cn]) rfl rfl rfl (e_load tf101 (cs := [Nx (C.epoch), Nx (C.next), .string (C.state), .slice pn (C.recs).length cn]) rfl (k_pt 3 (cs := #[Nx (C.epoch), Nx (C.next), .string (C.state), .slice pn (C.recs).length cn]) (vs := [Nx (C.epoch), Nx (C.next), .string (C.state), .slice pn (C.recs).length cn]) rfl rfl) rfl) ?_
   refine l_val (v := .agg #[Bx ((shortO x10).kind), .int .u8 (0), .slice a18 ((x10.body.take 20).length) (c19)]) rfl rfl rfl (e_load tf87 (cs := [Bx ((shortO x10).kind), .int .u8 (0), .slice a18 ((x10.body.take 20).length) (c19)]) rfl (k_pt 2 (cs := #[Bx ((shortO x10).kind), .int .u8 (0), .slice a18 ((x10.body.take 20).length) (c19)]) (vs := [Bx ((shortO x10).kind), .int .u8 (0), .slice a18 ((x10.body.take 20).length) (c19)]) rfl rfl) rfl) ?_
   refine l_call rfl rfl rfl (cl_value (fst := []) (cap := []) (vs := [.agg #[Nx (C.epoch), Nx (C.next), .string (C.state), .slice pn (C.recs).length cn], .agg #[Bx ((shortO x10).kind), .int .u8 (0), .slice a18 ((x10.body.take 20).length) (c19)]]) (all := [.agg #[Nx (C.epoch), Nx (C.next), .string (C.state), .slice pn (C.recs).length cn], .agg #[Bx ((shortO x10).kind), .int .u8 (0), .slice a18 ((x10.body.take 20).length) (c19)]]) tf114 rfl rfl rfl) ?_
   intro w hw
   obtain ⟨β1, sb, kn, hw1, back⟩ := St.frame_all hw
   refine (with_2 β1 w hw1 C pn cn (by omega) (by omega) (kn _ (Knows.of_res 4 rfl (Elems.mono _ _ _) fun _ h => row_stre h)) (by first | omega | (simp only []; omega)) (shortO x10) a18 c19 (show ((x10.body.take 20) : Bs).length ≤ c19 by simp only [List.length_take]; omega) (by omega) (Elems.mono _ _ _ _ _ sb (Elems.take 20 he22)) (by omega)).mono ?_
   rintro e w' ⟨rfl, hw'⟩
   refine ⟨_, rfl, _, back _ _ hw', ?_⟩
   clear hw hw1 hw' back kn sb
   refine l_mu rfl rfl (m_store 3 tf101 (b := b4) (o := 0) (T := 27) (cs := #[Nx (C.epoch), Nx (C.next), .string (C.state), .slice pn (C.recs).length cn]) (cs' := #[Nx (C.epoch + 1), Nx (C.next), .string (str ((shortO x10).body.take 300)), .slice none 0 0]) (v := .agg #[Nx (C.epoch + 1), Nx (C.next), .string (str ((shortO x10).body.take 300)), .slice none 0 0]) rfl rfl rfl rfl rfl rfl rfl) ?_
   refine l_nil ?_
   refine f_block ?_
   refine f_then ?_
   refine c_region ?_
   refine l_val (v := Nx (k + 1)) rfl rfl rfl (e_add (a := ((k : Nat) : Int)) (b := (1 : Int)) rfl rfl (i64n (by omega) (by omega))) ?_
   refine l_val (v := Nx (k + 1)) rfl rfl rfl (e_move) ?_
   refine l_nil ?_
   refine f_emp (r := row (.slice none 0 0) 9 1 0 ([].map (fun s : ByteArray => Value.string s))) (row_nil _ _ _) ?_
   refine f_perm (L' := [jourR J3 b2 (ckI I ((shortO x10).body.take 300)) false, storeR b2 (ckS K (I.epoch + 1) I.next ((shortO x10).body.take 300)), pt b4 (.cells #[Nx (C.epoch + 1), Nx (C.next), .string (str ((shortO x10).body.take 300)), .slice none 0 0] 27), row (.slice none 0 0) 9 1 (0) ([].map (fun s : ByteArray => Value.string s)), pt b1 (.cells #[Bx ((shortO o).kind), .int .u8 (0), .slice oa ((o.body.take 20).length) (oc)] 47), pt b23 (.cells #[Bx ((shortO x10).kind), .int .u8 (0), .slice a18 ((x10.body.take 20).length) (c19)] 47), row (.slice pn (C.recs).length cn) 9 1 ((C.recs).length) (C.recs.map (fun s : ByteArray => Value.string s))]) (((((((perm_front 5 rfl).trans (perm_front 4 rfl)).trans (perm_front 6 rfl)).trans (perm_front 3 rfl)).trans (perm_front 6 rfl)).trans (perm_front 6 rfl)).trans (perm_front 6 rfl)) ?_
   refine f_mask (L' := [jourR J3 b2 (ckI I ((shortO x10).body.take 300)) false, storeR b2 (ckS K (I.epoch + 1) I.next ((shortO x10).body.take 300)), pt b4 (.cells #[Nx (C.epoch + 1), Nx (C.next), .string (str ((shortO x10).body.take 300)), .slice none 0 0] 27), row (.slice none 0 0) 9 1 (0) ([].map (fun s : ByteArray => Value.string s)), pt b1 (.cells #[Bx ((shortO o).kind), .int .u8 (0), .slice oa ((o.body.take 20).length) (oc)] 47)]) [true, true, true, true, true, false, false] rfl ?_
   exact f_cut ⟨(k + 1, (ckS K (I.epoch + 1) I.next ((shortO x10).body.take 300)), (ckI I ((shortO x10).body.take 300)), (⟨C.epoch + 1, C.next, str ((shortO x10).body.take 300), []⟩ : KC), none, 0), ⟨⟨rfl, rfl, rfl, rfl, rfl, rfl, rfl⟩, rfl, ⟨by omega, hI2, hC2, hP2⟩⟩, (show 6 - (k + 1) < 6 - k from by omega)⟩
  ·
   have hc : apOk K I ((shortO x10).body.take 300) := ap_neg hP
   have hI2 := hI.ap_ok (by omega) (by simp; omega) hc
   have hC2 := isP_ap (b := ((shortO x10).body.take 300)) hC
   have hP2 : (apS K I ((shortO x10).body.take 300)).power = -1 := apS_neg hP
   refine c_region ?_
   refine l_val (v := .pointer (some ⟨J3, 0, none⟩)) rfl rfl rfl (e_move) ?_
   refine l_val (v := .agg #[Bx ((shortO x10).kind), .int .u8 (0), .slice a18 ((x10.body.take 20).length) (c19)]) rfl rfl rfl (e_load tf87 (cs := [Bx ((shortO x10).kind), .int .u8 (0), .slice a18 ((x10.body.take 20).length) (c19)]) rfl (k_pt 0 (cs := #[Bx ((shortO x10).kind), .int .u8 (0), .slice a18 ((x10.body.take 20).length) (c19)]) (vs := [Bx ((shortO x10).kind), .int .u8 (0), .slice a18 ((x10.body.take 20).length) (c19)]) rfl rfl) rfl) ?_
   refine l_call rfl rfl rfl (cl_value (fst := []) (cap := []) (vs := [.pointer (some ⟨J3, 0, none⟩), .agg #[Bx ((shortO x10).kind), .int .u8 (0), .slice a18 ((x10.body.take 20).length) (c19)]]) (all := [.pointer (some ⟨J3, 0, none⟩), .agg #[Bx ((shortO x10).kind), .int .u8 (0), .slice a18 ((x10.body.take 20).length) (c19)]]) tf113 rfl rfl rfl) ?_
   intro w hw
   replace hw := hw.perm (L' := _ :: _ :: _ :: _ :: _ :: _ :: []) (by exact ((((((perm_front 5 rfl).trans (perm_front 5 rfl)).trans (perm_front 5 rfl)).trans (perm_front 3 rfl)).trans (perm_front 5 rfl)).trans (perm_front 5 rfl)))
   obtain ⟨β1, sb, kn, hw1, back⟩ := St.frame (L := [_, _]) (M := _ :: _ :: _ :: _ :: []) hw
   refine (does_ap_ok β1 w J3 b2 K I hfit (by omega) (by omega) (by omega) (by omega) (shortO x10) a18 c19 (show ((x10.body.take 20) : Bs).length ≤ c19 by simp only [List.length_take]; omega) (by omega) (Elems.mono _ _ _ _ _ sb (Elems.take 20 he22)) hkd hc hw1).mono ?_
   rintro e w' ⟨rfl, hw'⟩
   refine ⟨_, rfl, _, back _ _ hw', ?_⟩
   clear hw hw1 hw' back kn sb
   refine l_val (v := .bool false) rfl rfl rfl (e_neq (a := (0 : Int)) (b := (0 : Int)) rfl rfl) ?_
   refine l_nil ?_
   refine f_then ?_
   refine c_no rfl ?_
   refine c_skip ?_
   refine f_then ?_
   refine c_region ?_
   refine l_val (v := .agg #[Nx (C.epoch), Nx (C.next), .string (C.state), .slice pn (C.recs).length cn]) rfl rfl rfl (e_load tf101 (cs := [Nx (C.epoch), Nx (C.next), .string (C.state), .slice pn (C.recs).length cn]) rfl (k_pt 3 (cs := #[Nx (C.epoch), Nx (C.next), .string (C.state), .slice pn (C.recs).length cn]) (vs := [Nx (C.epoch), Nx (C.next), .string (C.state), .slice pn (C.recs).length cn]) rfl rfl) rfl) ?_
   refine l_val (v := .agg #[Bx ((shortO x10).kind), .int .u8 (0), .slice a18 ((x10.body.take 20).length) (c19)]) rfl rfl rfl (e_load tf87 (cs := [Bx ((shortO x10).kind), .int .u8 (0), .slice a18 ((x10.body.take 20).length) (c19)]) rfl (k_pt 2 (cs := #[Bx ((shortO x10).kind), .int .u8 (0), .slice a18 ((x10.body.take 20).length) (c19)]) (vs := [Bx ((shortO x10).kind), .int .u8 (0), .slice a18 ((x10.body.take 20).length) (c19)]) rfl rfl) rfl) ?_
   refine l_call rfl rfl rfl (cl_value (fst := []) (cap := []) (vs := [.agg #[Nx (C.epoch), Nx (C.next), .string (C.state), .slice pn (C.recs).length cn], .agg #[Bx ((shortO x10).kind), .int .u8 (0), .slice a18 ((x10.body.take 20).length) (c19)]]) (all := [.agg #[Nx (C.epoch), Nx (C.next), .string (C.state), .slice pn (C.recs).length cn], .agg #[Bx ((shortO x10).kind), .int .u8 (0), .slice a18 ((x10.body.take 20).length) (c19)]]) tf114 rfl rfl rfl) ?_
   intro w hw
   obtain ⟨β1, sb, kn, hw1, back⟩ := St.frame_all hw
   refine (with_app β1 w hw1 C pn cn (by omega) (by omega) (kn _ (Knows.of_res 4 rfl (Elems.mono _ _ _) fun _ h => row_stre h)) (by first | omega | (simp only []; omega)) (by first | omega | (simp only []; omega)) (shortO x10) a18 c19 (show ((x10.body.take 20) : Bs).length ≤ c19 by simp only [List.length_take]; omega) (by omega) (Elems.mono _ _ _ _ _ sb (Elems.take 20 he22)) (by omega)).mono ?_
   rintro e w' ⟨p24, c25, rfl, hw'⟩
   refine ⟨_, rfl, _, back _ _ hw', ?_⟩
   clear hw hw1 hw' back kn sb
   refine l_mu rfl rfl (m_store 4 tf101 (b := b4) (o := 0) (T := 27) (cs := #[Nx (C.epoch), Nx (C.next), .string (C.state), .slice pn (C.recs).length cn]) (cs' := #[Nx (C.epoch), Nx (C.next + 1), .string (C.state), .slice p24 ((C.recs ++ [str ((shortO x10).body.take 300)])).length c25]) (v := .agg #[Nx (C.epoch), Nx (C.next + 1), .string (C.state), .slice p24 ((C.recs ++ [str ((shortO x10).body.take 300)])).length c25]) rfl rfl rfl rfl rfl rfl rfl) ?_
   refine l_nil ?_
   refine f_block ?_
   refine f_then ?_
   refine c_region ?_
   refine l_val (v := Nx (k + 1)) rfl rfl rfl (e_add (a := ((k : Nat) : Int)) (b := (1 : Int)) rfl rfl (i64n (by omega) (by omega))) ?_
   refine l_val (v := Nx (k + 1)) rfl rfl rfl (e_move) ?_
   refine l_nil ?_
   refine f_perm (L' := [jourR J3 b2 (apI I ((shortO x10).body.take 300)) false, storeR b2 (apS K I ((shortO x10).body.take 300)), pt b4 (.cells #[Nx (C.epoch), Nx (C.next + 1), .string (C.state), .slice p24 ((C.recs ++ [str ((shortO x10).body.take 300)])).length c25] 27), row (.slice p24 ((C.recs ++ [str ((shortO x10).body.take 300)])).length c25) 9 1 (((C.recs ++ [str ((shortO x10).body.take 300)])).length) ((C.recs ++ [str ((shortO x10).body.take 300)]).map (fun s : ByteArray => Value.string s)), pt b1 (.cells #[Bx ((shortO o).kind), .int .u8 (0), .slice oa ((o.body.take 20).length) (oc)] 47), pt b23 (.cells #[Bx ((shortO x10).kind), .int .u8 (0), .slice a18 ((x10.body.take 20).length) (c19)] 47), row (.slice pn (C.recs).length cn) 9 1 ((C.recs).length) (C.recs.map (fun s : ByteArray => Value.string s))]) (((((((perm_front 5 rfl).trans (perm_front 4 rfl)).trans (perm_front 6 rfl)).trans (perm_front 3 rfl)).trans (perm_front 6 rfl)).trans (perm_front 6 rfl)).trans (perm_front 6 rfl)) ?_
   refine f_mask (L' := [jourR J3 b2 (apI I ((shortO x10).body.take 300)) false, storeR b2 (apS K I ((shortO x10).body.take 300)), pt b4 (.cells #[Nx (C.epoch), Nx (C.next + 1), .string (C.state), .slice p24 ((C.recs ++ [str ((shortO x10).body.take 300)])).length c25] 27), row (.slice p24 ((C.recs ++ [str ((shortO x10).body.take 300)])).length c25) 9 1 (((C.recs ++ [str ((shortO x10).body.take 300)])).length) ((C.recs ++ [str ((shortO x10).body.take 300)]).map (fun s : ByteArray => Value.string s)), pt b1 (.cells #[Bx ((shortO o).kind), .int .u8 (0), .slice oa ((o.body.take 20).length) (oc)] 47)]) [true, true, true, true, true, false, false] rfl ?_
   exact f_cut ⟨(k + 1, (apS K I ((shortO x10).body.take 300)), (apI I ((shortO x10).body.take 300)), (⟨C.epoch, C.next + 1, C.state, (C.recs ++ [str ((shortO x10).body.take 300)])⟩ : KC), p24, c25), ⟨⟨rfl, rfl, rfl, rfl, rfl, rfl, rfl⟩, rfl, ⟨by omega, hI2, hC2, hP2⟩⟩, (show 6 - (k + 1) < 6 - k from by omega)⟩
 ·
  refine c_exit ?_
  refine f_then_exit ?_
  refine f_then_exit ?_
  refine f_exit ?_
  refine f_then ?_
  refine c_seq ?_
  refine c_rowcap 3 rfl (fun hcl hcm => ?_)
  have hcm2 : cn ≤ 9223372036854775807 := by unfold maxLen at hcm; omega
  have hC1 := hC.1
  have hC2n := hC.2.1
  have hC4 := congrArg List.length hC.2.2.2
  rw [List.length_map] at hC4
  have hsl := short_lt o
  have hbl := short_len o
  have hfit := hI.fits (show k ≤ 100 by omega)
  have hnN := hI.nN
  have hsz0 := hI.sz
  have heN := hI.eN
  have hrl0 := hI.wf.next
  by_cases hkd : (shortO o).kind.toNat % 5 = 2
  ·
   have hcost : costC K (I.epoch + 1) ((shortO o).body.take 300) ≤ 61 := by unfold costC; split <;> omega
   have hC2 := isP_ck (b := ((shortO o).body.take 300)) hC
   have hN2 := isP_old_ck (b := ((shortO o).body.take 300)) hC
   obtain ⟨I2, hI2e⟩ : ∃ z, z = ckI I ((shortO o).body.take 300) := ⟨_, rfl⟩
   rw [← hI2e] at hC2 hN2
   refine c_region ?_
   refine l_val (v := .agg #[Nx (C.epoch), Nx (C.next), .string (C.state), .slice pn (C.recs).length cn]) rfl rfl rfl (e_load tf101 (cs := [Nx (C.epoch), Nx (C.next), .string (C.state), .slice pn (C.recs).length cn]) rfl (k_pt 2 (cs := #[Nx (C.epoch), Nx (C.next), .string (C.state), .slice pn (C.recs).length cn]) (vs := [Nx (C.epoch), Nx (C.next), .string (C.state), .slice pn (C.recs).length cn]) rfl rfl) rfl) ?_
   refine l_val (v := .agg #[Bx ((shortO o).kind), .int .u8 (0), .slice oa ((o.body.take 20).length) (oc)]) rfl rfl rfl (e_load tf87 (cs := [Bx ((shortO o).kind), .int .u8 (0), .slice oa ((o.body.take 20).length) (oc)]) rfl (k_pt 4 (cs := #[Bx ((shortO o).kind), .int .u8 (0), .slice oa ((o.body.take 20).length) (oc)]) (vs := [Bx ((shortO o).kind), .int .u8 (0), .slice oa ((o.body.take 20).length) (oc)]) rfl rfl) rfl) ?_
   refine l_call rfl rfl rfl (cl_value (fst := []) (cap := []) (vs := [.agg #[Nx (C.epoch), Nx (C.next), .string (C.state), .slice pn (C.recs).length cn], .agg #[Bx ((shortO o).kind), .int .u8 (0), .slice oa ((o.body.take 20).length) (oc)]]) (all := [.agg #[Nx (C.epoch), Nx (C.next), .string (C.state), .slice pn (C.recs).length cn], .agg #[Bx ((shortO o).kind), .int .u8 (0), .slice oa ((o.body.take 20).length) (oc)]]) tf114 rfl rfl rfl) ?_
   intro w hw
   obtain ⟨β1, sb, kn, hw1, back⟩ := St.frame_all hw
   refine (with_2 β1 w hw1 C pn cn (by omega) (by omega) (kn _ (Knows.of_res 3 rfl (Elems.mono _ _ _) fun _ h => row_stre h)) (by first | omega | (simp only []; omega)) (shortO o) oa oc (show ((o.body.take 20) : Bs).length ≤ oc by simp only [List.length_take]; omega) (by omega) (Elems.mono _ _ _ _ _ sb (Elems.take 20 oe)) (by omega)).mono ?_
   rintro e w' ⟨rfl, hw'⟩
   refine ⟨_, rfl, _, back _ _ hw', ?_⟩
   clear hw hw1 hw' back kn sb
   refine l_mv rfl rfl rfl (m_alloc tf112) ?_
   rintro _ _ ⟨b26, rfl, rfl⟩
   refine l_mu rfl rfl (m_store 0 tf101 (b := b26) (o := 0) (T := 27) (cs := #[.int .i64 (0), .int .i64 (0), .string ((⟨#[]⟩ : ByteArray)), .slice none 0 0]) (cs' := #[Nx (C.epoch + 1), Nx (C.next), .string (str ((shortO o).body.take 300)), .slice none 0 0]) (v := .agg #[Nx (C.epoch + 1), Nx (C.next), .string (str ((shortO o).body.take 300)), .slice none 0 0]) rfl rfl rfl rfl rfl rfl rfl) ?_
   refine l_nil ?_
   refine f_then ?_
   refine c_seq ?_
   refine c_seq ?_
   refine c_region ?_
   refine l_val (v := .int .i64 (0)) rfl rfl rfl (e_move) ?_
   refine l_nil ?_
   refine f_then ?_
   refine c_block ?_
   refine c_mask [true, true, true, true, true, true] rfl ?_
   refine c_loop (fun (q : Nat) (f : Fm) (L : List Res) => (f 3 = .pointer (some ⟨b1, 0, none⟩) ∧ f 5 = .pointer (some ⟨b2, 0, none⟩) ∧ f 8 = .pointer (some ⟨b4, 0, none⟩) ∧ f 11 = .pointer (some ⟨b26, 0, none⟩) ∧ f 55 = Nx (q)) ∧ L = [pt b26 (.cells #[Nx (C.epoch + 1), Nx (C.next), .string (str ((shortO o).body.take 300)), .slice none 0 0] 27), jourR J3 b2 I false, storeR b2 K, pt b4 (.cells #[Nx (C.epoch), Nx (C.next), .string (C.state), .slice pn (C.recs).length cn] 27), row (.slice pn (C.recs).length cn) 9 1 ((C.recs).length) (C.recs.map (fun s : ByteArray => Value.string s)), pt b1 (.cells #[Bx ((shortO o).kind), .int .u8 (0), .slice oa ((o.body.take 20).length) (oc)] 47)] ∧ (q ≤ costC K (I.epoch + 1) ((shortO o).body.take 300))) (fun (q : Nat) => 200 - q) 0 ?_ ?_
   ·exact ⟨⟨rfl, rfl, rfl, rfl, rfl⟩, rfl, (by omega)⟩
   rintro q f0 L0 ⟨⟨hs3, hs5, hs8, hs11, hs55⟩, hL, hq⟩
   subst L0
   refine rebase (d := 3) hs3 ?_
   refine rebase (d := 5) hs5 ?_
   refine rebase (d := 8) hs8 ?_
   refine rebase (d := 11) hs11 ?_
   refine rebase (d := 55) hs55 ?_
   clear hs3 hs5 hs8 hs11 hs55
   refine c_seq ?_
   refine c_region ?_
   refine l_val (v := .bool (decide (((q : Nat) : Int) < (200 : Int)))) rfl rfl rfl (e_lss (a := ((q : Nat) : Int)) (b := (200 : Int)) rfl rfl) ?_
   refine l_nil ?_
   refine f_then ?_
   refine c_seq ?_
   refine c_if (((q : Nat) : Int) < (200 : Int)) rfl (fun hc27 => ?_) (fun hc27 => ?_)
   ·
    refine c_skip ?_
    refine f_then ?_
    refine c_seq ?_
    refine c_block ?_
    refine c_seq ?_
    refine c_region ?_
    refine l_val (v := Nx (q)) rfl rfl rfl (e_move) ?_
    refine l_val (v := Nx (q)) rfl rfl rfl (e_assign) ?_
    refine l_nil ?_
    refine f_then ?_
    refine c_seq ?_
    have hfk := hfit
    obtain ⟨hf1, hf2, hf3, _⟩ := hfit
    refine c_perm (L' := [storeR b2 K, pt b26 (.cells #[Nx (C.epoch + 1), Nx (C.next), .string (str ((shortO o).body.take 300)), .slice none 0 0] 27), jourR J3 b2 I false, pt b4 (.cells #[Nx (C.epoch), Nx (C.next), .string (C.state), .slice pn (C.recs).length cn] 27), row (.slice pn (C.recs).length cn) 9 1 ((C.recs).length) (C.recs.map (fun s : ByteArray => Value.string s)), pt b1 (.cells #[Bx ((shortO o).kind), .int .u8 (0), .slice oa ((o.body.take 20).length) (oc)] 47)]) (by exact ((((((perm_front 5 rfl).trans (perm_front 5 rfl)).trans (perm_front 5 rfl)).trans (perm_front 4 rfl)).trans (perm_front 4 rfl)).trans (perm_front 5 rfl))) ?_
    refine c_openStore rfl (fun pH28 pA29 pB30 cH31 cA32 cB33 => ?_)
    refine c_rowcap 1 rfl (fun hcl34 hcm35 => ?_)
    refine c_rowcap 2 rfl (fun hcl36 hcm37 => ?_)
    refine c_rowcap 3 rfl (fun hcl38 hcm39 => ?_)
    refine c_region ?_
    refine l_val (v := .pointer (some ⟨b2, 0, none⟩)) rfl rfl rfl (e_move) ?_
    refine l_val (v := .pointer (some ⟨b2, 0, none⟩)) rfl rfl rfl (e_nil (a := ⟨b2, 0, none⟩) rfl) ?_
    refine l_val (v := .agg #[.slice pH28 (K.head).length cH31, .slice pA29 (K.a).length cA32, .slice pB30 (K.b).length cB33, Ix (K.power)]) rfl rfl rfl (e_load tf56 (cs := [.slice pH28 (K.head).length cH31, .slice pA29 (K.a).length cA32, .slice pB30 (K.b).length cB33, Ix (K.power)]) rfl (k_pt 0 (cs := #[.slice pH28 (K.head).length cH31, .slice pA29 (K.a).length cA32, .slice pB30 (K.b).length cB33, Ix (K.power)]) (vs := [.slice pH28 (K.head).length cH31, .slice pA29 (K.a).length cA32, .slice pB30 (K.b).length cB33, Ix (K.power)]) rfl rfl) rfl) ?_
    refine l_call rfl rfl rfl (cl_value (fst := []) (cap := []) (vs := [.agg #[.slice pH28 (K.head).length cH31, .slice pA29 (K.a).length cA32, .slice pB30 (K.b).length cB33, Ix (K.power)]]) (all := [.agg #[.slice pH28 (K.head).length cH31, .slice pA29 (K.a).length cA32, .slice pB30 (K.b).length cB33, Ix (K.power)]]) tf118 rfl rfl rfl) ?_
    intro w hw
    obtain ⟨β1, sb, kn, hw1, back⟩ := St.frame_all hw
    refine (copys_ok β1 w hw1 K _ _ _ (kn _ (Knows.of_res 1 rfl (Sl.mono U8R _ _) fun _ h => row_u8 h)) (kn _ (Knows.of_res 2 rfl (Sl.mono U8R _ _) fun _ h => row_u8 h)) (kn _ (Knows.of_res 3 rfl (Sl.mono U8R _ _) fun _ h => row_u8 h)) (by omega) (by omega) (by omega)).mono ?_
    rintro e w' ⟨pH40, pA41, pB42, cH43, cA44, cB45, rfl, hw'⟩
    refine ⟨_, rfl, _, back _ _ hw', ?_⟩
    clear hw hw1 hw' back kn sb
    refine l_mv rfl rfl rfl (m_alloc tf106) ?_
    rintro _ _ ⟨b46, rfl, rfl⟩
    refine l_mu rfl rfl (m_store 0 tf56 (b := b46) (o := 0) (T := 32) (cs := #[.slice none 0 0, .slice none 0 0, .slice none 0 0, .int .i64 (0)]) (cs' := #[.slice pH40 (K.head).length cH43, .slice pA41 (K.a).length cA44, .slice pB42 (K.b).length cB45, Ix (K.power)]) (v := .agg #[.slice pH40 (K.head).length cH43, .slice pA41 (K.a).length cA44, .slice pB42 (K.b).length cB45, Ix (K.power)]) rfl rfl rfl rfl rfl rfl rfl) ?_
    refine l_nil ?_
    refine f_then ?_
    refine c_seq ?_
    refine c_perm (L' := [pt b2 (.cells #[.slice pH28 (K.head).length cH31, .slice pA29 (K.a).length cA32, .slice pB30 (K.b).length cB33, Ix (K.power)] 32), row (.slice pH28 (K.head).length cH31) 5 1 ((K.head).length) (BX K.head), row (.slice pA29 (K.a).length cA32) 5 1 ((K.a).length) (BX K.a), row (.slice pB30 (K.b).length cB33) 5 1 ((K.b).length) (BX K.b), pt b46 (.cells #[.slice pH40 (K.head).length cH43, .slice pA41 (K.a).length cA44, .slice pB42 (K.b).length cB45, Ix (K.power)] 32), row (.slice pH40 (K.head).length cH43) 5 1 ((K.head).length) (BX K.head), row (.slice pA41 (K.a).length cA44) 5 1 ((K.a).length) (BX K.a), row (.slice pB42 (K.b).length cB45) 5 1 ((K.b).length) (BX K.b), pt b26 (.cells #[Nx (C.epoch + 1), Nx (C.next), .string (str ((shortO o).body.take 300)), .slice none 0 0] 27), jourR J3 b2 I false, pt b4 (.cells #[Nx (C.epoch), Nx (C.next), .string (C.state), .slice pn (C.recs).length cn] 27), row (.slice pn (C.recs).length cn) 9 1 ((C.recs).length) (C.recs.map (fun s : ByteArray => Value.string s)), pt b1 (.cells #[Bx ((shortO o).kind), .int .u8 (0), .slice oa ((o.body.take 20).length) (oc)] 47)]) (by exact (((((((((((((perm_front 12 rfl).trans (perm_front 12 rfl)).trans (perm_front 12 rfl)).trans (perm_front 12 rfl)).trans (perm_front 12 rfl)).trans (perm_front 8 rfl)).trans (perm_front 8 rfl)).trans (perm_front 8 rfl)).trans (perm_front 8 rfl)).trans (perm_front 12 rfl)).trans (perm_front 12 rfl)).trans (perm_front 12 rfl)).trans (perm_front 12 rfl))) ?_
    refine c_closeStore (S := b2) (k := K) (pH := pH28) (pA := pA29) (pB := pB30) (cH := cH31) (cA := cA32) (cB := cB33) (M := (pt b46 (.cells #[.slice pH40 (K.head).length cH43, .slice pA41 (K.a).length cA44, .slice pB42 (K.b).length cB45, Ix (K.power)] 32) :: row (.slice pH40 (K.head).length cH43) 5 1 ((K.head).length) (BX K.head) :: row (.slice pA41 (K.a).length cA44) 5 1 ((K.a).length) (BX K.a) :: row (.slice pB42 (K.b).length cB45) 5 1 ((K.b).length) (BX K.b) :: pt b26 (.cells #[Nx (C.epoch + 1), Nx (C.next), .string (str ((shortO o).body.take 300)), .slice none 0 0] 27) :: jourR J3 b2 I false :: pt b4 (.cells #[Nx (C.epoch), Nx (C.next), .string (C.state), .slice pn (C.recs).length cn] 27) :: row (.slice pn (C.recs).length cn) 9 1 ((C.recs).length) (C.recs.map (fun s : ByteArray => Value.string s)) :: pt b1 (.cells #[Bx ((shortO o).kind), .int .u8 (0), .slice oa ((o.body.take 20).length) (oc)] 47) :: [])) rfl ?_
    refine c_perm (L' := [pt b46 (.cells #[.slice pH40 (K.head).length cH43, .slice pA41 (K.a).length cA44, .slice pB42 (K.b).length cB45, Ix (K.power)] 32), row (.slice pH40 (K.head).length cH43) 5 1 ((K.head).length) (BX K.head), row (.slice pA41 (K.a).length cA44) 5 1 ((K.a).length) (BX K.a), row (.slice pB42 (K.b).length cB45) 5 1 ((K.b).length) (BX K.b), storeR b2 K, pt b26 (.cells #[Nx (C.epoch + 1), Nx (C.next), .string (str ((shortO o).body.take 300)), .slice none 0 0] 27), jourR J3 b2 I false, pt b4 (.cells #[Nx (C.epoch), Nx (C.next), .string (C.state), .slice pn (C.recs).length cn] 27), row (.slice pn (C.recs).length cn) 9 1 ((C.recs).length) (C.recs.map (fun s : ByteArray => Value.string s)), pt b1 (.cells #[Bx ((shortO o).kind), .int .u8 (0), .slice oa ((o.body.take 20).length) (oc)] 47)]) (by exact ((((((((((perm_front 9 rfl).trans (perm_front 9 rfl)).trans (perm_front 9 rfl)).trans (perm_front 9 rfl)).trans (perm_front 9 rfl)).trans (perm_front 5 rfl)).trans (perm_front 9 rfl)).trans (perm_front 9 rfl)).trans (perm_front 9 rfl)).trans (perm_front 9 rfl))) ?_
    refine c_closeStore (S := b46) (k := K) (pH := pH40) (pA := pA41) (pB := pB42) (cH := cH43) (cA := cA44) (cB := cB45) (M := (storeR b2 K :: pt b26 (.cells #[Nx (C.epoch + 1), Nx (C.next), .string (str ((shortO o).body.take 300)), .slice none 0 0] 27) :: jourR J3 b2 I false :: pt b4 (.cells #[Nx (C.epoch), Nx (C.next), .string (C.state), .slice pn (C.recs).length cn] 27) :: row (.slice pn (C.recs).length cn) 9 1 ((C.recs).length) (C.recs.map (fun s : ByteArray => Value.string s)) :: pt b1 (.cells #[Bx ((shortO o).kind), .int .u8 (0), .slice oa ((o.body.take 20).length) (oc)] 47) :: [])) rfl ?_
    refine c_region ?_
    refine l_call rfl rfl rfl (cl_value (fst := []) (cap := []) (vs := [.pointer (some ⟨b46, 0, none⟩)]) (all := [.pointer (some ⟨b46, 0, none⟩)]) tf107 rfl rfl rfl) ?_
    intro w hw
    replace hw := hw.perm (L' := _ :: _ :: _ :: _ :: _ :: _ :: _ :: []) (by exact (((((((perm_front 6 rfl).trans (perm_front 6 rfl)).trans (perm_front 6 rfl)).trans (perm_front 6 rfl)).trans (perm_front 6 rfl)).trans (perm_front 6 rfl)).trans (perm_front 6 rfl)))
    obtain ⟨β1, sb, kn, hw1, back⟩ := St.frame (L := [_]) (M := _ :: _ :: _ :: _ :: _ :: _ :: []) hw
    refine (again_ok β1 w b46 K ((hI.pow (p := -1) (by decide) (by decide)).okP (by omega)) I hI.read hw1).mono ?_
    rintro e w' ⟨J47, rfl, hw'⟩
    refine ⟨_, rfl, _, back _ _ hw', ?_⟩
    clear hw hw1 hw' back kn sb
    refine l_val (v := .tuple #[.pointer (some ⟨J47, 0, none⟩), .bool true]) rfl rfl rfl (e_move) ?_
    refine l_val (v := .pointer (some ⟨J47, 0, none⟩)) rfl rfl rfl (e_extract (vs := #[.pointer (some ⟨J47, 0, none⟩), .bool true]) rfl rfl) ?_
    refine l_val (v := .bool true) rfl rfl rfl (e_extract (vs := #[.pointer (some ⟨J47, 0, none⟩), .bool true]) rfl rfl) ?_
    refine l_val (v := .pointer (some ⟨J47, 0, none⟩)) rfl rfl rfl (e_assign) ?_
    refine l_val (v := .bool true) rfl rfl rfl (e_assign) ?_
    refine l_nil ?_
    refine f_then ?_
    refine c_seq ?_
    refine c_seq ?_
    refine c_region ?_
    refine l_val (v := .bool true) rfl rfl rfl (e_move) ?_
    refine l_val (v := .bool false) rfl rfl rfl (e_not (a := true) rfl) ?_
    refine l_nil ?_
    refine f_then ?_
    refine c_no rfl ?_
    refine c_skip ?_
    refine f_then ?_
    refine c_seq ?_
    refine c_re (L' := [jourR J47 b46 I false, storeR b46 K, storeR b2 K, pt b26 (.cells #[Nx (C.epoch + 1), Nx (C.next), .string (str ((shortO o).body.take 300)), .slice none 0 0] 27), jourR J3 b2 I false, pt b4 (.cells #[Nx (C.epoch), Nx (C.next), .string (C.state), .slice pn (C.recs).length cn] 27), row (.slice pn (C.recs).length cn) 9 1 ((C.recs).length) (C.recs.map (fun s : ByteArray => Value.string s)), pt b1 (.cells #[Bx ((shortO o).kind), .int .u8 (0), .slice oa ((o.body.take 20).length) (oc)] 47)]) (by rw [cut_self' hI hP]; rfl) ?_
    refine c_perm (L' := [storeR b46 K, jourR J47 b46 I false, storeR b2 K, pt b26 (.cells #[Nx (C.epoch + 1), Nx (C.next), .string (str ((shortO o).body.take 300)), .slice none 0 0] 27), jourR J3 b2 I false, pt b4 (.cells #[Nx (C.epoch), Nx (C.next), .string (C.state), .slice pn (C.recs).length cn] 27), row (.slice pn (C.recs).length cn) 9 1 ((C.recs).length) (C.recs.map (fun s : ByteArray => Value.string s)), pt b1 (.cells #[Bx ((shortO o).kind), .int .u8 (0), .slice oa ((o.body.take 20).length) (oc)] 47)]) (by exact ((((((((perm_front 7 rfl).trans (perm_front 7 rfl)).trans (perm_front 7 rfl)).trans (perm_front 7 rfl)).trans (perm_front 7 rfl)).trans (perm_front 7 rfl)).trans (perm_front 6 rfl)).trans (perm_front 7 rfl))) ?_
    refine c_openStore rfl (fun pH48 pA49 pB50 cH51 cA52 cB53 => ?_)
    refine c_rowcap 1 rfl (fun hcl54 hcm55 => ?_)
    refine c_rowcap 2 rfl (fun hcl56 hcm57 => ?_)
    refine c_rowcap 3 rfl (fun hcl58 hcm59 => ?_)
    refine c_region ?_
    refine l_val (v := Nx (q)) rfl rfl rfl (e_move) ?_
    refine l_val (v := .pointer (some ⟨b46, 3, none⟩)) rfl rfl rfl (e_fieldPt (b := b46) (o := 0) rfl tf24) ?_
    refine l_mu rfl rfl (m_store 0 tf25 (b := b46) (o := 3) (T := 32) (cs := #[.slice pH48 (K.head).length cH51, .slice pA49 (K.a).length cA52, .slice pB50 (K.b).length cB53, Ix (K.power)]) (cs' := #[.slice pH48 (K.head).length cH51, .slice pA49 (K.a).length cA52, .slice pB50 (K.b).length cB53, Nx (q)]) (v := Nx (q)) rfl rfl rfl rfl rfl rfl rfl) ?_
    refine l_nil ?_
    refine f_then ?_
    refine c_seq ?_
    refine c_perm (L' := [pt b46 (.cells #[.slice pH48 (K.head).length cH51, .slice pA49 (K.a).length cA52, .slice pB50 (K.b).length cB53, Nx (q)] 32), row (.slice pH48 (K.head).length cH51) 5 1 ((K.head).length) (BX K.head), row (.slice pA49 (K.a).length cA52) 5 1 ((K.a).length) (BX K.a), row (.slice pB50 (K.b).length cB53) 5 1 ((K.b).length) (BX K.b), jourR J47 b46 I false, storeR b2 K, pt b26 (.cells #[Nx (C.epoch + 1), Nx (C.next), .string (str ((shortO o).body.take 300)), .slice none 0 0] 27), jourR J3 b2 I false, pt b4 (.cells #[Nx (C.epoch), Nx (C.next), .string (C.state), .slice pn (C.recs).length cn] 27), row (.slice pn (C.recs).length cn) 9 1 ((C.recs).length) (C.recs.map (fun s : ByteArray => Value.string s)), pt b1 (.cells #[Bx ((shortO o).kind), .int .u8 (0), .slice oa ((o.body.take 20).length) (oc)] 47)]) (by exact (((((((((((perm_front 10 rfl).trans (perm_front 10 rfl)).trans (perm_front 10 rfl)).trans (perm_front 10 rfl)).trans (perm_front 10 rfl)).trans (perm_front 10 rfl)).trans (perm_front 10 rfl)).trans (perm_front 10 rfl)).trans (perm_front 10 rfl)).trans (perm_front 10 rfl)).trans (perm_front 10 rfl))) ?_
    refine c_closeStore (S := b46) (k := ({ K with power := ((q : Nat) : Int) } : KS)) (pH := pH48) (pA := pA49) (pB := pB50) (cH := cH51) (cA := cA52) (cB := cB53) (M := (jourR J47 b46 I false :: storeR b2 K :: pt b26 (.cells #[Nx (C.epoch + 1), Nx (C.next), .string (str ((shortO o).body.take 300)), .slice none 0 0] 27) :: jourR J3 b2 I false :: pt b4 (.cells #[Nx (C.epoch), Nx (C.next), .string (C.state), .slice pn (C.recs).length cn] 27) :: row (.slice pn (C.recs).length cn) 9 1 ((C.recs).length) (C.recs.map (fun s : ByteArray => Value.string s)) :: pt b1 (.cells #[Bx ((shortO o).kind), .int .u8 (0), .slice oa ((o.body.take 20).length) (oc)] 47) :: [])) rfl ?_
    obtain ⟨Kq, hKq⟩ : ∃ z, z = ({ K with power := ((q : Nat) : Int) } : KS) := ⟨_, rfl⟩
    refine c_re (L' := [storeR b46 Kq, jourR J47 b46 I false, storeR b2 K, pt b26 (.cells #[Nx (C.epoch + 1), Nx (C.next), .string (str ((shortO o).body.take 300)), .slice none 0 0] 27), jourR J3 b2 I false, pt b4 (.cells #[Nx (C.epoch), Nx (C.next), .string (C.state), .slice pn (C.recs).length cn] 27), row (.slice pn (C.recs).length cn) 9 1 ((C.recs).length) (C.recs.map (fun s : ByteArray => Value.string s)), pt b1 (.cells #[Bx ((shortO o).kind), .int .u8 (0), .slice oa ((o.body.take 20).length) (oc)] 47)]) (by rw [hKq]; try rfl) ?_
    have hpq : Kq.power = ((q : Nat) : Int) := by rw [hKq]
    have hIq : Inv Kq I k true := by rw [hKq]; exact hI.pow (by omega) (by omega)
    have hfq := hIq.fits (show k ≤ 100 by omega)
    have hev := every_ck (e := I.epoch + 1) (n := I.next) (b := ((shortO o).body.take 300)) hpq
    rw [show costC Kq (I.epoch + 1) ((shortO o).body.take 300) = costC K (I.epoch + 1) ((shortO o).body.take 300) by rw [hKq]; rfl] at hev
    obtain ⟨K2, hK2⟩ : ∃ z, z = ckS Kq (I.epoch + 1) I.next ((shortO o).body.take 300) := ⟨_, rfl⟩
    have hpw : K2.power = 0 := by rw [hK2, hev.2]; exact congrArg (fun z : Nat => (z : Int)) (show q - costC K (I.epoch + 1) ((shortO o).body.take 300) = 0 by omega)
    by_cases hc : ckOk Kq (I.epoch + 1) I.next ((shortO o).body.take 300)
    ·
     have hcp := hev.1.1 hc
     have hI2 : Inv K2 I2 (k + 1) true := by rw [hK2, hI2e]; exact hIq.ck_ok (by omega) (by omega) hc
     refine c_region ?_
     refine l_val (v := .pointer (some ⟨J47, 0, none⟩)) rfl rfl rfl (e_move) ?_
     refine l_val (v := .agg #[Bx ((shortO o).kind), .int .u8 (0), .slice oa ((o.body.take 20).length) (oc)]) rfl rfl rfl (e_load tf87 (cs := [Bx ((shortO o).kind), .int .u8 (0), .slice oa ((o.body.take 20).length) (oc)]) rfl (k_pt 7 (cs := #[Bx ((shortO o).kind), .int .u8 (0), .slice oa ((o.body.take 20).length) (oc)]) (vs := [Bx ((shortO o).kind), .int .u8 (0), .slice oa ((o.body.take 20).length) (oc)]) rfl rfl) rfl) ?_
     refine l_call rfl rfl rfl (cl_value (fst := []) (cap := []) (vs := [.pointer (some ⟨J47, 0, none⟩), .agg #[Bx ((shortO o).kind), .int .u8 (0), .slice oa ((o.body.take 20).length) (oc)]]) (all := [.pointer (some ⟨J47, 0, none⟩), .agg #[Bx ((shortO o).kind), .int .u8 (0), .slice oa ((o.body.take 20).length) (oc)]]) tf113 rfl rfl rfl) ?_
     intro w hw
     replace hw := hw.perm (L' := _ :: _ :: _ :: _ :: _ :: _ :: _ :: _ :: []) (by exact ((((((((perm_front 7 rfl).trans (perm_front 7 rfl)).trans (perm_front 7 rfl)).trans (perm_front 7 rfl)).trans (perm_front 7 rfl)).trans (perm_front 7 rfl)).trans (perm_front 6 rfl)).trans (perm_front 7 rfl)))
     obtain ⟨β1, sb, kn, hw1, back⟩ := St.frame (L := [_, _]) (M := _ :: _ :: _ :: _ :: _ :: _ :: []) hw
     refine (does_ck_ok β1 w J47 b46 Kq I hfq (by omega) (by omega) (by omega) (by omega) (shortO o) oa oc (show ((o.body.take 20) : Bs).length ≤ oc by simp only [List.length_take]; omega) (by omega) (Elems.mono _ _ _ _ _ sb (Elems.take 20 oe)) hkd hc hw1).mono ?_
     rintro e w' ⟨rfl, hw'⟩
     refine ⟨_, rfl, _, back _ _ hw', ?_⟩
     clear hw hw1 hw' back kn sb
     refine l_val (v := .int .i64 (0)) rfl rfl rfl (e_assign) ?_
     refine l_nil ?_
     refine f_then ?_
     refine c_seq ?_
     refine c_seq ?_
     refine c_re (L' := [jourR J47 b46 I2 false, storeR b46 K2, storeR b2 K, pt b26 (.cells #[Nx (C.epoch + 1), Nx (C.next), .string (str ((shortO o).body.take 300)), .slice none 0 0] 27), jourR J3 b2 I false, pt b4 (.cells #[Nx (C.epoch), Nx (C.next), .string (C.state), .slice pn (C.recs).length cn] 27), row (.slice pn (C.recs).length cn) 9 1 ((C.recs).length) (C.recs.map (fun s : ByteArray => Value.string s)), pt b1 (.cells #[Bx ((shortO o).kind), .int .u8 (0), .slice oa ((o.body.take 20).length) (oc)] 47)]) (by rw [hK2, hI2e]; try rfl) ?_
     refine c_perm (L' := [storeR b46 K2, jourR J47 b46 I2 false, storeR b2 K, pt b26 (.cells #[Nx (C.epoch + 1), Nx (C.next), .string (str ((shortO o).body.take 300)), .slice none 0 0] 27), jourR J3 b2 I false, pt b4 (.cells #[Nx (C.epoch), Nx (C.next), .string (C.state), .slice pn (C.recs).length cn] 27), row (.slice pn (C.recs).length cn) 9 1 ((C.recs).length) (C.recs.map (fun s : ByteArray => Value.string s)), pt b1 (.cells #[Bx ((shortO o).kind), .int .u8 (0), .slice oa ((o.body.take 20).length) (oc)] 47)]) (by exact ((((((((perm_front 7 rfl).trans (perm_front 7 rfl)).trans (perm_front 7 rfl)).trans (perm_front 7 rfl)).trans (perm_front 7 rfl)).trans (perm_front 7 rfl)).trans (perm_front 6 rfl)).trans (perm_front 7 rfl))) ?_
     refine c_openStore rfl (fun pH60 pA61 pB62 cH63 cA64 cB65 => ?_)
     refine c_rowcap 1 rfl (fun hcl66 hcm67 => ?_)
     refine c_rowcap 2 rfl (fun hcl68 hcm69 => ?_)
     refine c_rowcap 3 rfl (fun hcl70 hcm71 => ?_)
     refine c_region ?_
     refine l_val (v := .int .i64 (0)) rfl rfl rfl (e_move) ?_
     refine l_val (v := .bool false) rfl rfl rfl (e_neq (a := (0 : Int)) (b := (0 : Int)) rfl rfl) ?_
     refine l_val (v := .bool false) rfl rfl rfl (e_move) ?_
     refine l_skip rfl rfl rfl rfl rfl rfl ?_
     refine l_skip rfl rfl rfl rfl rfl rfl ?_
     refine l_skip rfl rfl rfl rfl rfl rfl ?_
     refine l_skip_u rfl rfl rfl rfl rfl ?_
     refine l_skip_u rfl rfl rfl rfl rfl ?_
     refine l_skip_u rfl rfl rfl rfl rfl ?_
     refine l_skip rfl rfl rfl rfl rfl rfl ?_
     refine l_skip rfl rfl rfl rfl rfl rfl ?_
     refine l_skip_u rfl rfl rfl rfl rfl ?_
     refine l_skip_u rfl rfl rfl rfl rfl ?_
     refine l_skip_u rfl rfl rfl rfl rfl ?_
     refine l_skip_u rfl rfl rfl rfl rfl ?_
     refine l_skip rfl rfl rfl rfl rfl rfl ?_
     refine l_val (v := .bool false) rfl rfl rfl (e_pick_f rfl) ?_
     refine l_nil ?_
     refine f_then ?_
     refine c_no rfl ?_
     refine c_skip ?_
     refine f_then ?_
     refine c_seq ?_
     refine c_region ?_
     refine l_val (v := .pointer (some ⟨b46, 3, none⟩)) rfl rfl rfl (e_fieldPt (b := b46) (o := 0) rfl tf24) ?_
     refine l_val (v := Ix (K2.power)) rfl rfl rfl (e_load1 tf25 (v := Ix (K2.power)) rfl (k_pt 0 (cs := #[.slice pH60 (K2.head).length cH63, .slice pA61 (K2.a).length cA64, .slice pB62 (K2.b).length cB65, Ix (K2.power)]) (vs := [Ix (K2.power)]) rfl rfl)) ?_
     refine l_val (v := Ix (K2.power)) rfl rfl rfl (e_assign) ?_
     refine l_nil ?_
     refine f_then ?_
     refine c_seq ?_
     refine c_region ?_
     refine l_val (v := .pointer (some ⟨b46, 3, none⟩)) rfl rfl rfl (e_fieldPt (b := b46) (o := 0) rfl tf24) ?_
     refine l_mu rfl rfl (m_store 0 tf25 (b := b46) (o := 3) (T := 32) (cs := #[.slice pH60 (K2.head).length cH63, .slice pA61 (K2.a).length cA64, .slice pB62 (K2.b).length cB65, Ix (K2.power)]) (cs' := #[.slice pH60 (K2.head).length cH63, .slice pA61 (K2.a).length cA64, .slice pB62 (K2.b).length cB65, .int .i64 (0)]) (v := .int .i64 (0)) rfl rfl rfl rfl rfl rfl rfl) ?_
     refine l_nil ?_
     refine f_then ?_
     refine c_seq ?_
     refine c_seq ?_
     refine c_perm (L' := [pt b46 (.cells #[.slice pH60 (K2.head).length cH63, .slice pA61 (K2.a).length cA64, .slice pB62 (K2.b).length cB65, .int .i64 (0)] 32), row (.slice pH60 (K2.head).length cH63) 5 1 ((K2.head).length) (BX K2.head), row (.slice pA61 (K2.a).length cA64) 5 1 ((K2.a).length) (BX K2.a), row (.slice pB62 (K2.b).length cB65) 5 1 ((K2.b).length) (BX K2.b), jourR J47 b46 I2 false, storeR b2 K, pt b26 (.cells #[Nx (C.epoch + 1), Nx (C.next), .string (str ((shortO o).body.take 300)), .slice none 0 0] 27), jourR J3 b2 I false, pt b4 (.cells #[Nx (C.epoch), Nx (C.next), .string (C.state), .slice pn (C.recs).length cn] 27), row (.slice pn (C.recs).length cn) 9 1 ((C.recs).length) (C.recs.map (fun s : ByteArray => Value.string s)), pt b1 (.cells #[Bx ((shortO o).kind), .int .u8 (0), .slice oa ((o.body.take 20).length) (oc)] 47)]) (by exact (((((((((((perm_front 10 rfl).trans (perm_front 10 rfl)).trans (perm_front 10 rfl)).trans (perm_front 10 rfl)).trans (perm_front 10 rfl)).trans (perm_front 10 rfl)).trans (perm_front 10 rfl)).trans (perm_front 10 rfl)).trans (perm_front 10 rfl)).trans (perm_front 10 rfl)).trans (perm_front 10 rfl))) ?_
     refine c_closeStore (S := b46) (k := ({ K2 with power := 0 } : KS)) (pH := pH60) (pA := pA61) (pB := pB62) (cH := cH63) (cA := cA64) (cB := cB65) (M := (jourR J47 b46 I2 false :: storeR b2 K :: pt b26 (.cells #[Nx (C.epoch + 1), Nx (C.next), .string (str ((shortO o).body.take 300)), .slice none 0 0] 27) :: jourR J3 b2 I false :: pt b4 (.cells #[Nx (C.epoch), Nx (C.next), .string (C.state), .slice pn (C.recs).length cn] 27) :: row (.slice pn (C.recs).length cn) 9 1 ((C.recs).length) (C.recs.map (fun s : ByteArray => Value.string s)) :: pt b1 (.cells #[Bx ((shortO o).kind), .int .u8 (0), .slice oa ((o.body.take 20).length) (oc)] 47) :: [])) rfl ?_
     obtain ⟨K3, hK3⟩ : ∃ z, z = ({ K2 with power := 0 } : KS) := ⟨_, rfl⟩
     refine c_re (L' := [storeR b46 K3, jourR J47 b46 I2 false, storeR b2 K, pt b26 (.cells #[Nx (C.epoch + 1), Nx (C.next), .string (str ((shortO o).body.take 300)), .slice none 0 0] 27), jourR J3 b2 I false, pt b4 (.cells #[Nx (C.epoch), Nx (C.next), .string (C.state), .slice pn (C.recs).length cn] 27), row (.slice pn (C.recs).length cn) 9 1 ((C.recs).length) (C.recs.map (fun s : ByteArray => Value.string s)), pt b1 (.cells #[Bx ((shortO o).kind), .int .u8 (0), .slice oa ((o.body.take 20).length) (oc)] 47)]) (by rw [hK3]; try rfl) ?_
     have hp3 : K3.power = 0 := by rw [hK3]
     have hI3 : Inv K3 I2 (k + 1) true := by rw [hK3]; exact hI2.pow (by omega) (by omega)
     have hok3 := hI3.okP (show k + 1 ≤ 100 by omega)
     by_cases hcut : cutOk (K3.area I2.epoch) K3.power I2.size
     ·
      refine c_region ?_
      refine l_call rfl rfl rfl (cl_value (fst := []) (cap := []) (vs := [.pointer (some ⟨b46, 0, none⟩)]) (all := [.pointer (some ⟨b46, 0, none⟩)]) tf104 rfl rfl rfl) ?_
      intro w hw
      replace hw := hw.perm (L' := _ :: _ :: _ :: _ :: _ :: _ :: _ :: _ :: []) (by exact ((((((((perm_front 7 rfl).trans (perm_front 7 rfl)).trans (perm_front 7 rfl)).trans (perm_front 7 rfl)).trans (perm_front 7 rfl)).trans (perm_front 7 rfl)).trans (perm_front 7 rfl)).trans (perm_front 7 rfl)))
      obtain ⟨β1, sb, kn, hw1, back⟩ := St.frame (L := [_]) (M := _ :: _ :: _ :: _ :: _ :: _ :: _ :: []) hw
      refine (open_ok β1 w b46 K3 hok3 (by omega) I2 hI3.read hcut hw1).mono ?_
      rintro e w' ⟨J72, rfl, hw'⟩
      refine ⟨_, rfl, _, back _ _ hw', ?_⟩
      clear hw hw1 hw' back kn sb
      refine l_val (v := .tuple #[.pointer (some ⟨J72, 0, none⟩), .int .i64 (0)]) rfl rfl rfl (e_move) ?_
      refine l_val (v := .pointer (some ⟨J72, 0, none⟩)) rfl rfl rfl (e_extract (vs := #[.pointer (some ⟨J72, 0, none⟩), .int .i64 (0)]) rfl rfl) ?_
      refine l_val (v := .int .i64 (0)) rfl rfl rfl (e_extract (vs := #[.pointer (some ⟨J72, 0, none⟩), .int .i64 (0)]) rfl rfl) ?_
      refine l_val (v := .pointer (some ⟨J72, 0, none⟩)) rfl rfl rfl (e_assign) ?_
      refine l_val (v := .int .i64 (0)) rfl rfl rfl (e_assign) ?_
      refine l_nil ?_
      refine f_then ?_
      refine c_seq ?_
      refine c_re (L' := [jourR J72 b46 I2 false, storeR b46 K3, jourR J47 b46 I2 false, storeR b2 K, pt b26 (.cells #[Nx (C.epoch + 1), Nx (C.next), .string (str ((shortO o).body.take 300)), .slice none 0 0] 27), jourR J3 b2 I false, pt b4 (.cells #[Nx (C.epoch), Nx (C.next), .string (C.state), .slice pn (C.recs).length cn] 27), row (.slice pn (C.recs).length cn) 9 1 ((C.recs).length) (C.recs.map (fun s : ByteArray => Value.string s)), pt b1 (.cells #[Bx ((shortO o).kind), .int .u8 (0), .slice oa ((o.body.take 20).length) (oc)] 47)]) (by rw [cut_zero hp3]; try rfl) ?_
      refine c_region ?_
      refine l_val (v := .int .i64 (0)) rfl rfl rfl (e_move) ?_
      refine l_val (v := .bool true) rfl rfl rfl (e_eql (a := (0 : Int)) (b := (0 : Int)) rfl rfl) ?_
      refine l_val (v := .bool true) rfl rfl rfl (e_move) ?_
      refine g_val (v := .agg #[Nx (C.epoch), Nx (C.next), .string (C.state), .slice pn (C.recs).length cn]) rfl rfl rfl rfl rfl (e_load tf101 (cs := [Nx (C.epoch), Nx (C.next), .string (C.state), .slice pn (C.recs).length cn]) rfl (k_pt 6 (cs := #[Nx (C.epoch), Nx (C.next), .string (C.state), .slice pn (C.recs).length cn]) (vs := [Nx (C.epoch), Nx (C.next), .string (C.state), .slice pn (C.recs).length cn]) rfl rfl) rfl) ?_
      refine g_val (v := .pointer (some ⟨J72, 0, none⟩)) rfl rfl rfl rfl rfl (e_move) ?_
      refine g_call rfl rfl rfl rfl rfl (cl_value (fst := []) (cap := []) (vs := [.agg #[Nx (C.epoch), Nx (C.next), .string (C.state), .slice pn (C.recs).length cn], .pointer (some ⟨J72, 0, none⟩)]) (all := [.agg #[Nx (C.epoch), Nx (C.next), .string (C.state), .slice pn (C.recs).length cn], .pointer (some ⟨J72, 0, none⟩)]) tf115 rfl rfl rfl) ?_
      intro w hw
      obtain ⟨β1, sb, kn, hw1, back⟩ := St.frame_all hw
      refine (is_ok β1 w hw1 C pn cn (by omega) (by omega) (kn _ (Knows.of_res 7 rfl (Elems.mono _ _ _) fun _ h => row_stre h)) J72 b46 I2 false (kn _ (Knows.of_res 0 rfl (JF.mono _ _ _ _) fun _ h => jour_jf h)) (by have := hI3.st; omega) (by have := hI3.wf.next; have := hI3.nN; omega) (fun b hb => by have := hI3.rs b hb; omega)).mono ?_
      rintro e w' ⟨rfl, hw'⟩
      refine ⟨_, rfl, _, back _ _ hw', ?_⟩
      clear hw hw1 hw' back kn sb
      refine g_val (v := .bool (decide (¬ (isP C I2)))) rfl rfl rfl rfl rfl (e_not_p (p := isP C I2) rfl) ?_
      refine l_val (v := .bool (decide (¬ (isP C I2)))) rfl rfl rfl (e_pick_t rfl) ?_
      refine l_val (v := .bool (decide (¬ (isP C I2)))) rfl rfl rfl (e_move) ?_
      refine l_split (s := 105) (p := ¬ (isP C I2)) rfl (fun h => ?_) (fun h => ?_)
      rotate_left; exact absurd hN2 h
      refine g_val (v := .agg #[Nx (C.epoch + 1), Nx (C.next), .string (str ((shortO o).body.take 300)), .slice none 0 0]) rfl rfl rfl rfl rfl (e_load tf101 (cs := [Nx (C.epoch + 1), Nx (C.next), .string (str ((shortO o).body.take 300)), .slice none 0 0]) rfl (k_pt 4 (cs := #[Nx (C.epoch + 1), Nx (C.next), .string (str ((shortO o).body.take 300)), .slice none 0 0]) (vs := [Nx (C.epoch + 1), Nx (C.next), .string (str ((shortO o).body.take 300)), .slice none 0 0]) rfl rfl) rfl) ?_
      refine g_val (v := .pointer (some ⟨J72, 0, none⟩)) rfl rfl rfl rfl rfl (e_move) ?_
      refine g_call rfl rfl rfl rfl rfl (cl_value (fst := []) (cap := []) (vs := [.agg #[Nx (C.epoch + 1), Nx (C.next), .string (str ((shortO o).body.take 300)), .slice none 0 0], .pointer (some ⟨J72, 0, none⟩)]) (all := [.agg #[Nx (C.epoch + 1), Nx (C.next), .string (str ((shortO o).body.take 300)), .slice none 0 0], .pointer (some ⟨J72, 0, none⟩)]) tf115 rfl rfl rfl) ?_
      intro w hw
      obtain ⟨β1, sb, kn, hw1, back⟩ := St.frame_all hw
      refine (is_ok β1 w hw1 (⟨C.epoch + 1, C.next, str ((shortO o).body.take 300), []⟩ : KC) none 0 (by simp) (by omega) (fun j x h => by simp at h) J72 b46 I2 false (kn _ (Knows.of_res 0 rfl (JF.mono _ _ _ _) fun _ h => jour_jf h)) (by have := hI3.st; omega) (by have := hI3.wf.next; have := hI3.nN; omega) (fun b hb => by have := hI3.rs b hb; omega)).mono ?_
      rintro e w' ⟨rfl, hw'⟩
      refine ⟨_, rfl, _, back _ _ hw', ?_⟩
      clear hw hw1 hw' back kn sb
      refine g_val (v := .bool (decide (¬ (isP (⟨C.epoch + 1, C.next, str ((shortO o).body.take 300), []⟩ : KC) I2)))) rfl rfl rfl rfl rfl (e_not_p (p := isP (⟨C.epoch + 1, C.next, str ((shortO o).body.take 300), []⟩ : KC) I2) rfl) ?_
      refine l_val (v := .bool (decide (¬ (isP (⟨C.epoch + 1, C.next, str ((shortO o).body.take 300), []⟩ : KC) I2)))) rfl rfl rfl (e_pick_t rfl) ?_
      refine l_val (v := .bool (decide (¬ (isP (⟨C.epoch + 1, C.next, str ((shortO o).body.take 300), []⟩ : KC) I2)))) rfl rfl rfl (e_move) ?_
      refine l_split (s := 111) (p := ¬ (isP (⟨C.epoch + 1, C.next, str ((shortO o).body.take 300), []⟩ : KC) I2)) rfl (fun h => ?_) (fun h => ?_)
      exact absurd h (Decidable.not_not.2 hC2)
      refine g_val (v := .int .i64 (0)) rfl rfl rfl rfl rfl (e_move) ?_
      refine g_val (v := .bool false) rfl rfl rfl rfl rfl (e_neq (a := (0 : Int)) (b := (0 : Int)) rfl rfl) ?_
      refine g_val (v := .bool false) rfl rfl rfl rfl rfl (e_move) ?_
      refine l_skip rfl rfl rfl rfl rfl rfl ?_
      refine l_skip rfl rfl rfl rfl rfl rfl ?_
      refine g_val (v := .bool false) rfl rfl rfl rfl rfl (e_pick_f rfl) ?_
      refine l_val (v := .bool false) rfl rfl rfl (e_pick_f rfl) ?_
      refine l_nil ?_
      refine f_then ?_
      refine c_no rfl ?_
      refine c_skip ?_
      refine f_then ?_
      refine c_seq ?_
      refine c_region ?_
      refine l_call rfl rfl rfl (cl_value (fst := []) (cap := []) (vs := [.pointer (some ⟨b46, 0, none⟩)]) (all := [.pointer (some ⟨b46, 0, none⟩)]) tf107 rfl rfl rfl) ?_
      intro w hw
      replace hw := hw.perm (L' := _ :: _ :: _ :: _ :: _ :: _ :: _ :: _ :: _ :: []) (by exact (((((((((perm_front 8 rfl).trans (perm_front 8 rfl)).trans (perm_front 8 rfl)).trans (perm_front 8 rfl)).trans (perm_front 8 rfl)).trans (perm_front 8 rfl)).trans (perm_front 8 rfl)).trans (perm_front 7 rfl)).trans (perm_front 8 rfl)))
      obtain ⟨β1, sb, kn, hw1, back⟩ := St.frame (L := [_]) (M := _ :: _ :: _ :: _ :: _ :: _ :: _ :: _ :: []) hw
      refine (again_ok β1 w b46 K3 ((hI3.pow (p := -1) (by decide) (by decide)).okP (by omega)) I2 hI3.read hw1).mono ?_
      rintro e w' ⟨J73, rfl, hw'⟩
      refine ⟨_, rfl, _, back _ _ hw', ?_⟩
      clear hw hw1 hw' back kn sb
      refine l_val (v := .tuple #[.pointer (some ⟨J73, 0, none⟩), .bool true]) rfl rfl rfl (e_move) ?_
      refine l_val (v := .pointer (some ⟨J73, 0, none⟩)) rfl rfl rfl (e_extract (vs := #[.pointer (some ⟨J73, 0, none⟩), .bool true]) rfl rfl) ?_
      refine l_val (v := .bool true) rfl rfl rfl (e_extract (vs := #[.pointer (some ⟨J73, 0, none⟩), .bool true]) rfl rfl) ?_
      refine l_val (v := .pointer (some ⟨J73, 0, none⟩)) rfl rfl rfl (e_assign) ?_
      refine l_val (v := .bool true) rfl rfl rfl (e_assign) ?_
      refine l_nil ?_
      refine f_then ?_
      refine c_seq ?_
      refine c_seq ?_
      refine c_region ?_
      refine l_val (v := .bool true) rfl rfl rfl (e_move) ?_
      refine l_val (v := .bool false) rfl rfl rfl (e_not (a := true) rfl) ?_
      refine l_val (v := .bool false) rfl rfl rfl (e_move) ?_
      refine g_val (v := .int .i64 (0)) rfl rfl rfl rfl rfl (e_move) ?_
      refine g_val (v := .bool true) rfl rfl rfl rfl rfl (e_eql (a := (0 : Int)) (b := (0 : Int)) rfl rfl) ?_
      refine g_val (v := .bool true) rfl rfl rfl rfl rfl (e_move) ?_
      refine g_val (v := .agg #[Nx (C.epoch + 1), Nx (C.next), .string (str ((shortO o).body.take 300)), .slice none 0 0]) rfl rfl rfl rfl rfl (e_load tf101 (cs := [Nx (C.epoch + 1), Nx (C.next), .string (str ((shortO o).body.take 300)), .slice none 0 0]) rfl (k_pt 5 (cs := #[Nx (C.epoch + 1), Nx (C.next), .string (str ((shortO o).body.take 300)), .slice none 0 0]) (vs := [Nx (C.epoch + 1), Nx (C.next), .string (str ((shortO o).body.take 300)), .slice none 0 0]) rfl rfl) rfl) ?_
      refine g_val (v := .pointer (some ⟨J73, 0, none⟩)) rfl rfl rfl rfl rfl (e_move) ?_
      refine g_call rfl rfl rfl rfl rfl (cl_value (fst := []) (cap := []) (vs := [.agg #[Nx (C.epoch + 1), Nx (C.next), .string (str ((shortO o).body.take 300)), .slice none 0 0], .pointer (some ⟨J73, 0, none⟩)]) (all := [.agg #[Nx (C.epoch + 1), Nx (C.next), .string (str ((shortO o).body.take 300)), .slice none 0 0], .pointer (some ⟨J73, 0, none⟩)]) tf115 rfl rfl rfl) ?_
      intro w hw
      obtain ⟨β1, sb, kn, hw1, back⟩ := St.frame_all hw
      refine (is_ok β1 w hw1 (⟨C.epoch + 1, C.next, str ((shortO o).body.take 300), []⟩ : KC) none 0 (by simp) (by omega) (fun j x h => by simp at h) J73 b46 I2 false (kn _ (Knows.of_res 0 rfl (JF.mono _ _ _ _) fun _ h => jour_jf h)) (by have := hI3.st; omega) (by have := hI3.wf.next; have := hI3.nN; omega) (fun b hb => by have := hI3.rs b hb; omega)).mono ?_
      rintro e w' ⟨rfl, hw'⟩
      refine ⟨_, rfl, _, back _ _ hw', ?_⟩
      clear hw hw1 hw' back kn sb
      refine g_val (v := .bool (decide (¬ (isP (⟨C.epoch + 1, C.next, str ((shortO o).body.take 300), []⟩ : KC) I2)))) rfl rfl rfl rfl rfl (e_not_p (p := isP (⟨C.epoch + 1, C.next, str ((shortO o).body.take 300), []⟩ : KC) I2) rfl) ?_
      refine g_val (v := .bool (decide (¬ (isP (⟨C.epoch + 1, C.next, str ((shortO o).body.take 300), []⟩ : KC) I2)))) rfl rfl rfl rfl rfl (e_pick_t rfl) ?_
      refine l_val (v := .bool (decide (¬ (isP (⟨C.epoch + 1, C.next, str ((shortO o).body.take 300), []⟩ : KC) I2)))) rfl rfl rfl (e_pick_f rfl) ?_
      refine l_val (v := .bool (decide (¬ (isP (⟨C.epoch + 1, C.next, str ((shortO o).body.take 300), []⟩ : KC) I2)))) rfl rfl rfl (e_move) ?_
      refine l_split (s := 135) (p := ¬ (isP (⟨C.epoch + 1, C.next, str ((shortO o).body.take 300), []⟩ : KC) I2)) rfl (fun h => ?_) (fun h => ?_)
      exact absurd h (Decidable.not_not.2 hC2)
      refine g_val (v := .int .i64 (0)) rfl rfl rfl rfl rfl (e_move) ?_
      refine g_val (v := .bool false) rfl rfl rfl rfl rfl (e_neq (a := (0 : Int)) (b := (0 : Int)) rfl rfl) ?_
      refine g_val (v := .bool false) rfl rfl rfl rfl rfl (e_move) ?_
      refine l_skip rfl rfl rfl rfl rfl rfl ?_
      refine l_skip rfl rfl rfl rfl rfl rfl ?_
      refine l_skip rfl rfl rfl rfl rfl rfl ?_
      refine l_skip rfl rfl rfl rfl rfl rfl ?_
      refine g_val (v := .bool false) rfl rfl rfl rfl rfl (e_pick_f rfl) ?_
      refine g_val (v := .bool false) rfl rfl rfl rfl rfl (e_move) ?_
      refine l_skip rfl rfl rfl rfl rfl rfl ?_
      refine l_skip rfl rfl rfl rfl rfl rfl ?_
      refine l_skip rfl rfl rfl rfl rfl rfl ?_
      refine l_skip rfl rfl rfl rfl rfl rfl ?_
      refine g_val (v := .bool false) rfl rfl rfl rfl rfl (e_pick_f rfl) ?_
      refine l_val (v := .bool false) rfl rfl rfl (e_pick_f rfl) ?_
      refine l_nil ?_
      refine f_then ?_
      refine c_no rfl ?_
      refine c_skip ?_
      refine f_then ?_
      refine c_seq ?_
      refine c_region ?_
      refine l_val (v := .int .i64 (0)) rfl rfl rfl (e_move) ?_
      refine l_val (v := .bool true) rfl rfl rfl (e_eql (a := (0 : Int)) (b := (0 : Int)) rfl rfl) ?_
      refine l_nil ?_
      refine f_then ?_
      refine c_yes rfl ?_
      refine c_seq ?_
      refine c_region ?_
      refine l_val (v := Ix (K2.power)) rfl rfl rfl (e_move) ?_
      refine l_val (v := .bool (decide ((K2.power) = (0 : Int)))) rfl rfl rfl (e_eql (a := (K2.power)) (b := (0 : Int)) rfl rfl) ?_
      refine l_val (v := .bool (decide ((K2.power) = (0 : Int)))) rfl rfl rfl (e_move) ?_
      refine l_split (s := 155) (p := (K2.power) = (0 : Int)) rfl (fun h => ?_) (fun h => ?_)
      rotate_left; exact absurd (by omega) h
      refine g_call rfl rfl rfl rfl rfl (cl_value (fst := []) (cap := []) (vs := []) (all := []) tf111 rfl rfl rfl) ?_
      intro w hw
      obtain ⟨β1, sb, kn, hw1, back⟩ := St.frame_all hw
      refine (awake_ok β1 w hw1).mono ?_
      rintro e w' ⟨rfl, hw'⟩
      refine ⟨_, rfl, _, back _ _ hw', ?_⟩
      clear hw hw1 hw' back kn sb
      refine l_val (v := .bool true) rfl rfl rfl (e_pick_t rfl) ?_
      refine l_val (v := .bool true) rfl rfl rfl (e_assign) ?_
      refine l_nil ?_
      refine f_then ?_
      refine c_ret ?_
      refine f_block_ret ?_
      refine f_then_ret ?_
      refine f_then_ret ?_
      refine f_block_ret ?_
      refine f_then_ret ?_
      refine ret1 Try.results8 (v := .bool true) rfl ?_
      intro w hw
      exact ⟨rfl, st_mask [false, false, false, false, false, false, false, false, false, false] rfl hw⟩
     ·
      refine c_region ?_
      refine l_call rfl rfl rfl (cl_value (fst := []) (cap := []) (vs := [.pointer (some ⟨b46, 0, none⟩)]) (all := [.pointer (some ⟨b46, 0, none⟩)]) tf104 rfl rfl rfl) ?_
      intro w hw
      replace hw := hw.perm (L' := _ :: _ :: _ :: _ :: _ :: _ :: _ :: _ :: []) (by exact ((((((((perm_front 7 rfl).trans (perm_front 7 rfl)).trans (perm_front 7 rfl)).trans (perm_front 7 rfl)).trans (perm_front 7 rfl)).trans (perm_front 7 rfl)).trans (perm_front 7 rfl)).trans (perm_front 7 rfl)))
      obtain ⟨β1, sb, kn, hw1, back⟩ := St.frame (L := [_]) (M := _ :: _ :: _ :: _ :: _ :: _ :: _ :: []) hw
      refine (open_pow β1 w b46 K3 hok3 (by omega) I2 hI3.read hcut hw1).mono ?_
      rintro e w' ⟨rfl, hw'⟩
      refine ⟨_, rfl, _, back _ _ hw', ?_⟩
      clear hw hw1 hw' back kn sb
      refine l_val (v := .tuple #[.pointer none, .int .i64 (310)]) rfl rfl rfl (e_move) ?_
      refine l_val (v := .pointer none) rfl rfl rfl (e_extract (vs := #[.pointer none, .int .i64 (310)]) rfl rfl) ?_
      refine l_val (v := .int .i64 (310)) rfl rfl rfl (e_extract (vs := #[.pointer none, .int .i64 (310)]) rfl rfl) ?_
      refine l_val (v := .pointer none) rfl rfl rfl (e_assign) ?_
      refine l_val (v := .int .i64 (310)) rfl rfl rfl (e_assign) ?_
      refine l_nil ?_
      refine f_then ?_
      refine c_seq ?_
      refine c_region ?_
      refine l_val (v := .int .i64 (310)) rfl rfl rfl (e_move) ?_
      refine l_val (v := .bool false) rfl rfl rfl (e_eql (a := (310 : Int)) (b := (0 : Int)) rfl rfl) ?_
      refine l_val (v := .bool false) rfl rfl rfl (e_move) ?_
      refine l_skip rfl rfl rfl rfl rfl rfl ?_
      refine l_skip rfl rfl rfl rfl rfl rfl ?_
      refine l_skip rfl rfl rfl rfl rfl rfl ?_
      refine l_skip rfl rfl rfl rfl rfl rfl ?_
      refine l_val (v := .bool false) rfl rfl rfl (e_pick_f rfl) ?_
      refine l_val (v := .bool false) rfl rfl rfl (e_move) ?_
      refine l_skip rfl rfl rfl rfl rfl rfl ?_
      refine l_skip rfl rfl rfl rfl rfl rfl ?_
      refine l_skip rfl rfl rfl rfl rfl rfl ?_
      refine l_skip rfl rfl rfl rfl rfl rfl ?_
      refine l_val (v := .bool false) rfl rfl rfl (e_pick_f rfl) ?_
      refine l_val (v := .bool false) rfl rfl rfl (e_move) ?_
      refine g_val (v := .int .i64 (310)) rfl rfl rfl rfl rfl (e_move) ?_
      refine g_val (v := .bool true) rfl rfl rfl rfl rfl (e_neq (a := (310 : Int)) (b := (0 : Int)) rfl rfl) ?_
      refine g_val (v := .bool true) rfl rfl rfl rfl rfl (e_move) ?_
      refine g_val (v := .int .i64 (310)) rfl rfl rfl rfl rfl (e_move) ?_
      refine g_val (v := .bool false) rfl rfl rfl rfl rfl (e_neq (a := (310 : Int)) (b := (310 : Int)) rfl rfl) ?_
      refine g_val (v := .bool false) rfl rfl rfl rfl rfl (e_pick_t rfl) ?_
      refine l_val (v := .bool false) rfl rfl rfl (e_pick_f rfl) ?_
      refine l_nil ?_
      refine f_then ?_
      refine c_no rfl ?_
      refine c_skip ?_
      refine f_then ?_
      refine c_seq ?_
      refine c_region ?_
      refine l_call rfl rfl rfl (cl_value (fst := []) (cap := []) (vs := [.pointer (some ⟨b46, 0, none⟩)]) (all := [.pointer (some ⟨b46, 0, none⟩)]) tf107 rfl rfl rfl) ?_
      intro w hw
      replace hw := hw.perm (L' := _ :: _ :: _ :: _ :: _ :: _ :: _ :: _ :: []) (by exact ((((((((perm_front 7 rfl).trans (perm_front 7 rfl)).trans (perm_front 7 rfl)).trans (perm_front 7 rfl)).trans (perm_front 7 rfl)).trans (perm_front 7 rfl)).trans (perm_front 7 rfl)).trans (perm_front 7 rfl)))
      obtain ⟨β1, sb, kn, hw1, back⟩ := St.frame (L := [_]) (M := _ :: _ :: _ :: _ :: _ :: _ :: _ :: []) hw
      refine (again_ok β1 w b46 K3 ((hI3.pow (p := -1) (by decide) (by decide)).okP (by omega)) I2 hI3.read hw1).mono ?_
      rintro e w' ⟨J74, rfl, hw'⟩
      refine ⟨_, rfl, _, back _ _ hw', ?_⟩
      clear hw hw1 hw' back kn sb
      refine l_val (v := .tuple #[.pointer (some ⟨J74, 0, none⟩), .bool true]) rfl rfl rfl (e_move) ?_
      refine l_val (v := .pointer (some ⟨J74, 0, none⟩)) rfl rfl rfl (e_extract (vs := #[.pointer (some ⟨J74, 0, none⟩), .bool true]) rfl rfl) ?_
      refine l_val (v := .bool true) rfl rfl rfl (e_extract (vs := #[.pointer (some ⟨J74, 0, none⟩), .bool true]) rfl rfl) ?_
      refine l_val (v := .pointer (some ⟨J74, 0, none⟩)) rfl rfl rfl (e_assign) ?_
      refine l_val (v := .bool true) rfl rfl rfl (e_assign) ?_
      refine l_nil ?_
      refine f_then ?_
      refine c_seq ?_
      refine c_seq ?_
      refine c_region ?_
      refine l_val (v := .bool true) rfl rfl rfl (e_move) ?_
      refine l_val (v := .bool false) rfl rfl rfl (e_not (a := true) rfl) ?_
      refine l_val (v := .bool false) rfl rfl rfl (e_move) ?_
      refine g_val (v := .int .i64 (0)) rfl rfl rfl rfl rfl (e_move) ?_
      refine g_val (v := .bool true) rfl rfl rfl rfl rfl (e_eql (a := (0 : Int)) (b := (0 : Int)) rfl rfl) ?_
      refine g_val (v := .bool true) rfl rfl rfl rfl rfl (e_move) ?_
      refine g_val (v := .agg #[Nx (C.epoch + 1), Nx (C.next), .string (str ((shortO o).body.take 300)), .slice none 0 0]) rfl rfl rfl rfl rfl (e_load tf101 (cs := [Nx (C.epoch + 1), Nx (C.next), .string (str ((shortO o).body.take 300)), .slice none 0 0]) rfl (k_pt 4 (cs := #[Nx (C.epoch + 1), Nx (C.next), .string (str ((shortO o).body.take 300)), .slice none 0 0]) (vs := [Nx (C.epoch + 1), Nx (C.next), .string (str ((shortO o).body.take 300)), .slice none 0 0]) rfl rfl) rfl) ?_
      refine g_val (v := .pointer (some ⟨J74, 0, none⟩)) rfl rfl rfl rfl rfl (e_move) ?_
      refine g_call rfl rfl rfl rfl rfl (cl_value (fst := []) (cap := []) (vs := [.agg #[Nx (C.epoch + 1), Nx (C.next), .string (str ((shortO o).body.take 300)), .slice none 0 0], .pointer (some ⟨J74, 0, none⟩)]) (all := [.agg #[Nx (C.epoch + 1), Nx (C.next), .string (str ((shortO o).body.take 300)), .slice none 0 0], .pointer (some ⟨J74, 0, none⟩)]) tf115 rfl rfl rfl) ?_
      intro w hw
      obtain ⟨β1, sb, kn, hw1, back⟩ := St.frame_all hw
      refine (is_ok β1 w hw1 (⟨C.epoch + 1, C.next, str ((shortO o).body.take 300), []⟩ : KC) none 0 (by simp) (by omega) (fun j x h => by simp at h) J74 b46 I2 false (kn _ (Knows.of_res 0 rfl (JF.mono _ _ _ _) fun _ h => jour_jf h)) (by have := hI3.st; omega) (by have := hI3.wf.next; have := hI3.nN; omega) (fun b hb => by have := hI3.rs b hb; omega)).mono ?_
      rintro e w' ⟨rfl, hw'⟩
      refine ⟨_, rfl, _, back _ _ hw', ?_⟩
      clear hw hw1 hw' back kn sb
      refine g_val (v := .bool (decide (¬ (isP (⟨C.epoch + 1, C.next, str ((shortO o).body.take 300), []⟩ : KC) I2)))) rfl rfl rfl rfl rfl (e_not_p (p := isP (⟨C.epoch + 1, C.next, str ((shortO o).body.take 300), []⟩ : KC) I2) rfl) ?_
      refine g_val (v := .bool (decide (¬ (isP (⟨C.epoch + 1, C.next, str ((shortO o).body.take 300), []⟩ : KC) I2)))) rfl rfl rfl rfl rfl (e_pick_t rfl) ?_
      refine l_val (v := .bool (decide (¬ (isP (⟨C.epoch + 1, C.next, str ((shortO o).body.take 300), []⟩ : KC) I2)))) rfl rfl rfl (e_pick_f rfl) ?_
      refine l_val (v := .bool (decide (¬ (isP (⟨C.epoch + 1, C.next, str ((shortO o).body.take 300), []⟩ : KC) I2)))) rfl rfl rfl (e_move) ?_
      refine l_split (s := 135) (p := ¬ (isP (⟨C.epoch + 1, C.next, str ((shortO o).body.take 300), []⟩ : KC) I2)) rfl (fun h => ?_) (fun h => ?_)
      exact absurd h (Decidable.not_not.2 hC2)
      refine g_val (v := .int .i64 (0)) rfl rfl rfl rfl rfl (e_move) ?_
      refine g_val (v := .bool false) rfl rfl rfl rfl rfl (e_neq (a := (0 : Int)) (b := (0 : Int)) rfl rfl) ?_
      refine g_val (v := .bool false) rfl rfl rfl rfl rfl (e_move) ?_
      refine l_skip rfl rfl rfl rfl rfl rfl ?_
      refine l_skip rfl rfl rfl rfl rfl rfl ?_
      refine l_skip rfl rfl rfl rfl rfl rfl ?_
      refine l_skip rfl rfl rfl rfl rfl rfl ?_
      refine g_val (v := .bool false) rfl rfl rfl rfl rfl (e_pick_f rfl) ?_
      refine g_val (v := .bool false) rfl rfl rfl rfl rfl (e_move) ?_
      refine l_skip rfl rfl rfl rfl rfl rfl ?_
      refine l_skip rfl rfl rfl rfl rfl rfl ?_
      refine l_skip rfl rfl rfl rfl rfl rfl ?_
      refine l_skip rfl rfl rfl rfl rfl rfl ?_
      refine g_val (v := .bool false) rfl rfl rfl rfl rfl (e_pick_f rfl) ?_
      refine l_val (v := .bool false) rfl rfl rfl (e_pick_f rfl) ?_
      refine l_nil ?_
      refine f_then ?_
      refine c_no rfl ?_
      refine c_skip ?_
      refine f_then ?_
      refine c_seq ?_
      refine c_region ?_
      refine l_val (v := .int .i64 (0)) rfl rfl rfl (e_move) ?_
      refine l_val (v := .bool true) rfl rfl rfl (e_eql (a := (0 : Int)) (b := (0 : Int)) rfl rfl) ?_
      refine l_nil ?_
      refine f_then ?_
      refine c_yes rfl ?_
      refine c_seq ?_
      refine c_region ?_
      refine l_val (v := Ix (K2.power)) rfl rfl rfl (e_move) ?_
      refine l_val (v := .bool (decide ((K2.power) = (0 : Int)))) rfl rfl rfl (e_eql (a := (K2.power)) (b := (0 : Int)) rfl rfl) ?_
      refine l_val (v := .bool (decide ((K2.power) = (0 : Int)))) rfl rfl rfl (e_move) ?_
      refine l_split (s := 155) (p := (K2.power) = (0 : Int)) rfl (fun h => ?_) (fun h => ?_)
      rotate_left; exact absurd (by omega) h
      refine g_call rfl rfl rfl rfl rfl (cl_value (fst := []) (cap := []) (vs := []) (all := []) tf111 rfl rfl rfl) ?_
      intro w hw
      obtain ⟨β1, sb, kn, hw1, back⟩ := St.frame_all hw
      refine (awake_ok β1 w hw1).mono ?_
      rintro e w' ⟨rfl, hw'⟩
      refine ⟨_, rfl, _, back _ _ hw', ?_⟩
      clear hw hw1 hw' back kn sb
      refine l_val (v := .bool true) rfl rfl rfl (e_pick_t rfl) ?_
      refine l_val (v := .bool true) rfl rfl rfl (e_assign) ?_
      refine l_nil ?_
      refine f_then ?_
      refine c_ret ?_
      refine f_block_ret ?_
      refine f_then_ret ?_
      refine f_then_ret ?_
      refine f_block_ret ?_
      refine f_then_ret ?_
      refine ret1 Try.results8 (v := .bool true) rfl ?_
      intro w hw
      exact ⟨rfl, st_mask [false, false, false, false, false, false, false, false, false] rfl hw⟩
    ·
     have hcp := mt hev.1.2 hc
     have hI2a := hIq.ck_no (by omega) (by omega) hc
     rw [← hK2, ← hI2e] at hI2a
     rcases hI2a with hI2 | hI2
     ·
      refine c_region ?_
      refine l_val (v := .pointer (some ⟨J47, 0, none⟩)) rfl rfl rfl (e_move) ?_
      refine l_val (v := .agg #[Bx ((shortO o).kind), .int .u8 (0), .slice oa ((o.body.take 20).length) (oc)]) rfl rfl rfl (e_load tf87 (cs := [Bx ((shortO o).kind), .int .u8 (0), .slice oa ((o.body.take 20).length) (oc)]) rfl (k_pt 7 (cs := #[Bx ((shortO o).kind), .int .u8 (0), .slice oa ((o.body.take 20).length) (oc)]) (vs := [Bx ((shortO o).kind), .int .u8 (0), .slice oa ((o.body.take 20).length) (oc)]) rfl rfl) rfl) ?_
      refine l_call rfl rfl rfl (cl_value (fst := []) (cap := []) (vs := [.pointer (some ⟨J47, 0, none⟩), .agg #[Bx ((shortO o).kind), .int .u8 (0), .slice oa ((o.body.take 20).length) (oc)]]) (all := [.pointer (some ⟨J47, 0, none⟩), .agg #[Bx ((shortO o).kind), .int .u8 (0), .slice oa ((o.body.take 20).length) (oc)]]) tf113 rfl rfl rfl) ?_
      intro w hw
      replace hw := hw.perm (L' := _ :: _ :: _ :: _ :: _ :: _ :: _ :: _ :: []) (by exact ((((((((perm_front 7 rfl).trans (perm_front 7 rfl)).trans (perm_front 7 rfl)).trans (perm_front 7 rfl)).trans (perm_front 7 rfl)).trans (perm_front 7 rfl)).trans (perm_front 6 rfl)).trans (perm_front 7 rfl)))
      obtain ⟨β1, sb, kn, hw1, back⟩ := St.frame (L := [_, _]) (M := _ :: _ :: _ :: _ :: _ :: _ :: []) hw
      refine (does_ck_no β1 w J47 b46 Kq I hfq (by omega) (by omega) (by omega) (by omega) (shortO o) oa oc (show ((o.body.take 20) : Bs).length ≤ oc by simp only [List.length_take]; omega) (by omega) (Elems.mono _ _ _ _ _ sb (Elems.take 20 oe)) hkd hc hw1).mono ?_
      rintro e w' ⟨rfl, hw'⟩
      refine ⟨_, rfl, _, back _ _ hw', ?_⟩
      clear hw hw1 hw' back kn sb
      refine l_val (v := .int .i64 (310)) rfl rfl rfl (e_assign) ?_
      refine l_nil ?_
      refine f_then ?_
      refine c_seq ?_
      refine c_seq ?_
      refine c_re (L' := [jourR J47 b46 I true, storeR b46 K2, storeR b2 K, pt b26 (.cells #[Nx (C.epoch + 1), Nx (C.next), .string (str ((shortO o).body.take 300)), .slice none 0 0] 27), jourR J3 b2 I false, pt b4 (.cells #[Nx (C.epoch), Nx (C.next), .string (C.state), .slice pn (C.recs).length cn] 27), row (.slice pn (C.recs).length cn) 9 1 ((C.recs).length) (C.recs.map (fun s : ByteArray => Value.string s)), pt b1 (.cells #[Bx ((shortO o).kind), .int .u8 (0), .slice oa ((o.body.take 20).length) (oc)] 47)]) (by rw [hK2]; try rfl) ?_
      refine c_perm (L' := [storeR b46 K2, jourR J47 b46 I true, storeR b2 K, pt b26 (.cells #[Nx (C.epoch + 1), Nx (C.next), .string (str ((shortO o).body.take 300)), .slice none 0 0] 27), jourR J3 b2 I false, pt b4 (.cells #[Nx (C.epoch), Nx (C.next), .string (C.state), .slice pn (C.recs).length cn] 27), row (.slice pn (C.recs).length cn) 9 1 ((C.recs).length) (C.recs.map (fun s : ByteArray => Value.string s)), pt b1 (.cells #[Bx ((shortO o).kind), .int .u8 (0), .slice oa ((o.body.take 20).length) (oc)] 47)]) (by exact ((((((((perm_front 7 rfl).trans (perm_front 7 rfl)).trans (perm_front 7 rfl)).trans (perm_front 7 rfl)).trans (perm_front 7 rfl)).trans (perm_front 7 rfl)).trans (perm_front 6 rfl)).trans (perm_front 7 rfl))) ?_
      refine c_openStore rfl (fun pH75 pA76 pB77 cH78 cA79 cB80 => ?_)
      refine c_rowcap 1 rfl (fun hcl81 hcm82 => ?_)
      refine c_rowcap 2 rfl (fun hcl83 hcm84 => ?_)
      refine c_rowcap 3 rfl (fun hcl85 hcm86 => ?_)
      refine c_region ?_
      refine l_val (v := .int .i64 (310)) rfl rfl rfl (e_move) ?_
      refine l_val (v := .bool true) rfl rfl rfl (e_neq (a := (310 : Int)) (b := (0 : Int)) rfl rfl) ?_
      refine l_val (v := .bool true) rfl rfl rfl (e_move) ?_
      refine g_val (v := .int .i64 (310)) rfl rfl rfl rfl rfl (e_move) ?_
      refine g_val (v := .bool false) rfl rfl rfl rfl rfl (e_neq (a := (310 : Int)) (b := (310 : Int)) rfl rfl) ?_
      refine g_val (v := .bool false) rfl rfl rfl rfl rfl (e_move) ?_
      refine g_val (v := .pointer (some ⟨b46, 3, none⟩)) rfl rfl rfl rfl rfl (e_fieldPt (b := b46) (o := 0) rfl tf24) ?_
      refine g_val (v := Ix (K2.power)) rfl rfl rfl rfl rfl (e_load1 tf25 (v := Ix (K2.power)) rfl (k_pt 0 (cs := #[.slice pH75 (K2.head).length cH78, .slice pA76 (K2.a).length cA79, .slice pB77 (K2.b).length cB80, Ix (K2.power)]) (vs := [Ix (K2.power)]) rfl rfl)) ?_
      refine g_val (v := .bool (decide ((K2.power) ≠ (0 : Int)))) rfl rfl rfl rfl rfl (e_neq (a := (K2.power)) (b := (0 : Int)) rfl rfl) ?_
      refine g_val (v := .bool (decide ((K2.power) ≠ (0 : Int)))) rfl rfl rfl rfl rfl (e_pick_f rfl) ?_
      refine g_val (v := .bool (decide ((K2.power) ≠ (0 : Int)))) rfl rfl rfl rfl rfl (e_move) ?_
      refine l_split (s := 83) (p := (K2.power) ≠ (0 : Int)) rfl (fun h => ?_) (fun h => ?_)
      exact absurd h (by omega)
      refine g_val (v := .agg #[Nx (C.epoch), Nx (C.next), .string (C.state), .slice pn (C.recs).length cn]) rfl rfl rfl rfl rfl (e_load tf101 (cs := [Nx (C.epoch), Nx (C.next), .string (C.state), .slice pn (C.recs).length cn]) rfl (k_pt 8 (cs := #[Nx (C.epoch), Nx (C.next), .string (C.state), .slice pn (C.recs).length cn]) (vs := [Nx (C.epoch), Nx (C.next), .string (C.state), .slice pn (C.recs).length cn]) rfl rfl) rfl) ?_
      refine g_val (v := .pointer (some ⟨J47, 0, none⟩)) rfl rfl rfl rfl rfl (e_move) ?_
      refine g_call rfl rfl rfl rfl rfl (cl_value (fst := []) (cap := []) (vs := [.agg #[Nx (C.epoch), Nx (C.next), .string (C.state), .slice pn (C.recs).length cn], .pointer (some ⟨J47, 0, none⟩)]) (all := [.agg #[Nx (C.epoch), Nx (C.next), .string (C.state), .slice pn (C.recs).length cn], .pointer (some ⟨J47, 0, none⟩)]) tf115 rfl rfl rfl) ?_
      intro w hw
      obtain ⟨β1, sb, kn, hw1, back⟩ := St.frame_all hw
      refine (is_ok β1 w hw1 C pn cn (by omega) (by omega) (kn _ (Knows.of_res 9 rfl (Elems.mono _ _ _) fun _ h => row_stre h)) J47 b46 I true (kn _ (Knows.of_res 4 rfl (JF.mono _ _ _ _) fun _ h => jour_jf h)) (by have := hI.st; omega) (by have := hI.wf.next; have := hI.nN; omega) (fun b hb => by have := hI.rs b hb; omega)).mono ?_
      rintro e w' ⟨rfl, hw'⟩
      refine ⟨_, rfl, _, back _ _ hw', ?_⟩
      clear hw hw1 hw' back kn sb
      refine g_val (v := .bool (decide (¬ (isP C I)))) rfl rfl rfl rfl rfl (e_not_p (p := isP C I) rfl) ?_
      refine g_val (v := .bool (decide (¬ (isP C I)))) rfl rfl rfl rfl rfl (e_pick_f rfl) ?_
      refine l_val (v := .bool (decide (¬ (isP C I)))) rfl rfl rfl (e_pick_t rfl) ?_
      refine l_nil ?_
      refine f_then ?_
      refine c_if (¬ (isP C I)) rfl (fun hc87 => ?_) (fun hc87 => ?_)
      ·
       exact absurd hc87 (Decidable.not_not.2 hC)
      ·
       refine c_skip ?_
       refine f_then ?_
       refine c_seq ?_
       refine c_region ?_
       refine l_val (v := .pointer (some ⟨b46, 3, none⟩)) rfl rfl rfl (e_fieldPt (b := b46) (o := 0) rfl tf24) ?_
       refine l_val (v := Ix (K2.power)) rfl rfl rfl (e_load1 tf25 (v := Ix (K2.power)) rfl (k_pt 0 (cs := #[.slice pH75 (K2.head).length cH78, .slice pA76 (K2.a).length cA79, .slice pB77 (K2.b).length cB80, Ix (K2.power)]) (vs := [Ix (K2.power)]) rfl rfl)) ?_
       refine l_val (v := Ix (K2.power)) rfl rfl rfl (e_assign) ?_
       refine l_nil ?_
       refine f_then ?_
       refine c_seq ?_
       refine c_region ?_
       refine l_val (v := .pointer (some ⟨b46, 3, none⟩)) rfl rfl rfl (e_fieldPt (b := b46) (o := 0) rfl tf24) ?_
       refine l_mu rfl rfl (m_store 0 tf25 (b := b46) (o := 3) (T := 32) (cs := #[.slice pH75 (K2.head).length cH78, .slice pA76 (K2.a).length cA79, .slice pB77 (K2.b).length cB80, Ix (K2.power)]) (cs' := #[.slice pH75 (K2.head).length cH78, .slice pA76 (K2.a).length cA79, .slice pB77 (K2.b).length cB80, .int .i64 (0)]) (v := .int .i64 (0)) rfl rfl rfl rfl rfl rfl rfl) ?_
       refine l_nil ?_
       refine f_then ?_
       refine c_seq ?_
       refine c_seq ?_
       refine c_perm (L' := [pt b46 (.cells #[.slice pH75 (K2.head).length cH78, .slice pA76 (K2.a).length cA79, .slice pB77 (K2.b).length cB80, .int .i64 (0)] 32), row (.slice pH75 (K2.head).length cH78) 5 1 ((K2.head).length) (BX K2.head), row (.slice pA76 (K2.a).length cA79) 5 1 ((K2.a).length) (BX K2.a), row (.slice pB77 (K2.b).length cB80) 5 1 ((K2.b).length) (BX K2.b), jourR J47 b46 I true, storeR b2 K, pt b26 (.cells #[Nx (C.epoch + 1), Nx (C.next), .string (str ((shortO o).body.take 300)), .slice none 0 0] 27), jourR J3 b2 I false, pt b4 (.cells #[Nx (C.epoch), Nx (C.next), .string (C.state), .slice pn (C.recs).length cn] 27), row (.slice pn (C.recs).length cn) 9 1 ((C.recs).length) (C.recs.map (fun s : ByteArray => Value.string s)), pt b1 (.cells #[Bx ((shortO o).kind), .int .u8 (0), .slice oa ((o.body.take 20).length) (oc)] 47)]) (by exact (((((((((((perm_front 10 rfl).trans (perm_front 10 rfl)).trans (perm_front 10 rfl)).trans (perm_front 10 rfl)).trans (perm_front 10 rfl)).trans (perm_front 10 rfl)).trans (perm_front 10 rfl)).trans (perm_front 10 rfl)).trans (perm_front 10 rfl)).trans (perm_front 10 rfl)).trans (perm_front 10 rfl))) ?_
       refine c_closeStore (S := b46) (k := ({ K2 with power := 0 } : KS)) (pH := pH75) (pA := pA76) (pB := pB77) (cH := cH78) (cA := cA79) (cB := cB80) (M := (jourR J47 b46 I true :: storeR b2 K :: pt b26 (.cells #[Nx (C.epoch + 1), Nx (C.next), .string (str ((shortO o).body.take 300)), .slice none 0 0] 27) :: jourR J3 b2 I false :: pt b4 (.cells #[Nx (C.epoch), Nx (C.next), .string (C.state), .slice pn (C.recs).length cn] 27) :: row (.slice pn (C.recs).length cn) 9 1 ((C.recs).length) (C.recs.map (fun s : ByteArray => Value.string s)) :: pt b1 (.cells #[Bx ((shortO o).kind), .int .u8 (0), .slice oa ((o.body.take 20).length) (oc)] 47) :: [])) rfl ?_
       obtain ⟨K3, hK3⟩ : ∃ z, z = ({ K2 with power := 0 } : KS) := ⟨_, rfl⟩
       refine c_re (L' := [storeR b46 K3, jourR J47 b46 I true, storeR b2 K, pt b26 (.cells #[Nx (C.epoch + 1), Nx (C.next), .string (str ((shortO o).body.take 300)), .slice none 0 0] 27), jourR J3 b2 I false, pt b4 (.cells #[Nx (C.epoch), Nx (C.next), .string (C.state), .slice pn (C.recs).length cn] 27), row (.slice pn (C.recs).length cn) 9 1 ((C.recs).length) (C.recs.map (fun s : ByteArray => Value.string s)), pt b1 (.cells #[Bx ((shortO o).kind), .int .u8 (0), .slice oa ((o.body.take 20).length) (oc)] 47)]) (by rw [hK3]; try rfl) ?_
       have hp3 : K3.power = 0 := by rw [hK3]
       have hI3 : Inv K3 I (k + 1) false := by rw [hK3]; exact hI2.pow (by omega) (by omega)
       have hok3 := hI3.okP (show k + 1 ≤ 100 by omega)
       by_cases hcut : cutOk (K3.area I.epoch) K3.power I.size
       ·
        refine c_region ?_
        refine l_call rfl rfl rfl (cl_value (fst := []) (cap := []) (vs := [.pointer (some ⟨b46, 0, none⟩)]) (all := [.pointer (some ⟨b46, 0, none⟩)]) tf104 rfl rfl rfl) ?_
        intro w hw
        replace hw := hw.perm (L' := _ :: _ :: _ :: _ :: _ :: _ :: _ :: _ :: []) (by exact ((((((((perm_front 7 rfl).trans (perm_front 7 rfl)).trans (perm_front 7 rfl)).trans (perm_front 7 rfl)).trans (perm_front 7 rfl)).trans (perm_front 7 rfl)).trans (perm_front 7 rfl)).trans (perm_front 7 rfl)))
        obtain ⟨β1, sb, kn, hw1, back⟩ := St.frame (L := [_]) (M := _ :: _ :: _ :: _ :: _ :: _ :: _ :: []) hw
        refine (open_ok β1 w b46 K3 hok3 (by omega) I hI3.read hcut hw1).mono ?_
        rintro e w' ⟨J88, rfl, hw'⟩
        refine ⟨_, rfl, _, back _ _ hw', ?_⟩
        clear hw hw1 hw' back kn sb
        refine l_val (v := .tuple #[.pointer (some ⟨J88, 0, none⟩), .int .i64 (0)]) rfl rfl rfl (e_move) ?_
        refine l_val (v := .pointer (some ⟨J88, 0, none⟩)) rfl rfl rfl (e_extract (vs := #[.pointer (some ⟨J88, 0, none⟩), .int .i64 (0)]) rfl rfl) ?_
        refine l_val (v := .int .i64 (0)) rfl rfl rfl (e_extract (vs := #[.pointer (some ⟨J88, 0, none⟩), .int .i64 (0)]) rfl rfl) ?_
        refine l_val (v := .pointer (some ⟨J88, 0, none⟩)) rfl rfl rfl (e_assign) ?_
        refine l_val (v := .int .i64 (0)) rfl rfl rfl (e_assign) ?_
        refine l_nil ?_
        refine f_then ?_
        refine c_seq ?_
        refine c_re (L' := [jourR J88 b46 I false, storeR b46 K3, jourR J47 b46 I true, storeR b2 K, pt b26 (.cells #[Nx (C.epoch + 1), Nx (C.next), .string (str ((shortO o).body.take 300)), .slice none 0 0] 27), jourR J3 b2 I false, pt b4 (.cells #[Nx (C.epoch), Nx (C.next), .string (C.state), .slice pn (C.recs).length cn] 27), row (.slice pn (C.recs).length cn) 9 1 ((C.recs).length) (C.recs.map (fun s : ByteArray => Value.string s)), pt b1 (.cells #[Bx ((shortO o).kind), .int .u8 (0), .slice oa ((o.body.take 20).length) (oc)] 47)]) (by rw [cut_zero hp3]; try rfl) ?_
        refine c_region ?_
        refine l_val (v := .int .i64 (0)) rfl rfl rfl (e_move) ?_
        refine l_val (v := .bool true) rfl rfl rfl (e_eql (a := (0 : Int)) (b := (0 : Int)) rfl rfl) ?_
        refine l_val (v := .bool true) rfl rfl rfl (e_move) ?_
        refine g_val (v := .agg #[Nx (C.epoch), Nx (C.next), .string (C.state), .slice pn (C.recs).length cn]) rfl rfl rfl rfl rfl (e_load tf101 (cs := [Nx (C.epoch), Nx (C.next), .string (C.state), .slice pn (C.recs).length cn]) rfl (k_pt 6 (cs := #[Nx (C.epoch), Nx (C.next), .string (C.state), .slice pn (C.recs).length cn]) (vs := [Nx (C.epoch), Nx (C.next), .string (C.state), .slice pn (C.recs).length cn]) rfl rfl) rfl) ?_
        refine g_val (v := .pointer (some ⟨J88, 0, none⟩)) rfl rfl rfl rfl rfl (e_move) ?_
        refine g_call rfl rfl rfl rfl rfl (cl_value (fst := []) (cap := []) (vs := [.agg #[Nx (C.epoch), Nx (C.next), .string (C.state), .slice pn (C.recs).length cn], .pointer (some ⟨J88, 0, none⟩)]) (all := [.agg #[Nx (C.epoch), Nx (C.next), .string (C.state), .slice pn (C.recs).length cn], .pointer (some ⟨J88, 0, none⟩)]) tf115 rfl rfl rfl) ?_
        intro w hw
        obtain ⟨β1, sb, kn, hw1, back⟩ := St.frame_all hw
        refine (is_ok β1 w hw1 C pn cn (by omega) (by omega) (kn _ (Knows.of_res 7 rfl (Elems.mono _ _ _) fun _ h => row_stre h)) J88 b46 I false (kn _ (Knows.of_res 0 rfl (JF.mono _ _ _ _) fun _ h => jour_jf h)) (by have := hI.st; omega) (by have := hI.wf.next; have := hI.nN; omega) (fun b hb => by have := hI.rs b hb; omega)).mono ?_
        rintro e w' ⟨rfl, hw'⟩
        refine ⟨_, rfl, _, back _ _ hw', ?_⟩
        clear hw hw1 hw' back kn sb
        refine g_val (v := .bool (decide (¬ (isP C I)))) rfl rfl rfl rfl rfl (e_not_p (p := isP C I) rfl) ?_
        refine l_val (v := .bool (decide (¬ (isP C I)))) rfl rfl rfl (e_pick_t rfl) ?_
        refine l_val (v := .bool (decide (¬ (isP C I)))) rfl rfl rfl (e_move) ?_
        refine l_split (s := 105) (p := ¬ (isP C I)) rfl (fun h => ?_) (fun h => ?_)
        exact absurd h (Decidable.not_not.2 hC)
        refine l_skip rfl rfl rfl rfl rfl rfl ?_
        refine l_skip rfl rfl rfl rfl rfl rfl ?_
        refine l_skip rfl rfl rfl rfl rfl rfl ?_
        refine l_skip rfl rfl rfl rfl rfl rfl ?_
        refine l_val (v := .bool false) rfl rfl rfl (e_pick_f rfl) ?_
        refine l_val (v := .bool false) rfl rfl rfl (e_move) ?_
        refine g_val (v := .int .i64 (0)) rfl rfl rfl rfl rfl (e_move) ?_
        refine g_val (v := .bool false) rfl rfl rfl rfl rfl (e_neq (a := (0 : Int)) (b := (0 : Int)) rfl rfl) ?_
        refine g_val (v := .bool false) rfl rfl rfl rfl rfl (e_move) ?_
        refine l_skip rfl rfl rfl rfl rfl rfl ?_
        refine l_skip rfl rfl rfl rfl rfl rfl ?_
        refine g_val (v := .bool false) rfl rfl rfl rfl rfl (e_pick_f rfl) ?_
        refine l_val (v := .bool false) rfl rfl rfl (e_pick_f rfl) ?_
        refine l_nil ?_
        refine f_then ?_
        refine c_no rfl ?_
        refine c_skip ?_
        refine f_then ?_
        refine c_seq ?_
        refine c_region ?_
        refine l_call rfl rfl rfl (cl_value (fst := []) (cap := []) (vs := [.pointer (some ⟨b46, 0, none⟩)]) (all := [.pointer (some ⟨b46, 0, none⟩)]) tf107 rfl rfl rfl) ?_
        intro w hw
        replace hw := hw.perm (L' := _ :: _ :: _ :: _ :: _ :: _ :: _ :: _ :: _ :: []) (by exact (((((((((perm_front 8 rfl).trans (perm_front 8 rfl)).trans (perm_front 8 rfl)).trans (perm_front 8 rfl)).trans (perm_front 8 rfl)).trans (perm_front 8 rfl)).trans (perm_front 8 rfl)).trans (perm_front 7 rfl)).trans (perm_front 8 rfl)))
        obtain ⟨β1, sb, kn, hw1, back⟩ := St.frame (L := [_]) (M := _ :: _ :: _ :: _ :: _ :: _ :: _ :: _ :: []) hw
        refine (again_ok β1 w b46 K3 ((hI3.pow (p := -1) (by decide) (by decide)).okP (by omega)) I hI3.read hw1).mono ?_
        rintro e w' ⟨J89, rfl, hw'⟩
        refine ⟨_, rfl, _, back _ _ hw', ?_⟩
        clear hw hw1 hw' back kn sb
        refine l_val (v := .tuple #[.pointer (some ⟨J89, 0, none⟩), .bool true]) rfl rfl rfl (e_move) ?_
        refine l_val (v := .pointer (some ⟨J89, 0, none⟩)) rfl rfl rfl (e_extract (vs := #[.pointer (some ⟨J89, 0, none⟩), .bool true]) rfl rfl) ?_
        refine l_val (v := .bool true) rfl rfl rfl (e_extract (vs := #[.pointer (some ⟨J89, 0, none⟩), .bool true]) rfl rfl) ?_
        refine l_val (v := .pointer (some ⟨J89, 0, none⟩)) rfl rfl rfl (e_assign) ?_
        refine l_val (v := .bool true) rfl rfl rfl (e_assign) ?_
        refine l_nil ?_
        refine f_then ?_
        refine c_seq ?_
        refine c_seq ?_
        refine c_region ?_
        refine l_val (v := .bool true) rfl rfl rfl (e_move) ?_
        refine l_val (v := .bool false) rfl rfl rfl (e_not (a := true) rfl) ?_
        refine l_val (v := .bool false) rfl rfl rfl (e_move) ?_
        refine g_val (v := .int .i64 (310)) rfl rfl rfl rfl rfl (e_move) ?_
        refine g_val (v := .bool false) rfl rfl rfl rfl rfl (e_eql (a := (310 : Int)) (b := (0 : Int)) rfl rfl) ?_
        refine g_val (v := .bool false) rfl rfl rfl rfl rfl (e_move) ?_
        refine l_skip rfl rfl rfl rfl rfl rfl ?_
        refine l_skip rfl rfl rfl rfl rfl rfl ?_
        refine l_skip rfl rfl rfl rfl rfl rfl ?_
        refine l_skip rfl rfl rfl rfl rfl rfl ?_
        refine g_val (v := .bool false) rfl rfl rfl rfl rfl (e_pick_f rfl) ?_
        refine l_val (v := .bool false) rfl rfl rfl (e_pick_f rfl) ?_
        refine l_val (v := .bool false) rfl rfl rfl (e_move) ?_
        refine g_val (v := .int .i64 (310)) rfl rfl rfl rfl rfl (e_move) ?_
        refine g_val (v := .bool true) rfl rfl rfl rfl rfl (e_neq (a := (310 : Int)) (b := (0 : Int)) rfl rfl) ?_
        refine g_val (v := .bool true) rfl rfl rfl rfl rfl (e_move) ?_
        refine g_val (v := .agg #[Nx (C.epoch), Nx (C.next), .string (C.state), .slice pn (C.recs).length cn]) rfl rfl rfl rfl rfl (e_load tf101 (cs := [Nx (C.epoch), Nx (C.next), .string (C.state), .slice pn (C.recs).length cn]) rfl (k_pt 7 (cs := #[Nx (C.epoch), Nx (C.next), .string (C.state), .slice pn (C.recs).length cn]) (vs := [Nx (C.epoch), Nx (C.next), .string (C.state), .slice pn (C.recs).length cn]) rfl rfl) rfl) ?_
        refine g_val (v := .pointer (some ⟨J89, 0, none⟩)) rfl rfl rfl rfl rfl (e_move) ?_
        refine g_call rfl rfl rfl rfl rfl (cl_value (fst := []) (cap := []) (vs := [.agg #[Nx (C.epoch), Nx (C.next), .string (C.state), .slice pn (C.recs).length cn], .pointer (some ⟨J89, 0, none⟩)]) (all := [.agg #[Nx (C.epoch), Nx (C.next), .string (C.state), .slice pn (C.recs).length cn], .pointer (some ⟨J89, 0, none⟩)]) tf115 rfl rfl rfl) ?_
        intro w hw
        obtain ⟨β1, sb, kn, hw1, back⟩ := St.frame_all hw
        refine (is_ok β1 w hw1 C pn cn (by omega) (by omega) (kn _ (Knows.of_res 8 rfl (Elems.mono _ _ _) fun _ h => row_stre h)) J89 b46 I false (kn _ (Knows.of_res 0 rfl (JF.mono _ _ _ _) fun _ h => jour_jf h)) (by have := hI.st; omega) (by have := hI.wf.next; have := hI.nN; omega) (fun b hb => by have := hI.rs b hb; omega)).mono ?_
        rintro e w' ⟨rfl, hw'⟩
        refine ⟨_, rfl, _, back _ _ hw', ?_⟩
        clear hw hw1 hw' back kn sb
        refine g_val (v := .bool (decide (¬ (isP C I)))) rfl rfl rfl rfl rfl (e_not_p (p := isP C I) rfl) ?_
        refine g_val (v := .bool (decide (¬ (isP C I)))) rfl rfl rfl rfl rfl (e_pick_t rfl) ?_
        refine g_val (v := .bool (decide (¬ (isP C I)))) rfl rfl rfl rfl rfl (e_move) ?_
        refine l_split (s := 144) (p := ¬ (isP C I)) rfl (fun h => ?_) (fun h => ?_)
        exact absurd h (Decidable.not_not.2 hC)
        refine l_skip rfl rfl rfl rfl rfl rfl ?_
        refine l_skip rfl rfl rfl rfl rfl rfl ?_
        refine l_skip rfl rfl rfl rfl rfl rfl ?_
        refine l_skip rfl rfl rfl rfl rfl rfl ?_
        refine g_val (v := .bool false) rfl rfl rfl rfl rfl (e_pick_f rfl) ?_
        refine l_val (v := .bool false) rfl rfl rfl (e_pick_f rfl) ?_
        refine l_nil ?_
        refine f_then ?_
        refine c_no rfl ?_
        refine c_skip ?_
        refine f_then ?_
        refine c_seq ?_
        refine c_region ?_
        refine l_val (v := .int .i64 (310)) rfl rfl rfl (e_move) ?_
        refine l_val (v := .bool false) rfl rfl rfl (e_eql (a := (310 : Int)) (b := (0 : Int)) rfl rfl) ?_
        refine l_nil ?_
        refine f_then ?_
        refine c_no rfl ?_
        refine c_skip ?_
        refine f_block ?_
        refine f_then ?_
        refine c_region ?_
        refine l_val (v := Nx (q + 1)) rfl rfl rfl (e_add (a := ((q : Nat) : Int)) (b := (1 : Int)) rfl rfl (i64n (by omega) (by omega))) ?_
        refine l_val (v := Nx (q + 1)) rfl rfl rfl (e_move) ?_
        refine l_nil ?_
        refine f_perm (L' := [pt b26 (.cells #[Nx (C.epoch + 1), Nx (C.next), .string (str ((shortO o).body.take 300)), .slice none 0 0] 27), jourR J3 b2 I false, storeR b2 K, pt b4 (.cells #[Nx (C.epoch), Nx (C.next), .string (C.state), .slice pn (C.recs).length cn] 27), row (.slice pn (C.recs).length cn) 9 1 ((C.recs).length) (C.recs.map (fun s : ByteArray => Value.string s)), pt b1 (.cells #[Bx ((shortO o).kind), .int .u8 (0), .slice oa ((o.body.take 20).length) (oc)] 47), jourR J89 b46 I false, storeR b46 (cutS (powS K3) I.epoch I.size), jourR J88 b46 I false, jourR J47 b46 I true]) ((((((((((perm_front 3 rfl).trans (perm_front 3 rfl)).trans (perm_front 3 rfl)).trans (perm_front 3 rfl)).trans (perm_front 9 rfl)).trans (perm_front 9 rfl)).trans (perm_front 9 rfl)).trans (perm_front 7 rfl)).trans (perm_front 9 rfl)).trans (perm_front 9 rfl)) ?_
        refine f_mask (L' := [pt b26 (.cells #[Nx (C.epoch + 1), Nx (C.next), .string (str ((shortO o).body.take 300)), .slice none 0 0] 27), jourR J3 b2 I false, storeR b2 K, pt b4 (.cells #[Nx (C.epoch), Nx (C.next), .string (C.state), .slice pn (C.recs).length cn] 27), row (.slice pn (C.recs).length cn) 9 1 ((C.recs).length) (C.recs.map (fun s : ByteArray => Value.string s)), pt b1 (.cells #[Bx ((shortO o).kind), .int .u8 (0), .slice oa ((o.body.take 20).length) (oc)] 47)]) [true, true, true, true, true, true, false, false, false, false] rfl ?_
        exact f_cut ⟨q + 1, ⟨⟨rfl, rfl, rfl, rfl, rfl⟩, rfl, (by omega)⟩, (show 200 - (q + 1) < 200 - q from by omega)⟩
       ·
        refine c_region ?_
        refine l_call rfl rfl rfl (cl_value (fst := []) (cap := []) (vs := [.pointer (some ⟨b46, 0, none⟩)]) (all := [.pointer (some ⟨b46, 0, none⟩)]) tf104 rfl rfl rfl) ?_
        intro w hw
        replace hw := hw.perm (L' := _ :: _ :: _ :: _ :: _ :: _ :: _ :: _ :: []) (by exact ((((((((perm_front 7 rfl).trans (perm_front 7 rfl)).trans (perm_front 7 rfl)).trans (perm_front 7 rfl)).trans (perm_front 7 rfl)).trans (perm_front 7 rfl)).trans (perm_front 7 rfl)).trans (perm_front 7 rfl)))
        obtain ⟨β1, sb, kn, hw1, back⟩ := St.frame (L := [_]) (M := _ :: _ :: _ :: _ :: _ :: _ :: _ :: []) hw
        refine (open_pow β1 w b46 K3 hok3 (by omega) I hI3.read hcut hw1).mono ?_
        rintro e w' ⟨rfl, hw'⟩
        refine ⟨_, rfl, _, back _ _ hw', ?_⟩
        clear hw hw1 hw' back kn sb
        refine l_val (v := .tuple #[.pointer none, .int .i64 (310)]) rfl rfl rfl (e_move) ?_
        refine l_val (v := .pointer none) rfl rfl rfl (e_extract (vs := #[.pointer none, .int .i64 (310)]) rfl rfl) ?_
        refine l_val (v := .int .i64 (310)) rfl rfl rfl (e_extract (vs := #[.pointer none, .int .i64 (310)]) rfl rfl) ?_
        refine l_val (v := .pointer none) rfl rfl rfl (e_assign) ?_
        refine l_val (v := .int .i64 (310)) rfl rfl rfl (e_assign) ?_
        refine l_nil ?_
        refine f_then ?_
        refine c_seq ?_
        refine c_region ?_
        refine l_val (v := .int .i64 (310)) rfl rfl rfl (e_move) ?_
        refine l_val (v := .bool false) rfl rfl rfl (e_eql (a := (310 : Int)) (b := (0 : Int)) rfl rfl) ?_
        refine l_val (v := .bool false) rfl rfl rfl (e_move) ?_
        refine l_skip rfl rfl rfl rfl rfl rfl ?_
        refine l_skip rfl rfl rfl rfl rfl rfl ?_
        refine l_skip rfl rfl rfl rfl rfl rfl ?_
        refine l_skip rfl rfl rfl rfl rfl rfl ?_
        refine l_val (v := .bool false) rfl rfl rfl (e_pick_f rfl) ?_
        refine l_val (v := .bool false) rfl rfl rfl (e_move) ?_
        refine l_skip rfl rfl rfl rfl rfl rfl ?_
        refine l_skip rfl rfl rfl rfl rfl rfl ?_
        refine l_skip rfl rfl rfl rfl rfl rfl ?_
        refine l_skip rfl rfl rfl rfl rfl rfl ?_
        refine l_val (v := .bool false) rfl rfl rfl (e_pick_f rfl) ?_
        refine l_val (v := .bool false) rfl rfl rfl (e_move) ?_
        refine g_val (v := .int .i64 (310)) rfl rfl rfl rfl rfl (e_move) ?_
        refine g_val (v := .bool true) rfl rfl rfl rfl rfl (e_neq (a := (310 : Int)) (b := (0 : Int)) rfl rfl) ?_
        refine g_val (v := .bool true) rfl rfl rfl rfl rfl (e_move) ?_
        refine g_val (v := .int .i64 (310)) rfl rfl rfl rfl rfl (e_move) ?_
        refine g_val (v := .bool false) rfl rfl rfl rfl rfl (e_neq (a := (310 : Int)) (b := (310 : Int)) rfl rfl) ?_
        refine g_val (v := .bool false) rfl rfl rfl rfl rfl (e_pick_t rfl) ?_
        refine l_val (v := .bool false) rfl rfl rfl (e_pick_f rfl) ?_
        refine l_nil ?_
        refine f_then ?_
        refine c_no rfl ?_
        refine c_skip ?_
        refine f_then ?_
        refine c_seq ?_
        refine c_region ?_
        refine l_call rfl rfl rfl (cl_value (fst := []) (cap := []) (vs := [.pointer (some ⟨b46, 0, none⟩)]) (all := [.pointer (some ⟨b46, 0, none⟩)]) tf107 rfl rfl rfl) ?_
        intro w hw
        replace hw := hw.perm (L' := _ :: _ :: _ :: _ :: _ :: _ :: _ :: _ :: []) (by exact ((((((((perm_front 7 rfl).trans (perm_front 7 rfl)).trans (perm_front 7 rfl)).trans (perm_front 7 rfl)).trans (perm_front 7 rfl)).trans (perm_front 7 rfl)).trans (perm_front 7 rfl)).trans (perm_front 7 rfl)))
        obtain ⟨β1, sb, kn, hw1, back⟩ := St.frame (L := [_]) (M := _ :: _ :: _ :: _ :: _ :: _ :: _ :: []) hw
        refine (again_ok β1 w b46 K3 ((hI3.pow (p := -1) (by decide) (by decide)).okP (by omega)) I hI3.read hw1).mono ?_
        rintro e w' ⟨J90, rfl, hw'⟩
        refine ⟨_, rfl, _, back _ _ hw', ?_⟩
        clear hw hw1 hw' back kn sb
        refine l_val (v := .tuple #[.pointer (some ⟨J90, 0, none⟩), .bool true]) rfl rfl rfl (e_move) ?_
        refine l_val (v := .pointer (some ⟨J90, 0, none⟩)) rfl rfl rfl (e_extract (vs := #[.pointer (some ⟨J90, 0, none⟩), .bool true]) rfl rfl) ?_
        refine l_val (v := .bool true) rfl rfl rfl (e_extract (vs := #[.pointer (some ⟨J90, 0, none⟩), .bool true]) rfl rfl) ?_
        refine l_val (v := .pointer (some ⟨J90, 0, none⟩)) rfl rfl rfl (e_assign) ?_
        refine l_val (v := .bool true) rfl rfl rfl (e_assign) ?_
        refine l_nil ?_
        refine f_then ?_
        refine c_seq ?_
        refine c_seq ?_
        refine c_region ?_
        refine l_val (v := .bool true) rfl rfl rfl (e_move) ?_
        refine l_val (v := .bool false) rfl rfl rfl (e_not (a := true) rfl) ?_
        refine l_val (v := .bool false) rfl rfl rfl (e_move) ?_
        refine g_val (v := .int .i64 (310)) rfl rfl rfl rfl rfl (e_move) ?_
        refine g_val (v := .bool false) rfl rfl rfl rfl rfl (e_eql (a := (310 : Int)) (b := (0 : Int)) rfl rfl) ?_
        refine g_val (v := .bool false) rfl rfl rfl rfl rfl (e_move) ?_
        refine l_skip rfl rfl rfl rfl rfl rfl ?_
        refine l_skip rfl rfl rfl rfl rfl rfl ?_
        refine l_skip rfl rfl rfl rfl rfl rfl ?_
        refine l_skip rfl rfl rfl rfl rfl rfl ?_
        refine g_val (v := .bool false) rfl rfl rfl rfl rfl (e_pick_f rfl) ?_
        refine l_val (v := .bool false) rfl rfl rfl (e_pick_f rfl) ?_
        refine l_val (v := .bool false) rfl rfl rfl (e_move) ?_
        refine g_val (v := .int .i64 (310)) rfl rfl rfl rfl rfl (e_move) ?_
        refine g_val (v := .bool true) rfl rfl rfl rfl rfl (e_neq (a := (310 : Int)) (b := (0 : Int)) rfl rfl) ?_
        refine g_val (v := .bool true) rfl rfl rfl rfl rfl (e_move) ?_
        refine g_val (v := .agg #[Nx (C.epoch), Nx (C.next), .string (C.state), .slice pn (C.recs).length cn]) rfl rfl rfl rfl rfl (e_load tf101 (cs := [Nx (C.epoch), Nx (C.next), .string (C.state), .slice pn (C.recs).length cn]) rfl (k_pt 6 (cs := #[Nx (C.epoch), Nx (C.next), .string (C.state), .slice pn (C.recs).length cn]) (vs := [Nx (C.epoch), Nx (C.next), .string (C.state), .slice pn (C.recs).length cn]) rfl rfl) rfl) ?_
        refine g_val (v := .pointer (some ⟨J90, 0, none⟩)) rfl rfl rfl rfl rfl (e_move) ?_
        refine g_call rfl rfl rfl rfl rfl (cl_value (fst := []) (cap := []) (vs := [.agg #[Nx (C.epoch), Nx (C.next), .string (C.state), .slice pn (C.recs).length cn], .pointer (some ⟨J90, 0, none⟩)]) (all := [.agg #[Nx (C.epoch), Nx (C.next), .string (C.state), .slice pn (C.recs).length cn], .pointer (some ⟨J90, 0, none⟩)]) tf115 rfl rfl rfl) ?_
        intro w hw
        obtain ⟨β1, sb, kn, hw1, back⟩ := St.frame_all hw
        refine (is_ok β1 w hw1 C pn cn (by omega) (by omega) (kn _ (Knows.of_res 7 rfl (Elems.mono _ _ _) fun _ h => row_stre h)) J90 b46 I false (kn _ (Knows.of_res 0 rfl (JF.mono _ _ _ _) fun _ h => jour_jf h)) (by have := hI.st; omega) (by have := hI.wf.next; have := hI.nN; omega) (fun b hb => by have := hI.rs b hb; omega)).mono ?_
        rintro e w' ⟨rfl, hw'⟩
        refine ⟨_, rfl, _, back _ _ hw', ?_⟩
        clear hw hw1 hw' back kn sb
        refine g_val (v := .bool (decide (¬ (isP C I)))) rfl rfl rfl rfl rfl (e_not_p (p := isP C I) rfl) ?_
        refine g_val (v := .bool (decide (¬ (isP C I)))) rfl rfl rfl rfl rfl (e_pick_t rfl) ?_
        refine g_val (v := .bool (decide (¬ (isP C I)))) rfl rfl rfl rfl rfl (e_move) ?_
        refine l_split (s := 144) (p := ¬ (isP C I)) rfl (fun h => ?_) (fun h => ?_)
        exact absurd h (Decidable.not_not.2 hC)
        refine l_skip rfl rfl rfl rfl rfl rfl ?_
        refine l_skip rfl rfl rfl rfl rfl rfl ?_
        refine l_skip rfl rfl rfl rfl rfl rfl ?_
        refine l_skip rfl rfl rfl rfl rfl rfl ?_
        refine g_val (v := .bool false) rfl rfl rfl rfl rfl (e_pick_f rfl) ?_
        refine l_val (v := .bool false) rfl rfl rfl (e_pick_f rfl) ?_
        refine l_nil ?_
        refine f_then ?_
        refine c_no rfl ?_
        refine c_skip ?_
        refine f_then ?_
        refine c_seq ?_
        refine c_region ?_
        refine l_val (v := .int .i64 (310)) rfl rfl rfl (e_move) ?_
        refine l_val (v := .bool false) rfl rfl rfl (e_eql (a := (310 : Int)) (b := (0 : Int)) rfl rfl) ?_
        refine l_nil ?_
        refine f_then ?_
        refine c_no rfl ?_
        refine c_skip ?_
        refine f_block ?_
        refine f_then ?_
        refine c_region ?_
        refine l_val (v := Nx (q + 1)) rfl rfl rfl (e_add (a := ((q : Nat) : Int)) (b := (1 : Int)) rfl rfl (i64n (by omega) (by omega))) ?_
        refine l_val (v := Nx (q + 1)) rfl rfl rfl (e_move) ?_
        refine l_nil ?_
        refine f_perm (L' := [pt b26 (.cells #[Nx (C.epoch + 1), Nx (C.next), .string (str ((shortO o).body.take 300)), .slice none 0 0] 27), jourR J3 b2 I false, storeR b2 K, pt b4 (.cells #[Nx (C.epoch), Nx (C.next), .string (C.state), .slice pn (C.recs).length cn] 27), row (.slice pn (C.recs).length cn) 9 1 ((C.recs).length) (C.recs.map (fun s : ByteArray => Value.string s)), pt b1 (.cells #[Bx ((shortO o).kind), .int .u8 (0), .slice oa ((o.body.take 20).length) (oc)] 47), jourR J90 b46 I false, storeR b46 (cutS (powS K3) I.epoch I.size), jourR J47 b46 I true]) (((((((((perm_front 2 rfl).trans (perm_front 2 rfl)).trans (perm_front 2 rfl)).trans (perm_front 8 rfl)).trans (perm_front 8 rfl)).trans (perm_front 8 rfl)).trans (perm_front 6 rfl)).trans (perm_front 8 rfl)).trans (perm_front 8 rfl)) ?_
        refine f_mask (L' := [pt b26 (.cells #[Nx (C.epoch + 1), Nx (C.next), .string (str ((shortO o).body.take 300)), .slice none 0 0] 27), jourR J3 b2 I false, storeR b2 K, pt b4 (.cells #[Nx (C.epoch), Nx (C.next), .string (C.state), .slice pn (C.recs).length cn] 27), row (.slice pn (C.recs).length cn) 9 1 ((C.recs).length) (C.recs.map (fun s : ByteArray => Value.string s)), pt b1 (.cells #[Bx ((shortO o).kind), .int .u8 (0), .slice oa ((o.body.take 20).length) (oc)] 47)]) [true, true, true, true, true, true, false, false, false] rfl ?_
        exact f_cut ⟨q + 1, ⟨⟨rfl, rfl, rfl, rfl, rfl⟩, rfl, (by omega)⟩, (show 200 - (q + 1) < 200 - q from by omega)⟩
     ·
      refine c_region ?_
      refine l_val (v := .pointer (some ⟨J47, 0, none⟩)) rfl rfl rfl (e_move) ?_
      refine l_val (v := .agg #[Bx ((shortO o).kind), .int .u8 (0), .slice oa ((o.body.take 20).length) (oc)]) rfl rfl rfl (e_load tf87 (cs := [Bx ((shortO o).kind), .int .u8 (0), .slice oa ((o.body.take 20).length) (oc)]) rfl (k_pt 7 (cs := #[Bx ((shortO o).kind), .int .u8 (0), .slice oa ((o.body.take 20).length) (oc)]) (vs := [Bx ((shortO o).kind), .int .u8 (0), .slice oa ((o.body.take 20).length) (oc)]) rfl rfl) rfl) ?_
      refine l_call rfl rfl rfl (cl_value (fst := []) (cap := []) (vs := [.pointer (some ⟨J47, 0, none⟩), .agg #[Bx ((shortO o).kind), .int .u8 (0), .slice oa ((o.body.take 20).length) (oc)]]) (all := [.pointer (some ⟨J47, 0, none⟩), .agg #[Bx ((shortO o).kind), .int .u8 (0), .slice oa ((o.body.take 20).length) (oc)]]) tf113 rfl rfl rfl) ?_
      intro w hw
      replace hw := hw.perm (L' := _ :: _ :: _ :: _ :: _ :: _ :: _ :: _ :: []) (by exact ((((((((perm_front 7 rfl).trans (perm_front 7 rfl)).trans (perm_front 7 rfl)).trans (perm_front 7 rfl)).trans (perm_front 7 rfl)).trans (perm_front 7 rfl)).trans (perm_front 6 rfl)).trans (perm_front 7 rfl)))
      obtain ⟨β1, sb, kn, hw1, back⟩ := St.frame (L := [_, _]) (M := _ :: _ :: _ :: _ :: _ :: _ :: []) hw
      refine (does_ck_no β1 w J47 b46 Kq I hfq (by omega) (by omega) (by omega) (by omega) (shortO o) oa oc (show ((o.body.take 20) : Bs).length ≤ oc by simp only [List.length_take]; omega) (by omega) (Elems.mono _ _ _ _ _ sb (Elems.take 20 oe)) hkd hc hw1).mono ?_
      rintro e w' ⟨rfl, hw'⟩
      refine ⟨_, rfl, _, back _ _ hw', ?_⟩
      clear hw hw1 hw' back kn sb
      refine l_val (v := .int .i64 (310)) rfl rfl rfl (e_assign) ?_
      refine l_nil ?_
      refine f_then ?_
      refine c_seq ?_
      refine c_seq ?_
      refine c_re (L' := [jourR J47 b46 I true, storeR b46 K2, storeR b2 K, pt b26 (.cells #[Nx (C.epoch + 1), Nx (C.next), .string (str ((shortO o).body.take 300)), .slice none 0 0] 27), jourR J3 b2 I false, pt b4 (.cells #[Nx (C.epoch), Nx (C.next), .string (C.state), .slice pn (C.recs).length cn] 27), row (.slice pn (C.recs).length cn) 9 1 ((C.recs).length) (C.recs.map (fun s : ByteArray => Value.string s)), pt b1 (.cells #[Bx ((shortO o).kind), .int .u8 (0), .slice oa ((o.body.take 20).length) (oc)] 47)]) (by rw [hK2]; try rfl) ?_
      refine c_perm (L' := [storeR b46 K2, jourR J47 b46 I true, storeR b2 K, pt b26 (.cells #[Nx (C.epoch + 1), Nx (C.next), .string (str ((shortO o).body.take 300)), .slice none 0 0] 27), jourR J3 b2 I false, pt b4 (.cells #[Nx (C.epoch), Nx (C.next), .string (C.state), .slice pn (C.recs).length cn] 27), row (.slice pn (C.recs).length cn) 9 1 ((C.recs).length) (C.recs.map (fun s : ByteArray => Value.string s)), pt b1 (.cells #[Bx ((shortO o).kind), .int .u8 (0), .slice oa ((o.body.take 20).length) (oc)] 47)]) (by exact ((((((((perm_front 7 rfl).trans (perm_front 7 rfl)).trans (perm_front 7 rfl)).trans (perm_front 7 rfl)).trans (perm_front 7 rfl)).trans (perm_front 7 rfl)).trans (perm_front 6 rfl)).trans (perm_front 7 rfl))) ?_
      refine c_openStore rfl (fun pH91 pA92 pB93 cH94 cA95 cB96 => ?_)
      refine c_rowcap 1 rfl (fun hcl97 hcm98 => ?_)
      refine c_rowcap 2 rfl (fun hcl99 hcm100 => ?_)
      refine c_rowcap 3 rfl (fun hcl101 hcm102 => ?_)
      refine c_region ?_
      refine l_val (v := .int .i64 (310)) rfl rfl rfl (e_move) ?_
      refine l_val (v := .bool true) rfl rfl rfl (e_neq (a := (310 : Int)) (b := (0 : Int)) rfl rfl) ?_
      refine l_val (v := .bool true) rfl rfl rfl (e_move) ?_
      refine g_val (v := .int .i64 (310)) rfl rfl rfl rfl rfl (e_move) ?_
      refine g_val (v := .bool false) rfl rfl rfl rfl rfl (e_neq (a := (310 : Int)) (b := (310 : Int)) rfl rfl) ?_
      refine g_val (v := .bool false) rfl rfl rfl rfl rfl (e_move) ?_
      refine g_val (v := .pointer (some ⟨b46, 3, none⟩)) rfl rfl rfl rfl rfl (e_fieldPt (b := b46) (o := 0) rfl tf24) ?_
      refine g_val (v := Ix (K2.power)) rfl rfl rfl rfl rfl (e_load1 tf25 (v := Ix (K2.power)) rfl (k_pt 0 (cs := #[.slice pH91 (K2.head).length cH94, .slice pA92 (K2.a).length cA95, .slice pB93 (K2.b).length cB96, Ix (K2.power)]) (vs := [Ix (K2.power)]) rfl rfl)) ?_
      refine g_val (v := .bool (decide ((K2.power) ≠ (0 : Int)))) rfl rfl rfl rfl rfl (e_neq (a := (K2.power)) (b := (0 : Int)) rfl rfl) ?_
      refine g_val (v := .bool (decide ((K2.power) ≠ (0 : Int)))) rfl rfl rfl rfl rfl (e_pick_f rfl) ?_
      refine g_val (v := .bool (decide ((K2.power) ≠ (0 : Int)))) rfl rfl rfl rfl rfl (e_move) ?_
      refine l_split (s := 83) (p := (K2.power) ≠ (0 : Int)) rfl (fun h => ?_) (fun h => ?_)
      exact absurd h (by omega)
      refine g_val (v := .agg #[Nx (C.epoch), Nx (C.next), .string (C.state), .slice pn (C.recs).length cn]) rfl rfl rfl rfl rfl (e_load tf101 (cs := [Nx (C.epoch), Nx (C.next), .string (C.state), .slice pn (C.recs).length cn]) rfl (k_pt 8 (cs := #[Nx (C.epoch), Nx (C.next), .string (C.state), .slice pn (C.recs).length cn]) (vs := [Nx (C.epoch), Nx (C.next), .string (C.state), .slice pn (C.recs).length cn]) rfl rfl) rfl) ?_
      refine g_val (v := .pointer (some ⟨J47, 0, none⟩)) rfl rfl rfl rfl rfl (e_move) ?_
      refine g_call rfl rfl rfl rfl rfl (cl_value (fst := []) (cap := []) (vs := [.agg #[Nx (C.epoch), Nx (C.next), .string (C.state), .slice pn (C.recs).length cn], .pointer (some ⟨J47, 0, none⟩)]) (all := [.agg #[Nx (C.epoch), Nx (C.next), .string (C.state), .slice pn (C.recs).length cn], .pointer (some ⟨J47, 0, none⟩)]) tf115 rfl rfl rfl) ?_
      intro w hw
      obtain ⟨β1, sb, kn, hw1, back⟩ := St.frame_all hw
      refine (is_ok β1 w hw1 C pn cn (by omega) (by omega) (kn _ (Knows.of_res 9 rfl (Elems.mono _ _ _) fun _ h => row_stre h)) J47 b46 I true (kn _ (Knows.of_res 4 rfl (JF.mono _ _ _ _) fun _ h => jour_jf h)) (by have := hI.st; omega) (by have := hI.wf.next; have := hI.nN; omega) (fun b hb => by have := hI.rs b hb; omega)).mono ?_
      rintro e w' ⟨rfl, hw'⟩
      refine ⟨_, rfl, _, back _ _ hw', ?_⟩
      clear hw hw1 hw' back kn sb
      refine g_val (v := .bool (decide (¬ (isP C I)))) rfl rfl rfl rfl rfl (e_not_p (p := isP C I) rfl) ?_
      refine g_val (v := .bool (decide (¬ (isP C I)))) rfl rfl rfl rfl rfl (e_pick_f rfl) ?_
      refine l_val (v := .bool (decide (¬ (isP C I)))) rfl rfl rfl (e_pick_t rfl) ?_
      refine l_nil ?_
      refine f_then ?_
      refine c_if (¬ (isP C I)) rfl (fun hc103 => ?_) (fun hc103 => ?_)
      ·
       exact absurd hc103 (Decidable.not_not.2 hC)
      ·
       refine c_skip ?_
       refine f_then ?_
       refine c_seq ?_
       refine c_region ?_
       refine l_val (v := .pointer (some ⟨b46, 3, none⟩)) rfl rfl rfl (e_fieldPt (b := b46) (o := 0) rfl tf24) ?_
       refine l_val (v := Ix (K2.power)) rfl rfl rfl (e_load1 tf25 (v := Ix (K2.power)) rfl (k_pt 0 (cs := #[.slice pH91 (K2.head).length cH94, .slice pA92 (K2.a).length cA95, .slice pB93 (K2.b).length cB96, Ix (K2.power)]) (vs := [Ix (K2.power)]) rfl rfl)) ?_
       refine l_val (v := Ix (K2.power)) rfl rfl rfl (e_assign) ?_
       refine l_nil ?_
       refine f_then ?_
       refine c_seq ?_
       refine c_region ?_
       refine l_val (v := .pointer (some ⟨b46, 3, none⟩)) rfl rfl rfl (e_fieldPt (b := b46) (o := 0) rfl tf24) ?_
       refine l_mu rfl rfl (m_store 0 tf25 (b := b46) (o := 3) (T := 32) (cs := #[.slice pH91 (K2.head).length cH94, .slice pA92 (K2.a).length cA95, .slice pB93 (K2.b).length cB96, Ix (K2.power)]) (cs' := #[.slice pH91 (K2.head).length cH94, .slice pA92 (K2.a).length cA95, .slice pB93 (K2.b).length cB96, .int .i64 (0)]) (v := .int .i64 (0)) rfl rfl rfl rfl rfl rfl rfl) ?_
       refine l_nil ?_
       refine f_then ?_
       refine c_seq ?_
       refine c_seq ?_
       refine c_perm (L' := [pt b46 (.cells #[.slice pH91 (K2.head).length cH94, .slice pA92 (K2.a).length cA95, .slice pB93 (K2.b).length cB96, .int .i64 (0)] 32), row (.slice pH91 (K2.head).length cH94) 5 1 ((K2.head).length) (BX K2.head), row (.slice pA92 (K2.a).length cA95) 5 1 ((K2.a).length) (BX K2.a), row (.slice pB93 (K2.b).length cB96) 5 1 ((K2.b).length) (BX K2.b), jourR J47 b46 I true, storeR b2 K, pt b26 (.cells #[Nx (C.epoch + 1), Nx (C.next), .string (str ((shortO o).body.take 300)), .slice none 0 0] 27), jourR J3 b2 I false, pt b4 (.cells #[Nx (C.epoch), Nx (C.next), .string (C.state), .slice pn (C.recs).length cn] 27), row (.slice pn (C.recs).length cn) 9 1 ((C.recs).length) (C.recs.map (fun s : ByteArray => Value.string s)), pt b1 (.cells #[Bx ((shortO o).kind), .int .u8 (0), .slice oa ((o.body.take 20).length) (oc)] 47)]) (by exact (((((((((((perm_front 10 rfl).trans (perm_front 10 rfl)).trans (perm_front 10 rfl)).trans (perm_front 10 rfl)).trans (perm_front 10 rfl)).trans (perm_front 10 rfl)).trans (perm_front 10 rfl)).trans (perm_front 10 rfl)).trans (perm_front 10 rfl)).trans (perm_front 10 rfl)).trans (perm_front 10 rfl))) ?_
       refine c_closeStore (S := b46) (k := ({ K2 with power := 0 } : KS)) (pH := pH91) (pA := pA92) (pB := pB93) (cH := cH94) (cA := cA95) (cB := cB96) (M := (jourR J47 b46 I true :: storeR b2 K :: pt b26 (.cells #[Nx (C.epoch + 1), Nx (C.next), .string (str ((shortO o).body.take 300)), .slice none 0 0] 27) :: jourR J3 b2 I false :: pt b4 (.cells #[Nx (C.epoch), Nx (C.next), .string (C.state), .slice pn (C.recs).length cn] 27) :: row (.slice pn (C.recs).length cn) 9 1 ((C.recs).length) (C.recs.map (fun s : ByteArray => Value.string s)) :: pt b1 (.cells #[Bx ((shortO o).kind), .int .u8 (0), .slice oa ((o.body.take 20).length) (oc)] 47) :: [])) rfl ?_
       obtain ⟨K3, hK3⟩ : ∃ z, z = ({ K2 with power := 0 } : KS) := ⟨_, rfl⟩
       refine c_re (L' := [storeR b46 K3, jourR J47 b46 I true, storeR b2 K, pt b26 (.cells #[Nx (C.epoch + 1), Nx (C.next), .string (str ((shortO o).body.take 300)), .slice none 0 0] 27), jourR J3 b2 I false, pt b4 (.cells #[Nx (C.epoch), Nx (C.next), .string (C.state), .slice pn (C.recs).length cn] 27), row (.slice pn (C.recs).length cn) 9 1 ((C.recs).length) (C.recs.map (fun s : ByteArray => Value.string s)), pt b1 (.cells #[Bx ((shortO o).kind), .int .u8 (0), .slice oa ((o.body.take 20).length) (oc)] 47)]) (by rw [hK3]; try rfl) ?_
       have hp3 : K3.power = 0 := by rw [hK3]
       have hI3 : Inv K3 I2 (k + 1) false := by rw [hK3]; exact hI2.pow (by omega) (by omega)
       have hok3 := hI3.okP (show k + 1 ≤ 100 by omega)
       by_cases hcut : cutOk (K3.area I2.epoch) K3.power I2.size
       ·
        refine c_region ?_
        refine l_call rfl rfl rfl (cl_value (fst := []) (cap := []) (vs := [.pointer (some ⟨b46, 0, none⟩)]) (all := [.pointer (some ⟨b46, 0, none⟩)]) tf104 rfl rfl rfl) ?_
        intro w hw
        replace hw := hw.perm (L' := _ :: _ :: _ :: _ :: _ :: _ :: _ :: _ :: []) (by exact ((((((((perm_front 7 rfl).trans (perm_front 7 rfl)).trans (perm_front 7 rfl)).trans (perm_front 7 rfl)).trans (perm_front 7 rfl)).trans (perm_front 7 rfl)).trans (perm_front 7 rfl)).trans (perm_front 7 rfl)))
        obtain ⟨β1, sb, kn, hw1, back⟩ := St.frame (L := [_]) (M := _ :: _ :: _ :: _ :: _ :: _ :: _ :: []) hw
        refine (open_ok β1 w b46 K3 hok3 (by omega) I2 hI3.read hcut hw1).mono ?_
        rintro e w' ⟨J104, rfl, hw'⟩
        refine ⟨_, rfl, _, back _ _ hw', ?_⟩
        clear hw hw1 hw' back kn sb
        refine l_val (v := .tuple #[.pointer (some ⟨J104, 0, none⟩), .int .i64 (0)]) rfl rfl rfl (e_move) ?_
        refine l_val (v := .pointer (some ⟨J104, 0, none⟩)) rfl rfl rfl (e_extract (vs := #[.pointer (some ⟨J104, 0, none⟩), .int .i64 (0)]) rfl rfl) ?_
        refine l_val (v := .int .i64 (0)) rfl rfl rfl (e_extract (vs := #[.pointer (some ⟨J104, 0, none⟩), .int .i64 (0)]) rfl rfl) ?_
        refine l_val (v := .pointer (some ⟨J104, 0, none⟩)) rfl rfl rfl (e_assign) ?_
        refine l_val (v := .int .i64 (0)) rfl rfl rfl (e_assign) ?_
        refine l_nil ?_
        refine f_then ?_
        refine c_seq ?_
        refine c_re (L' := [jourR J104 b46 I2 false, storeR b46 K3, jourR J47 b46 I true, storeR b2 K, pt b26 (.cells #[Nx (C.epoch + 1), Nx (C.next), .string (str ((shortO o).body.take 300)), .slice none 0 0] 27), jourR J3 b2 I false, pt b4 (.cells #[Nx (C.epoch), Nx (C.next), .string (C.state), .slice pn (C.recs).length cn] 27), row (.slice pn (C.recs).length cn) 9 1 ((C.recs).length) (C.recs.map (fun s : ByteArray => Value.string s)), pt b1 (.cells #[Bx ((shortO o).kind), .int .u8 (0), .slice oa ((o.body.take 20).length) (oc)] 47)]) (by rw [cut_zero hp3]; try rfl) ?_
        refine c_region ?_
        refine l_val (v := .int .i64 (0)) rfl rfl rfl (e_move) ?_
        refine l_val (v := .bool true) rfl rfl rfl (e_eql (a := (0 : Int)) (b := (0 : Int)) rfl rfl) ?_
        refine l_val (v := .bool true) rfl rfl rfl (e_move) ?_
        refine g_val (v := .agg #[Nx (C.epoch), Nx (C.next), .string (C.state), .slice pn (C.recs).length cn]) rfl rfl rfl rfl rfl (e_load tf101 (cs := [Nx (C.epoch), Nx (C.next), .string (C.state), .slice pn (C.recs).length cn]) rfl (k_pt 6 (cs := #[Nx (C.epoch), Nx (C.next), .string (C.state), .slice pn (C.recs).length cn]) (vs := [Nx (C.epoch), Nx (C.next), .string (C.state), .slice pn (C.recs).length cn]) rfl rfl) rfl) ?_
        refine g_val (v := .pointer (some ⟨J104, 0, none⟩)) rfl rfl rfl rfl rfl (e_move) ?_
        refine g_call rfl rfl rfl rfl rfl (cl_value (fst := []) (cap := []) (vs := [.agg #[Nx (C.epoch), Nx (C.next), .string (C.state), .slice pn (C.recs).length cn], .pointer (some ⟨J104, 0, none⟩)]) (all := [.agg #[Nx (C.epoch), Nx (C.next), .string (C.state), .slice pn (C.recs).length cn], .pointer (some ⟨J104, 0, none⟩)]) tf115 rfl rfl rfl) ?_
        intro w hw
        obtain ⟨β1, sb, kn, hw1, back⟩ := St.frame_all hw
        refine (is_ok β1 w hw1 C pn cn (by omega) (by omega) (kn _ (Knows.of_res 7 rfl (Elems.mono _ _ _) fun _ h => row_stre h)) J104 b46 I2 false (kn _ (Knows.of_res 0 rfl (JF.mono _ _ _ _) fun _ h => jour_jf h)) (by have := hI3.st; omega) (by have := hI3.wf.next; have := hI3.nN; omega) (fun b hb => by have := hI3.rs b hb; omega)).mono ?_
        rintro e w' ⟨rfl, hw'⟩
        refine ⟨_, rfl, _, back _ _ hw', ?_⟩
        clear hw hw1 hw' back kn sb
        refine g_val (v := .bool (decide (¬ (isP C I2)))) rfl rfl rfl rfl rfl (e_not_p (p := isP C I2) rfl) ?_
        refine l_val (v := .bool (decide (¬ (isP C I2)))) rfl rfl rfl (e_pick_t rfl) ?_
        refine l_val (v := .bool (decide (¬ (isP C I2)))) rfl rfl rfl (e_move) ?_
        refine l_split (s := 105) (p := ¬ (isP C I2)) rfl (fun h => ?_) (fun h => ?_)
        rotate_left; exact absurd hN2 h
        refine g_val (v := .agg #[Nx (C.epoch + 1), Nx (C.next), .string (str ((shortO o).body.take 300)), .slice none 0 0]) rfl rfl rfl rfl rfl (e_load tf101 (cs := [Nx (C.epoch + 1), Nx (C.next), .string (str ((shortO o).body.take 300)), .slice none 0 0]) rfl (k_pt 4 (cs := #[Nx (C.epoch + 1), Nx (C.next), .string (str ((shortO o).body.take 300)), .slice none 0 0]) (vs := [Nx (C.epoch + 1), Nx (C.next), .string (str ((shortO o).body.take 300)), .slice none 0 0]) rfl rfl) rfl) ?_
        refine g_val (v := .pointer (some ⟨J104, 0, none⟩)) rfl rfl rfl rfl rfl (e_move) ?_
        refine g_call rfl rfl rfl rfl rfl (cl_value (fst := []) (cap := []) (vs := [.agg #[Nx (C.epoch + 1), Nx (C.next), .string (str ((shortO o).body.take 300)), .slice none 0 0], .pointer (some ⟨J104, 0, none⟩)]) (all := [.agg #[Nx (C.epoch + 1), Nx (C.next), .string (str ((shortO o).body.take 300)), .slice none 0 0], .pointer (some ⟨J104, 0, none⟩)]) tf115 rfl rfl rfl) ?_
        intro w hw
        obtain ⟨β1, sb, kn, hw1, back⟩ := St.frame_all hw
        refine (is_ok β1 w hw1 (⟨C.epoch + 1, C.next, str ((shortO o).body.take 300), []⟩ : KC) none 0 (by simp) (by omega) (fun j x h => by simp at h) J104 b46 I2 false (kn _ (Knows.of_res 0 rfl (JF.mono _ _ _ _) fun _ h => jour_jf h)) (by have := hI3.st; omega) (by have := hI3.wf.next; have := hI3.nN; omega) (fun b hb => by have := hI3.rs b hb; omega)).mono ?_
        rintro e w' ⟨rfl, hw'⟩
        refine ⟨_, rfl, _, back _ _ hw', ?_⟩
        clear hw hw1 hw' back kn sb
        refine g_val (v := .bool (decide (¬ (isP (⟨C.epoch + 1, C.next, str ((shortO o).body.take 300), []⟩ : KC) I2)))) rfl rfl rfl rfl rfl (e_not_p (p := isP (⟨C.epoch + 1, C.next, str ((shortO o).body.take 300), []⟩ : KC) I2) rfl) ?_
        refine l_val (v := .bool (decide (¬ (isP (⟨C.epoch + 1, C.next, str ((shortO o).body.take 300), []⟩ : KC) I2)))) rfl rfl rfl (e_pick_t rfl) ?_
        refine l_val (v := .bool (decide (¬ (isP (⟨C.epoch + 1, C.next, str ((shortO o).body.take 300), []⟩ : KC) I2)))) rfl rfl rfl (e_move) ?_
        refine l_split (s := 111) (p := ¬ (isP (⟨C.epoch + 1, C.next, str ((shortO o).body.take 300), []⟩ : KC) I2)) rfl (fun h => ?_) (fun h => ?_)
        exact absurd h (Decidable.not_not.2 hC2)
        refine g_val (v := .int .i64 (0)) rfl rfl rfl rfl rfl (e_move) ?_
        refine g_val (v := .bool false) rfl rfl rfl rfl rfl (e_neq (a := (0 : Int)) (b := (0 : Int)) rfl rfl) ?_
        refine g_val (v := .bool false) rfl rfl rfl rfl rfl (e_move) ?_
        refine l_skip rfl rfl rfl rfl rfl rfl ?_
        refine l_skip rfl rfl rfl rfl rfl rfl ?_
        refine g_val (v := .bool false) rfl rfl rfl rfl rfl (e_pick_f rfl) ?_
        refine l_val (v := .bool false) rfl rfl rfl (e_pick_f rfl) ?_
        refine l_nil ?_
        refine f_then ?_
        refine c_no rfl ?_
        refine c_skip ?_
        refine f_then ?_
        refine c_seq ?_
        refine c_region ?_
        refine l_call rfl rfl rfl (cl_value (fst := []) (cap := []) (vs := [.pointer (some ⟨b46, 0, none⟩)]) (all := [.pointer (some ⟨b46, 0, none⟩)]) tf107 rfl rfl rfl) ?_
        intro w hw
        replace hw := hw.perm (L' := _ :: _ :: _ :: _ :: _ :: _ :: _ :: _ :: _ :: []) (by exact (((((((((perm_front 8 rfl).trans (perm_front 8 rfl)).trans (perm_front 8 rfl)).trans (perm_front 8 rfl)).trans (perm_front 8 rfl)).trans (perm_front 8 rfl)).trans (perm_front 8 rfl)).trans (perm_front 7 rfl)).trans (perm_front 8 rfl)))
        obtain ⟨β1, sb, kn, hw1, back⟩ := St.frame (L := [_]) (M := _ :: _ :: _ :: _ :: _ :: _ :: _ :: _ :: []) hw
        refine (again_ok β1 w b46 K3 ((hI3.pow (p := -1) (by decide) (by decide)).okP (by omega)) I2 hI3.read hw1).mono ?_
        rintro e w' ⟨J105, rfl, hw'⟩
        refine ⟨_, rfl, _, back _ _ hw', ?_⟩
        clear hw hw1 hw' back kn sb
        refine l_val (v := .tuple #[.pointer (some ⟨J105, 0, none⟩), .bool true]) rfl rfl rfl (e_move) ?_
        refine l_val (v := .pointer (some ⟨J105, 0, none⟩)) rfl rfl rfl (e_extract (vs := #[.pointer (some ⟨J105, 0, none⟩), .bool true]) rfl rfl) ?_
        refine l_val (v := .bool true) rfl rfl rfl (e_extract (vs := #[.pointer (some ⟨J105, 0, none⟩), .bool true]) rfl rfl) ?_
        refine l_val (v := .pointer (some ⟨J105, 0, none⟩)) rfl rfl rfl (e_assign) ?_
        refine l_val (v := .bool true) rfl rfl rfl (e_assign) ?_
        refine l_nil ?_
        refine f_then ?_
        refine c_seq ?_
        refine c_seq ?_
        refine c_region ?_
        refine l_val (v := .bool true) rfl rfl rfl (e_move) ?_
        refine l_val (v := .bool false) rfl rfl rfl (e_not (a := true) rfl) ?_
        refine l_val (v := .bool false) rfl rfl rfl (e_move) ?_
        refine g_val (v := .int .i64 (310)) rfl rfl rfl rfl rfl (e_move) ?_
        refine g_val (v := .bool false) rfl rfl rfl rfl rfl (e_eql (a := (310 : Int)) (b := (0 : Int)) rfl rfl) ?_
        refine g_val (v := .bool false) rfl rfl rfl rfl rfl (e_move) ?_
        refine l_skip rfl rfl rfl rfl rfl rfl ?_
        refine l_skip rfl rfl rfl rfl rfl rfl ?_
        refine l_skip rfl rfl rfl rfl rfl rfl ?_
        refine l_skip rfl rfl rfl rfl rfl rfl ?_
        refine g_val (v := .bool false) rfl rfl rfl rfl rfl (e_pick_f rfl) ?_
        refine l_val (v := .bool false) rfl rfl rfl (e_pick_f rfl) ?_
        refine l_val (v := .bool false) rfl rfl rfl (e_move) ?_
        refine g_val (v := .int .i64 (310)) rfl rfl rfl rfl rfl (e_move) ?_
        refine g_val (v := .bool true) rfl rfl rfl rfl rfl (e_neq (a := (310 : Int)) (b := (0 : Int)) rfl rfl) ?_
        refine g_val (v := .bool true) rfl rfl rfl rfl rfl (e_move) ?_
        refine g_val (v := .agg #[Nx (C.epoch), Nx (C.next), .string (C.state), .slice pn (C.recs).length cn]) rfl rfl rfl rfl rfl (e_load tf101 (cs := [Nx (C.epoch), Nx (C.next), .string (C.state), .slice pn (C.recs).length cn]) rfl (k_pt 7 (cs := #[Nx (C.epoch), Nx (C.next), .string (C.state), .slice pn (C.recs).length cn]) (vs := [Nx (C.epoch), Nx (C.next), .string (C.state), .slice pn (C.recs).length cn]) rfl rfl) rfl) ?_
        refine g_val (v := .pointer (some ⟨J105, 0, none⟩)) rfl rfl rfl rfl rfl (e_move) ?_
        refine g_call rfl rfl rfl rfl rfl (cl_value (fst := []) (cap := []) (vs := [.agg #[Nx (C.epoch), Nx (C.next), .string (C.state), .slice pn (C.recs).length cn], .pointer (some ⟨J105, 0, none⟩)]) (all := [.agg #[Nx (C.epoch), Nx (C.next), .string (C.state), .slice pn (C.recs).length cn], .pointer (some ⟨J105, 0, none⟩)]) tf115 rfl rfl rfl) ?_
        intro w hw
        obtain ⟨β1, sb, kn, hw1, back⟩ := St.frame_all hw
        refine (is_ok β1 w hw1 C pn cn (by omega) (by omega) (kn _ (Knows.of_res 8 rfl (Elems.mono _ _ _) fun _ h => row_stre h)) J105 b46 I2 false (kn _ (Knows.of_res 0 rfl (JF.mono _ _ _ _) fun _ h => jour_jf h)) (by have := hI3.st; omega) (by have := hI3.wf.next; have := hI3.nN; omega) (fun b hb => by have := hI3.rs b hb; omega)).mono ?_
        rintro e w' ⟨rfl, hw'⟩
        refine ⟨_, rfl, _, back _ _ hw', ?_⟩
        clear hw hw1 hw' back kn sb
        refine g_val (v := .bool (decide (¬ (isP C I2)))) rfl rfl rfl rfl rfl (e_not_p (p := isP C I2) rfl) ?_
        refine g_val (v := .bool (decide (¬ (isP C I2)))) rfl rfl rfl rfl rfl (e_pick_t rfl) ?_
        refine g_val (v := .bool (decide (¬ (isP C I2)))) rfl rfl rfl rfl rfl (e_move) ?_
        refine l_split (s := 144) (p := ¬ (isP C I2)) rfl (fun h => ?_) (fun h => ?_)
        rotate_left; exact absurd hN2 h
        refine g_val (v := .agg #[Nx (C.epoch + 1), Nx (C.next), .string (str ((shortO o).body.take 300)), .slice none 0 0]) rfl rfl rfl rfl rfl (e_load tf101 (cs := [Nx (C.epoch + 1), Nx (C.next), .string (str ((shortO o).body.take 300)), .slice none 0 0]) rfl (k_pt 5 (cs := #[Nx (C.epoch + 1), Nx (C.next), .string (str ((shortO o).body.take 300)), .slice none 0 0]) (vs := [Nx (C.epoch + 1), Nx (C.next), .string (str ((shortO o).body.take 300)), .slice none 0 0]) rfl rfl) rfl) ?_
        refine g_val (v := .pointer (some ⟨J105, 0, none⟩)) rfl rfl rfl rfl rfl (e_move) ?_
        refine g_call rfl rfl rfl rfl rfl (cl_value (fst := []) (cap := []) (vs := [.agg #[Nx (C.epoch + 1), Nx (C.next), .string (str ((shortO o).body.take 300)), .slice none 0 0], .pointer (some ⟨J105, 0, none⟩)]) (all := [.agg #[Nx (C.epoch + 1), Nx (C.next), .string (str ((shortO o).body.take 300)), .slice none 0 0], .pointer (some ⟨J105, 0, none⟩)]) tf115 rfl rfl rfl) ?_
        intro w hw
        obtain ⟨β1, sb, kn, hw1, back⟩ := St.frame_all hw
        refine (is_ok β1 w hw1 (⟨C.epoch + 1, C.next, str ((shortO o).body.take 300), []⟩ : KC) none 0 (by simp) (by omega) (fun j x h => by simp at h) J105 b46 I2 false (kn _ (Knows.of_res 0 rfl (JF.mono _ _ _ _) fun _ h => jour_jf h)) (by have := hI3.st; omega) (by have := hI3.wf.next; have := hI3.nN; omega) (fun b hb => by have := hI3.rs b hb; omega)).mono ?_
        rintro e w' ⟨rfl, hw'⟩
        refine ⟨_, rfl, _, back _ _ hw', ?_⟩
        clear hw hw1 hw' back kn sb
        refine g_val (v := .bool (decide (¬ (isP (⟨C.epoch + 1, C.next, str ((shortO o).body.take 300), []⟩ : KC) I2)))) rfl rfl rfl rfl rfl (e_not_p (p := isP (⟨C.epoch + 1, C.next, str ((shortO o).body.take 300), []⟩ : KC) I2) rfl) ?_
        refine g_val (v := .bool (decide (¬ (isP (⟨C.epoch + 1, C.next, str ((shortO o).body.take 300), []⟩ : KC) I2)))) rfl rfl rfl rfl rfl (e_pick_t rfl) ?_
        refine l_val (v := .bool (decide (¬ (isP (⟨C.epoch + 1, C.next, str ((shortO o).body.take 300), []⟩ : KC) I2)))) rfl rfl rfl (e_pick_f rfl) ?_
        refine l_nil ?_
        refine f_then ?_
        refine c_if (¬ (isP (⟨C.epoch + 1, C.next, str ((shortO o).body.take 300), []⟩ : KC) I2)) rfl (fun hc106 => ?_) (fun hc106 => ?_)
        ·
         exact absurd hc106 (Decidable.not_not.2 hC2)
        ·
         refine c_skip ?_
         refine f_then ?_
         refine c_seq ?_
         refine c_region ?_
         refine l_val (v := .int .i64 (310)) rfl rfl rfl (e_move) ?_
         refine l_val (v := .bool false) rfl rfl rfl (e_eql (a := (310 : Int)) (b := (0 : Int)) rfl rfl) ?_
         refine l_nil ?_
         refine f_then ?_
         refine c_no rfl ?_
         refine c_skip ?_
         refine f_block ?_
         refine f_then ?_
         refine c_region ?_
         refine l_val (v := Nx (q + 1)) rfl rfl rfl (e_add (a := ((q : Nat) : Int)) (b := (1 : Int)) rfl rfl (i64n (by omega) (by omega))) ?_
         refine l_val (v := Nx (q + 1)) rfl rfl rfl (e_move) ?_
         refine l_nil ?_
         refine f_perm (L' := [pt b26 (.cells #[Nx (C.epoch + 1), Nx (C.next), .string (str ((shortO o).body.take 300)), .slice none 0 0] 27), jourR J3 b2 I false, storeR b2 K, pt b4 (.cells #[Nx (C.epoch), Nx (C.next), .string (C.state), .slice pn (C.recs).length cn] 27), row (.slice pn (C.recs).length cn) 9 1 ((C.recs).length) (C.recs.map (fun s : ByteArray => Value.string s)), pt b1 (.cells #[Bx ((shortO o).kind), .int .u8 (0), .slice oa ((o.body.take 20).length) (oc)] 47), jourR J105 b46 I2 false, storeR b46 (cutS (powS K3) I2.epoch I2.size), jourR J104 b46 I2 false, jourR J47 b46 I true]) ((((((((((perm_front 3 rfl).trans (perm_front 3 rfl)).trans (perm_front 3 rfl)).trans (perm_front 3 rfl)).trans (perm_front 9 rfl)).trans (perm_front 9 rfl)).trans (perm_front 9 rfl)).trans (perm_front 7 rfl)).trans (perm_front 9 rfl)).trans (perm_front 9 rfl)) ?_
         refine f_mask (L' := [pt b26 (.cells #[Nx (C.epoch + 1), Nx (C.next), .string (str ((shortO o).body.take 300)), .slice none 0 0] 27), jourR J3 b2 I false, storeR b2 K, pt b4 (.cells #[Nx (C.epoch), Nx (C.next), .string (C.state), .slice pn (C.recs).length cn] 27), row (.slice pn (C.recs).length cn) 9 1 ((C.recs).length) (C.recs.map (fun s : ByteArray => Value.string s)), pt b1 (.cells #[Bx ((shortO o).kind), .int .u8 (0), .slice oa ((o.body.take 20).length) (oc)] 47)]) [true, true, true, true, true, true, false, false, false, false] rfl ?_
         exact f_cut ⟨q + 1, ⟨⟨rfl, rfl, rfl, rfl, rfl⟩, rfl, (by omega)⟩, (show 200 - (q + 1) < 200 - q from by omega)⟩
       ·
        refine c_region ?_
        refine l_call rfl rfl rfl (cl_value (fst := []) (cap := []) (vs := [.pointer (some ⟨b46, 0, none⟩)]) (all := [.pointer (some ⟨b46, 0, none⟩)]) tf104 rfl rfl rfl) ?_
        intro w hw
        replace hw := hw.perm (L' := _ :: _ :: _ :: _ :: _ :: _ :: _ :: _ :: []) (by exact ((((((((perm_front 7 rfl).trans (perm_front 7 rfl)).trans (perm_front 7 rfl)).trans (perm_front 7 rfl)).trans (perm_front 7 rfl)).trans (perm_front 7 rfl)).trans (perm_front 7 rfl)).trans (perm_front 7 rfl)))
        obtain ⟨β1, sb, kn, hw1, back⟩ := St.frame (L := [_]) (M := _ :: _ :: _ :: _ :: _ :: _ :: _ :: []) hw
        refine (open_pow β1 w b46 K3 hok3 (by omega) I2 hI3.read hcut hw1).mono ?_
        rintro e w' ⟨rfl, hw'⟩
        refine ⟨_, rfl, _, back _ _ hw', ?_⟩
        clear hw hw1 hw' back kn sb
        refine l_val (v := .tuple #[.pointer none, .int .i64 (310)]) rfl rfl rfl (e_move) ?_
        refine l_val (v := .pointer none) rfl rfl rfl (e_extract (vs := #[.pointer none, .int .i64 (310)]) rfl rfl) ?_
        refine l_val (v := .int .i64 (310)) rfl rfl rfl (e_extract (vs := #[.pointer none, .int .i64 (310)]) rfl rfl) ?_
        refine l_val (v := .pointer none) rfl rfl rfl (e_assign) ?_
        refine l_val (v := .int .i64 (310)) rfl rfl rfl (e_assign) ?_
        refine l_nil ?_
        refine f_then ?_
        refine c_seq ?_
        refine c_region ?_
        refine l_val (v := .int .i64 (310)) rfl rfl rfl (e_move) ?_
        refine l_val (v := .bool false) rfl rfl rfl (e_eql (a := (310 : Int)) (b := (0 : Int)) rfl rfl) ?_
        refine l_val (v := .bool false) rfl rfl rfl (e_move) ?_
        refine l_skip rfl rfl rfl rfl rfl rfl ?_
        refine l_skip rfl rfl rfl rfl rfl rfl ?_
        refine l_skip rfl rfl rfl rfl rfl rfl ?_
        refine l_skip rfl rfl rfl rfl rfl rfl ?_
        refine l_val (v := .bool false) rfl rfl rfl (e_pick_f rfl) ?_
        refine l_val (v := .bool false) rfl rfl rfl (e_move) ?_
        refine l_skip rfl rfl rfl rfl rfl rfl ?_
        refine l_skip rfl rfl rfl rfl rfl rfl ?_
        refine l_skip rfl rfl rfl rfl rfl rfl ?_
        refine l_skip rfl rfl rfl rfl rfl rfl ?_
        refine l_val (v := .bool false) rfl rfl rfl (e_pick_f rfl) ?_
        refine l_val (v := .bool false) rfl rfl rfl (e_move) ?_
        refine g_val (v := .int .i64 (310)) rfl rfl rfl rfl rfl (e_move) ?_
        refine g_val (v := .bool true) rfl rfl rfl rfl rfl (e_neq (a := (310 : Int)) (b := (0 : Int)) rfl rfl) ?_
        refine g_val (v := .bool true) rfl rfl rfl rfl rfl (e_move) ?_
        refine g_val (v := .int .i64 (310)) rfl rfl rfl rfl rfl (e_move) ?_
        refine g_val (v := .bool false) rfl rfl rfl rfl rfl (e_neq (a := (310 : Int)) (b := (310 : Int)) rfl rfl) ?_
        refine g_val (v := .bool false) rfl rfl rfl rfl rfl (e_pick_t rfl) ?_
        refine l_val (v := .bool false) rfl rfl rfl (e_pick_f rfl) ?_
        refine l_nil ?_
        refine f_then ?_
        refine c_no rfl ?_
        refine c_skip ?_
        refine f_then ?_
        refine c_seq ?_
        refine c_region ?_
        refine l_call rfl rfl rfl (cl_value (fst := []) (cap := []) (vs := [.pointer (some ⟨b46, 0, none⟩)]) (all := [.pointer (some ⟨b46, 0, none⟩)]) tf107 rfl rfl rfl) ?_
        intro w hw
        replace hw := hw.perm (L' := _ :: _ :: _ :: _ :: _ :: _ :: _ :: _ :: []) (by exact ((((((((perm_front 7 rfl).trans (perm_front 7 rfl)).trans (perm_front 7 rfl)).trans (perm_front 7 rfl)).trans (perm_front 7 rfl)).trans (perm_front 7 rfl)).trans (perm_front 7 rfl)).trans (perm_front 7 rfl)))
        obtain ⟨β1, sb, kn, hw1, back⟩ := St.frame (L := [_]) (M := _ :: _ :: _ :: _ :: _ :: _ :: _ :: []) hw
        refine (again_ok β1 w b46 K3 ((hI3.pow (p := -1) (by decide) (by decide)).okP (by omega)) I2 hI3.read hw1).mono ?_
        rintro e w' ⟨J107, rfl, hw'⟩
        refine ⟨_, rfl, _, back _ _ hw', ?_⟩
        clear hw hw1 hw' back kn sb
        refine l_val (v := .tuple #[.pointer (some ⟨J107, 0, none⟩), .bool true]) rfl rfl rfl (e_move) ?_
        refine l_val (v := .pointer (some ⟨J107, 0, none⟩)) rfl rfl rfl (e_extract (vs := #[.pointer (some ⟨J107, 0, none⟩), .bool true]) rfl rfl) ?_
        refine l_val (v := .bool true) rfl rfl rfl (e_extract (vs := #[.pointer (some ⟨J107, 0, none⟩), .bool true]) rfl rfl) ?_
        refine l_val (v := .pointer (some ⟨J107, 0, none⟩)) rfl rfl rfl (e_assign) ?_
        refine l_val (v := .bool true) rfl rfl rfl (e_assign) ?_
        refine l_nil ?_
        refine f_then ?_
        refine c_seq ?_
        refine c_seq ?_
        refine c_region ?_
        refine l_val (v := .bool true) rfl rfl rfl (e_move) ?_
        refine l_val (v := .bool false) rfl rfl rfl (e_not (a := true) rfl) ?_
        refine l_val (v := .bool false) rfl rfl rfl (e_move) ?_
        refine g_val (v := .int .i64 (310)) rfl rfl rfl rfl rfl (e_move) ?_
        refine g_val (v := .bool false) rfl rfl rfl rfl rfl (e_eql (a := (310 : Int)) (b := (0 : Int)) rfl rfl) ?_
        refine g_val (v := .bool false) rfl rfl rfl rfl rfl (e_move) ?_
        refine l_skip rfl rfl rfl rfl rfl rfl ?_
        refine l_skip rfl rfl rfl rfl rfl rfl ?_
        refine l_skip rfl rfl rfl rfl rfl rfl ?_
        refine l_skip rfl rfl rfl rfl rfl rfl ?_
        refine g_val (v := .bool false) rfl rfl rfl rfl rfl (e_pick_f rfl) ?_
        refine l_val (v := .bool false) rfl rfl rfl (e_pick_f rfl) ?_
        refine l_val (v := .bool false) rfl rfl rfl (e_move) ?_
        refine g_val (v := .int .i64 (310)) rfl rfl rfl rfl rfl (e_move) ?_
        refine g_val (v := .bool true) rfl rfl rfl rfl rfl (e_neq (a := (310 : Int)) (b := (0 : Int)) rfl rfl) ?_
        refine g_val (v := .bool true) rfl rfl rfl rfl rfl (e_move) ?_
        refine g_val (v := .agg #[Nx (C.epoch), Nx (C.next), .string (C.state), .slice pn (C.recs).length cn]) rfl rfl rfl rfl rfl (e_load tf101 (cs := [Nx (C.epoch), Nx (C.next), .string (C.state), .slice pn (C.recs).length cn]) rfl (k_pt 6 (cs := #[Nx (C.epoch), Nx (C.next), .string (C.state), .slice pn (C.recs).length cn]) (vs := [Nx (C.epoch), Nx (C.next), .string (C.state), .slice pn (C.recs).length cn]) rfl rfl) rfl) ?_
        refine g_val (v := .pointer (some ⟨J107, 0, none⟩)) rfl rfl rfl rfl rfl (e_move) ?_
        refine g_call rfl rfl rfl rfl rfl (cl_value (fst := []) (cap := []) (vs := [.agg #[Nx (C.epoch), Nx (C.next), .string (C.state), .slice pn (C.recs).length cn], .pointer (some ⟨J107, 0, none⟩)]) (all := [.agg #[Nx (C.epoch), Nx (C.next), .string (C.state), .slice pn (C.recs).length cn], .pointer (some ⟨J107, 0, none⟩)]) tf115 rfl rfl rfl) ?_
        intro w hw
        obtain ⟨β1, sb, kn, hw1, back⟩ := St.frame_all hw
        refine (is_ok β1 w hw1 C pn cn (by omega) (by omega) (kn _ (Knows.of_res 7 rfl (Elems.mono _ _ _) fun _ h => row_stre h)) J107 b46 I2 false (kn _ (Knows.of_res 0 rfl (JF.mono _ _ _ _) fun _ h => jour_jf h)) (by have := hI3.st; omega) (by have := hI3.wf.next; have := hI3.nN; omega) (fun b hb => by have := hI3.rs b hb; omega)).mono ?_
        rintro e w' ⟨rfl, hw'⟩
        refine ⟨_, rfl, _, back _ _ hw', ?_⟩
        clear hw hw1 hw' back kn sb
        refine g_val (v := .bool (decide (¬ (isP C I2)))) rfl rfl rfl rfl rfl (e_not_p (p := isP C I2) rfl) ?_
        refine g_val (v := .bool (decide (¬ (isP C I2)))) rfl rfl rfl rfl rfl (e_pick_t rfl) ?_
        refine g_val (v := .bool (decide (¬ (isP C I2)))) rfl rfl rfl rfl rfl (e_move) ?_
        refine l_split (s := 144) (p := ¬ (isP C I2)) rfl (fun h => ?_) (fun h => ?_)
        rotate_left; exact absurd hN2 h
        refine g_val (v := .agg #[Nx (C.epoch + 1), Nx (C.next), .string (str ((shortO o).body.take 300)), .slice none 0 0]) rfl rfl rfl rfl rfl (e_load tf101 (cs := [Nx (C.epoch + 1), Nx (C.next), .string (str ((shortO o).body.take 300)), .slice none 0 0]) rfl (k_pt 4 (cs := #[Nx (C.epoch + 1), Nx (C.next), .string (str ((shortO o).body.take 300)), .slice none 0 0]) (vs := [Nx (C.epoch + 1), Nx (C.next), .string (str ((shortO o).body.take 300)), .slice none 0 0]) rfl rfl) rfl) ?_
        refine g_val (v := .pointer (some ⟨J107, 0, none⟩)) rfl rfl rfl rfl rfl (e_move) ?_
        refine g_call rfl rfl rfl rfl rfl (cl_value (fst := []) (cap := []) (vs := [.agg #[Nx (C.epoch + 1), Nx (C.next), .string (str ((shortO o).body.take 300)), .slice none 0 0], .pointer (some ⟨J107, 0, none⟩)]) (all := [.agg #[Nx (C.epoch + 1), Nx (C.next), .string (str ((shortO o).body.take 300)), .slice none 0 0], .pointer (some ⟨J107, 0, none⟩)]) tf115 rfl rfl rfl) ?_
        intro w hw
        obtain ⟨β1, sb, kn, hw1, back⟩ := St.frame_all hw
        refine (is_ok β1 w hw1 (⟨C.epoch + 1, C.next, str ((shortO o).body.take 300), []⟩ : KC) none 0 (by simp) (by omega) (fun j x h => by simp at h) J107 b46 I2 false (kn _ (Knows.of_res 0 rfl (JF.mono _ _ _ _) fun _ h => jour_jf h)) (by have := hI3.st; omega) (by have := hI3.wf.next; have := hI3.nN; omega) (fun b hb => by have := hI3.rs b hb; omega)).mono ?_
        rintro e w' ⟨rfl, hw'⟩
        refine ⟨_, rfl, _, back _ _ hw', ?_⟩
        clear hw hw1 hw' back kn sb
        refine g_val (v := .bool (decide (¬ (isP (⟨C.epoch + 1, C.next, str ((shortO o).body.take 300), []⟩ : KC) I2)))) rfl rfl rfl rfl rfl (e_not_p (p := isP (⟨C.epoch + 1, C.next, str ((shortO o).body.take 300), []⟩ : KC) I2) rfl) ?_
        refine g_val (v := .bool (decide (¬ (isP (⟨C.epoch + 1, C.next, str ((shortO o).body.take 300), []⟩ : KC) I2)))) rfl rfl rfl rfl rfl (e_pick_t rfl) ?_
        refine l_val (v := .bool (decide (¬ (isP (⟨C.epoch + 1, C.next, str ((shortO o).body.take 300), []⟩ : KC) I2)))) rfl rfl rfl (e_pick_f rfl) ?_
        refine l_nil ?_
        refine f_then ?_
        refine c_if (¬ (isP (⟨C.epoch + 1, C.next, str ((shortO o).body.take 300), []⟩ : KC) I2)) rfl (fun hc108 => ?_) (fun hc108 => ?_)
        ·
         exact absurd hc108 (Decidable.not_not.2 hC2)
        ·
         refine c_skip ?_
         refine f_then ?_
         refine c_seq ?_
         refine c_region ?_
         refine l_val (v := .int .i64 (310)) rfl rfl rfl (e_move) ?_
         refine l_val (v := .bool false) rfl rfl rfl (e_eql (a := (310 : Int)) (b := (0 : Int)) rfl rfl) ?_
         refine l_nil ?_
         refine f_then ?_
         refine c_no rfl ?_
         refine c_skip ?_
         refine f_block ?_
         refine f_then ?_
         refine c_region ?_
         refine l_val (v := Nx (q + 1)) rfl rfl rfl (e_add (a := ((q : Nat) : Int)) (b := (1 : Int)) rfl rfl (i64n (by omega) (by omega))) ?_
         refine l_val (v := Nx (q + 1)) rfl rfl rfl (e_move) ?_
         refine l_nil ?_
         refine f_perm (L' := [pt b26 (.cells #[Nx (C.epoch + 1), Nx (C.next), .string (str ((shortO o).body.take 300)), .slice none 0 0] 27), jourR J3 b2 I false, storeR b2 K, pt b4 (.cells #[Nx (C.epoch), Nx (C.next), .string (C.state), .slice pn (C.recs).length cn] 27), row (.slice pn (C.recs).length cn) 9 1 ((C.recs).length) (C.recs.map (fun s : ByteArray => Value.string s)), pt b1 (.cells #[Bx ((shortO o).kind), .int .u8 (0), .slice oa ((o.body.take 20).length) (oc)] 47), jourR J107 b46 I2 false, storeR b46 (cutS (powS K3) I2.epoch I2.size), jourR J47 b46 I true]) (((((((((perm_front 2 rfl).trans (perm_front 2 rfl)).trans (perm_front 2 rfl)).trans (perm_front 8 rfl)).trans (perm_front 8 rfl)).trans (perm_front 8 rfl)).trans (perm_front 6 rfl)).trans (perm_front 8 rfl)).trans (perm_front 8 rfl)) ?_
         refine f_mask (L' := [pt b26 (.cells #[Nx (C.epoch + 1), Nx (C.next), .string (str ((shortO o).body.take 300)), .slice none 0 0] 27), jourR J3 b2 I false, storeR b2 K, pt b4 (.cells #[Nx (C.epoch), Nx (C.next), .string (C.state), .slice pn (C.recs).length cn] 27), row (.slice pn (C.recs).length cn) 9 1 ((C.recs).length) (C.recs.map (fun s : ByteArray => Value.string s)), pt b1 (.cells #[Bx ((shortO o).kind), .int .u8 (0), .slice oa ((o.body.take 20).length) (oc)] 47)]) [true, true, true, true, true, true, false, false, false] rfl ?_
         exact f_cut ⟨q + 1, ⟨⟨rfl, rfl, rfl, rfl, rfl⟩, rfl, (by omega)⟩, (show 200 - (q + 1) < 200 - q from by omega)⟩
   ·
    refine c_exit ?_
    refine f_then_exit ?_
    refine f_then_exit ?_
    refine f_exit ?_
    refine f_then ?_
    refine c_seq ?_
    exfalso
    omega
  ·
   have hcost : costA ((shortO o).body.take 300) ≤ 61 := by unfold costA; omega
   have hC2 := isP_ap (b := ((shortO o).body.take 300)) hC
   have hN2 := isP_old_ap (b := ((shortO o).body.take 300)) hC
   obtain ⟨I2, hI2e⟩ : ∃ z, z = apI I ((shortO o).body.take 300) := ⟨_, rfl⟩
   rw [← hI2e] at hC2 hN2
   refine c_region ?_
   refine l_val (v := .agg #[Nx (C.epoch), Nx (C.next), .string (C.state), .slice pn (C.recs).length cn]) rfl rfl rfl (e_load tf101 (cs := [Nx (C.epoch), Nx (C.next), .string (C.state), .slice pn (C.recs).length cn]) rfl (k_pt 2 (cs := #[Nx (C.epoch), Nx (C.next), .string (C.state), .slice pn (C.recs).length cn]) (vs := [Nx (C.epoch), Nx (C.next), .string (C.state), .slice pn (C.recs).length cn]) rfl rfl) rfl) ?_
   refine l_val (v := .agg #[Bx ((shortO o).kind), .int .u8 (0), .slice oa ((o.body.take 20).length) (oc)]) rfl rfl rfl (e_load tf87 (cs := [Bx ((shortO o).kind), .int .u8 (0), .slice oa ((o.body.take 20).length) (oc)]) rfl (k_pt 4 (cs := #[Bx ((shortO o).kind), .int .u8 (0), .slice oa ((o.body.take 20).length) (oc)]) (vs := [Bx ((shortO o).kind), .int .u8 (0), .slice oa ((o.body.take 20).length) (oc)]) rfl rfl) rfl) ?_
   refine l_call rfl rfl rfl (cl_value (fst := []) (cap := []) (vs := [.agg #[Nx (C.epoch), Nx (C.next), .string (C.state), .slice pn (C.recs).length cn], .agg #[Bx ((shortO o).kind), .int .u8 (0), .slice oa ((o.body.take 20).length) (oc)]]) (all := [.agg #[Nx (C.epoch), Nx (C.next), .string (C.state), .slice pn (C.recs).length cn], .agg #[Bx ((shortO o).kind), .int .u8 (0), .slice oa ((o.body.take 20).length) (oc)]]) tf114 rfl rfl rfl) ?_
   intro w hw
   obtain ⟨β1, sb, kn, hw1, back⟩ := St.frame_all hw
   refine (with_app β1 w hw1 C pn cn (by omega) (by omega) (kn _ (Knows.of_res 3 rfl (Elems.mono _ _ _) fun _ h => row_stre h)) (by first | omega | (simp only []; omega)) (by first | omega | (simp only []; omega)) (shortO o) oa oc (show ((o.body.take 20) : Bs).length ≤ oc by simp only [List.length_take]; omega) (by omega) (Elems.mono _ _ _ _ _ sb (Elems.take 20 oe)) (by omega)).mono ?_
   rintro e w' ⟨p109, c110, rfl, hw'⟩
   refine ⟨_, rfl, _, back _ _ hw', ?_⟩
   clear hw hw1 hw' back kn sb
   refine l_mv rfl rfl rfl (m_alloc tf112) ?_
   rintro _ _ ⟨b111, rfl, rfl⟩
   refine l_mu rfl rfl (m_store 0 tf101 (b := b111) (o := 0) (T := 27) (cs := #[.int .i64 (0), .int .i64 (0), .string ((⟨#[]⟩ : ByteArray)), .slice none 0 0]) (cs' := #[Nx (C.epoch), Nx (C.next + 1), .string (C.state), .slice p109 ((C.recs ++ [str ((shortO o).body.take 300)])).length c110]) (v := .agg #[Nx (C.epoch), Nx (C.next + 1), .string (C.state), .slice p109 ((C.recs ++ [str ((shortO o).body.take 300)])).length c110]) rfl rfl rfl rfl rfl rfl rfl) ?_
   refine l_nil ?_
   refine f_then ?_
   refine c_seq ?_
   refine c_seq ?_
   refine c_rowcap 1 rfl (fun hq112 hq113 => ?_)
   have hq114 : c110 ≤ 9223372036854775807 := by unfold maxLen at hq113; omega
   refine c_region ?_
   refine l_val (v := .int .i64 (0)) rfl rfl rfl (e_move) ?_
   refine l_nil ?_
   refine f_then ?_
   refine c_block ?_
   refine c_mask [true, true, true, true, true, true, true] rfl ?_
   refine c_loop (fun (q : Nat) (f : Fm) (L : List Res) => (f 3 = .pointer (some ⟨b1, 0, none⟩) ∧ f 5 = .pointer (some ⟨b2, 0, none⟩) ∧ f 8 = .pointer (some ⟨b4, 0, none⟩) ∧ f 11 = .pointer (some ⟨b111, 0, none⟩) ∧ f 55 = Nx (q)) ∧ L = [pt b111 (.cells #[Nx (C.epoch), Nx (C.next + 1), .string (C.state), .slice p109 ((C.recs ++ [str ((shortO o).body.take 300)])).length c110] 27), row (.slice p109 ((C.recs ++ [str ((shortO o).body.take 300)])).length c110) 9 1 (((C.recs ++ [str ((shortO o).body.take 300)])).length) ((C.recs ++ [str ((shortO o).body.take 300)]).map (fun s : ByteArray => Value.string s)), jourR J3 b2 I false, storeR b2 K, pt b4 (.cells #[Nx (C.epoch), Nx (C.next), .string (C.state), .slice pn (C.recs).length cn] 27), row (.slice pn (C.recs).length cn) 9 1 ((C.recs).length) (C.recs.map (fun s : ByteArray => Value.string s)), pt b1 (.cells #[Bx ((shortO o).kind), .int .u8 (0), .slice oa ((o.body.take 20).length) (oc)] 47)] ∧ (q ≤ costA ((shortO o).body.take 300))) (fun (q : Nat) => 200 - q) 0 ?_ ?_
   ·exact ⟨⟨rfl, rfl, rfl, rfl, rfl⟩, rfl, (by omega)⟩
   rintro q f0 L0 ⟨⟨hs3, hs5, hs8, hs11, hs55⟩, hL, hq⟩
   subst L0
   refine rebase (d := 3) hs3 ?_
   refine rebase (d := 5) hs5 ?_
   refine rebase (d := 8) hs8 ?_
   refine rebase (d := 11) hs11 ?_
   refine rebase (d := 55) hs55 ?_
   clear hs3 hs5 hs8 hs11 hs55
   refine c_seq ?_
   refine c_region ?_
   refine l_val (v := .bool (decide (((q : Nat) : Int) < (200 : Int)))) rfl rfl rfl (e_lss (a := ((q : Nat) : Int)) (b := (200 : Int)) rfl rfl) ?_
   refine l_nil ?_
   refine f_then ?_
   refine c_seq ?_
   refine c_if (((q : Nat) : Int) < (200 : Int)) rfl (fun hc115 => ?_) (fun hc115 => ?_)
   ·
    refine c_skip ?_
    refine f_then ?_
    refine c_seq ?_
    refine c_block ?_
    refine c_seq ?_
    refine c_region ?_
    refine l_val (v := Nx (q)) rfl rfl rfl (e_move) ?_
    refine l_val (v := Nx (q)) rfl rfl rfl (e_assign) ?_
    refine l_nil ?_
    refine f_then ?_
    refine c_seq ?_
    have hfk := hfit
    obtain ⟨hf1, hf2, hf3, _⟩ := hfit
    refine c_perm (L' := [storeR b2 K, pt b111 (.cells #[Nx (C.epoch), Nx (C.next + 1), .string (C.state), .slice p109 ((C.recs ++ [str ((shortO o).body.take 300)])).length c110] 27), row (.slice p109 ((C.recs ++ [str ((shortO o).body.take 300)])).length c110) 9 1 (((C.recs ++ [str ((shortO o).body.take 300)])).length) ((C.recs ++ [str ((shortO o).body.take 300)]).map (fun s : ByteArray => Value.string s)), jourR J3 b2 I false, pt b4 (.cells #[Nx (C.epoch), Nx (C.next), .string (C.state), .slice pn (C.recs).length cn] 27), row (.slice pn (C.recs).length cn) 9 1 ((C.recs).length) (C.recs.map (fun s : ByteArray => Value.string s)), pt b1 (.cells #[Bx ((shortO o).kind), .int .u8 (0), .slice oa ((o.body.take 20).length) (oc)] 47)]) (by exact (((((((perm_front 6 rfl).trans (perm_front 6 rfl)).trans (perm_front 6 rfl)).trans (perm_front 5 rfl)).trans (perm_front 5 rfl)).trans (perm_front 5 rfl)).trans (perm_front 6 rfl))) ?_
    refine c_openStore rfl (fun pH116 pA117 pB118 cH119 cA120 cB121 => ?_)
    refine c_rowcap 1 rfl (fun hcl122 hcm123 => ?_)
    refine c_rowcap 2 rfl (fun hcl124 hcm125 => ?_)
    refine c_rowcap 3 rfl (fun hcl126 hcm127 => ?_)
    refine c_region ?_
    refine l_val (v := .pointer (some ⟨b2, 0, none⟩)) rfl rfl rfl (e_move) ?_
    refine l_val (v := .pointer (some ⟨b2, 0, none⟩)) rfl rfl rfl (e_nil (a := ⟨b2, 0, none⟩) rfl) ?_
    refine l_val (v := .agg #[.slice pH116 (K.head).length cH119, .slice pA117 (K.a).length cA120, .slice pB118 (K.b).length cB121, Ix (K.power)]) rfl rfl rfl (e_load tf56 (cs := [.slice pH116 (K.head).length cH119, .slice pA117 (K.a).length cA120, .slice pB118 (K.b).length cB121, Ix (K.power)]) rfl (k_pt 0 (cs := #[.slice pH116 (K.head).length cH119, .slice pA117 (K.a).length cA120, .slice pB118 (K.b).length cB121, Ix (K.power)]) (vs := [.slice pH116 (K.head).length cH119, .slice pA117 (K.a).length cA120, .slice pB118 (K.b).length cB121, Ix (K.power)]) rfl rfl) rfl) ?_
    refine l_call rfl rfl rfl (cl_value (fst := []) (cap := []) (vs := [.agg #[.slice pH116 (K.head).length cH119, .slice pA117 (K.a).length cA120, .slice pB118 (K.b).length cB121, Ix (K.power)]]) (all := [.agg #[.slice pH116 (K.head).length cH119, .slice pA117 (K.a).length cA120, .slice pB118 (K.b).length cB121, Ix (K.power)]]) tf118 rfl rfl rfl) ?_
    intro w hw
    obtain ⟨β1, sb, kn, hw1, back⟩ := St.frame_all hw
    refine (copys_ok β1 w hw1 K _ _ _ (kn _ (Knows.of_res 1 rfl (Sl.mono U8R _ _) fun _ h => row_u8 h)) (kn _ (Knows.of_res 2 rfl (Sl.mono U8R _ _) fun _ h => row_u8 h)) (kn _ (Knows.of_res 3 rfl (Sl.mono U8R _ _) fun _ h => row_u8 h)) (by omega) (by omega) (by omega)).mono ?_
    rintro e w' ⟨pH128, pA129, pB130, cH131, cA132, cB133, rfl, hw'⟩
    refine ⟨_, rfl, _, back _ _ hw', ?_⟩
    clear hw hw1 hw' back kn sb
    refine l_mv rfl rfl rfl (m_alloc tf106) ?_
    rintro _ _ ⟨b134, rfl, rfl⟩
    refine l_mu rfl rfl (m_store 0 tf56 (b := b134) (o := 0) (T := 32) (cs := #[.slice none 0 0, .slice none 0 0, .slice none 0 0, .int .i64 (0)]) (cs' := #[.slice pH128 (K.head).length cH131, .slice pA129 (K.a).length cA132, .slice pB130 (K.b).length cB133, Ix (K.power)]) (v := .agg #[.slice pH128 (K.head).length cH131, .slice pA129 (K.a).length cA132, .slice pB130 (K.b).length cB133, Ix (K.power)]) rfl rfl rfl rfl rfl rfl rfl) ?_
    refine l_nil ?_
    refine f_then ?_
    refine c_seq ?_
    refine c_perm (L' := [pt b2 (.cells #[.slice pH116 (K.head).length cH119, .slice pA117 (K.a).length cA120, .slice pB118 (K.b).length cB121, Ix (K.power)] 32), row (.slice pH116 (K.head).length cH119) 5 1 ((K.head).length) (BX K.head), row (.slice pA117 (K.a).length cA120) 5 1 ((K.a).length) (BX K.a), row (.slice pB118 (K.b).length cB121) 5 1 ((K.b).length) (BX K.b), pt b134 (.cells #[.slice pH128 (K.head).length cH131, .slice pA129 (K.a).length cA132, .slice pB130 (K.b).length cB133, Ix (K.power)] 32), row (.slice pH128 (K.head).length cH131) 5 1 ((K.head).length) (BX K.head), row (.slice pA129 (K.a).length cA132) 5 1 ((K.a).length) (BX K.a), row (.slice pB130 (K.b).length cB133) 5 1 ((K.b).length) (BX K.b), pt b111 (.cells #[Nx (C.epoch), Nx (C.next + 1), .string (C.state), .slice p109 ((C.recs ++ [str ((shortO o).body.take 300)])).length c110] 27), row (.slice p109 ((C.recs ++ [str ((shortO o).body.take 300)])).length c110) 9 1 (((C.recs ++ [str ((shortO o).body.take 300)])).length) ((C.recs ++ [str ((shortO o).body.take 300)]).map (fun s : ByteArray => Value.string s)), jourR J3 b2 I false, pt b4 (.cells #[Nx (C.epoch), Nx (C.next), .string (C.state), .slice pn (C.recs).length cn] 27), row (.slice pn (C.recs).length cn) 9 1 ((C.recs).length) (C.recs.map (fun s : ByteArray => Value.string s)), pt b1 (.cells #[Bx ((shortO o).kind), .int .u8 (0), .slice oa ((o.body.take 20).length) (oc)] 47)]) (by exact ((((((((((((((perm_front 13 rfl).trans (perm_front 13 rfl)).trans (perm_front 13 rfl)).trans (perm_front 13 rfl)).trans (perm_front 13 rfl)).trans (perm_front 13 rfl)).trans (perm_front 9 rfl)).trans (perm_front 9 rfl)).trans (perm_front 9 rfl)).trans (perm_front 9 rfl)).trans (perm_front 13 rfl)).trans (perm_front 13 rfl)).trans (perm_front 13 rfl)).trans (perm_front 13 rfl))) ?_
    refine c_closeStore (S := b2) (k := K) (pH := pH116) (pA := pA117) (pB := pB118) (cH := cH119) (cA := cA120) (cB := cB121) (M := (pt b134 (.cells #[.slice pH128 (K.head).length cH131, .slice pA129 (K.a).length cA132, .slice pB130 (K.b).length cB133, Ix (K.power)] 32) :: row (.slice pH128 (K.head).length cH131) 5 1 ((K.head).length) (BX K.head) :: row (.slice pA129 (K.a).length cA132) 5 1 ((K.a).length) (BX K.a) :: row (.slice pB130 (K.b).length cB133) 5 1 ((K.b).length) (BX K.b) :: pt b111 (.cells #[Nx (C.epoch), Nx (C.next + 1), .string (C.state), .slice p109 ((C.recs ++ [str ((shortO o).body.take 300)])).length c110] 27) :: row (.slice p109 ((C.recs ++ [str ((shortO o).body.take 300)])).length c110) 9 1 (((C.recs ++ [str ((shortO o).body.take 300)])).length) ((C.recs ++ [str ((shortO o).body.take 300)]).map (fun s : ByteArray => Value.string s)) :: jourR J3 b2 I false :: pt b4 (.cells #[Nx (C.epoch), Nx (C.next), .string (C.state), .slice pn (C.recs).length cn] 27) :: row (.slice pn (C.recs).length cn) 9 1 ((C.recs).length) (C.recs.map (fun s : ByteArray => Value.string s)) :: pt b1 (.cells #[Bx ((shortO o).kind), .int .u8 (0), .slice oa ((o.body.take 20).length) (oc)] 47) :: [])) rfl ?_
    refine c_perm (L' := [pt b134 (.cells #[.slice pH128 (K.head).length cH131, .slice pA129 (K.a).length cA132, .slice pB130 (K.b).length cB133, Ix (K.power)] 32), row (.slice pH128 (K.head).length cH131) 5 1 ((K.head).length) (BX K.head), row (.slice pA129 (K.a).length cA132) 5 1 ((K.a).length) (BX K.a), row (.slice pB130 (K.b).length cB133) 5 1 ((K.b).length) (BX K.b), storeR b2 K, pt b111 (.cells #[Nx (C.epoch), Nx (C.next + 1), .string (C.state), .slice p109 ((C.recs ++ [str ((shortO o).body.take 300)])).length c110] 27), row (.slice p109 ((C.recs ++ [str ((shortO o).body.take 300)])).length c110) 9 1 (((C.recs ++ [str ((shortO o).body.take 300)])).length) ((C.recs ++ [str ((shortO o).body.take 300)]).map (fun s : ByteArray => Value.string s)), jourR J3 b2 I false, pt b4 (.cells #[Nx (C.epoch), Nx (C.next), .string (C.state), .slice pn (C.recs).length cn] 27), row (.slice pn (C.recs).length cn) 9 1 ((C.recs).length) (C.recs.map (fun s : ByteArray => Value.string s)), pt b1 (.cells #[Bx ((shortO o).kind), .int .u8 (0), .slice oa ((o.body.take 20).length) (oc)] 47)]) (by exact (((((((((((perm_front 10 rfl).trans (perm_front 10 rfl)).trans (perm_front 10 rfl)).trans (perm_front 10 rfl)).trans (perm_front 10 rfl)).trans (perm_front 10 rfl)).trans (perm_front 6 rfl)).trans (perm_front 10 rfl)).trans (perm_front 10 rfl)).trans (perm_front 10 rfl)).trans (perm_front 10 rfl))) ?_
    refine c_closeStore (S := b134) (k := K) (pH := pH128) (pA := pA129) (pB := pB130) (cH := cH131) (cA := cA132) (cB := cB133) (M := (storeR b2 K :: pt b111 (.cells #[Nx (C.epoch), Nx (C.next + 1), .string (C.state), .slice p109 ((C.recs ++ [str ((shortO o).body.take 300)])).length c110] 27) :: row (.slice p109 ((C.recs ++ [str ((shortO o).body.take 300)])).length c110) 9 1 (((C.recs ++ [str ((shortO o).body.take 300)])).length) ((C.recs ++ [str ((shortO o).body.take 300)]).map (fun s : ByteArray => Value.string s)) :: jourR J3 b2 I false :: pt b4 (.cells #[Nx (C.epoch), Nx (C.next), .string (C.state), .slice pn (C.recs).length cn] 27) :: row (.slice pn (C.recs).length cn) 9 1 ((C.recs).length) (C.recs.map (fun s : ByteArray => Value.string s)) :: pt b1 (.cells #[Bx ((shortO o).kind), .int .u8 (0), .slice oa ((o.body.take 20).length) (oc)] 47) :: [])) rfl ?_
    refine c_region ?_
    refine l_call rfl rfl rfl (cl_value (fst := []) (cap := []) (vs := [.pointer (some ⟨b134, 0, none⟩)]) (all := [.pointer (some ⟨b134, 0, none⟩)]) tf107 rfl rfl rfl) ?_
    intro w hw
    replace hw := hw.perm (L' := _ :: _ :: _ :: _ :: _ :: _ :: _ :: _ :: []) (by exact ((((((((perm_front 7 rfl).trans (perm_front 7 rfl)).trans (perm_front 7 rfl)).trans (perm_front 7 rfl)).trans (perm_front 7 rfl)).trans (perm_front 7 rfl)).trans (perm_front 7 rfl)).trans (perm_front 7 rfl)))
    obtain ⟨β1, sb, kn, hw1, back⟩ := St.frame (L := [_]) (M := _ :: _ :: _ :: _ :: _ :: _ :: _ :: []) hw
    refine (again_ok β1 w b134 K ((hI.pow (p := -1) (by decide) (by decide)).okP (by omega)) I hI.read hw1).mono ?_
    rintro e w' ⟨J135, rfl, hw'⟩
    refine ⟨_, rfl, _, back _ _ hw', ?_⟩
    clear hw hw1 hw' back kn sb
    refine l_val (v := .tuple #[.pointer (some ⟨J135, 0, none⟩), .bool true]) rfl rfl rfl (e_move) ?_
    refine l_val (v := .pointer (some ⟨J135, 0, none⟩)) rfl rfl rfl (e_extract (vs := #[.pointer (some ⟨J135, 0, none⟩), .bool true]) rfl rfl) ?_
    refine l_val (v := .bool true) rfl rfl rfl (e_extract (vs := #[.pointer (some ⟨J135, 0, none⟩), .bool true]) rfl rfl) ?_
    refine l_val (v := .pointer (some ⟨J135, 0, none⟩)) rfl rfl rfl (e_assign) ?_
    refine l_val (v := .bool true) rfl rfl rfl (e_assign) ?_
    refine l_nil ?_
    refine f_then ?_
    refine c_seq ?_
    refine c_seq ?_
    refine c_region ?_
    refine l_val (v := .bool true) rfl rfl rfl (e_move) ?_
    refine l_val (v := .bool false) rfl rfl rfl (e_not (a := true) rfl) ?_
    refine l_nil ?_
    refine f_then ?_
    refine c_no rfl ?_
    refine c_skip ?_
    refine f_then ?_
    refine c_seq ?_
    refine c_re (L' := [jourR J135 b134 I false, storeR b134 K, storeR b2 K, pt b111 (.cells #[Nx (C.epoch), Nx (C.next + 1), .string (C.state), .slice p109 ((C.recs ++ [str ((shortO o).body.take 300)])).length c110] 27), row (.slice p109 ((C.recs ++ [str ((shortO o).body.take 300)])).length c110) 9 1 (((C.recs ++ [str ((shortO o).body.take 300)])).length) ((C.recs ++ [str ((shortO o).body.take 300)]).map (fun s : ByteArray => Value.string s)), jourR J3 b2 I false, pt b4 (.cells #[Nx (C.epoch), Nx (C.next), .string (C.state), .slice pn (C.recs).length cn] 27), row (.slice pn (C.recs).length cn) 9 1 ((C.recs).length) (C.recs.map (fun s : ByteArray => Value.string s)), pt b1 (.cells #[Bx ((shortO o).kind), .int .u8 (0), .slice oa ((o.body.take 20).length) (oc)] 47)]) (by rw [cut_self' hI hP]; rfl) ?_
    refine c_perm (L' := [storeR b134 K, jourR J135 b134 I false, storeR b2 K, pt b111 (.cells #[Nx (C.epoch), Nx (C.next + 1), .string (C.state), .slice p109 ((C.recs ++ [str ((shortO o).body.take 300)])).length c110] 27), row (.slice p109 ((C.recs ++ [str ((shortO o).body.take 300)])).length c110) 9 1 (((C.recs ++ [str ((shortO o).body.take 300)])).length) ((C.recs ++ [str ((shortO o).body.take 300)]).map (fun s : ByteArray => Value.string s)), jourR J3 b2 I false, pt b4 (.cells #[Nx (C.epoch), Nx (C.next), .string (C.state), .slice pn (C.recs).length cn] 27), row (.slice pn (C.recs).length cn) 9 1 ((C.recs).length) (C.recs.map (fun s : ByteArray => Value.string s)), pt b1 (.cells #[Bx ((shortO o).kind), .int .u8 (0), .slice oa ((o.body.take 20).length) (oc)] 47)]) (by exact (((((((((perm_front 8 rfl).trans (perm_front 8 rfl)).trans (perm_front 8 rfl)).trans (perm_front 8 rfl)).trans (perm_front 8 rfl)).trans (perm_front 8 rfl)).trans (perm_front 8 rfl)).trans (perm_front 7 rfl)).trans (perm_front 8 rfl))) ?_
    refine c_openStore rfl (fun pH136 pA137 pB138 cH139 cA140 cB141 => ?_)
    refine c_rowcap 1 rfl (fun hcl142 hcm143 => ?_)
    refine c_rowcap 2 rfl (fun hcl144 hcm145 => ?_)
    refine c_rowcap 3 rfl (fun hcl146 hcm147 => ?_)
    refine c_region ?_
    refine l_val (v := Nx (q)) rfl rfl rfl (e_move) ?_
    refine l_val (v := .pointer (some ⟨b134, 3, none⟩)) rfl rfl rfl (e_fieldPt (b := b134) (o := 0) rfl tf24) ?_
    refine l_mu rfl rfl (m_store 0 tf25 (b := b134) (o := 3) (T := 32) (cs := #[.slice pH136 (K.head).length cH139, .slice pA137 (K.a).length cA140, .slice pB138 (K.b).length cB141, Ix (K.power)]) (cs' := #[.slice pH136 (K.head).length cH139, .slice pA137 (K.a).length cA140, .slice pB138 (K.b).length cB141, Nx (q)]) (v := Nx (q)) rfl rfl rfl rfl rfl rfl rfl) ?_
    refine l_nil ?_
    refine f_then ?_
    refine c_seq ?_
    refine c_perm (L' := [pt b134 (.cells #[.slice pH136 (K.head).length cH139, .slice pA137 (K.a).length cA140, .slice pB138 (K.b).length cB141, Nx (q)] 32), row (.slice pH136 (K.head).length cH139) 5 1 ((K.head).length) (BX K.head), row (.slice pA137 (K.a).length cA140) 5 1 ((K.a).length) (BX K.a), row (.slice pB138 (K.b).length cB141) 5 1 ((K.b).length) (BX K.b), jourR J135 b134 I false, storeR b2 K, pt b111 (.cells #[Nx (C.epoch), Nx (C.next + 1), .string (C.state), .slice p109 ((C.recs ++ [str ((shortO o).body.take 300)])).length c110] 27), row (.slice p109 ((C.recs ++ [str ((shortO o).body.take 300)])).length c110) 9 1 (((C.recs ++ [str ((shortO o).body.take 300)])).length) ((C.recs ++ [str ((shortO o).body.take 300)]).map (fun s : ByteArray => Value.string s)), jourR J3 b2 I false, pt b4 (.cells #[Nx (C.epoch), Nx (C.next), .string (C.state), .slice pn (C.recs).length cn] 27), row (.slice pn (C.recs).length cn) 9 1 ((C.recs).length) (C.recs.map (fun s : ByteArray => Value.string s)), pt b1 (.cells #[Bx ((shortO o).kind), .int .u8 (0), .slice oa ((o.body.take 20).length) (oc)] 47)]) (by exact ((((((((((((perm_front 11 rfl).trans (perm_front 11 rfl)).trans (perm_front 11 rfl)).trans (perm_front 11 rfl)).trans (perm_front 11 rfl)).trans (perm_front 11 rfl)).trans (perm_front 11 rfl)).trans (perm_front 11 rfl)).trans (perm_front 11 rfl)).trans (perm_front 11 rfl)).trans (perm_front 11 rfl)).trans (perm_front 11 rfl))) ?_
    refine c_closeStore (S := b134) (k := ({ K with power := ((q : Nat) : Int) } : KS)) (pH := pH136) (pA := pA137) (pB := pB138) (cH := cH139) (cA := cA140) (cB := cB141) (M := (jourR J135 b134 I false :: storeR b2 K :: pt b111 (.cells #[Nx (C.epoch), Nx (C.next + 1), .string (C.state), .slice p109 ((C.recs ++ [str ((shortO o).body.take 300)])).length c110] 27) :: row (.slice p109 ((C.recs ++ [str ((shortO o).body.take 300)])).length c110) 9 1 (((C.recs ++ [str ((shortO o).body.take 300)])).length) ((C.recs ++ [str ((shortO o).body.take 300)]).map (fun s : ByteArray => Value.string s)) :: jourR J3 b2 I false :: pt b4 (.cells #[Nx (C.epoch), Nx (C.next), .string (C.state), .slice pn (C.recs).length cn] 27) :: row (.slice pn (C.recs).length cn) 9 1 ((C.recs).length) (C.recs.map (fun s : ByteArray => Value.string s)) :: pt b1 (.cells #[Bx ((shortO o).kind), .int .u8 (0), .slice oa ((o.body.take 20).length) (oc)] 47) :: [])) rfl ?_
    obtain ⟨Kq, hKq⟩ : ∃ z, z = ({ K with power := ((q : Nat) : Int) } : KS) := ⟨_, rfl⟩
    refine c_re (L' := [storeR b134 Kq, jourR J135 b134 I false, storeR b2 K, pt b111 (.cells #[Nx (C.epoch), Nx (C.next + 1), .string (C.state), .slice p109 ((C.recs ++ [str ((shortO o).body.take 300)])).length c110] 27), row (.slice p109 ((C.recs ++ [str ((shortO o).body.take 300)])).length c110) 9 1 (((C.recs ++ [str ((shortO o).body.take 300)])).length) ((C.recs ++ [str ((shortO o).body.take 300)]).map (fun s : ByteArray => Value.string s)), jourR J3 b2 I false, pt b4 (.cells #[Nx (C.epoch), Nx (C.next), .string (C.state), .slice pn (C.recs).length cn] 27), row (.slice pn (C.recs).length cn) 9 1 ((C.recs).length) (C.recs.map (fun s : ByteArray => Value.string s)), pt b1 (.cells #[Bx ((shortO o).kind), .int .u8 (0), .slice oa ((o.body.take 20).length) (oc)] 47)]) (by rw [hKq]; try rfl) ?_
    have hpq : Kq.power = ((q : Nat) : Int) := by rw [hKq]
    have hIq : Inv Kq I k true := by rw [hKq]; exact hI.pow (by omega) (by omega)
    have hfq := hIq.fits (show k ≤ 100 by omega)
    have hev := every_ap (I := I) (b := ((shortO o).body.take 300)) hpq
    obtain ⟨K2, hK2⟩ : ∃ z, z = apS Kq I ((shortO o).body.take 300) := ⟨_, rfl⟩
    have hpw : K2.power = 0 := by rw [hK2, hev.2]; exact congrArg (fun z : Nat => (z : Int)) (show q - costA ((shortO o).body.take 300) = 0 by omega)
    by_cases hc : apOk Kq I ((shortO o).body.take 300)
    ·
     have hcp := hev.1.1 hc
     have hI2 : Inv K2 I2 (k + 1) true := by rw [hK2, hI2e]; exact hIq.ap_ok (by omega) (by omega) hc
     refine c_region ?_
     refine l_val (v := .pointer (some ⟨J135, 0, none⟩)) rfl rfl rfl (e_move) ?_
     refine l_val (v := .agg #[Bx ((shortO o).kind), .int .u8 (0), .slice oa ((o.body.take 20).length) (oc)]) rfl rfl rfl (e_load tf87 (cs := [Bx ((shortO o).kind), .int .u8 (0), .slice oa ((o.body.take 20).length) (oc)]) rfl (k_pt 8 (cs := #[Bx ((shortO o).kind), .int .u8 (0), .slice oa ((o.body.take 20).length) (oc)]) (vs := [Bx ((shortO o).kind), .int .u8 (0), .slice oa ((o.body.take 20).length) (oc)]) rfl rfl) rfl) ?_
     refine l_call rfl rfl rfl (cl_value (fst := []) (cap := []) (vs := [.pointer (some ⟨J135, 0, none⟩), .agg #[Bx ((shortO o).kind), .int .u8 (0), .slice oa ((o.body.take 20).length) (oc)]]) (all := [.pointer (some ⟨J135, 0, none⟩), .agg #[Bx ((shortO o).kind), .int .u8 (0), .slice oa ((o.body.take 20).length) (oc)]]) tf113 rfl rfl rfl) ?_
     intro w hw
     replace hw := hw.perm (L' := _ :: _ :: _ :: _ :: _ :: _ :: _ :: _ :: _ :: []) (by exact (((((((((perm_front 8 rfl).trans (perm_front 8 rfl)).trans (perm_front 8 rfl)).trans (perm_front 8 rfl)).trans (perm_front 8 rfl)).trans (perm_front 8 rfl)).trans (perm_front 8 rfl)).trans (perm_front 7 rfl)).trans (perm_front 8 rfl)))
     obtain ⟨β1, sb, kn, hw1, back⟩ := St.frame (L := [_, _]) (M := _ :: _ :: _ :: _ :: _ :: _ :: _ :: []) hw
     refine (does_ap_ok β1 w J135 b134 Kq I hfq (by omega) (by omega) (by omega) (by omega) (shortO o) oa oc (show ((o.body.take 20) : Bs).length ≤ oc by simp only [List.length_take]; omega) (by omega) (Elems.mono _ _ _ _ _ sb (Elems.take 20 oe)) hkd hc hw1).mono ?_
     rintro e w' ⟨rfl, hw'⟩
     refine ⟨_, rfl, _, back _ _ hw', ?_⟩
     clear hw hw1 hw' back kn sb
     refine l_val (v := .int .i64 (0)) rfl rfl rfl (e_assign) ?_
     refine l_nil ?_
     refine f_then ?_
     refine c_seq ?_
     refine c_seq ?_
     refine c_re (L' := [jourR J135 b134 I2 false, storeR b134 K2, storeR b2 K, pt b111 (.cells #[Nx (C.epoch), Nx (C.next + 1), .string (C.state), .slice p109 ((C.recs ++ [str ((shortO o).body.take 300)])).length c110] 27), row (.slice p109 ((C.recs ++ [str ((shortO o).body.take 300)])).length c110) 9 1 (((C.recs ++ [str ((shortO o).body.take 300)])).length) ((C.recs ++ [str ((shortO o).body.take 300)]).map (fun s : ByteArray => Value.string s)), jourR J3 b2 I false, pt b4 (.cells #[Nx (C.epoch), Nx (C.next), .string (C.state), .slice pn (C.recs).length cn] 27), row (.slice pn (C.recs).length cn) 9 1 ((C.recs).length) (C.recs.map (fun s : ByteArray => Value.string s)), pt b1 (.cells #[Bx ((shortO o).kind), .int .u8 (0), .slice oa ((o.body.take 20).length) (oc)] 47)]) (by rw [hK2, hI2e]; try rfl) ?_
     refine c_perm (L' := [storeR b134 K2, jourR J135 b134 I2 false, storeR b2 K, pt b111 (.cells #[Nx (C.epoch), Nx (C.next + 1), .string (C.state), .slice p109 ((C.recs ++ [str ((shortO o).body.take 300)])).length c110] 27), row (.slice p109 ((C.recs ++ [str ((shortO o).body.take 300)])).length c110) 9 1 (((C.recs ++ [str ((shortO o).body.take 300)])).length) ((C.recs ++ [str ((shortO o).body.take 300)]).map (fun s : ByteArray => Value.string s)), jourR J3 b2 I false, pt b4 (.cells #[Nx (C.epoch), Nx (C.next), .string (C.state), .slice pn (C.recs).length cn] 27), row (.slice pn (C.recs).length cn) 9 1 ((C.recs).length) (C.recs.map (fun s : ByteArray => Value.string s)), pt b1 (.cells #[Bx ((shortO o).kind), .int .u8 (0), .slice oa ((o.body.take 20).length) (oc)] 47)]) (by exact (((((((((perm_front 8 rfl).trans (perm_front 8 rfl)).trans (perm_front 8 rfl)).trans (perm_front 8 rfl)).trans (perm_front 8 rfl)).trans (perm_front 8 rfl)).trans (perm_front 8 rfl)).trans (perm_front 7 rfl)).trans (perm_front 8 rfl))) ?_
     refine c_openStore rfl (fun pH148 pA149 pB150 cH151 cA152 cB153 => ?_)
     refine c_rowcap 1 rfl (fun hcl154 hcm155 => ?_)
     refine c_rowcap 2 rfl (fun hcl156 hcm157 => ?_)
     refine c_rowcap 3 rfl (fun hcl158 hcm159 => ?_)
     refine c_region ?_
     refine l_val (v := .int .i64 (0)) rfl rfl rfl (e_move) ?_
     refine l_val (v := .bool false) rfl rfl rfl (e_neq (a := (0 : Int)) (b := (0 : Int)) rfl rfl) ?_
     refine l_val (v := .bool false) rfl rfl rfl (e_move) ?_
     refine l_skip rfl rfl rfl rfl rfl rfl ?_
     refine l_skip rfl rfl rfl rfl rfl rfl ?_
     refine l_skip rfl rfl rfl rfl rfl rfl ?_
     refine l_skip_u rfl rfl rfl rfl rfl ?_
     refine l_skip_u rfl rfl rfl rfl rfl ?_
     refine l_skip_u rfl rfl rfl rfl rfl ?_
     refine l_skip rfl rfl rfl rfl rfl rfl ?_
     refine l_skip rfl rfl rfl rfl rfl rfl ?_
     refine l_skip_u rfl rfl rfl rfl rfl ?_
     refine l_skip_u rfl rfl rfl rfl rfl ?_
     refine l_skip_u rfl rfl rfl rfl rfl ?_
     refine l_skip_u rfl rfl rfl rfl rfl ?_
     refine l_skip rfl rfl rfl rfl rfl rfl ?_
     refine l_val (v := .bool false) rfl rfl rfl (e_pick_f rfl) ?_
     refine l_nil ?_
     refine f_then ?_
     refine c_no rfl ?_
     refine c_skip ?_
     refine f_then ?_
     refine c_seq ?_
     refine c_region ?_
     refine l_val (v := .pointer (some ⟨b134, 3, none⟩)) rfl rfl rfl (e_fieldPt (b := b134) (o := 0) rfl tf24) ?_
     refine l_val (v := Ix (K2.power)) rfl rfl rfl (e_load1 tf25 (v := Ix (K2.power)) rfl (k_pt 0 (cs := #[.slice pH148 (K2.head).length cH151, .slice pA149 (K2.a).length cA152, .slice pB150 (K2.b).length cB153, Ix (K2.power)]) (vs := [Ix (K2.power)]) rfl rfl)) ?_
     refine l_val (v := Ix (K2.power)) rfl rfl rfl (e_assign) ?_
     refine l_nil ?_
     refine f_then ?_
     refine c_seq ?_
     refine c_region ?_
     refine l_val (v := .pointer (some ⟨b134, 3, none⟩)) rfl rfl rfl (e_fieldPt (b := b134) (o := 0) rfl tf24) ?_
     refine l_mu rfl rfl (m_store 0 tf25 (b := b134) (o := 3) (T := 32) (cs := #[.slice pH148 (K2.head).length cH151, .slice pA149 (K2.a).length cA152, .slice pB150 (K2.b).length cB153, Ix (K2.power)]) (cs' := #[.slice pH148 (K2.head).length cH151, .slice pA149 (K2.a).length cA152, .slice pB150 (K2.b).length cB153, .int .i64 (0)]) (v := .int .i64 (0)) rfl rfl rfl rfl rfl rfl rfl) ?_
     refine l_nil ?_
     refine f_then ?_
     refine c_seq ?_
     refine c_seq ?_
     refine c_perm (L' := [pt b134 (.cells #[.slice pH148 (K2.head).length cH151, .slice pA149 (K2.a).length cA152, .slice pB150 (K2.b).length cB153, .int .i64 (0)] 32), row (.slice pH148 (K2.head).length cH151) 5 1 ((K2.head).length) (BX K2.head), row (.slice pA149 (K2.a).length cA152) 5 1 ((K2.a).length) (BX K2.a), row (.slice pB150 (K2.b).length cB153) 5 1 ((K2.b).length) (BX K2.b), jourR J135 b134 I2 false, storeR b2 K, pt b111 (.cells #[Nx (C.epoch), Nx (C.next + 1), .string (C.state), .slice p109 ((C.recs ++ [str ((shortO o).body.take 300)])).length c110] 27), row (.slice p109 ((C.recs ++ [str ((shortO o).body.take 300)])).length c110) 9 1 (((C.recs ++ [str ((shortO o).body.take 300)])).length) ((C.recs ++ [str ((shortO o).body.take 300)]).map (fun s : ByteArray => Value.string s)), jourR J3 b2 I false, pt b4 (.cells #[Nx (C.epoch), Nx (C.next), .string (C.state), .slice pn (C.recs).length cn] 27), row (.slice pn (C.recs).length cn) 9 1 ((C.recs).length) (C.recs.map (fun s : ByteArray => Value.string s)), pt b1 (.cells #[Bx ((shortO o).kind), .int .u8 (0), .slice oa ((o.body.take 20).length) (oc)] 47)]) (by exact ((((((((((((perm_front 11 rfl).trans (perm_front 11 rfl)).trans (perm_front 11 rfl)).trans (perm_front 11 rfl)).trans (perm_front 11 rfl)).trans (perm_front 11 rfl)).trans (perm_front 11 rfl)).trans (perm_front 11 rfl)).trans (perm_front 11 rfl)).trans (perm_front 11 rfl)).trans (perm_front 11 rfl)).trans (perm_front 11 rfl))) ?_
     refine c_closeStore (S := b134) (k := ({ K2 with power := 0 } : KS)) (pH := pH148) (pA := pA149) (pB := pB150) (cH := cH151) (cA := cA152) (cB := cB153) (M := (jourR J135 b134 I2 false :: storeR b2 K :: pt b111 (.cells #[Nx (C.epoch), Nx (C.next + 1), .string (C.state), .slice p109 ((C.recs ++ [str ((shortO o).body.take 300)])).length c110] 27) :: row (.slice p109 ((C.recs ++ [str ((shortO o).body.take 300)])).length c110) 9 1 (((C.recs ++ [str ((shortO o).body.take 300)])).length) ((C.recs ++ [str ((shortO o).body.take 300)]).map (fun s : ByteArray => Value.string s)) :: jourR J3 b2 I false :: pt b4 (.cells #[Nx (C.epoch), Nx (C.next), .string (C.state), .slice pn (C.recs).length cn] 27) :: row (.slice pn (C.recs).length cn) 9 1 ((C.recs).length) (C.recs.map (fun s : ByteArray => Value.string s)) :: pt b1 (.cells #[Bx ((shortO o).kind), .int .u8 (0), .slice oa ((o.body.take 20).length) (oc)] 47) :: [])) rfl ?_
     obtain ⟨K3, hK3⟩ : ∃ z, z = ({ K2 with power := 0 } : KS) := ⟨_, rfl⟩
     refine c_re (L' := [storeR b134 K3, jourR J135 b134 I2 false, storeR b2 K, pt b111 (.cells #[Nx (C.epoch), Nx (C.next + 1), .string (C.state), .slice p109 ((C.recs ++ [str ((shortO o).body.take 300)])).length c110] 27), row (.slice p109 ((C.recs ++ [str ((shortO o).body.take 300)])).length c110) 9 1 (((C.recs ++ [str ((shortO o).body.take 300)])).length) ((C.recs ++ [str ((shortO o).body.take 300)]).map (fun s : ByteArray => Value.string s)), jourR J3 b2 I false, pt b4 (.cells #[Nx (C.epoch), Nx (C.next), .string (C.state), .slice pn (C.recs).length cn] 27), row (.slice pn (C.recs).length cn) 9 1 ((C.recs).length) (C.recs.map (fun s : ByteArray => Value.string s)), pt b1 (.cells #[Bx ((shortO o).kind), .int .u8 (0), .slice oa ((o.body.take 20).length) (oc)] 47)]) (by rw [hK3]; try rfl) ?_
     have hp3 : K3.power = 0 := by rw [hK3]
     have hI3 : Inv K3 I2 (k + 1) true := by rw [hK3]; exact hI2.pow (by omega) (by omega)
     have hok3 := hI3.okP (show k + 1 ≤ 100 by omega)
     by_cases hcut : cutOk (K3.area I2.epoch) K3.power I2.size
     ·
      refine c_region ?_
      refine l_call rfl rfl rfl (cl_value (fst := []) (cap := []) (vs := [.pointer (some ⟨b134, 0, none⟩)]) (all := [.pointer (some ⟨b134, 0, none⟩)]) tf104 rfl rfl rfl) ?_
      intro w hw
      replace hw := hw.perm (L' := _ :: _ :: _ :: _ :: _ :: _ :: _ :: _ :: _ :: []) (by exact (((((((((perm_front 8 rfl).trans (perm_front 8 rfl)).trans (perm_front 8 rfl)).trans (perm_front 8 rfl)).trans (perm_front 8 rfl)).trans (perm_front 8 rfl)).trans (perm_front 8 rfl)).trans (perm_front 8 rfl)).trans (perm_front 8 rfl)))
      obtain ⟨β1, sb, kn, hw1, back⟩ := St.frame (L := [_]) (M := _ :: _ :: _ :: _ :: _ :: _ :: _ :: _ :: []) hw
      refine (open_ok β1 w b134 K3 hok3 (by omega) I2 hI3.read hcut hw1).mono ?_
      rintro e w' ⟨J160, rfl, hw'⟩
      refine ⟨_, rfl, _, back _ _ hw', ?_⟩
      clear hw hw1 hw' back kn sb
      refine l_val (v := .tuple #[.pointer (some ⟨J160, 0, none⟩), .int .i64 (0)]) rfl rfl rfl (e_move) ?_
      refine l_val (v := .pointer (some ⟨J160, 0, none⟩)) rfl rfl rfl (e_extract (vs := #[.pointer (some ⟨J160, 0, none⟩), .int .i64 (0)]) rfl rfl) ?_
      refine l_val (v := .int .i64 (0)) rfl rfl rfl (e_extract (vs := #[.pointer (some ⟨J160, 0, none⟩), .int .i64 (0)]) rfl rfl) ?_
      refine l_val (v := .pointer (some ⟨J160, 0, none⟩)) rfl rfl rfl (e_assign) ?_
      refine l_val (v := .int .i64 (0)) rfl rfl rfl (e_assign) ?_
      refine l_nil ?_
      refine f_then ?_
      refine c_seq ?_
      refine c_re (L' := [jourR J160 b134 I2 false, storeR b134 K3, jourR J135 b134 I2 false, storeR b2 K, pt b111 (.cells #[Nx (C.epoch), Nx (C.next + 1), .string (C.state), .slice p109 ((C.recs ++ [str ((shortO o).body.take 300)])).length c110] 27), row (.slice p109 ((C.recs ++ [str ((shortO o).body.take 300)])).length c110) 9 1 (((C.recs ++ [str ((shortO o).body.take 300)])).length) ((C.recs ++ [str ((shortO o).body.take 300)]).map (fun s : ByteArray => Value.string s)), jourR J3 b2 I false, pt b4 (.cells #[Nx (C.epoch), Nx (C.next), .string (C.state), .slice pn (C.recs).length cn] 27), row (.slice pn (C.recs).length cn) 9 1 ((C.recs).length) (C.recs.map (fun s : ByteArray => Value.string s)), pt b1 (.cells #[Bx ((shortO o).kind), .int .u8 (0), .slice oa ((o.body.take 20).length) (oc)] 47)]) (by rw [cut_zero hp3]; try rfl) ?_
      refine c_region ?_
      refine l_val (v := .int .i64 (0)) rfl rfl rfl (e_move) ?_
      refine l_val (v := .bool true) rfl rfl rfl (e_eql (a := (0 : Int)) (b := (0 : Int)) rfl rfl) ?_
      refine l_val (v := .bool true) rfl rfl rfl (e_move) ?_
      refine g_val (v := .agg #[Nx (C.epoch), Nx (C.next), .string (C.state), .slice pn (C.recs).length cn]) rfl rfl rfl rfl rfl (e_load tf101 (cs := [Nx (C.epoch), Nx (C.next), .string (C.state), .slice pn (C.recs).length cn]) rfl (k_pt 7 (cs := #[Nx (C.epoch), Nx (C.next), .string (C.state), .slice pn (C.recs).length cn]) (vs := [Nx (C.epoch), Nx (C.next), .string (C.state), .slice pn (C.recs).length cn]) rfl rfl) rfl) ?_
      refine g_val (v := .pointer (some ⟨J160, 0, none⟩)) rfl rfl rfl rfl rfl (e_move) ?_
      refine g_call rfl rfl rfl rfl rfl (cl_value (fst := []) (cap := []) (vs := [.agg #[Nx (C.epoch), Nx (C.next), .string (C.state), .slice pn (C.recs).length cn], .pointer (some ⟨J160, 0, none⟩)]) (all := [.agg #[Nx (C.epoch), Nx (C.next), .string (C.state), .slice pn (C.recs).length cn], .pointer (some ⟨J160, 0, none⟩)]) tf115 rfl rfl rfl) ?_
      intro w hw
      obtain ⟨β1, sb, kn, hw1, back⟩ := St.frame_all hw
      refine (is_ok β1 w hw1 C pn cn (by omega) (by omega) (kn _ (Knows.of_res 8 rfl (Elems.mono _ _ _) fun _ h => row_stre h)) J160 b134 I2 false (kn _ (Knows.of_res 0 rfl (JF.mono _ _ _ _) fun _ h => jour_jf h)) (by have := hI3.st; omega) (by have := hI3.wf.next; have := hI3.nN; omega) (fun b hb => by have := hI3.rs b hb; omega)).mono ?_
      rintro e w' ⟨rfl, hw'⟩
      refine ⟨_, rfl, _, back _ _ hw', ?_⟩
      clear hw hw1 hw' back kn sb
      refine g_val (v := .bool (decide (¬ (isP C I2)))) rfl rfl rfl rfl rfl (e_not_p (p := isP C I2) rfl) ?_
      refine l_val (v := .bool (decide (¬ (isP C I2)))) rfl rfl rfl (e_pick_t rfl) ?_
      refine l_val (v := .bool (decide (¬ (isP C I2)))) rfl rfl rfl (e_move) ?_
      refine l_split (s := 105) (p := ¬ (isP C I2)) rfl (fun h => ?_) (fun h => ?_)
      rotate_left; exact absurd hN2 h
      refine g_val (v := .agg #[Nx (C.epoch), Nx (C.next + 1), .string (C.state), .slice p109 ((C.recs ++ [str ((shortO o).body.take 300)])).length c110]) rfl rfl rfl rfl rfl (e_load tf101 (cs := [Nx (C.epoch), Nx (C.next + 1), .string (C.state), .slice p109 ((C.recs ++ [str ((shortO o).body.take 300)])).length c110]) rfl (k_pt 4 (cs := #[Nx (C.epoch), Nx (C.next + 1), .string (C.state), .slice p109 ((C.recs ++ [str ((shortO o).body.take 300)])).length c110]) (vs := [Nx (C.epoch), Nx (C.next + 1), .string (C.state), .slice p109 ((C.recs ++ [str ((shortO o).body.take 300)])).length c110]) rfl rfl) rfl) ?_
      refine g_val (v := .pointer (some ⟨J160, 0, none⟩)) rfl rfl rfl rfl rfl (e_move) ?_
      refine g_call rfl rfl rfl rfl rfl (cl_value (fst := []) (cap := []) (vs := [.agg #[Nx (C.epoch), Nx (C.next + 1), .string (C.state), .slice p109 ((C.recs ++ [str ((shortO o).body.take 300)])).length c110], .pointer (some ⟨J160, 0, none⟩)]) (all := [.agg #[Nx (C.epoch), Nx (C.next + 1), .string (C.state), .slice p109 ((C.recs ++ [str ((shortO o).body.take 300)])).length c110], .pointer (some ⟨J160, 0, none⟩)]) tf115 rfl rfl rfl) ?_
      intro w hw
      obtain ⟨β1, sb, kn, hw1, back⟩ := St.frame_all hw
      refine (is_ok β1 w hw1 (⟨C.epoch, C.next + 1, C.state, (C.recs ++ [str ((shortO o).body.take 300)])⟩ : KC) p109 c110 (by omega) (by omega) (kn _ (Knows.of_res 5 rfl (Elems.mono _ _ _) fun _ h => row_stre h)) J160 b134 I2 false (kn _ (Knows.of_res 0 rfl (JF.mono _ _ _ _) fun _ h => jour_jf h)) (by have := hI3.st; omega) (by have := hI3.wf.next; have := hI3.nN; omega) (fun b hb => by have := hI3.rs b hb; omega)).mono ?_
      rintro e w' ⟨rfl, hw'⟩
      refine ⟨_, rfl, _, back _ _ hw', ?_⟩
      clear hw hw1 hw' back kn sb
      refine g_val (v := .bool (decide (¬ (isP (⟨C.epoch, C.next + 1, C.state, (C.recs ++ [str ((shortO o).body.take 300)])⟩ : KC) I2)))) rfl rfl rfl rfl rfl (e_not_p (p := isP (⟨C.epoch, C.next + 1, C.state, (C.recs ++ [str ((shortO o).body.take 300)])⟩ : KC) I2) rfl) ?_
      refine l_val (v := .bool (decide (¬ (isP (⟨C.epoch, C.next + 1, C.state, (C.recs ++ [str ((shortO o).body.take 300)])⟩ : KC) I2)))) rfl rfl rfl (e_pick_t rfl) ?_
      refine l_val (v := .bool (decide (¬ (isP (⟨C.epoch, C.next + 1, C.state, (C.recs ++ [str ((shortO o).body.take 300)])⟩ : KC) I2)))) rfl rfl rfl (e_move) ?_
      refine l_split (s := 111) (p := ¬ (isP (⟨C.epoch, C.next + 1, C.state, (C.recs ++ [str ((shortO o).body.take 300)])⟩ : KC) I2)) rfl (fun h => ?_) (fun h => ?_)
      exact absurd h (Decidable.not_not.2 hC2)
      refine g_val (v := .int .i64 (0)) rfl rfl rfl rfl rfl (e_move) ?_
      refine g_val (v := .bool false) rfl rfl rfl rfl rfl (e_neq (a := (0 : Int)) (b := (0 : Int)) rfl rfl) ?_
      refine g_val (v := .bool false) rfl rfl rfl rfl rfl (e_move) ?_
      refine l_skip rfl rfl rfl rfl rfl rfl ?_
      refine l_skip rfl rfl rfl rfl rfl rfl ?_
      refine g_val (v := .bool false) rfl rfl rfl rfl rfl (e_pick_f rfl) ?_
      refine l_val (v := .bool false) rfl rfl rfl (e_pick_f rfl) ?_
      refine l_nil ?_
      refine f_then ?_
      refine c_no rfl ?_
      refine c_skip ?_
      refine f_then ?_
      refine c_seq ?_
      refine c_region ?_
      refine l_call rfl rfl rfl (cl_value (fst := []) (cap := []) (vs := [.pointer (some ⟨b134, 0, none⟩)]) (all := [.pointer (some ⟨b134, 0, none⟩)]) tf107 rfl rfl rfl) ?_
      intro w hw
      replace hw := hw.perm (L' := _ :: _ :: _ :: _ :: _ :: _ :: _ :: _ :: _ :: _ :: []) (by exact ((((((((((perm_front 9 rfl).trans (perm_front 9 rfl)).trans (perm_front 9 rfl)).trans (perm_front 9 rfl)).trans (perm_front 9 rfl)).trans (perm_front 9 rfl)).trans (perm_front 9 rfl)).trans (perm_front 9 rfl)).trans (perm_front 8 rfl)).trans (perm_front 9 rfl)))
      obtain ⟨β1, sb, kn, hw1, back⟩ := St.frame (L := [_]) (M := _ :: _ :: _ :: _ :: _ :: _ :: _ :: _ :: _ :: []) hw
      refine (again_ok β1 w b134 K3 ((hI3.pow (p := -1) (by decide) (by decide)).okP (by omega)) I2 hI3.read hw1).mono ?_
      rintro e w' ⟨J161, rfl, hw'⟩
      refine ⟨_, rfl, _, back _ _ hw', ?_⟩
      clear hw hw1 hw' back kn sb
      refine l_val (v := .tuple #[.pointer (some ⟨J161, 0, none⟩), .bool true]) rfl rfl rfl (e_move) ?_
      refine l_val (v := .pointer (some ⟨J161, 0, none⟩)) rfl rfl rfl (e_extract (vs := #[.pointer (some ⟨J161, 0, none⟩), .bool true]) rfl rfl) ?_
      refine l_val (v := .bool true) rfl rfl rfl (e_extract (vs := #[.pointer (some ⟨J161, 0, none⟩), .bool true]) rfl rfl) ?_
      refine l_val (v := .pointer (some ⟨J161, 0, none⟩)) rfl rfl rfl (e_assign) ?_
      refine l_val (v := .bool true) rfl rfl rfl (e_assign) ?_
      refine l_nil ?_
      refine f_then ?_
      refine c_seq ?_
      refine c_seq ?_
      refine c_region ?_
      refine l_val (v := .bool true) rfl rfl rfl (e_move) ?_
      refine l_val (v := .bool false) rfl rfl rfl (e_not (a := true) rfl) ?_
      refine l_val (v := .bool false) rfl rfl rfl (e_move) ?_
      refine g_val (v := .int .i64 (0)) rfl rfl rfl rfl rfl (e_move) ?_
      refine g_val (v := .bool true) rfl rfl rfl rfl rfl (e_eql (a := (0 : Int)) (b := (0 : Int)) rfl rfl) ?_
      refine g_val (v := .bool true) rfl rfl rfl rfl rfl (e_move) ?_
      refine g_val (v := .agg #[Nx (C.epoch), Nx (C.next + 1), .string (C.state), .slice p109 ((C.recs ++ [str ((shortO o).body.take 300)])).length c110]) rfl rfl rfl rfl rfl (e_load tf101 (cs := [Nx (C.epoch), Nx (C.next + 1), .string (C.state), .slice p109 ((C.recs ++ [str ((shortO o).body.take 300)])).length c110]) rfl (k_pt 5 (cs := #[Nx (C.epoch), Nx (C.next + 1), .string (C.state), .slice p109 ((C.recs ++ [str ((shortO o).body.take 300)])).length c110]) (vs := [Nx (C.epoch), Nx (C.next + 1), .string (C.state), .slice p109 ((C.recs ++ [str ((shortO o).body.take 300)])).length c110]) rfl rfl) rfl) ?_
      refine g_val (v := .pointer (some ⟨J161, 0, none⟩)) rfl rfl rfl rfl rfl (e_move) ?_
      refine g_call rfl rfl rfl rfl rfl (cl_value (fst := []) (cap := []) (vs := [.agg #[Nx (C.epoch), Nx (C.next + 1), .string (C.state), .slice p109 ((C.recs ++ [str ((shortO o).body.take 300)])).length c110], .pointer (some ⟨J161, 0, none⟩)]) (all := [.agg #[Nx (C.epoch), Nx (C.next + 1), .string (C.state), .slice p109 ((C.recs ++ [str ((shortO o).body.take 300)])).length c110], .pointer (some ⟨J161, 0, none⟩)]) tf115 rfl rfl rfl) ?_
      intro w hw
      obtain ⟨β1, sb, kn, hw1, back⟩ := St.frame_all hw
      refine (is_ok β1 w hw1 (⟨C.epoch, C.next + 1, C.state, (C.recs ++ [str ((shortO o).body.take 300)])⟩ : KC) p109 c110 (by omega) (by omega) (kn _ (Knows.of_res 6 rfl (Elems.mono _ _ _) fun _ h => row_stre h)) J161 b134 I2 false (kn _ (Knows.of_res 0 rfl (JF.mono _ _ _ _) fun _ h => jour_jf h)) (by have := hI3.st; omega) (by have := hI3.wf.next; have := hI3.nN; omega) (fun b hb => by have := hI3.rs b hb; omega)).mono ?_
      rintro e w' ⟨rfl, hw'⟩
      refine ⟨_, rfl, _, back _ _ hw', ?_⟩
      clear hw hw1 hw' back kn sb
      refine g_val (v := .bool (decide (¬ (isP (⟨C.epoch, C.next + 1, C.state, (C.recs ++ [str ((shortO o).body.take 300)])⟩ : KC) I2)))) rfl rfl rfl rfl rfl (e_not_p (p := isP (⟨C.epoch, C.next + 1, C.state, (C.recs ++ [str ((shortO o).body.take 300)])⟩ : KC) I2) rfl) ?_
      refine g_val (v := .bool (decide (¬ (isP (⟨C.epoch, C.next + 1, C.state, (C.recs ++ [str ((shortO o).body.take 300)])⟩ : KC) I2)))) rfl rfl rfl rfl rfl (e_pick_t rfl) ?_
      refine l_val (v := .bool (decide (¬ (isP (⟨C.epoch, C.next + 1, C.state, (C.recs ++ [str ((shortO o).body.take 300)])⟩ : KC) I2)))) rfl rfl rfl (e_pick_f rfl) ?_
      refine l_val (v := .bool (decide (¬ (isP (⟨C.epoch, C.next + 1, C.state, (C.recs ++ [str ((shortO o).body.take 300)])⟩ : KC) I2)))) rfl rfl rfl (e_move) ?_
      refine l_split (s := 135) (p := ¬ (isP (⟨C.epoch, C.next + 1, C.state, (C.recs ++ [str ((shortO o).body.take 300)])⟩ : KC) I2)) rfl (fun h => ?_) (fun h => ?_)
      exact absurd h (Decidable.not_not.2 hC2)
      refine g_val (v := .int .i64 (0)) rfl rfl rfl rfl rfl (e_move) ?_
      refine g_val (v := .bool false) rfl rfl rfl rfl rfl (e_neq (a := (0 : Int)) (b := (0 : Int)) rfl rfl) ?_
      refine g_val (v := .bool false) rfl rfl rfl rfl rfl (e_move) ?_
      refine l_skip rfl rfl rfl rfl rfl rfl ?_
      refine l_skip rfl rfl rfl rfl rfl rfl ?_
      refine l_skip rfl rfl rfl rfl rfl rfl ?_
      refine l_skip rfl rfl rfl rfl rfl rfl ?_
      refine g_val (v := .bool false) rfl rfl rfl rfl rfl (e_pick_f rfl) ?_
      refine g_val (v := .bool false) rfl rfl rfl rfl rfl (e_move) ?_
      refine l_skip rfl rfl rfl rfl rfl rfl ?_
      refine l_skip rfl rfl rfl rfl rfl rfl ?_
      refine l_skip rfl rfl rfl rfl rfl rfl ?_
      refine l_skip rfl rfl rfl rfl rfl rfl ?_
      refine g_val (v := .bool false) rfl rfl rfl rfl rfl (e_pick_f rfl) ?_
      refine l_val (v := .bool false) rfl rfl rfl (e_pick_f rfl) ?_
      refine l_nil ?_
      refine f_then ?_
      refine c_no rfl ?_
      refine c_skip ?_
      refine f_then ?_
      refine c_seq ?_
      refine c_region ?_
      refine l_val (v := .int .i64 (0)) rfl rfl rfl (e_move) ?_
      refine l_val (v := .bool true) rfl rfl rfl (e_eql (a := (0 : Int)) (b := (0 : Int)) rfl rfl) ?_
      refine l_nil ?_
      refine f_then ?_
      refine c_yes rfl ?_
      refine c_seq ?_
      refine c_region ?_
      refine l_val (v := Ix (K2.power)) rfl rfl rfl (e_move) ?_
      refine l_val (v := .bool (decide ((K2.power) = (0 : Int)))) rfl rfl rfl (e_eql (a := (K2.power)) (b := (0 : Int)) rfl rfl) ?_
      refine l_val (v := .bool (decide ((K2.power) = (0 : Int)))) rfl rfl rfl (e_move) ?_
      refine l_split (s := 155) (p := (K2.power) = (0 : Int)) rfl (fun h => ?_) (fun h => ?_)
      rotate_left; exact absurd (by omega) h
      refine g_call rfl rfl rfl rfl rfl (cl_value (fst := []) (cap := []) (vs := []) (all := []) tf111 rfl rfl rfl) ?_
      intro w hw
      obtain ⟨β1, sb, kn, hw1, back⟩ := St.frame_all hw
      refine (awake_ok β1 w hw1).mono ?_
      rintro e w' ⟨rfl, hw'⟩
      refine ⟨_, rfl, _, back _ _ hw', ?_⟩
      clear hw hw1 hw' back kn sb
      refine l_val (v := .bool true) rfl rfl rfl (e_pick_t rfl) ?_
      refine l_val (v := .bool true) rfl rfl rfl (e_assign) ?_
      refine l_nil ?_
      refine f_then ?_
      refine c_ret ?_
      refine f_block_ret ?_
      refine f_then_ret ?_
      refine f_then_ret ?_
      refine f_block_ret ?_
      refine f_then_ret ?_
      refine ret1 Try.results8 (v := .bool true) rfl ?_
      intro w hw
      exact ⟨rfl, st_mask [false, false, false, false, false, false, false, false, false, false, false] rfl hw⟩
     ·
      refine c_region ?_
      refine l_call rfl rfl rfl (cl_value (fst := []) (cap := []) (vs := [.pointer (some ⟨b134, 0, none⟩)]) (all := [.pointer (some ⟨b134, 0, none⟩)]) tf104 rfl rfl rfl) ?_
      intro w hw
      replace hw := hw.perm (L' := _ :: _ :: _ :: _ :: _ :: _ :: _ :: _ :: _ :: []) (by exact (((((((((perm_front 8 rfl).trans (perm_front 8 rfl)).trans (perm_front 8 rfl)).trans (perm_front 8 rfl)).trans (perm_front 8 rfl)).trans (perm_front 8 rfl)).trans (perm_front 8 rfl)).trans (perm_front 8 rfl)).trans (perm_front 8 rfl)))
      obtain ⟨β1, sb, kn, hw1, back⟩ := St.frame (L := [_]) (M := _ :: _ :: _ :: _ :: _ :: _ :: _ :: _ :: []) hw
      refine (open_pow β1 w b134 K3 hok3 (by omega) I2 hI3.read hcut hw1).mono ?_
      rintro e w' ⟨rfl, hw'⟩
      refine ⟨_, rfl, _, back _ _ hw', ?_⟩
      clear hw hw1 hw' back kn sb
      refine l_val (v := .tuple #[.pointer none, .int .i64 (310)]) rfl rfl rfl (e_move) ?_
      refine l_val (v := .pointer none) rfl rfl rfl (e_extract (vs := #[.pointer none, .int .i64 (310)]) rfl rfl) ?_
      refine l_val (v := .int .i64 (310)) rfl rfl rfl (e_extract (vs := #[.pointer none, .int .i64 (310)]) rfl rfl) ?_
      refine l_val (v := .pointer none) rfl rfl rfl (e_assign) ?_
      refine l_val (v := .int .i64 (310)) rfl rfl rfl (e_assign) ?_
      refine l_nil ?_
      refine f_then ?_
      refine c_seq ?_
      refine c_region ?_
      refine l_val (v := .int .i64 (310)) rfl rfl rfl (e_move) ?_
      refine l_val (v := .bool false) rfl rfl rfl (e_eql (a := (310 : Int)) (b := (0 : Int)) rfl rfl) ?_
      refine l_val (v := .bool false) rfl rfl rfl (e_move) ?_
      refine l_skip rfl rfl rfl rfl rfl rfl ?_
      refine l_skip rfl rfl rfl rfl rfl rfl ?_
      refine l_skip rfl rfl rfl rfl rfl rfl ?_
      refine l_skip rfl rfl rfl rfl rfl rfl ?_
      refine l_val (v := .bool false) rfl rfl rfl (e_pick_f rfl) ?_
      refine l_val (v := .bool false) rfl rfl rfl (e_move) ?_
      refine l_skip rfl rfl rfl rfl rfl rfl ?_
      refine l_skip rfl rfl rfl rfl rfl rfl ?_
      refine l_skip rfl rfl rfl rfl rfl rfl ?_
      refine l_skip rfl rfl rfl rfl rfl rfl ?_
      refine l_val (v := .bool false) rfl rfl rfl (e_pick_f rfl) ?_
      refine l_val (v := .bool false) rfl rfl rfl (e_move) ?_
      refine g_val (v := .int .i64 (310)) rfl rfl rfl rfl rfl (e_move) ?_
      refine g_val (v := .bool true) rfl rfl rfl rfl rfl (e_neq (a := (310 : Int)) (b := (0 : Int)) rfl rfl) ?_
      refine g_val (v := .bool true) rfl rfl rfl rfl rfl (e_move) ?_
      refine g_val (v := .int .i64 (310)) rfl rfl rfl rfl rfl (e_move) ?_
      refine g_val (v := .bool false) rfl rfl rfl rfl rfl (e_neq (a := (310 : Int)) (b := (310 : Int)) rfl rfl) ?_
      refine g_val (v := .bool false) rfl rfl rfl rfl rfl (e_pick_t rfl) ?_
      refine l_val (v := .bool false) rfl rfl rfl (e_pick_f rfl) ?_
      refine l_nil ?_
      refine f_then ?_
      refine c_no rfl ?_
      refine c_skip ?_
      refine f_then ?_
      refine c_seq ?_
      refine c_region ?_
      refine l_call rfl rfl rfl (cl_value (fst := []) (cap := []) (vs := [.pointer (some ⟨b134, 0, none⟩)]) (all := [.pointer (some ⟨b134, 0, none⟩)]) tf107 rfl rfl rfl) ?_
      intro w hw
      replace hw := hw.perm (L' := _ :: _ :: _ :: _ :: _ :: _ :: _ :: _ :: _ :: []) (by exact (((((((((perm_front 8 rfl).trans (perm_front 8 rfl)).trans (perm_front 8 rfl)).trans (perm_front 8 rfl)).trans (perm_front 8 rfl)).trans (perm_front 8 rfl)).trans (perm_front 8 rfl)).trans (perm_front 8 rfl)).trans (perm_front 8 rfl)))
      obtain ⟨β1, sb, kn, hw1, back⟩ := St.frame (L := [_]) (M := _ :: _ :: _ :: _ :: _ :: _ :: _ :: _ :: []) hw
      refine (again_ok β1 w b134 K3 ((hI3.pow (p := -1) (by decide) (by decide)).okP (by omega)) I2 hI3.read hw1).mono ?_
      rintro e w' ⟨J162, rfl, hw'⟩
      refine ⟨_, rfl, _, back _ _ hw', ?_⟩
      clear hw hw1 hw' back kn sb
      refine l_val (v := .tuple #[.pointer (some ⟨J162, 0, none⟩), .bool true]) rfl rfl rfl (e_move) ?_
      refine l_val (v := .pointer (some ⟨J162, 0, none⟩)) rfl rfl rfl (e_extract (vs := #[.pointer (some ⟨J162, 0, none⟩), .bool true]) rfl rfl) ?_
      refine l_val (v := .bool true) rfl rfl rfl (e_extract (vs := #[.pointer (some ⟨J162, 0, none⟩), .bool true]) rfl rfl) ?_
      refine l_val (v := .pointer (some ⟨J162, 0, none⟩)) rfl rfl rfl (e_assign) ?_
      refine l_val (v := .bool true) rfl rfl rfl (e_assign) ?_
      refine l_nil ?_
      refine f_then ?_
      refine c_seq ?_
      refine c_seq ?_
      refine c_region ?_
      refine l_val (v := .bool true) rfl rfl rfl (e_move) ?_
      refine l_val (v := .bool false) rfl rfl rfl (e_not (a := true) rfl) ?_
      refine l_val (v := .bool false) rfl rfl rfl (e_move) ?_
      refine g_val (v := .int .i64 (0)) rfl rfl rfl rfl rfl (e_move) ?_
      refine g_val (v := .bool true) rfl rfl rfl rfl rfl (e_eql (a := (0 : Int)) (b := (0 : Int)) rfl rfl) ?_
      refine g_val (v := .bool true) rfl rfl rfl rfl rfl (e_move) ?_
      refine g_val (v := .agg #[Nx (C.epoch), Nx (C.next + 1), .string (C.state), .slice p109 ((C.recs ++ [str ((shortO o).body.take 300)])).length c110]) rfl rfl rfl rfl rfl (e_load tf101 (cs := [Nx (C.epoch), Nx (C.next + 1), .string (C.state), .slice p109 ((C.recs ++ [str ((shortO o).body.take 300)])).length c110]) rfl (k_pt 4 (cs := #[Nx (C.epoch), Nx (C.next + 1), .string (C.state), .slice p109 ((C.recs ++ [str ((shortO o).body.take 300)])).length c110]) (vs := [Nx (C.epoch), Nx (C.next + 1), .string (C.state), .slice p109 ((C.recs ++ [str ((shortO o).body.take 300)])).length c110]) rfl rfl) rfl) ?_
      refine g_val (v := .pointer (some ⟨J162, 0, none⟩)) rfl rfl rfl rfl rfl (e_move) ?_
      refine g_call rfl rfl rfl rfl rfl (cl_value (fst := []) (cap := []) (vs := [.agg #[Nx (C.epoch), Nx (C.next + 1), .string (C.state), .slice p109 ((C.recs ++ [str ((shortO o).body.take 300)])).length c110], .pointer (some ⟨J162, 0, none⟩)]) (all := [.agg #[Nx (C.epoch), Nx (C.next + 1), .string (C.state), .slice p109 ((C.recs ++ [str ((shortO o).body.take 300)])).length c110], .pointer (some ⟨J162, 0, none⟩)]) tf115 rfl rfl rfl) ?_
      intro w hw
      obtain ⟨β1, sb, kn, hw1, back⟩ := St.frame_all hw
      refine (is_ok β1 w hw1 (⟨C.epoch, C.next + 1, C.state, (C.recs ++ [str ((shortO o).body.take 300)])⟩ : KC) p109 c110 (by omega) (by omega) (kn _ (Knows.of_res 5 rfl (Elems.mono _ _ _) fun _ h => row_stre h)) J162 b134 I2 false (kn _ (Knows.of_res 0 rfl (JF.mono _ _ _ _) fun _ h => jour_jf h)) (by have := hI3.st; omega) (by have := hI3.wf.next; have := hI3.nN; omega) (fun b hb => by have := hI3.rs b hb; omega)).mono ?_
      rintro e w' ⟨rfl, hw'⟩
      refine ⟨_, rfl, _, back _ _ hw', ?_⟩
      clear hw hw1 hw' back kn sb
      refine g_val (v := .bool (decide (¬ (isP (⟨C.epoch, C.next + 1, C.state, (C.recs ++ [str ((shortO o).body.take 300)])⟩ : KC) I2)))) rfl rfl rfl rfl rfl (e_not_p (p := isP (⟨C.epoch, C.next + 1, C.state, (C.recs ++ [str ((shortO o).body.take 300)])⟩ : KC) I2) rfl) ?_
      refine g_val (v := .bool (decide (¬ (isP (⟨C.epoch, C.next + 1, C.state, (C.recs ++ [str ((shortO o).body.take 300)])⟩ : KC) I2)))) rfl rfl rfl rfl rfl (e_pick_t rfl) ?_
      refine l_val (v := .bool (decide (¬ (isP (⟨C.epoch, C.next + 1, C.state, (C.recs ++ [str ((shortO o).body.take 300)])⟩ : KC) I2)))) rfl rfl rfl (e_pick_f rfl) ?_
      refine l_val (v := .bool (decide (¬ (isP (⟨C.epoch, C.next + 1, C.state, (C.recs ++ [str ((shortO o).body.take 300)])⟩ : KC) I2)))) rfl rfl rfl (e_move) ?_
      refine l_split (s := 135) (p := ¬ (isP (⟨C.epoch, C.next + 1, C.state, (C.recs ++ [str ((shortO o).body.take 300)])⟩ : KC) I2)) rfl (fun h => ?_) (fun h => ?_)
      exact absurd h (Decidable.not_not.2 hC2)
      refine g_val (v := .int .i64 (0)) rfl rfl rfl rfl rfl (e_move) ?_
      refine g_val (v := .bool false) rfl rfl rfl rfl rfl (e_neq (a := (0 : Int)) (b := (0 : Int)) rfl rfl) ?_
      refine g_val (v := .bool false) rfl rfl rfl rfl rfl (e_move) ?_
      refine l_skip rfl rfl rfl rfl rfl rfl ?_
      refine l_skip rfl rfl rfl rfl rfl rfl ?_
      refine l_skip rfl rfl rfl rfl rfl rfl ?_
      refine l_skip rfl rfl rfl rfl rfl rfl ?_
      refine g_val (v := .bool false) rfl rfl rfl rfl rfl (e_pick_f rfl) ?_
      refine g_val (v := .bool false) rfl rfl rfl rfl rfl (e_move) ?_
      refine l_skip rfl rfl rfl rfl rfl rfl ?_
      refine l_skip rfl rfl rfl rfl rfl rfl ?_
      refine l_skip rfl rfl rfl rfl rfl rfl ?_
      refine l_skip rfl rfl rfl rfl rfl rfl ?_
      refine g_val (v := .bool false) rfl rfl rfl rfl rfl (e_pick_f rfl) ?_
      refine l_val (v := .bool false) rfl rfl rfl (e_pick_f rfl) ?_
      refine l_nil ?_
      refine f_then ?_
      refine c_no rfl ?_
      refine c_skip ?_
      refine f_then ?_
      refine c_seq ?_
      refine c_region ?_
      refine l_val (v := .int .i64 (0)) rfl rfl rfl (e_move) ?_
      refine l_val (v := .bool true) rfl rfl rfl (e_eql (a := (0 : Int)) (b := (0 : Int)) rfl rfl) ?_
      refine l_nil ?_
      refine f_then ?_
      refine c_yes rfl ?_
      refine c_seq ?_
      refine c_region ?_
      refine l_val (v := Ix (K2.power)) rfl rfl rfl (e_move) ?_
      refine l_val (v := .bool (decide ((K2.power) = (0 : Int)))) rfl rfl rfl (e_eql (a := (K2.power)) (b := (0 : Int)) rfl rfl) ?_
      refine l_val (v := .bool (decide ((K2.power) = (0 : Int)))) rfl rfl rfl (e_move) ?_
      refine l_split (s := 155) (p := (K2.power) = (0 : Int)) rfl (fun h => ?_) (fun h => ?_)
      rotate_left; exact absurd (by omega) h
      refine g_call rfl rfl rfl rfl rfl (cl_value (fst := []) (cap := []) (vs := []) (all := []) tf111 rfl rfl rfl) ?_
      intro w hw
      obtain ⟨β1, sb, kn, hw1, back⟩ := St.frame_all hw
      refine (awake_ok β1 w hw1).mono ?_
      rintro e w' ⟨rfl, hw'⟩
      refine ⟨_, rfl, _, back _ _ hw', ?_⟩
      clear hw hw1 hw' back kn sb
      refine l_val (v := .bool true) rfl rfl rfl (e_pick_t rfl) ?_
      refine l_val (v := .bool true) rfl rfl rfl (e_assign) ?_
      refine l_nil ?_
      refine f_then ?_
      refine c_ret ?_
      refine f_block_ret ?_
      refine f_then_ret ?_
      refine f_then_ret ?_
      refine f_block_ret ?_
      refine f_then_ret ?_
      refine ret1 Try.results8 (v := .bool true) rfl ?_
      intro w hw
      exact ⟨rfl, st_mask [false, false, false, false, false, false, false, false, false, false] rfl hw⟩
    ·
     have hcp := mt hev.1.2 hc
     have hI2 : Inv K2 I (k + 1) false := by rw [hK2]; exact hIq.ap_no (by omega) hc
     refine c_region ?_
     refine l_val (v := .pointer (some ⟨J135, 0, none⟩)) rfl rfl rfl (e_move) ?_
     refine l_val (v := .agg #[Bx ((shortO o).kind), .int .u8 (0), .slice oa ((o.body.take 20).length) (oc)]) rfl rfl rfl (e_load tf87 (cs := [Bx ((shortO o).kind), .int .u8 (0), .slice oa ((o.body.take 20).length) (oc)]) rfl (k_pt 8 (cs := #[Bx ((shortO o).kind), .int .u8 (0), .slice oa ((o.body.take 20).length) (oc)]) (vs := [Bx ((shortO o).kind), .int .u8 (0), .slice oa ((o.body.take 20).length) (oc)]) rfl rfl) rfl) ?_
     refine l_call rfl rfl rfl (cl_value (fst := []) (cap := []) (vs := [.pointer (some ⟨J135, 0, none⟩), .agg #[Bx ((shortO o).kind), .int .u8 (0), .slice oa ((o.body.take 20).length) (oc)]]) (all := [.pointer (some ⟨J135, 0, none⟩), .agg #[Bx ((shortO o).kind), .int .u8 (0), .slice oa ((o.body.take 20).length) (oc)]]) tf113 rfl rfl rfl) ?_
     intro w hw
     replace hw := hw.perm (L' := _ :: _ :: _ :: _ :: _ :: _ :: _ :: _ :: _ :: []) (by exact (((((((((perm_front 8 rfl).trans (perm_front 8 rfl)).trans (perm_front 8 rfl)).trans (perm_front 8 rfl)).trans (perm_front 8 rfl)).trans (perm_front 8 rfl)).trans (perm_front 8 rfl)).trans (perm_front 7 rfl)).trans (perm_front 8 rfl)))
     obtain ⟨β1, sb, kn, hw1, back⟩ := St.frame (L := [_, _]) (M := _ :: _ :: _ :: _ :: _ :: _ :: _ :: []) hw
     refine (does_ap_no β1 w J135 b134 Kq I hfq (by omega) (by omega) (by omega) (by omega) (shortO o) oa oc (show ((o.body.take 20) : Bs).length ≤ oc by simp only [List.length_take]; omega) (by omega) (Elems.mono _ _ _ _ _ sb (Elems.take 20 oe)) hkd hc hw1).mono ?_
     rintro e w' ⟨rfl, hw'⟩
     refine ⟨_, rfl, _, back _ _ hw', ?_⟩
     clear hw hw1 hw' back kn sb
     refine l_val (v := .int .i64 (310)) rfl rfl rfl (e_assign) ?_
     refine l_nil ?_
     refine f_then ?_
     refine c_seq ?_
     refine c_seq ?_
     refine c_re (L' := [jourR J135 b134 I true, storeR b134 K2, storeR b2 K, pt b111 (.cells #[Nx (C.epoch), Nx (C.next + 1), .string (C.state), .slice p109 ((C.recs ++ [str ((shortO o).body.take 300)])).length c110] 27), row (.slice p109 ((C.recs ++ [str ((shortO o).body.take 300)])).length c110) 9 1 (((C.recs ++ [str ((shortO o).body.take 300)])).length) ((C.recs ++ [str ((shortO o).body.take 300)]).map (fun s : ByteArray => Value.string s)), jourR J3 b2 I false, pt b4 (.cells #[Nx (C.epoch), Nx (C.next), .string (C.state), .slice pn (C.recs).length cn] 27), row (.slice pn (C.recs).length cn) 9 1 ((C.recs).length) (C.recs.map (fun s : ByteArray => Value.string s)), pt b1 (.cells #[Bx ((shortO o).kind), .int .u8 (0), .slice oa ((o.body.take 20).length) (oc)] 47)]) (by rw [hK2]; try rfl) ?_
     refine c_perm (L' := [storeR b134 K2, jourR J135 b134 I true, storeR b2 K, pt b111 (.cells #[Nx (C.epoch), Nx (C.next + 1), .string (C.state), .slice p109 ((C.recs ++ [str ((shortO o).body.take 300)])).length c110] 27), row (.slice p109 ((C.recs ++ [str ((shortO o).body.take 300)])).length c110) 9 1 (((C.recs ++ [str ((shortO o).body.take 300)])).length) ((C.recs ++ [str ((shortO o).body.take 300)]).map (fun s : ByteArray => Value.string s)), jourR J3 b2 I false, pt b4 (.cells #[Nx (C.epoch), Nx (C.next), .string (C.state), .slice pn (C.recs).length cn] 27), row (.slice pn (C.recs).length cn) 9 1 ((C.recs).length) (C.recs.map (fun s : ByteArray => Value.string s)), pt b1 (.cells #[Bx ((shortO o).kind), .int .u8 (0), .slice oa ((o.body.take 20).length) (oc)] 47)]) (by exact (((((((((perm_front 8 rfl).trans (perm_front 8 rfl)).trans (perm_front 8 rfl)).trans (perm_front 8 rfl)).trans (perm_front 8 rfl)).trans (perm_front 8 rfl)).trans (perm_front 8 rfl)).trans (perm_front 7 rfl)).trans (perm_front 8 rfl))) ?_
     refine c_openStore rfl (fun pH163 pA164 pB165 cH166 cA167 cB168 => ?_)
     refine c_rowcap 1 rfl (fun hcl169 hcm170 => ?_)
     refine c_rowcap 2 rfl (fun hcl171 hcm172 => ?_)
     refine c_rowcap 3 rfl (fun hcl173 hcm174 => ?_)
     refine c_region ?_
     refine l_val (v := .int .i64 (310)) rfl rfl rfl (e_move) ?_
     refine l_val (v := .bool true) rfl rfl rfl (e_neq (a := (310 : Int)) (b := (0 : Int)) rfl rfl) ?_
     refine l_val (v := .bool true) rfl rfl rfl (e_move) ?_
     refine g_val (v := .int .i64 (310)) rfl rfl rfl rfl rfl (e_move) ?_
     refine g_val (v := .bool false) rfl rfl rfl rfl rfl (e_neq (a := (310 : Int)) (b := (310 : Int)) rfl rfl) ?_
     refine g_val (v := .bool false) rfl rfl rfl rfl rfl (e_move) ?_
     refine g_val (v := .pointer (some ⟨b134, 3, none⟩)) rfl rfl rfl rfl rfl (e_fieldPt (b := b134) (o := 0) rfl tf24) ?_
     refine g_val (v := Ix (K2.power)) rfl rfl rfl rfl rfl (e_load1 tf25 (v := Ix (K2.power)) rfl (k_pt 0 (cs := #[.slice pH163 (K2.head).length cH166, .slice pA164 (K2.a).length cA167, .slice pB165 (K2.b).length cB168, Ix (K2.power)]) (vs := [Ix (K2.power)]) rfl rfl)) ?_
     refine g_val (v := .bool (decide ((K2.power) ≠ (0 : Int)))) rfl rfl rfl rfl rfl (e_neq (a := (K2.power)) (b := (0 : Int)) rfl rfl) ?_
     refine g_val (v := .bool (decide ((K2.power) ≠ (0 : Int)))) rfl rfl rfl rfl rfl (e_pick_f rfl) ?_
     refine g_val (v := .bool (decide ((K2.power) ≠ (0 : Int)))) rfl rfl rfl rfl rfl (e_move) ?_
     refine l_split (s := 83) (p := (K2.power) ≠ (0 : Int)) rfl (fun h => ?_) (fun h => ?_)
     exact absurd h (by omega)
     refine g_val (v := .agg #[Nx (C.epoch), Nx (C.next), .string (C.state), .slice pn (C.recs).length cn]) rfl rfl rfl rfl rfl (e_load tf101 (cs := [Nx (C.epoch), Nx (C.next), .string (C.state), .slice pn (C.recs).length cn]) rfl (k_pt 9 (cs := #[Nx (C.epoch), Nx (C.next), .string (C.state), .slice pn (C.recs).length cn]) (vs := [Nx (C.epoch), Nx (C.next), .string (C.state), .slice pn (C.recs).length cn]) rfl rfl) rfl) ?_
     refine g_val (v := .pointer (some ⟨J135, 0, none⟩)) rfl rfl rfl rfl rfl (e_move) ?_
     refine g_call rfl rfl rfl rfl rfl (cl_value (fst := []) (cap := []) (vs := [.agg #[Nx (C.epoch), Nx (C.next), .string (C.state), .slice pn (C.recs).length cn], .pointer (some ⟨J135, 0, none⟩)]) (all := [.agg #[Nx (C.epoch), Nx (C.next), .string (C.state), .slice pn (C.recs).length cn], .pointer (some ⟨J135, 0, none⟩)]) tf115 rfl rfl rfl) ?_
     intro w hw
     obtain ⟨β1, sb, kn, hw1, back⟩ := St.frame_all hw
     refine (is_ok β1 w hw1 C pn cn (by omega) (by omega) (kn _ (Knows.of_res 10 rfl (Elems.mono _ _ _) fun _ h => row_stre h)) J135 b134 I true (kn _ (Knows.of_res 4 rfl (JF.mono _ _ _ _) fun _ h => jour_jf h)) (by have := hI.st; omega) (by have := hI.wf.next; have := hI.nN; omega) (fun b hb => by have := hI.rs b hb; omega)).mono ?_
     rintro e w' ⟨rfl, hw'⟩
     refine ⟨_, rfl, _, back _ _ hw', ?_⟩
     clear hw hw1 hw' back kn sb
     refine g_val (v := .bool (decide (¬ (isP C I)))) rfl rfl rfl rfl rfl (e_not_p (p := isP C I) rfl) ?_
     refine g_val (v := .bool (decide (¬ (isP C I)))) rfl rfl rfl rfl rfl (e_pick_f rfl) ?_
     refine l_val (v := .bool (decide (¬ (isP C I)))) rfl rfl rfl (e_pick_t rfl) ?_
     refine l_nil ?_
     refine f_then ?_
     refine c_if (¬ (isP C I)) rfl (fun hc175 => ?_) (fun hc175 => ?_)
     ·
      exact absurd hc175 (Decidable.not_not.2 hC)
     ·
      refine c_skip ?_
      refine f_then ?_
      refine c_seq ?_
      refine c_region ?_
      refine l_val (v := .pointer (some ⟨b134, 3, none⟩)) rfl rfl rfl (e_fieldPt (b := b134) (o := 0) rfl tf24) ?_
      refine l_val (v := Ix (K2.power)) rfl rfl rfl (e_load1 tf25 (v := Ix (K2.power)) rfl (k_pt 0 (cs := #[.slice pH163 (K2.head).length cH166, .slice pA164 (K2.a).length cA167, .slice pB165 (K2.b).length cB168, Ix (K2.power)]) (vs := [Ix (K2.power)]) rfl rfl)) ?_
      refine l_val (v := Ix (K2.power)) rfl rfl rfl (e_assign) ?_
      refine l_nil ?_
      refine f_then ?_
      refine c_seq ?_
      refine c_region ?_
      refine l_val (v := .pointer (some ⟨b134, 3, none⟩)) rfl rfl rfl (e_fieldPt (b := b134) (o := 0) rfl tf24) ?_
      refine l_mu rfl rfl (m_store 0 tf25 (b := b134) (o := 3) (T := 32) (cs := #[.slice pH163 (K2.head).length cH166, .slice pA164 (K2.a).length cA167, .slice pB165 (K2.b).length cB168, Ix (K2.power)]) (cs' := #[.slice pH163 (K2.head).length cH166, .slice pA164 (K2.a).length cA167, .slice pB165 (K2.b).length cB168, .int .i64 (0)]) (v := .int .i64 (0)) rfl rfl rfl rfl rfl rfl rfl) ?_
      refine l_nil ?_
      refine f_then ?_
      refine c_seq ?_
      refine c_seq ?_
      refine c_perm (L' := [pt b134 (.cells #[.slice pH163 (K2.head).length cH166, .slice pA164 (K2.a).length cA167, .slice pB165 (K2.b).length cB168, .int .i64 (0)] 32), row (.slice pH163 (K2.head).length cH166) 5 1 ((K2.head).length) (BX K2.head), row (.slice pA164 (K2.a).length cA167) 5 1 ((K2.a).length) (BX K2.a), row (.slice pB165 (K2.b).length cB168) 5 1 ((K2.b).length) (BX K2.b), jourR J135 b134 I true, storeR b2 K, pt b111 (.cells #[Nx (C.epoch), Nx (C.next + 1), .string (C.state), .slice p109 ((C.recs ++ [str ((shortO o).body.take 300)])).length c110] 27), row (.slice p109 ((C.recs ++ [str ((shortO o).body.take 300)])).length c110) 9 1 (((C.recs ++ [str ((shortO o).body.take 300)])).length) ((C.recs ++ [str ((shortO o).body.take 300)]).map (fun s : ByteArray => Value.string s)), jourR J3 b2 I false, pt b4 (.cells #[Nx (C.epoch), Nx (C.next), .string (C.state), .slice pn (C.recs).length cn] 27), row (.slice pn (C.recs).length cn) 9 1 ((C.recs).length) (C.recs.map (fun s : ByteArray => Value.string s)), pt b1 (.cells #[Bx ((shortO o).kind), .int .u8 (0), .slice oa ((o.body.take 20).length) (oc)] 47)]) (by exact ((((((((((((perm_front 11 rfl).trans (perm_front 11 rfl)).trans (perm_front 11 rfl)).trans (perm_front 11 rfl)).trans (perm_front 11 rfl)).trans (perm_front 11 rfl)).trans (perm_front 11 rfl)).trans (perm_front 11 rfl)).trans (perm_front 11 rfl)).trans (perm_front 11 rfl)).trans (perm_front 11 rfl)).trans (perm_front 11 rfl))) ?_
      refine c_closeStore (S := b134) (k := ({ K2 with power := 0 } : KS)) (pH := pH163) (pA := pA164) (pB := pB165) (cH := cH166) (cA := cA167) (cB := cB168) (M := (jourR J135 b134 I true :: storeR b2 K :: pt b111 (.cells #[Nx (C.epoch), Nx (C.next + 1), .string (C.state), .slice p109 ((C.recs ++ [str ((shortO o).body.take 300)])).length c110] 27) :: row (.slice p109 ((C.recs ++ [str ((shortO o).body.take 300)])).length c110) 9 1 (((C.recs ++ [str ((shortO o).body.take 300)])).length) ((C.recs ++ [str ((shortO o).body.take 300)]).map (fun s : ByteArray => Value.string s)) :: jourR J3 b2 I false :: pt b4 (.cells #[Nx (C.epoch), Nx (C.next), .string (C.state), .slice pn (C.recs).length cn] 27) :: row (.slice pn (C.recs).length cn) 9 1 ((C.recs).length) (C.recs.map (fun s : ByteArray => Value.string s)) :: pt b1 (.cells #[Bx ((shortO o).kind), .int .u8 (0), .slice oa ((o.body.take 20).length) (oc)] 47) :: [])) rfl ?_
      obtain ⟨K3, hK3⟩ : ∃ z, z = ({ K2 with power := 0 } : KS) := ⟨_, rfl⟩
      refine c_re (L' := [storeR b134 K3, jourR J135 b134 I true, storeR b2 K, pt b111 (.cells #[Nx (C.epoch), Nx (C.next + 1), .string (C.state), .slice p109 ((C.recs ++ [str ((shortO o).body.take 300)])).length c110] 27), row (.slice p109 ((C.recs ++ [str ((shortO o).body.take 300)])).length c110) 9 1 (((C.recs ++ [str ((shortO o).body.take 300)])).length) ((C.recs ++ [str ((shortO o).body.take 300)]).map (fun s : ByteArray => Value.string s)), jourR J3 b2 I false, pt b4 (.cells #[Nx (C.epoch), Nx (C.next), .string (C.state), .slice pn (C.recs).length cn] 27), row (.slice pn (C.recs).length cn) 9 1 ((C.recs).length) (C.recs.map (fun s : ByteArray => Value.string s)), pt b1 (.cells #[Bx ((shortO o).kind), .int .u8 (0), .slice oa ((o.body.take 20).length) (oc)] 47)]) (by rw [hK3]; try rfl) ?_
      have hp3 : K3.power = 0 := by rw [hK3]
      have hI3 : Inv K3 I (k + 1) false := by rw [hK3]; exact hI2.pow (by omega) (by omega)
      have hok3 := hI3.okP (show k + 1 ≤ 100 by omega)
      by_cases hcut : cutOk (K3.area I.epoch) K3.power I.size
      ·
       refine c_region ?_
       refine l_call rfl rfl rfl (cl_value (fst := []) (cap := []) (vs := [.pointer (some ⟨b134, 0, none⟩)]) (all := [.pointer (some ⟨b134, 0, none⟩)]) tf104 rfl rfl rfl) ?_
       intro w hw
       replace hw := hw.perm (L' := _ :: _ :: _ :: _ :: _ :: _ :: _ :: _ :: _ :: []) (by exact (((((((((perm_front 8 rfl).trans (perm_front 8 rfl)).trans (perm_front 8 rfl)).trans (perm_front 8 rfl)).trans (perm_front 8 rfl)).trans (perm_front 8 rfl)).trans (perm_front 8 rfl)).trans (perm_front 8 rfl)).trans (perm_front 8 rfl)))
       obtain ⟨β1, sb, kn, hw1, back⟩ := St.frame (L := [_]) (M := _ :: _ :: _ :: _ :: _ :: _ :: _ :: _ :: []) hw
       refine (open_ok β1 w b134 K3 hok3 (by omega) I hI3.read hcut hw1).mono ?_
       rintro e w' ⟨J176, rfl, hw'⟩
       refine ⟨_, rfl, _, back _ _ hw', ?_⟩
       clear hw hw1 hw' back kn sb
       refine l_val (v := .tuple #[.pointer (some ⟨J176, 0, none⟩), .int .i64 (0)]) rfl rfl rfl (e_move) ?_
       refine l_val (v := .pointer (some ⟨J176, 0, none⟩)) rfl rfl rfl (e_extract (vs := #[.pointer (some ⟨J176, 0, none⟩), .int .i64 (0)]) rfl rfl) ?_
       refine l_val (v := .int .i64 (0)) rfl rfl rfl (e_extract (vs := #[.pointer (some ⟨J176, 0, none⟩), .int .i64 (0)]) rfl rfl) ?_
       refine l_val (v := .pointer (some ⟨J176, 0, none⟩)) rfl rfl rfl (e_assign) ?_
       refine l_val (v := .int .i64 (0)) rfl rfl rfl (e_assign) ?_
       refine l_nil ?_
       refine f_then ?_
       refine c_seq ?_
       refine c_re (L' := [jourR J176 b134 I false, storeR b134 K3, jourR J135 b134 I true, storeR b2 K, pt b111 (.cells #[Nx (C.epoch), Nx (C.next + 1), .string (C.state), .slice p109 ((C.recs ++ [str ((shortO o).body.take 300)])).length c110] 27), row (.slice p109 ((C.recs ++ [str ((shortO o).body.take 300)])).length c110) 9 1 (((C.recs ++ [str ((shortO o).body.take 300)])).length) ((C.recs ++ [str ((shortO o).body.take 300)]).map (fun s : ByteArray => Value.string s)), jourR J3 b2 I false, pt b4 (.cells #[Nx (C.epoch), Nx (C.next), .string (C.state), .slice pn (C.recs).length cn] 27), row (.slice pn (C.recs).length cn) 9 1 ((C.recs).length) (C.recs.map (fun s : ByteArray => Value.string s)), pt b1 (.cells #[Bx ((shortO o).kind), .int .u8 (0), .slice oa ((o.body.take 20).length) (oc)] 47)]) (by rw [cut_zero hp3]; try rfl) ?_
       refine c_region ?_
       refine l_val (v := .int .i64 (0)) rfl rfl rfl (e_move) ?_
       refine l_val (v := .bool true) rfl rfl rfl (e_eql (a := (0 : Int)) (b := (0 : Int)) rfl rfl) ?_
       refine l_val (v := .bool true) rfl rfl rfl (e_move) ?_
       refine g_val (v := .agg #[Nx (C.epoch), Nx (C.next), .string (C.state), .slice pn (C.recs).length cn]) rfl rfl rfl rfl rfl (e_load tf101 (cs := [Nx (C.epoch), Nx (C.next), .string (C.state), .slice pn (C.recs).length cn]) rfl (k_pt 7 (cs := #[Nx (C.epoch), Nx (C.next), .string (C.state), .slice pn (C.recs).length cn]) (vs := [Nx (C.epoch), Nx (C.next), .string (C.state), .slice pn (C.recs).length cn]) rfl rfl) rfl) ?_
       refine g_val (v := .pointer (some ⟨J176, 0, none⟩)) rfl rfl rfl rfl rfl (e_move) ?_
       refine g_call rfl rfl rfl rfl rfl (cl_value (fst := []) (cap := []) (vs := [.agg #[Nx (C.epoch), Nx (C.next), .string (C.state), .slice pn (C.recs).length cn], .pointer (some ⟨J176, 0, none⟩)]) (all := [.agg #[Nx (C.epoch), Nx (C.next), .string (C.state), .slice pn (C.recs).length cn], .pointer (some ⟨J176, 0, none⟩)]) tf115 rfl rfl rfl) ?_
       intro w hw
       obtain ⟨β1, sb, kn, hw1, back⟩ := St.frame_all hw
       refine (is_ok β1 w hw1 C pn cn (by omega) (by omega) (kn _ (Knows.of_res 8 rfl (Elems.mono _ _ _) fun _ h => row_stre h)) J176 b134 I false (kn _ (Knows.of_res 0 rfl (JF.mono _ _ _ _) fun _ h => jour_jf h)) (by have := hI.st; omega) (by have := hI.wf.next; have := hI.nN; omega) (fun b hb => by have := hI.rs b hb; omega)).mono ?_
       rintro e w' ⟨rfl, hw'⟩
       refine ⟨_, rfl, _, back _ _ hw', ?_⟩
       clear hw hw1 hw' back kn sb
       refine g_val (v := .bool (decide (¬ (isP C I)))) rfl rfl rfl rfl rfl (e_not_p (p := isP C I) rfl) ?_
       refine l_val (v := .bool (decide (¬ (isP C I)))) rfl rfl rfl (e_pick_t rfl) ?_
       refine l_val (v := .bool (decide (¬ (isP C I)))) rfl rfl rfl (e_move) ?_
       refine l_split (s := 105) (p := ¬ (isP C I)) rfl (fun h => ?_) (fun h => ?_)
       exact absurd h (Decidable.not_not.2 hC)
       refine l_skip rfl rfl rfl rfl rfl rfl ?_
       refine l_skip rfl rfl rfl rfl rfl rfl ?_
       refine l_skip rfl rfl rfl rfl rfl rfl ?_
       refine l_skip rfl rfl rfl rfl rfl rfl ?_
       refine l_val (v := .bool false) rfl rfl rfl (e_pick_f rfl) ?_
       refine l_val (v := .bool false) rfl rfl rfl (e_move) ?_
       refine g_val (v := .int .i64 (0)) rfl rfl rfl rfl rfl (e_move) ?_
       refine g_val (v := .bool false) rfl rfl rfl rfl rfl (e_neq (a := (0 : Int)) (b := (0 : Int)) rfl rfl) ?_
       refine g_val (v := .bool false) rfl rfl rfl rfl rfl (e_move) ?_
       refine l_skip rfl rfl rfl rfl rfl rfl ?_
       refine l_skip rfl rfl rfl rfl rfl rfl ?_
       refine g_val (v := .bool false) rfl rfl rfl rfl rfl (e_pick_f rfl) ?_
       refine l_val (v := .bool false) rfl rfl rfl (e_pick_f rfl) ?_
       refine l_nil ?_
       refine f_then ?_
       refine c_no rfl ?_
       refine c_skip ?_
       refine f_then ?_
       refine c_seq ?_
       refine c_region ?_
       refine l_call rfl rfl rfl (cl_value (fst := []) (cap := []) (vs := [.pointer (some ⟨b134, 0, none⟩)]) (all := [.pointer (some ⟨b134, 0, none⟩)]) tf107 rfl rfl rfl) ?_
       intro w hw
       replace hw := hw.perm (L' := _ :: _ :: _ :: _ :: _ :: _ :: _ :: _ :: _ :: _ :: []) (by exact ((((((((((perm_front 9 rfl).trans (perm_front 9 rfl)).trans (perm_front 9 rfl)).trans (perm_front 9 rfl)).trans (perm_front 9 rfl)).trans (perm_front 9 rfl)).trans (perm_front 9 rfl)).trans (perm_front 9 rfl)).trans (perm_front 8 rfl)).trans (perm_front 9 rfl)))
       obtain ⟨β1, sb, kn, hw1, back⟩ := St.frame (L := [_]) (M := _ :: _ :: _ :: _ :: _ :: _ :: _ :: _ :: _ :: []) hw
       refine (again_ok β1 w b134 K3 ((hI3.pow (p := -1) (by decide) (by decide)).okP (by omega)) I hI3.read hw1).mono ?_
       rintro e w' ⟨J177, rfl, hw'⟩
       refine ⟨_, rfl, _, back _ _ hw', ?_⟩
       clear hw hw1 hw' back kn sb
       refine l_val (v := .tuple #[.pointer (some ⟨J177, 0, none⟩), .bool true]) rfl rfl rfl (e_move) ?_
       refine l_val (v := .pointer (some ⟨J177, 0, none⟩)) rfl rfl rfl (e_extract (vs := #[.pointer (some ⟨J177, 0, none⟩), .bool true]) rfl rfl) ?_
       refine l_val (v := .bool true) rfl rfl rfl (e_extract (vs := #[.pointer (some ⟨J177, 0, none⟩), .bool true]) rfl rfl) ?_
       refine l_val (v := .pointer (some ⟨J177, 0, none⟩)) rfl rfl rfl (e_assign) ?_
       refine l_val (v := .bool true) rfl rfl rfl (e_assign) ?_
       refine l_nil ?_
       refine f_then ?_
       refine c_seq ?_
       refine c_seq ?_
       refine c_region ?_
       refine l_val (v := .bool true) rfl rfl rfl (e_move) ?_
       refine l_val (v := .bool false) rfl rfl rfl (e_not (a := true) rfl) ?_
       refine l_val (v := .bool false) rfl rfl rfl (e_move) ?_
       refine g_val (v := .int .i64 (310)) rfl rfl rfl rfl rfl (e_move) ?_
       refine g_val (v := .bool false) rfl rfl rfl rfl rfl (e_eql (a := (310 : Int)) (b := (0 : Int)) rfl rfl) ?_
       refine g_val (v := .bool false) rfl rfl rfl rfl rfl (e_move) ?_
       refine l_skip rfl rfl rfl rfl rfl rfl ?_
       refine l_skip rfl rfl rfl rfl rfl rfl ?_
       refine l_skip rfl rfl rfl rfl rfl rfl ?_
       refine l_skip rfl rfl rfl rfl rfl rfl ?_
       refine g_val (v := .bool false) rfl rfl rfl rfl rfl (e_pick_f rfl) ?_
       refine l_val (v := .bool false) rfl rfl rfl (e_pick_f rfl) ?_
       refine l_val (v := .bool false) rfl rfl rfl (e_move) ?_
       refine g_val (v := .int .i64 (310)) rfl rfl rfl rfl rfl (e_move) ?_
       refine g_val (v := .bool true) rfl rfl rfl rfl rfl (e_neq (a := (310 : Int)) (b := (0 : Int)) rfl rfl) ?_
       refine g_val (v := .bool true) rfl rfl rfl rfl rfl (e_move) ?_
       refine g_val (v := .agg #[Nx (C.epoch), Nx (C.next), .string (C.state), .slice pn (C.recs).length cn]) rfl rfl rfl rfl rfl (e_load tf101 (cs := [Nx (C.epoch), Nx (C.next), .string (C.state), .slice pn (C.recs).length cn]) rfl (k_pt 8 (cs := #[Nx (C.epoch), Nx (C.next), .string (C.state), .slice pn (C.recs).length cn]) (vs := [Nx (C.epoch), Nx (C.next), .string (C.state), .slice pn (C.recs).length cn]) rfl rfl) rfl) ?_
       refine g_val (v := .pointer (some ⟨J177, 0, none⟩)) rfl rfl rfl rfl rfl (e_move) ?_
       refine g_call rfl rfl rfl rfl rfl (cl_value (fst := []) (cap := []) (vs := [.agg #[Nx (C.epoch), Nx (C.next), .string (C.state), .slice pn (C.recs).length cn], .pointer (some ⟨J177, 0, none⟩)]) (all := [.agg #[Nx (C.epoch), Nx (C.next), .string (C.state), .slice pn (C.recs).length cn], .pointer (some ⟨J177, 0, none⟩)]) tf115 rfl rfl rfl) ?_
       intro w hw
       obtain ⟨β1, sb, kn, hw1, back⟩ := St.frame_all hw
       refine (is_ok β1 w hw1 C pn cn (by omega) (by omega) (kn _ (Knows.of_res 9 rfl (Elems.mono _ _ _) fun _ h => row_stre h)) J177 b134 I false (kn _ (Knows.of_res 0 rfl (JF.mono _ _ _ _) fun _ h => jour_jf h)) (by have := hI.st; omega) (by have := hI.wf.next; have := hI.nN; omega) (fun b hb => by have := hI.rs b hb; omega)).mono ?_
       rintro e w' ⟨rfl, hw'⟩
       refine ⟨_, rfl, _, back _ _ hw', ?_⟩
       clear hw hw1 hw' back kn sb
       refine g_val (v := .bool (decide (¬ (isP C I)))) rfl rfl rfl rfl rfl (e_not_p (p := isP C I) rfl) ?_
       refine g_val (v := .bool (decide (¬ (isP C I)))) rfl rfl rfl rfl rfl (e_pick_t rfl) ?_
       refine g_val (v := .bool (decide (¬ (isP C I)))) rfl rfl rfl rfl rfl (e_move) ?_
       refine l_split (s := 144) (p := ¬ (isP C I)) rfl (fun h => ?_) (fun h => ?_)
       exact absurd h (Decidable.not_not.2 hC)
       refine l_skip rfl rfl rfl rfl rfl rfl ?_
       refine l_skip rfl rfl rfl rfl rfl rfl ?_
       refine l_skip rfl rfl rfl rfl rfl rfl ?_
       refine l_skip rfl rfl rfl rfl rfl rfl ?_
       refine g_val (v := .bool false) rfl rfl rfl rfl rfl (e_pick_f rfl) ?_
       refine l_val (v := .bool false) rfl rfl rfl (e_pick_f rfl) ?_
       refine l_nil ?_
       refine f_then ?_
       refine c_no rfl ?_
       refine c_skip ?_
       refine f_then ?_
       refine c_seq ?_
       refine c_region ?_
       refine l_val (v := .int .i64 (310)) rfl rfl rfl (e_move) ?_
       refine l_val (v := .bool false) rfl rfl rfl (e_eql (a := (310 : Int)) (b := (0 : Int)) rfl rfl) ?_
       refine l_nil ?_
       refine f_then ?_
       refine c_no rfl ?_
       refine c_skip ?_
       refine f_block ?_
       refine f_then ?_
       refine c_region ?_
       refine l_val (v := Nx (q + 1)) rfl rfl rfl (e_add (a := ((q : Nat) : Int)) (b := (1 : Int)) rfl rfl (i64n (by omega) (by omega))) ?_
       refine l_val (v := Nx (q + 1)) rfl rfl rfl (e_move) ?_
       refine l_nil ?_
       refine f_perm (L' := [pt b111 (.cells #[Nx (C.epoch), Nx (C.next + 1), .string (C.state), .slice p109 ((C.recs ++ [str ((shortO o).body.take 300)])).length c110] 27), row (.slice p109 ((C.recs ++ [str ((shortO o).body.take 300)])).length c110) 9 1 (((C.recs ++ [str ((shortO o).body.take 300)])).length) ((C.recs ++ [str ((shortO o).body.take 300)]).map (fun s : ByteArray => Value.string s)), jourR J3 b2 I false, storeR b2 K, pt b4 (.cells #[Nx (C.epoch), Nx (C.next), .string (C.state), .slice pn (C.recs).length cn] 27), row (.slice pn (C.recs).length cn) 9 1 ((C.recs).length) (C.recs.map (fun s : ByteArray => Value.string s)), pt b1 (.cells #[Bx ((shortO o).kind), .int .u8 (0), .slice oa ((o.body.take 20).length) (oc)] 47), jourR J177 b134 I false, storeR b134 (cutS (powS K3) I.epoch I.size), jourR J176 b134 I false, jourR J135 b134 I true]) (((((((((((perm_front 3 rfl).trans (perm_front 3 rfl)).trans (perm_front 3 rfl)).trans (perm_front 3 rfl)).trans (perm_front 10 rfl)).trans (perm_front 10 rfl)).trans (perm_front 10 rfl)).trans (perm_front 7 rfl)).trans (perm_front 10 rfl)).trans (perm_front 10 rfl)).trans (perm_front 10 rfl)) ?_
       refine f_mask (L' := [pt b111 (.cells #[Nx (C.epoch), Nx (C.next + 1), .string (C.state), .slice p109 ((C.recs ++ [str ((shortO o).body.take 300)])).length c110] 27), row (.slice p109 ((C.recs ++ [str ((shortO o).body.take 300)])).length c110) 9 1 (((C.recs ++ [str ((shortO o).body.take 300)])).length) ((C.recs ++ [str ((shortO o).body.take 300)]).map (fun s : ByteArray => Value.string s)), jourR J3 b2 I false, storeR b2 K, pt b4 (.cells #[Nx (C.epoch), Nx (C.next), .string (C.state), .slice pn (C.recs).length cn] 27), row (.slice pn (C.recs).length cn) 9 1 ((C.recs).length) (C.recs.map (fun s : ByteArray => Value.string s)), pt b1 (.cells #[Bx ((shortO o).kind), .int .u8 (0), .slice oa ((o.body.take 20).length) (oc)] 47)]) [true, true, true, true, true, true, true, false, false, false, false] rfl ?_
       exact f_cut ⟨q + 1, ⟨⟨rfl, rfl, rfl, rfl, rfl⟩, rfl, (by omega)⟩, (show 200 - (q + 1) < 200 - q from by omega)⟩
      ·
       refine c_region ?_
       refine l_call rfl rfl rfl (cl_value (fst := []) (cap := []) (vs := [.pointer (some ⟨b134, 0, none⟩)]) (all := [.pointer (some ⟨b134, 0, none⟩)]) tf104 rfl rfl rfl) ?_
       intro w hw
       replace hw := hw.perm (L' := _ :: _ :: _ :: _ :: _ :: _ :: _ :: _ :: _ :: []) (by exact (((((((((perm_front 8 rfl).trans (perm_front 8 rfl)).trans (perm_front 8 rfl)).trans (perm_front 8 rfl)).trans (perm_front 8 rfl)).trans (perm_front 8 rfl)).trans (perm_front 8 rfl)).trans (perm_front 8 rfl)).trans (perm_front 8 rfl)))
       obtain ⟨β1, sb, kn, hw1, back⟩ := St.frame (L := [_]) (M := _ :: _ :: _ :: _ :: _ :: _ :: _ :: _ :: []) hw
       refine (open_pow β1 w b134 K3 hok3 (by omega) I hI3.read hcut hw1).mono ?_
       rintro e w' ⟨rfl, hw'⟩
       refine ⟨_, rfl, _, back _ _ hw', ?_⟩
       clear hw hw1 hw' back kn sb
       refine l_val (v := .tuple #[.pointer none, .int .i64 (310)]) rfl rfl rfl (e_move) ?_
       refine l_val (v := .pointer none) rfl rfl rfl (e_extract (vs := #[.pointer none, .int .i64 (310)]) rfl rfl) ?_
       refine l_val (v := .int .i64 (310)) rfl rfl rfl (e_extract (vs := #[.pointer none, .int .i64 (310)]) rfl rfl) ?_
       refine l_val (v := .pointer none) rfl rfl rfl (e_assign) ?_
       refine l_val (v := .int .i64 (310)) rfl rfl rfl (e_assign) ?_
       refine l_nil ?_
       refine f_then ?_
       refine c_seq ?_
       refine c_region ?_
       refine l_val (v := .int .i64 (310)) rfl rfl rfl (e_move) ?_
       refine l_val (v := .bool false) rfl rfl rfl (e_eql (a := (310 : Int)) (b := (0 : Int)) rfl rfl) ?_
       refine l_val (v := .bool false) rfl rfl rfl (e_move) ?_
       refine l_skip rfl rfl rfl rfl rfl rfl ?_
       refine l_skip rfl rfl rfl rfl rfl rfl ?_
       refine l_skip rfl rfl rfl rfl rfl rfl ?_
       refine l_skip rfl rfl rfl rfl rfl rfl ?_
       refine l_val (v := .bool false) rfl rfl rfl (e_pick_f rfl) ?_
       refine l_val (v := .bool false) rfl rfl rfl (e_move) ?_
       refine l_skip rfl rfl rfl rfl rfl rfl ?_
       refine l_skip rfl rfl rfl rfl rfl rfl ?_
       refine l_skip rfl rfl rfl rfl rfl rfl ?_
       refine l_skip rfl rfl rfl rfl rfl rfl ?_
       refine l_val (v := .bool false) rfl rfl rfl (e_pick_f rfl) ?_
       refine l_val (v := .bool false) rfl rfl rfl (e_move) ?_
       refine g_val (v := .int .i64 (310)) rfl rfl rfl rfl rfl (e_move) ?_
       refine g_val (v := .bool true) rfl rfl rfl rfl rfl (e_neq (a := (310 : Int)) (b := (0 : Int)) rfl rfl) ?_
       refine g_val (v := .bool true) rfl rfl rfl rfl rfl (e_move) ?_
       refine g_val (v := .int .i64 (310)) rfl rfl rfl rfl rfl (e_move) ?_
       refine g_val (v := .bool false) rfl rfl rfl rfl rfl (e_neq (a := (310 : Int)) (b := (310 : Int)) rfl rfl) ?_
       refine g_val (v := .bool false) rfl rfl rfl rfl rfl (e_pick_t rfl) ?_
       refine l_val (v := .bool false) rfl rfl rfl (e_pick_f rfl) ?_
       refine l_nil ?_
       refine f_then ?_
       refine c_no rfl ?_
       refine c_skip ?_
       refine f_then ?_
       refine c_seq ?_
       refine c_region ?_
       refine l_call rfl rfl rfl (cl_value (fst := []) (cap := []) (vs := [.pointer (some ⟨b134, 0, none⟩)]) (all := [.pointer (some ⟨b134, 0, none⟩)]) tf107 rfl rfl rfl) ?_
       intro w hw
       replace hw := hw.perm (L' := _ :: _ :: _ :: _ :: _ :: _ :: _ :: _ :: _ :: []) (by exact (((((((((perm_front 8 rfl).trans (perm_front 8 rfl)).trans (perm_front 8 rfl)).trans (perm_front 8 rfl)).trans (perm_front 8 rfl)).trans (perm_front 8 rfl)).trans (perm_front 8 rfl)).trans (perm_front 8 rfl)).trans (perm_front 8 rfl)))
       obtain ⟨β1, sb, kn, hw1, back⟩ := St.frame (L := [_]) (M := _ :: _ :: _ :: _ :: _ :: _ :: _ :: _ :: []) hw
       refine (again_ok β1 w b134 K3 ((hI3.pow (p := -1) (by decide) (by decide)).okP (by omega)) I hI3.read hw1).mono ?_
       rintro e w' ⟨J178, rfl, hw'⟩
       refine ⟨_, rfl, _, back _ _ hw', ?_⟩
       clear hw hw1 hw' back kn sb
       refine l_val (v := .tuple #[.pointer (some ⟨J178, 0, none⟩), .bool true]) rfl rfl rfl (e_move) ?_
       refine l_val (v := .pointer (some ⟨J178, 0, none⟩)) rfl rfl rfl (e_extract (vs := #[.pointer (some ⟨J178, 0, none⟩), .bool true]) rfl rfl) ?_
       refine l_val (v := .bool true) rfl rfl rfl (e_extract (vs := #[.pointer (some ⟨J178, 0, none⟩), .bool true]) rfl rfl) ?_
       refine l_val (v := .pointer (some ⟨J178, 0, none⟩)) rfl rfl rfl (e_assign) ?_
       refine l_val (v := .bool true) rfl rfl rfl (e_assign) ?_
       refine l_nil ?_
       refine f_then ?_
       refine c_seq ?_
       refine c_seq ?_
       refine c_region ?_
       refine l_val (v := .bool true) rfl rfl rfl (e_move) ?_
       refine l_val (v := .bool false) rfl rfl rfl (e_not (a := true) rfl) ?_
       refine l_val (v := .bool false) rfl rfl rfl (e_move) ?_
       refine g_val (v := .int .i64 (310)) rfl rfl rfl rfl rfl (e_move) ?_
       refine g_val (v := .bool false) rfl rfl rfl rfl rfl (e_eql (a := (310 : Int)) (b := (0 : Int)) rfl rfl) ?_
       refine g_val (v := .bool false) rfl rfl rfl rfl rfl (e_move) ?_
       refine l_skip rfl rfl rfl rfl rfl rfl ?_
       refine l_skip rfl rfl rfl rfl rfl rfl ?_
       refine l_skip rfl rfl rfl rfl rfl rfl ?_
       refine l_skip rfl rfl rfl rfl rfl rfl ?_
       refine g_val (v := .bool false) rfl rfl rfl rfl rfl (e_pick_f rfl) ?_
       refine l_val (v := .bool false) rfl rfl rfl (e_pick_f rfl) ?_
       refine l_val (v := .bool false) rfl rfl rfl (e_move) ?_
       refine g_val (v := .int .i64 (310)) rfl rfl rfl rfl rfl (e_move) ?_
       refine g_val (v := .bool true) rfl rfl rfl rfl rfl (e_neq (a := (310 : Int)) (b := (0 : Int)) rfl rfl) ?_
       refine g_val (v := .bool true) rfl rfl rfl rfl rfl (e_move) ?_
       refine g_val (v := .agg #[Nx (C.epoch), Nx (C.next), .string (C.state), .slice pn (C.recs).length cn]) rfl rfl rfl rfl rfl (e_load tf101 (cs := [Nx (C.epoch), Nx (C.next), .string (C.state), .slice pn (C.recs).length cn]) rfl (k_pt 7 (cs := #[Nx (C.epoch), Nx (C.next), .string (C.state), .slice pn (C.recs).length cn]) (vs := [Nx (C.epoch), Nx (C.next), .string (C.state), .slice pn (C.recs).length cn]) rfl rfl) rfl) ?_
       refine g_val (v := .pointer (some ⟨J178, 0, none⟩)) rfl rfl rfl rfl rfl (e_move) ?_
       refine g_call rfl rfl rfl rfl rfl (cl_value (fst := []) (cap := []) (vs := [.agg #[Nx (C.epoch), Nx (C.next), .string (C.state), .slice pn (C.recs).length cn], .pointer (some ⟨J178, 0, none⟩)]) (all := [.agg #[Nx (C.epoch), Nx (C.next), .string (C.state), .slice pn (C.recs).length cn], .pointer (some ⟨J178, 0, none⟩)]) tf115 rfl rfl rfl) ?_
       intro w hw
       obtain ⟨β1, sb, kn, hw1, back⟩ := St.frame_all hw
       refine (is_ok β1 w hw1 C pn cn (by omega) (by omega) (kn _ (Knows.of_res 8 rfl (Elems.mono _ _ _) fun _ h => row_stre h)) J178 b134 I false (kn _ (Knows.of_res 0 rfl (JF.mono _ _ _ _) fun _ h => jour_jf h)) (by have := hI.st; omega) (by have := hI.wf.next; have := hI.nN; omega) (fun b hb => by have := hI.rs b hb; omega)).mono ?_
       rintro e w' ⟨rfl, hw'⟩
       refine ⟨_, rfl, _, back _ _ hw', ?_⟩
       clear hw hw1 hw' back kn sb
       refine g_val (v := .bool (decide (¬ (isP C I)))) rfl rfl rfl rfl rfl (e_not_p (p := isP C I) rfl) ?_
       refine g_val (v := .bool (decide (¬ (isP C I)))) rfl rfl rfl rfl rfl (e_pick_t rfl) ?_
       refine g_val (v := .bool (decide (¬ (isP C I)))) rfl rfl rfl rfl rfl (e_move) ?_
       refine l_split (s := 144) (p := ¬ (isP C I)) rfl (fun h => ?_) (fun h => ?_)
       exact absurd h (Decidable.not_not.2 hC)
       refine l_skip rfl rfl rfl rfl rfl rfl ?_
       refine l_skip rfl rfl rfl rfl rfl rfl ?_
       refine l_skip rfl rfl rfl rfl rfl rfl ?_
       refine l_skip rfl rfl rfl rfl rfl rfl ?_
       refine g_val (v := .bool false) rfl rfl rfl rfl rfl (e_pick_f rfl) ?_
       refine l_val (v := .bool false) rfl rfl rfl (e_pick_f rfl) ?_
       refine l_nil ?_
       refine f_then ?_
       refine c_no rfl ?_
       refine c_skip ?_
       refine f_then ?_
       refine c_seq ?_
       refine c_region ?_
       refine l_val (v := .int .i64 (310)) rfl rfl rfl (e_move) ?_
       refine l_val (v := .bool false) rfl rfl rfl (e_eql (a := (310 : Int)) (b := (0 : Int)) rfl rfl) ?_
       refine l_nil ?_
       refine f_then ?_
       refine c_no rfl ?_
       refine c_skip ?_
       refine f_block ?_
       refine f_then ?_
       refine c_region ?_
       refine l_val (v := Nx (q + 1)) rfl rfl rfl (e_add (a := ((q : Nat) : Int)) (b := (1 : Int)) rfl rfl (i64n (by omega) (by omega))) ?_
       refine l_val (v := Nx (q + 1)) rfl rfl rfl (e_move) ?_
       refine l_nil ?_
       refine f_perm (L' := [pt b111 (.cells #[Nx (C.epoch), Nx (C.next + 1), .string (C.state), .slice p109 ((C.recs ++ [str ((shortO o).body.take 300)])).length c110] 27), row (.slice p109 ((C.recs ++ [str ((shortO o).body.take 300)])).length c110) 9 1 (((C.recs ++ [str ((shortO o).body.take 300)])).length) ((C.recs ++ [str ((shortO o).body.take 300)]).map (fun s : ByteArray => Value.string s)), jourR J3 b2 I false, storeR b2 K, pt b4 (.cells #[Nx (C.epoch), Nx (C.next), .string (C.state), .slice pn (C.recs).length cn] 27), row (.slice pn (C.recs).length cn) 9 1 ((C.recs).length) (C.recs.map (fun s : ByteArray => Value.string s)), pt b1 (.cells #[Bx ((shortO o).kind), .int .u8 (0), .slice oa ((o.body.take 20).length) (oc)] 47), jourR J178 b134 I false, storeR b134 (cutS (powS K3) I.epoch I.size), jourR J135 b134 I true]) ((((((((((perm_front 2 rfl).trans (perm_front 2 rfl)).trans (perm_front 2 rfl)).trans (perm_front 9 rfl)).trans (perm_front 9 rfl)).trans (perm_front 9 rfl)).trans (perm_front 6 rfl)).trans (perm_front 9 rfl)).trans (perm_front 9 rfl)).trans (perm_front 9 rfl)) ?_
       refine f_mask (L' := [pt b111 (.cells #[Nx (C.epoch), Nx (C.next + 1), .string (C.state), .slice p109 ((C.recs ++ [str ((shortO o).body.take 300)])).length c110] 27), row (.slice p109 ((C.recs ++ [str ((shortO o).body.take 300)])).length c110) 9 1 (((C.recs ++ [str ((shortO o).body.take 300)])).length) ((C.recs ++ [str ((shortO o).body.take 300)]).map (fun s : ByteArray => Value.string s)), jourR J3 b2 I false, storeR b2 K, pt b4 (.cells #[Nx (C.epoch), Nx (C.next), .string (C.state), .slice pn (C.recs).length cn] 27), row (.slice pn (C.recs).length cn) 9 1 ((C.recs).length) (C.recs.map (fun s : ByteArray => Value.string s)), pt b1 (.cells #[Bx ((shortO o).kind), .int .u8 (0), .slice oa ((o.body.take 20).length) (oc)] 47)]) [true, true, true, true, true, true, true, false, false, false] rfl ?_
       exact f_cut ⟨q + 1, ⟨⟨rfl, rfl, rfl, rfl, rfl⟩, rfl, (by omega)⟩, (show 200 - (q + 1) < 200 - q from by omega)⟩
   ·
    refine c_exit ?_
    refine f_then_exit ?_
    refine f_then_exit ?_
    refine f_exit ?_
    refine f_then ?_
    refine c_seq ?_
    exfalso
    omega
end Go.Proofs
