/-
 Read, walked. Printed by a program of my own.
-/
import Derived.Test.YtjejfkajcbdgjaaGreatJn4
namespace Go.Proofs
open Go Go.Sl Go.Jn
theorem sizes_snoc (l : List Bs) (b : Bs) : sizes (l ++ [b]) = sizes l + (24 + b.length) := by
 induction l with
 | nil => simp [sizes]
 | cons a l ih => simp only [List.cons_append, sizes, ih]; omega
theorem sizes_ge (l : List Bs) : 24 * l.length ≤ sizes l := by
 induction l with
 | nil => simp [sizes]
 | cons a l ih => simp only [List.length_cons, sizes]; omega
theorem read_step {e : Int} {n0 s0 f : Nat} {ar : Bs} {rs R : List Bs} (_ : (ar.drop (s0 + sizes rs)).length < f + 1) (hle : s0 + sizes rs ≤ ar.length) (hrs : rs ++ parse e (f + 1) (n0 + rs.length) (ar.drop (s0 + sizes rs)) = R)
  (hrb : recB e (ar.drop (s0 + sizes rs)) = true) (hn : recN (ar.drop (s0 + sizes rs)) = n0 + rs.length) (h1 : n0 + rs.length ≠ 4611686018427387904) (hl : 24 + (recP (ar.drop (s0 + sizes rs))).length ≤ (ar.drop (s0 + sizes rs)).length) :
  (ar.drop (s0 + sizes (rs ++ [recP (ar.drop (s0 + sizes rs))]))).length < f ∧ s0 + sizes (rs ++ [recP (ar.drop (s0 + sizes rs))]) ≤ ar.length ∧
  (rs ++ [recP (ar.drop (s0 + sizes rs))]) ++ parse e f (n0 + (rs ++ [recP (ar.drop (s0 + sizes rs))]).length) (ar.drop (s0 + sizes (rs ++ [recP (ar.drop (s0 + sizes rs))]))) = R := by
 rw [sizes_snoc]
 simp only [List.length_drop] at *
 refine ⟨by omega, by omega, ?_⟩
 rw [← hrs]
 conv => rhs; rw [parse]
 rw [if_pos ⟨hrb, hn, h1⟩, List.drop_drop]
 simp [Nat.add_assoc]
theorem read_end {e : Int} {n f : Nat} {xs : Bs} {rs R : List Bs} (hrs : rs ++ parse e (f + 1) n xs = R) (h : ¬ (recB e xs = true ∧ recN xs = n ∧ n ≠ 4611686018427387904)) : rs = R := by
 rw [parse, if_neg h] at hrs
 simpa using hrs
theorem read_none {k : KS} {ar : Bs} (h : k.area (epochF k.head) = ar) (he : epochF k.head ≠ 0) (hb : recB ((epochF k.head : Nat) : Int) ar = false) : readI k = none := by
 unfold readI
 simp only [h, if_neg he, hb]
 rfl
theorem read_some {k : KS} {ar : Bs} (h : k.area (epochF k.head) = ar) (he : epochF k.head ≠ 0) (hb : recB ((epochF k.head : Nat) : Int) ar = true) :
  readI k = some ⟨epochF k.head, recN ar + (recsF (epochF k.head) (recN ar) (ar.drop (24 + (recP ar).length))).length, recP ar, recsF (epochF k.head) (recN ar) (ar.drop (24 + (recP ar).length)), (24 + (recP ar).length) + sizes (recsF (epochF k.head) (recN ar) (ar.drop (24 + (recP ar).length)))⟩ := by
 unfold readI
 simp only [h, if_neg he, hb]
 rfl
theorem read_zero {k : KS} {ar : Bs} (h : k.area (epochF k.head) = ar) (he : epochF k.head = 0) : readI k = some ⟨0, (recsF 0 0 (ar.drop 0)).length, [], recsF 0 0 (ar.drop 0), sizes (recsF 0 0 (ar.drop 0))⟩ := by
 unfold readI
 rw [he] at h
 simp only [he, h]
 rfl
theorem tf55 : (Tryz.prog.info? 109).bind (·.zero) = some (.agg #[.int .i64 (0), .int .i64 (0), .slice none 0 0, .slice none 0 0, .int .i64 (0)]) := by kernel_rfl
theorem tf56 : tyB Tryz.prog 29 true 4 = true := by kernel_rfl
theorem tf57 : cfB Tryz.prog 81 = true := by kernel_rfl
theorem tf58 : stB Tryz.prog 109 [(0, 1), (1, 1), (2, 1), (3, 1), (4, 1)] = true := by kernel_rfl
theorem tf59 : tyB Tryz.prog 109 true 5 = true := by kernel_rfl
theorem tf60 : cfB Tryz.prog 82 = true := by kernel_rfl
theorem tf61 : cfB Tryz.prog 83 = true := by kernel_rfl
theorem tf62 : cfB Tryz.prog 66 = true := by kernel_rfl
theorem tf63 : fldB Tryz.prog 109 2 2 1 false = true := by kernel_rfl
theorem tf64 : fldB Tryz.prog 109 3 3 1 false = true := by kernel_rfl
theorem tf65 : tyB Tryz.prog 107 false 1 = true := by kernel_rfl
theorem tf66 : slB Tryz.prog 107 27 1 = true := by kernel_rfl
theorem tf67 : (Tryz.prog.info? 27).bind (·.zero) = some (.slice none 0 0) := by kernel_rfl
theorem tf68 : elB Tryz.prog 27 1 24 = true := by kernel_rfl
set_option maxHeartbeats 4000000 in
theorem read_ok (β : Base) (w : World) (hw : St β [] w) (k : KS) (vh va vb : Value) (hH : Sl U8R β.heap vh k.head) (hA : Sl U8R β.heap va k.a) (hB : Sl U8R β.heap vb k.b) : Calls Tryz.prog 45 #[.agg #[vh, va, vb, Ix k.power]] w fun r w' => (r = .returned (.tuple #[.agg #[.int .i64 0, .int .i64 0, .slice none 0 0, .slice none 0 0, .int .i64 0], .int .i64 2]) ∧ ¬ k.okP ∧ St β [] w') ∨ (r = .returned (.tuple #[.agg #[.int .i64 0, .int .i64 0, .slice none 0 0, .slice none 0 0, .int .i64 0], .int .i64 311]) ∧ k.okP ∧ readI k = none ∧ St β [] w') ∨
  (∃ i, k.okP ∧ readI k = some i ∧ ∃ ps pr cs cr, r = .returned (.tuple #[.agg #[Nx i.epoch, Nx i.next, .slice ps i.state.length cs, .slice pr i.recs.length cr, Nx i.size], .int .i64 0]) ∧ St β [row (.slice ps i.state.length cs) 5 1 i.state.length (BX i.state), recsR 27 pr cr i.recs] w') := by
 obtain ⟨vha, vhc, rfl, vhl, vhm, vhe⟩ := hH.get
 obtain ⟨vaa, vac, rfl, val, vam, vae⟩ := hA.get
 obtain ⟨vba, vbc, rfl, vbl, vbm, vbe⟩ := hB.get
 refine enter (n := 92) Tryz.func45 rfl Tryz.ntmps45 rfl ?_ hw
 refine c_seq ?_
 refine c_region ?_
 refine l_mv rfl rfl rfl (m_box (v := .agg #[.slice vha (k.head.length) (vhc), .slice vaa (k.a.length) (vac), .slice vba (k.b.length) (vbc), Ix (k.power)]) rfl) ?_
 rintro _ _ ⟨b1, rfl, rfl⟩
 refine l_mv rfl rfl rfl (m_alloc tf55) ?_
 rintro _ _ ⟨b2, rfl, rfl⟩
 refine l_val (v := .int .i64 (0)) rfl rfl rfl (e_assign) ?_
 refine l_nil ?_
 refine f_then ?_
 refine c_seq ?_
 refine c_seq ?_
 refine c_region ?_
 refine l_val (v := .agg #[.slice vha (k.head.length) (vhc), .slice vaa (k.a.length) (vac), .slice vba (k.b.length) (vbc), Ix (k.power)]) rfl rfl rfl (e_load tf56 (cs := [.slice vha (k.head.length) (vhc), .slice vaa (k.a.length) (vac), .slice vba (k.b.length) (vbc), Ix (k.power)]) rfl (k_pt 1 (cs := #[.slice vha (k.head.length) (vhc), .slice vaa (k.a.length) (vac), .slice vba (k.b.length) (vbc), Ix (k.power)]) (vs := [.slice vha (k.head.length) (vhc), .slice vaa (k.a.length) (vac), .slice vba (k.b.length) (vbc), Ix (k.power)]) rfl rfl) rfl) ?_
 refine l_call rfl rfl rfl (cl_value (fst := []) (cap := []) (vs := [.agg #[.slice vha (k.head.length) (vhc), .slice vaa (k.a.length) (vac), .slice vba (k.b.length) (vbc), Ix (k.power)]]) (all := [.agg #[.slice vha (k.head.length) (vhc), .slice vaa (k.a.length) (vac), .slice vba (k.b.length) (vbc), Ix (k.power)]]) tf57 rfl rfl rfl) ?_
 intro w hw
 obtain ⟨β1, sb, kn, hw1, back⟩ := St.frame_all hw
 refine (valid_ok β1 w hw1 k _ _ _ (Sl.mono _ _ _ _ _ sb (⟨⟨_, _, rfl, vhl, vhm, vhe⟩⟩ : Sl U8R _ _ k.head)) (Sl.mono _ _ _ _ _ sb (⟨⟨_, _, rfl, val, vam, vae⟩⟩ : Sl U8R _ _ k.a)) (Sl.mono _ _ _ _ _ sb (⟨⟨_, _, rfl, vbl, vbm, vbe⟩⟩ : Sl U8R _ _ k.b))).mono ?_
 rintro e w' ⟨rfl, hw'⟩
 refine ⟨_, rfl, _, back _ _ hw', ?_⟩
 clear hw hw1 hw' back kn sb
 refine l_val (v := .bool (decide (¬ (k.okP)))) rfl rfl rfl (e_not_p (p := k.okP) rfl) ?_
 refine l_nil ?_
 refine f_then ?_
 refine c_if (¬ (k.okP)) rfl (fun hc3 => ?_) (fun hc3 => ?_)
 ·
  refine c_seq ?_
  refine c_region ?_
  refine l_val (v := .agg #[.int .i64 (0), .int .i64 (0), .slice none 0 0, .slice none 0 0, .int .i64 (0)]) rfl rfl rfl (e_build tf55 tf58 (vs := []) (cells := #[.int .i64 (0), .int .i64 (0), .slice none 0 0, .slice none 0 0, .int .i64 (0)]) rfl rfl) ?_
  refine l_mu rfl rfl (m_store 0 tf59 (b := b2) (o := 0) (T := 109) (cs := #[.int .i64 (0), .int .i64 (0), .slice none 0 0, .slice none 0 0, .int .i64 (0)]) (cs' := #[.int .i64 (0), .int .i64 (0), .slice none 0 0, .slice none 0 0, .int .i64 (0)]) (v := .agg #[.int .i64 (0), .int .i64 (0), .slice none 0 0, .slice none 0 0, .int .i64 (0)]) rfl rfl rfl rfl rfl rfl rfl) ?_
  refine l_val (v := .int .i64 (2)) rfl rfl rfl (e_assign) ?_
  refine l_nil ?_
  refine f_then ?_
  refine c_ret ?_
  refine f_then_ret ?_
  refine retG (l := [.cell 2 109, .tmp 3]) (m := [.agg #[.int .i64 (0), .int .i64 (0), .slice none 0 0, .slice none 0 0, .int .i64 (0)], .int .i64 (2)]) (v := .tuple #[.agg #[.int .i64 (0), .int .i64 (0), .slice none 0 0, .slice none 0 0, .int .i64 (0)], .int .i64 (2)]) Tryz.results45 ⟨rd_cell tf59 (cs := [.int .i64 (0), .int .i64 (0), .slice none 0 0, .slice none 0 0, .int .i64 (0)]) rfl (k_pt 0 (cs := #[.int .i64 (0), .int .i64 (0), .slice none 0 0, .slice none 0 0, .int .i64 (0)]) (vs := [.int .i64 (0), .int .i64 (0), .slice none 0 0, .slice none 0 0, .int .i64 (0)]) rfl rfl) rfl, rd_tmp (v := .int .i64 (2)) rfl, trivial⟩ rfl ?_
  intro w hw
  exact .inl ⟨rfl, by simpa using hc3, st_mask [false, false] rfl hw⟩
 ·
  have hok : k.okP := Decidable.not_not.1 hc3
  refine c_skip ?_
  refine f_then ?_
  refine c_seq ?_
  have hhd : k.head.length ≤ 32 := by unfold KS.okP at hok; omega
  refine c_region ?_
  refine l_val (v := .pointer (some ⟨b1, 0, none⟩)) rfl rfl rfl (e_fieldPt (b := b1) (o := 0) rfl tf20) ?_
  refine l_val (v := .slice vha (k.head.length) (vhc)) rfl rfl rfl (e_load1 tf21 (v := .slice vha (k.head.length) (vhc)) rfl (k_pt 1 (cs := #[.slice vha (k.head.length) (vhc), .slice vaa (k.a.length) (vac), .slice vba (k.b.length) (vbc), Ix (k.power)]) (vs := [.slice vha (k.head.length) (vhc)]) rfl rfl)) ?_
  refine l_call rfl rfl rfl (cl_value (fst := []) (cap := []) (vs := [.slice vha (k.head.length) (vhc)]) (all := [.slice vha (k.head.length) (vhc)]) tf60 rfl rfl rfl) ?_
  intro w hw
  obtain ⟨β1, sb, kn, hw1, back⟩ := St.frame_all hw
  refine (epoch_ok β1 w hw1 k.head _ (by omega) (Sl.mono _ _ _ _ _ sb (⟨⟨_, _, rfl, vhl, vhm, vhe⟩⟩ : Sl U8R _ _ k.head))).mono ?_
  rintro e w' ⟨rfl, hw'⟩
  refine ⟨_, rfl, _, back _ _ hw', ?_⟩
  clear hw hw1 hw' back kn sb
  refine l_val (v := .agg #[Nx (epochF k.head), .int .i64 (0), .slice none 0 0, .slice none 0 0, .int .i64 (0)]) rfl rfl rfl (e_build tf55 tf58 (vs := [(0, Nx (epochF k.head))]) (cells := #[Nx (epochF k.head), .int .i64 (0), .slice none 0 0, .slice none 0 0, .int .i64 (0)]) rfl rfl) ?_
  refine l_mv rfl rfl rfl (m_alloc tf55) ?_
  rintro _ _ ⟨b4, rfl, rfl⟩
  refine l_mu rfl rfl (m_store 0 tf59 (b := b4) (o := 0) (T := 109) (cs := #[.int .i64 (0), .int .i64 (0), .slice none 0 0, .slice none 0 0, .int .i64 (0)]) (cs' := #[Nx (epochF k.head), .int .i64 (0), .slice none 0 0, .slice none 0 0, .int .i64 (0)]) (v := .agg #[Nx (epochF k.head), .int .i64 (0), .slice none 0 0, .slice none 0 0, .int .i64 (0)]) rfl rfl rfl rfl rfl rfl rfl) ?_
  refine l_nil ?_
  refine f_then ?_
  refine c_seq_cut (fun (f : Fm) (L : List Res) => ∃ ar a c, k.area (epochF k.head) = ar ∧ ar.length ≤ 262144 ∧ Sl U8R β.heap (.slice a ar.length c) ar ∧ (f 2 = .pointer (some ⟨b2, 0, none⟩) ∧ f 4 = .pointer (some ⟨b4, 0, none⟩) ∧ f 5 = .slice a ar.length c) ∧ L = [pt b4 (.cells #[Nx (epochF k.head), .int .i64 (0), .slice none 0 0, .slice none 0 0, .int .i64 (0)] 109), pt b2 (.cells #[.int .i64 (0), .int .i64 (0), .slice none 0 0, .slice none 0 0, .int .i64 (0)] 109), pt b1 (.cells #[.slice vha (k.head.length) (vhc), .slice vaa (k.a.length) (vac), .slice vba (k.b.length) (vbc), Ix (k.power)] 29)]) ?_ ?_
  ·
   rcases Nat.mod_two_eq_zero_or_one (epochF k.head) with hpar | hpar
   ·
    refine c_quiet (by kernel_rfl) (by kernel_rfl) ?_
    refine q_call (v := .agg #[.pointer (some ⟨b1, 1, none⟩), .pointer (some ⟨b1, 2, none⟩)]) rfl rfl rfl (cl_value (fst := []) (cap := []) (vs := [.pointer (some ⟨b1, 0, none⟩)]) (all := [.pointer (some ⟨b1, 0, none⟩)]) tf46 rfl rfl rfl) (fun w hw => ?_) ?_
    ·obtain ⟨β1, sb, kn, hw1, back⟩ := St.frame_all hw
     exact (areas_ok β1 w hw1 b1).mono (fun e w' ⟨he, hw'⟩ => ⟨he, st_mask [true, true, true] rfl (back _ _ hw')⟩)
    refine q_val (v := .pointer (some ⟨b4, 0, none⟩)) rfl rfl rfl (e_fieldPt (b := b4) (o := 0) rfl tf48) ?_
    refine q_val (v := Nx (epochF k.head)) rfl rfl rfl (e_load1 tf25 (v := Nx (epochF k.head)) rfl (k_pt 0 (cs := #[Nx (epochF k.head), .int .i64 (0), .slice none 0 0, .slice none 0 0, .int .i64 (0)]) (vs := [Nx (epochF k.head)]) rfl rfl)) ?_
    refine q_val (v := .int .i64 (0)) rfl rfl rfl (ev_eq (by rw [hpar]; rfl) (e_rem (a := ((epochF k.head : Nat) : Int)) (b := (2 : Int)) rfl rfl (by decide) (nat_tmod _ 2))) ?_
    refine q_val (v := .pointer (some ⟨b1, 1, none⟩)) rfl rfl rfl (e_index_a (cs := #[.pointer (some ⟨b1, 1, none⟩), .pointer (some ⟨b1, 2, none⟩)]) (k := 0) rfl rfl tf28 rfl (by decide) tf49) ?_
    refine q_val (v := .pointer (some ⟨b1, 1, none⟩)) rfl rfl rfl (e_nil (a := ⟨b1, 1, none⟩) rfl) ?_
    refine q_val (v := .slice vaa (k.a.length) (vac)) rfl rfl rfl (e_load1 tf21 (v := .slice vaa (k.a.length) (vac)) rfl (k_pt 2 (cs := #[.slice vha (k.head.length) (vhc), .slice vaa (k.a.length) (vac), .slice vba (k.b.length) (vbc), Ix (k.power)]) (vs := [.slice vaa (k.a.length) (vac)]) rfl rfl)) ?_
    refine q_val (v := .slice vaa (k.a.length) (vac)) rfl rfl rfl (e_assign) ?_
    refine q_nil ?_
    exact f_cut ⟨_, _, _, area_even (k := k) hpar, by unfold KS.okP at hok; omega, (⟨⟨_, _, rfl, val, vam, vae⟩⟩ : Sl U8R _ _ k.a), ⟨rfl, rfl, rfl⟩, rfl⟩
   ·
    refine c_quiet (by kernel_rfl) (by kernel_rfl) ?_
    refine q_call (v := .agg #[.pointer (some ⟨b1, 1, none⟩), .pointer (some ⟨b1, 2, none⟩)]) rfl rfl rfl (cl_value (fst := []) (cap := []) (vs := [.pointer (some ⟨b1, 0, none⟩)]) (all := [.pointer (some ⟨b1, 0, none⟩)]) tf46 rfl rfl rfl) (fun w hw => ?_) ?_
    ·obtain ⟨β1, sb, kn, hw1, back⟩ := St.frame_all hw
     exact (areas_ok β1 w hw1 b1).mono (fun e w' ⟨he, hw'⟩ => ⟨he, st_mask [true, true, true] rfl (back _ _ hw')⟩)
    refine q_val (v := .pointer (some ⟨b4, 0, none⟩)) rfl rfl rfl (e_fieldPt (b := b4) (o := 0) rfl tf48) ?_
    refine q_val (v := Nx (epochF k.head)) rfl rfl rfl (e_load1 tf25 (v := Nx (epochF k.head)) rfl (k_pt 0 (cs := #[Nx (epochF k.head), .int .i64 (0), .slice none 0 0, .slice none 0 0, .int .i64 (0)]) (vs := [Nx (epochF k.head)]) rfl rfl)) ?_
    refine q_val (v := .int .i64 (1)) rfl rfl rfl (ev_eq (by rw [hpar]; rfl) (e_rem (a := ((epochF k.head : Nat) : Int)) (b := (2 : Int)) rfl rfl (by decide) (nat_tmod _ 2))) ?_
    refine q_val (v := .pointer (some ⟨b1, 2, none⟩)) rfl rfl rfl (e_index_a (cs := #[.pointer (some ⟨b1, 1, none⟩), .pointer (some ⟨b1, 2, none⟩)]) (k := 1) rfl rfl tf28 rfl (by decide) tf49) ?_
    refine q_val (v := .pointer (some ⟨b1, 2, none⟩)) rfl rfl rfl (e_nil (a := ⟨b1, 2, none⟩) rfl) ?_
    refine q_val (v := .slice vba (k.b.length) (vbc)) rfl rfl rfl (e_load1 tf21 (v := .slice vba (k.b.length) (vbc)) rfl (k_pt 2 (cs := #[.slice vha (k.head.length) (vhc), .slice vaa (k.a.length) (vac), .slice vba (k.b.length) (vbc), Ix (k.power)]) (vs := [.slice vba (k.b.length) (vbc)]) rfl rfl)) ?_
    refine q_val (v := .slice vba (k.b.length) (vbc)) rfl rfl rfl (e_assign) ?_
    refine q_nil ?_
    exact f_cut ⟨_, _, _, area_odd (k := k) hpar, by unfold KS.okP at hok; omega, (⟨⟨_, _, rfl, vbl, vbm, vbe⟩⟩ : Sl U8R _ _ k.b), ⟨rfl, rfl, rfl⟩, rfl⟩
  rintro f0 L0 ⟨ar, aa, ac, har, hl4, hasl, ⟨hs2, hs4, hs5⟩, hL⟩
  subst L0
  refine rebase (d := 2) hs2 ?_
  refine rebase (d := 4) hs4 ?_
  refine rebase (d := 5) hs5 ?_
  obtain ⟨_, hal, ham, hae⟩ := hasl.parts
  refine c_seq ?_
  refine c_seq ?_
  refine c_region ?_
  refine l_val (v := .pointer (some ⟨b4, 0, none⟩)) rfl rfl rfl (e_fieldPt (b := b4) (o := 0) rfl tf48) ?_
  refine l_val (v := Nx (epochF k.head)) rfl rfl rfl (e_load1 tf25 (v := Nx (epochF k.head)) rfl (k_pt 0 (cs := #[Nx (epochF k.head), .int .i64 (0), .slice none 0 0, .slice none 0 0, .int .i64 (0)]) (vs := [Nx (epochF k.head)]) rfl rfl)) ?_
  refine l_val (v := .bool (decide ((0 : Int) < ((epochF k.head : Nat) : Int)))) rfl rfl rfl (e_gtr (a := ((epochF k.head : Nat) : Int)) (b := (0 : Int)) rfl rfl) ?_
  refine l_nil ?_
  refine f_then ?_
  refine c_if ((0 : Int) < ((epochF k.head : Nat) : Int)) rfl (fun hc5 => ?_) (fun hc5 => ?_)
  ·
   refine c_seq ?_
   refine c_region ?_
   refine l_val (v := .pointer (some ⟨b4, 0, none⟩)) rfl rfl rfl (e_fieldPt (b := b4) (o := 0) rfl tf48) ?_
   refine l_val (v := Nx (epochF k.head)) rfl rfl rfl (e_load1 tf25 (v := Nx (epochF k.head)) rfl (k_pt 0 (cs := #[Nx (epochF k.head), .int .i64 (0), .slice none 0 0, .slice none 0 0, .int .i64 (0)]) (vs := [Nx (epochF k.head)]) rfl rfl)) ?_
   refine l_val (v := .slice aa (ar.length) (ac)) rfl rfl rfl (e_move) ?_
   refine l_call rfl rfl rfl (cl_value (fst := []) (cap := []) (vs := [Nx (epochF k.head), .slice aa (ar.length) (ac)]) (all := [Nx (epochF k.head), .slice aa (ar.length) (ac)]) tf61 rfl rfl rfl) ?_
   intro w hw
   obtain ⟨β1, sb, kn, hw1, back⟩ := St.frame_all hw
   refine (record_ok β1 w hw1 ((epochF k.head : Nat) : Int) ar aa ac (by omega) (by omega) (Elems.mono _ _ _ _ _ sb hae)).mono ?_
   rintro e w' ⟨rfl, hw'⟩
   refine ⟨_, rfl, _, back _ _ hw', ?_⟩
   clear hw hw1 hw' back kn sb
   refine l_val (v := .tuple #[Nx (recN ar), .slice (recA aa ac ar) ((recP ar).length) ((recC ac ar)), .bool (recB ((epochF k.head : Nat) : Int) ar)]) rfl rfl rfl (e_move) ?_
   refine l_val (v := Nx (recN ar)) rfl rfl rfl (e_extract (vs := #[Nx (recN ar), .slice (recA aa ac ar) ((recP ar).length) ((recC ac ar)), .bool (recB ((epochF k.head : Nat) : Int) ar)]) rfl rfl) ?_
   refine l_val (v := .slice (recA aa ac ar) ((recP ar).length) ((recC ac ar))) rfl rfl rfl (e_extract (vs := #[Nx (recN ar), .slice (recA aa ac ar) ((recP ar).length) ((recC ac ar)), .bool (recB ((epochF k.head : Nat) : Int) ar)]) rfl rfl) ?_
   refine l_val (v := .bool (recB ((epochF k.head : Nat) : Int) ar)) rfl rfl rfl (e_extract (vs := #[Nx (recN ar), .slice (recA aa ac ar) ((recP ar).length) ((recC ac ar)), .bool (recB ((epochF k.head : Nat) : Int) ar)]) rfl rfl) ?_
   refine l_val (v := Nx (recN ar)) rfl rfl rfl (e_assign) ?_
   refine l_val (v := .slice (recA aa ac ar) ((recP ar).length) ((recC ac ar))) rfl rfl rfl (e_assign) ?_
   refine l_val (v := .bool (recB ((epochF k.head : Nat) : Int) ar)) rfl rfl rfl (e_assign) ?_
   refine l_nil ?_
   refine f_then ?_
   refine c_seq ?_
   refine c_seq ?_
   refine c_region ?_
   refine l_val (v := .bool (recB ((epochF k.head : Nat) : Int) ar)) rfl rfl rfl (e_move) ?_
   refine l_val (v := .bool (!(recB ((epochF k.head : Nat) : Int) ar))) rfl rfl rfl (e_not rfl) ?_
   refine l_nil ?_
   refine f_then ?_
   refine c_ifb (!(recB ((epochF k.head : Nat) : Int) ar)) rfl (fun hc6 => ?_) (fun hc6 => ?_)
   ·
    refine c_seq ?_
    refine c_region ?_
    refine l_val (v := .agg #[.int .i64 (0), .int .i64 (0), .slice none 0 0, .slice none 0 0, .int .i64 (0)]) rfl rfl rfl (e_build tf55 tf58 (vs := []) (cells := #[.int .i64 (0), .int .i64 (0), .slice none 0 0, .slice none 0 0, .int .i64 (0)]) rfl rfl) ?_
    refine l_mu rfl rfl (m_store 1 tf59 (b := b2) (o := 0) (T := 109) (cs := #[.int .i64 (0), .int .i64 (0), .slice none 0 0, .slice none 0 0, .int .i64 (0)]) (cs' := #[.int .i64 (0), .int .i64 (0), .slice none 0 0, .slice none 0 0, .int .i64 (0)]) (v := .agg #[.int .i64 (0), .int .i64 (0), .slice none 0 0, .slice none 0 0, .int .i64 (0)]) rfl rfl rfl rfl rfl rfl rfl) ?_
    refine l_val (v := .int .i64 (311)) rfl rfl rfl (e_assign) ?_
    refine l_nil ?_
    refine f_then ?_
    refine c_ret ?_
    refine f_then_ret ?_
    refine f_then_ret ?_
    refine retG (l := [.cell 2 109, .tmp 3]) (m := [.agg #[.int .i64 (0), .int .i64 (0), .slice none 0 0, .slice none 0 0, .int .i64 (0)], .int .i64 (311)]) (v := .tuple #[.agg #[.int .i64 (0), .int .i64 (0), .slice none 0 0, .slice none 0 0, .int .i64 (0)], .int .i64 (311)]) Tryz.results45 ⟨rd_cell tf59 (cs := [.int .i64 (0), .int .i64 (0), .slice none 0 0, .slice none 0 0, .int .i64 (0)]) rfl (k_pt 1 (cs := #[.int .i64 (0), .int .i64 (0), .slice none 0 0, .slice none 0 0, .int .i64 (0)]) (vs := [.int .i64 (0), .int .i64 (0), .slice none 0 0, .slice none 0 0, .int .i64 (0)]) rfl rfl) rfl, rd_tmp (v := .int .i64 (311)) rfl, trivial⟩ rfl ?_
    intro w hw
    exact .inr (.inl ⟨rfl, hok, read_none har (by omega) (by simpa using hc6), st_mask [false, false, false] rfl hw⟩)
   ·
    refine c_skip ?_
    refine f_then ?_
    have hrb0 : recB ((epochF k.head : Nat) : Int) ar = true := by simpa using hc6
    have hrl0 := recP_len hrb0
    have hrN0 := recN_small (xs := ar)
    have hrP0 := recP_small (xs := ar)
    refine c_region ?_
    refine l_val (v := Nx (recN ar)) rfl rfl rfl (e_move) ?_
    refine l_val (v := .slice (recA aa ac ar) ((recP ar).length) ((recC ac ar))) rfl rfl rfl (e_move) ?_
    refine l_call rfl rfl rfl (cl_value (fst := []) (cap := []) (vs := [.slice (recA aa ac ar) ((recP ar).length) ((recC ac ar))]) (all := [.slice (recA aa ac ar) ((recP ar).length) ((recC ac ar))]) tf62 rfl rfl rfl) ?_
    intro w hw
    obtain ⟨β1, sb, kn, hw1, back⟩ := St.frame_all hw
    refine (clone_ok β1 w hw1 (recP ar) _ (by omega) (Sl.mono _ _ _ _ _ sb (rec_sl (by omega) (by omega) hae))).mono ?_
    rintro e w' ⟨p7, c8, rfl, hw'⟩
    refine ⟨_, rfl, _, back _ _ hw', ?_⟩
    clear hw hw1 hw' back kn sb
    refine l_val (v := .slice (recA aa ac ar) ((recP ar).length) ((recC ac ar))) rfl rfl rfl (e_move) ?_
    refine l_val (v := Nx ((recP ar).length)) rfl rfl rfl (e_len (a := (recA aa ac ar)) (n := (recP ar).length) (c := (recC ac ar)) rfl tf11) ?_
    refine l_val (v := Nx (24 + ((recP ar).length))) rfl rfl rfl (e_add (a := (24 : Int)) (b := (((recP ar).length : Nat) : Int)) rfl rfl (i64n (by omega) (by omega))) ?_
    refine l_val (v := .pointer (some ⟨b4, 1, none⟩)) rfl rfl rfl (e_fieldPt (b := b4) (o := 0) rfl tf53) ?_
    refine l_mu rfl rfl (m_store 1 tf25 (b := b4) (o := 1) (T := 109) (cs := #[Nx (epochF k.head), .int .i64 (0), .slice none 0 0, .slice none 0 0, .int .i64 (0)]) (cs' := #[Nx (epochF k.head), Nx (recN ar), .slice none 0 0, .slice none 0 0, .int .i64 (0)]) (v := Nx (recN ar)) rfl rfl rfl rfl rfl rfl rfl) ?_
    refine l_val (v := .pointer (some ⟨b4, 2, none⟩)) rfl rfl rfl (e_fieldPt (b := b4) (o := 0) rfl tf63) ?_
    refine l_mu rfl rfl (m_store 1 tf21 (b := b4) (o := 2) (T := 109) (cs := #[Nx (epochF k.head), Nx (recN ar), .slice none 0 0, .slice none 0 0, .int .i64 (0)]) (cs' := #[Nx (epochF k.head), Nx (recN ar), .slice p7 ((recP ar)).length c8, .slice none 0 0, .int .i64 (0)]) (v := .slice p7 ((recP ar)).length c8) rfl rfl rfl rfl rfl rfl rfl) ?_
    refine l_val (v := .pointer (some ⟨b4, 4, none⟩)) rfl rfl rfl (e_fieldPt (b := b4) (o := 0) rfl tf50) ?_
    refine l_mu rfl rfl (m_store 1 tf25 (b := b4) (o := 4) (T := 109) (cs := #[Nx (epochF k.head), Nx (recN ar), .slice p7 ((recP ar)).length c8, .slice none 0 0, .int .i64 (0)]) (cs' := #[Nx (epochF k.head), Nx (recN ar), .slice p7 ((recP ar)).length c8, .slice none 0 0, Nx (24 + ((recP ar).length))]) (v := Nx (24 + ((recP ar).length))) rfl rfl rfl rfl rfl rfl rfl) ?_
    refine l_nil ?_
    refine f_then ?_
    refine c_block ?_
    refine c_emp (r := recsR 27 none 0 []) (recs_nil _ _) ?_
    refine c_loop (fun (x_ : Nat × List Bs × Option Addr × Nat) (f : Fm) (L : List Res) => match x_ with | (fu, rs, pr, cr) => (f 2 = .pointer (some ⟨b2, 0, none⟩) ∧ f 4 = .pointer (some ⟨b4, 0, none⟩) ∧ f 5 = .slice aa (ar.length) (ac)) ∧ L = [recsR 27 pr cr rs, row (.slice p7 ((recP ar)).length c8) 5 1 (((recP ar)).length) (BX (recP ar)), pt b4 (.cells #[Nx (epochF k.head), Nx ((recN ar) + rs.length), .slice p7 ((recP ar)).length c8, .slice pr (rs).length cr, Nx ((24 + (recP ar).length) + sizes rs)] 109), pt b2 (.cells #[.int .i64 (0), .int .i64 (0), .slice none 0 0, .slice none 0 0, .int .i64 (0)] 109), pt b1 (.cells #[.slice vha (k.head.length) (vhc), .slice vaa (k.a.length) (vac), .slice vba (k.b.length) (vbc), Ix (k.power)] 29)] ∧ (((ar.drop ((24 + (recP ar).length) + sizes rs)).length < fu) ∧ (24 + (recP ar).length) + sizes rs ≤ ar.length ∧ rs ++ parse ((epochF k.head : Nat) : Int) fu ((recN ar) + rs.length) (ar.drop ((24 + (recP ar).length) + sizes rs)) = (recsF (epochF k.head) (recN ar) (ar.drop (24 + (recP ar).length))))) (fun (x_ : Nat × List Bs × Option Addr × Nat) => match x_ with | (fu, rs, pr, cr) => fu) (((ar.drop (24 + (recP ar).length)).length + 1), [], none, 0) ?_ ?_
    ·exact ⟨⟨rfl, rfl, rfl⟩, (by show [recsR 27 none 0 [], row (.slice p7 ((recP ar)).length c8) 5 1 (((recP ar)).length) (BX (recP ar)), pt b4 (.cells #[Nx (epochF k.head), Nx (recN ar), .slice p7 ((recP ar)).length c8, .slice none 0 0, Nx (24 + ((recP ar).length))] 109), pt b2 (.cells #[.int .i64 (0), .int .i64 (0), .slice none 0 0, .slice none 0 0, .int .i64 (0)] 109), pt b1 (.cells #[.slice vha (k.head.length) (vhc), .slice vaa (k.a.length) (vac), .slice vba (k.b.length) (vbc), Ix (k.power)] 29)] = _; simp only [sizes, List.length_nil, Nat.add_zero, Nat.zero_add]; try rfl), ⟨by simp [sizes], by simp only [sizes]; omega, by simp [sizes, recsF]⟩⟩
    rintro ⟨fu, rs, pr, cr⟩ f0 L0 ⟨⟨hs2, hs4, hs5⟩, hL, ⟨hfu, hle, hrs⟩⟩
    subst L0
    refine rebase (d := 2) hs2 ?_
    refine rebase (d := 4) hs4 ?_
    refine rebase (d := 5) hs5 ?_
    clear hs2 hs4 hs5
    obtain ⟨f, rfl⟩ : ∃ f, fu = f + 1 := ⟨fu - 1, by omega⟩
    have hsg := sizes_ge rs
    refine c_block ?_
    refine c_seq ?_
    refine c_quiet (by kernel_rfl) (by kernel_rfl) ?_
    refine q_val (v := .pointer (some ⟨b4, 0, none⟩)) rfl rfl rfl (e_fieldPt (b := b4) (o := 0) rfl tf48) ?_
    refine q_val (v := Nx (epochF k.head)) rfl rfl rfl (e_load1 tf25 (v := Nx (epochF k.head)) rfl (k_pt 2 (cs := #[Nx (epochF k.head), Nx ((recN ar) + rs.length), .slice p7 ((recP ar)).length c8, .slice pr (rs).length cr, Nx ((24 + (recP ar).length) + sizes rs)]) (vs := [Nx (epochF k.head)]) rfl rfl)) ?_
    refine q_val (v := .slice aa (ar.length) (ac)) rfl rfl rfl (e_move) ?_
    refine q_val (v := .pointer (some ⟨b4, 4, none⟩)) rfl rfl rfl (e_fieldPt (b := b4) (o := 0) rfl tf50) ?_
    refine q_val (v := Nx ((24 + (recP ar).length) + sizes rs)) rfl rfl rfl (e_load1 tf25 (v := Nx ((24 + (recP ar).length) + sizes rs)) rfl (k_pt 2 (cs := #[Nx (epochF k.head), Nx ((recN ar) + rs.length), .slice p7 ((recP ar)).length c8, .slice pr (rs).length cr, Nx ((24 + (recP ar).length) + sizes rs)]) (vs := [Nx ((24 + (recP ar).length) + sizes rs)]) rfl rfl)) ?_
    obtain ⟨zs9, hz10⟩ : ∃ zs, zs = (ar.drop ((24 + (recP ar).length) + sizes rs)) := ⟨_, rfl⟩
    have zl11 : zs9.length = (ar).length - ((24 + (recP ar).length) + sizes rs) := by rw [hz10]; simp; try omega
    have ze12 := (Elems.drop (cap := ac) ((24 + (recP ar).length) + sizes rs) (by first | omega | (simp; omega)) hae)
    rw [← hz10] at ze12
    refine q_val (v := .slice (adv aa ac ((24 + (recP ar).length) + sizes rs) 1) (zs9.length) ((ac - ((24 + (recP ar).length) + sizes rs)))) rfl rfl rfl (ev_eq (by rw [show zs9.length = ar.length - ((24 + (recP ar).length) + sizes rs) by omega]) (e_slice_lo (a := aa) (len := ar.length) (cap := ac) (l := (24 + (recP ar).length) + sizes rs) tf12 rfl rfl (by omega))) ?_
    refine q_call (v := .tuple #[Nx (recN zs9), .slice (recA (adv aa ac ((24 + (recP ar).length) + sizes rs) 1) (ac - ((24 + (recP ar).length) + sizes rs)) zs9) ((recP zs9).length) ((recC (ac - ((24 + (recP ar).length) + sizes rs)) zs9)), .bool (recB ((epochF k.head : Nat) : Int) zs9)]) rfl rfl rfl (cl_value (fst := []) (cap := []) (vs := [Nx (epochF k.head), .slice (adv aa ac ((24 + (recP ar).length) + sizes rs) 1) (zs9.length) ((ac - ((24 + (recP ar).length) + sizes rs)))]) (all := [Nx (epochF k.head), .slice (adv aa ac ((24 + (recP ar).length) + sizes rs) 1) (zs9.length) ((ac - ((24 + (recP ar).length) + sizes rs)))]) tf61 rfl rfl rfl) (fun w hw => ?_) ?_
    ·obtain ⟨β1, sb, kn, hw1, back⟩ := St.frame_all hw
     exact (record_ok β1 w hw1 ((epochF k.head : Nat) : Int) zs9 (adv aa ac ((24 + (recP ar).length) + sizes rs) 1) (ac - ((24 + (recP ar).length) + sizes rs)) (by omega) (by omega) (Elems.mono _ _ _ _ _ sb ze12)).mono (fun e w' ⟨he, hw'⟩ => ⟨he, st_mask [true, true, true, true, true] rfl (back _ _ hw')⟩)
    refine q_val (v := .tuple #[Nx (recN zs9), .slice (recA (adv aa ac ((24 + (recP ar).length) + sizes rs) 1) (ac - ((24 + (recP ar).length) + sizes rs)) zs9) ((recP zs9).length) ((recC (ac - ((24 + (recP ar).length) + sizes rs)) zs9)), .bool (recB ((epochF k.head : Nat) : Int) zs9)]) rfl rfl rfl (e_move) ?_
    refine q_val (v := Nx (recN zs9)) rfl rfl rfl (e_extract (vs := #[Nx (recN zs9), .slice (recA (adv aa ac ((24 + (recP ar).length) + sizes rs) 1) (ac - ((24 + (recP ar).length) + sizes rs)) zs9) ((recP zs9).length) ((recC (ac - ((24 + (recP ar).length) + sizes rs)) zs9)), .bool (recB ((epochF k.head : Nat) : Int) zs9)]) rfl rfl) ?_
    refine q_val (v := .slice (recA (adv aa ac ((24 + (recP ar).length) + sizes rs) 1) (ac - ((24 + (recP ar).length) + sizes rs)) zs9) ((recP zs9).length) ((recC (ac - ((24 + (recP ar).length) + sizes rs)) zs9))) rfl rfl rfl (e_extract (vs := #[Nx (recN zs9), .slice (recA (adv aa ac ((24 + (recP ar).length) + sizes rs) 1) (ac - ((24 + (recP ar).length) + sizes rs)) zs9) ((recP zs9).length) ((recC (ac - ((24 + (recP ar).length) + sizes rs)) zs9)), .bool (recB ((epochF k.head : Nat) : Int) zs9)]) rfl rfl) ?_
    refine q_val (v := .bool (recB ((epochF k.head : Nat) : Int) zs9)) rfl rfl rfl (e_extract (vs := #[Nx (recN zs9), .slice (recA (adv aa ac ((24 + (recP ar).length) + sizes rs) 1) (ac - ((24 + (recP ar).length) + sizes rs)) zs9) ((recP zs9).length) ((recC (ac - ((24 + (recP ar).length) + sizes rs)) zs9)), .bool (recB ((epochF k.head : Nat) : Int) zs9)]) rfl rfl) ?_
    refine q_val (v := Nx (recN zs9)) rfl rfl rfl (e_assign) ?_
    refine q_val (v := .slice (recA (adv aa ac ((24 + (recP ar).length) + sizes rs) 1) (ac - ((24 + (recP ar).length) + sizes rs)) zs9) ((recP zs9).length) ((recC (ac - ((24 + (recP ar).length) + sizes rs)) zs9))) rfl rfl rfl (e_assign) ?_
    refine q_val (v := .bool (recB ((epochF k.head : Nat) : Int) zs9)) rfl rfl rfl (e_assign) ?_
    refine q_nil ?_
    refine f_then ?_
    refine c_seq ?_
    refine c_seq ?_
    have hrN := recN_small (xs := zs9)
    have hrP := recP_small (xs := zs9)
    refine c_region ?_
    refine l_val (v := .bool (recB ((epochF k.head : Nat) : Int) zs9)) rfl rfl rfl (e_move) ?_
    refine l_val (v := .bool (!(recB ((epochF k.head : Nat) : Int) zs9))) rfl rfl rfl (e_not rfl) ?_
    refine l_val (v := .bool (!(recB ((epochF k.head : Nat) : Int) zs9))) rfl rfl rfl (e_move) ?_
    refine l_splitb (s := 63) (b := !(recB ((epochF k.head : Nat) : Int) zs9)) rfl (fun hg13 => ?_) (fun hg13 => ?_)
    ·
     refine l_skip rfl rfl rfl rfl rfl rfl ?_
     refine l_skip rfl rfl rfl rfl rfl rfl ?_
     refine l_skip rfl rfl rfl rfl rfl rfl ?_
     refine l_skip rfl rfl rfl rfl rfl rfl ?_
     refine l_val (v := .bool true) rfl rfl rfl (e_pick_t rfl) ?_
     refine l_val (v := .bool true) rfl rfl rfl (e_move) ?_
     refine l_skip rfl rfl rfl rfl rfl rfl ?_
     refine l_skip rfl rfl rfl rfl rfl rfl ?_
     refine l_val (v := .bool true) rfl rfl rfl (e_pick_t rfl) ?_
     refine l_nil ?_
     refine f_then ?_
     refine c_yes rfl ?_
     refine c_seq ?_
     refine c_region ?_
     refine l_val (v := .agg #[Nx (epochF k.head), Nx ((recN ar) + rs.length), .slice p7 ((recP ar)).length c8, .slice pr (rs).length cr, Nx ((24 + (recP ar).length) + sizes rs)]) rfl rfl rfl (e_load tf59 (cs := [Nx (epochF k.head), Nx ((recN ar) + rs.length), .slice p7 ((recP ar)).length c8, .slice pr (rs).length cr, Nx ((24 + (recP ar).length) + sizes rs)]) rfl (k_pt 2 (cs := #[Nx (epochF k.head), Nx ((recN ar) + rs.length), .slice p7 ((recP ar)).length c8, .slice pr (rs).length cr, Nx ((24 + (recP ar).length) + sizes rs)]) (vs := [Nx (epochF k.head), Nx ((recN ar) + rs.length), .slice p7 ((recP ar)).length c8, .slice pr (rs).length cr, Nx ((24 + (recP ar).length) + sizes rs)]) rfl rfl) rfl) ?_
     refine l_mu rfl rfl (m_store 3 tf59 (b := b2) (o := 0) (T := 109) (cs := #[.int .i64 (0), .int .i64 (0), .slice none 0 0, .slice none 0 0, .int .i64 (0)]) (cs' := #[Nx (epochF k.head), Nx ((recN ar) + rs.length), .slice p7 ((recP ar)).length c8, .slice pr (rs).length cr, Nx ((24 + (recP ar).length) + sizes rs)]) (v := .agg #[Nx (epochF k.head), Nx ((recN ar) + rs.length), .slice p7 ((recP ar)).length c8, .slice pr (rs).length cr, Nx ((24 + (recP ar).length) + sizes rs)]) rfl rfl rfl rfl rfl rfl rfl) ?_
     refine l_val (v := .int .i64 (0)) rfl rfl rfl (e_assign) ?_
     refine l_nil ?_
     refine f_then ?_
     refine c_ret ?_
     refine f_then_ret ?_
     refine f_block_ret ?_
     refine f_then_ret ?_
     refine f_block_ret ?_
     refine retG (l := [.cell 2 109, .tmp 3]) (m := [.agg #[Nx (epochF k.head), Nx ((recN ar) + rs.length), .slice p7 ((recP ar)).length c8, .slice pr (rs).length cr, Nx ((24 + (recP ar).length) + sizes rs)], .int .i64 (0)]) (v := .tuple #[.agg #[Nx (epochF k.head), Nx ((recN ar) + rs.length), .slice p7 ((recP ar)).length c8, .slice pr (rs).length cr, Nx ((24 + (recP ar).length) + sizes rs)], .int .i64 (0)]) Tryz.results45 ⟨rd_cell tf59 (cs := [Nx (epochF k.head), Nx ((recN ar) + rs.length), .slice p7 ((recP ar)).length c8, .slice pr (rs).length cr, Nx ((24 + (recP ar).length) + sizes rs)]) rfl (k_pt 3 (cs := #[Nx (epochF k.head), Nx ((recN ar) + rs.length), .slice p7 ((recP ar)).length c8, .slice pr (rs).length cr, Nx ((24 + (recP ar).length) + sizes rs)]) (vs := [Nx (epochF k.head), Nx ((recN ar) + rs.length), .slice p7 ((recP ar)).length c8, .slice pr (rs).length cr, Nx ((24 + (recP ar).length) + sizes rs)]) rfl rfl) rfl, rd_tmp (v := .int .i64 (0)) rfl, trivial⟩ rfl ?_
     intro w hw
     have hend := read_end hrs (by rw [← hz10]; rintro ⟨q1, q2, q3⟩; simp [q1] at hg13)
     have hw2 := st_mask [true, true, false, false, false] rfl (hw.perm (L' := [row (.slice p7 ((recP ar)).length c8) 5 1 (((recP ar)).length) (BX (recP ar)), recsR 27 pr cr rs, pt b4 (.cells #[Nx (epochF k.head), Nx ((recN ar) + rs.length), .slice p7 ((recP ar)).length c8, .slice pr (rs).length cr, Nx ((24 + (recP ar).length) + sizes rs)] 109), pt b2 (.cells #[Nx (epochF k.head), Nx ((recN ar) + rs.length), .slice p7 ((recP ar)).length c8, .slice pr (rs).length cr, Nx ((24 + (recP ar).length) + sizes rs)] 109), pt b1 (.cells #[.slice vha (k.head.length) (vhc), .slice vaa (k.a.length) (vac), .slice vba (k.b.length) (vbc), Ix (k.power)] 29)]) (by exact (perm_ix [1, 0, 2, 3, 4] 5 rfl (by kernel_rfl) (by kernel_rfl))))
     rw [hend] at hw2 ⊢
     exact .inr (.inr ⟨_, hok, read_some har (by omega) hrb0, _, _, _, _, rfl, hw2⟩)
    ·
     refine g_val (v := Nx (recN zs9)) rfl rfl rfl rfl rfl (e_move) ?_
     refine g_val (v := .pointer (some ⟨b4, 1, none⟩)) rfl rfl rfl rfl rfl (e_fieldPt (b := b4) (o := 0) rfl tf53) ?_
     refine g_val (v := Nx ((recN ar) + rs.length)) rfl rfl rfl rfl rfl (e_load1 tf25 (v := Nx ((recN ar) + rs.length)) rfl (k_pt 2 (cs := #[Nx (epochF k.head), Nx ((recN ar) + rs.length), .slice p7 ((recP ar)).length c8, .slice pr (rs).length cr, Nx ((24 + (recP ar).length) + sizes rs)]) (vs := [Nx ((recN ar) + rs.length)]) rfl rfl)) ?_
     refine g_val (v := .bool (decide (((recN zs9 : Nat) : Int) ≠ (((recN ar) + rs.length : Nat) : Int)))) rfl rfl rfl rfl rfl (e_neq (a := ((recN zs9 : Nat) : Int)) (b := (((recN ar) + rs.length : Nat) : Int)) rfl rfl) ?_
     refine l_val (v := .bool (decide (((recN zs9 : Nat) : Int) ≠ (((recN ar) + rs.length : Nat) : Int)))) rfl rfl rfl (e_pick_f rfl) ?_
     refine l_val (v := .bool (decide (((recN zs9 : Nat) : Int) ≠ (((recN ar) + rs.length : Nat) : Int)))) rfl rfl rfl (e_move) ?_
     refine l_split (s := 69) (p := ((recN zs9 : Nat) : Int) ≠ (((recN ar) + rs.length : Nat) : Int)) rfl (fun hg14 => ?_) (fun hg14 => ?_)
     ·
      refine l_skip rfl rfl rfl rfl rfl rfl ?_
      refine l_skip rfl rfl rfl rfl rfl rfl ?_
      refine l_val (v := .bool true) rfl rfl rfl (e_pick_t rfl) ?_
      refine l_nil ?_
      refine f_then ?_
      refine c_yes rfl ?_
      refine c_seq ?_
      refine c_region ?_
      refine l_val (v := .agg #[Nx (epochF k.head), Nx ((recN ar) + rs.length), .slice p7 ((recP ar)).length c8, .slice pr (rs).length cr, Nx ((24 + (recP ar).length) + sizes rs)]) rfl rfl rfl (e_load tf59 (cs := [Nx (epochF k.head), Nx ((recN ar) + rs.length), .slice p7 ((recP ar)).length c8, .slice pr (rs).length cr, Nx ((24 + (recP ar).length) + sizes rs)]) rfl (k_pt 2 (cs := #[Nx (epochF k.head), Nx ((recN ar) + rs.length), .slice p7 ((recP ar)).length c8, .slice pr (rs).length cr, Nx ((24 + (recP ar).length) + sizes rs)]) (vs := [Nx (epochF k.head), Nx ((recN ar) + rs.length), .slice p7 ((recP ar)).length c8, .slice pr (rs).length cr, Nx ((24 + (recP ar).length) + sizes rs)]) rfl rfl) rfl) ?_
      refine l_mu rfl rfl (m_store 3 tf59 (b := b2) (o := 0) (T := 109) (cs := #[.int .i64 (0), .int .i64 (0), .slice none 0 0, .slice none 0 0, .int .i64 (0)]) (cs' := #[Nx (epochF k.head), Nx ((recN ar) + rs.length), .slice p7 ((recP ar)).length c8, .slice pr (rs).length cr, Nx ((24 + (recP ar).length) + sizes rs)]) (v := .agg #[Nx (epochF k.head), Nx ((recN ar) + rs.length), .slice p7 ((recP ar)).length c8, .slice pr (rs).length cr, Nx ((24 + (recP ar).length) + sizes rs)]) rfl rfl rfl rfl rfl rfl rfl) ?_
      refine l_val (v := .int .i64 (0)) rfl rfl rfl (e_assign) ?_
      refine l_nil ?_
      refine f_then ?_
      refine c_ret ?_
      refine f_then_ret ?_
      refine f_block_ret ?_
      refine f_then_ret ?_
      refine f_block_ret ?_
      refine retG (l := [.cell 2 109, .tmp 3]) (m := [.agg #[Nx (epochF k.head), Nx ((recN ar) + rs.length), .slice p7 ((recP ar)).length c8, .slice pr (rs).length cr, Nx ((24 + (recP ar).length) + sizes rs)], .int .i64 (0)]) (v := .tuple #[.agg #[Nx (epochF k.head), Nx ((recN ar) + rs.length), .slice p7 ((recP ar)).length c8, .slice pr (rs).length cr, Nx ((24 + (recP ar).length) + sizes rs)], .int .i64 (0)]) Tryz.results45 ⟨rd_cell tf59 (cs := [Nx (epochF k.head), Nx ((recN ar) + rs.length), .slice p7 ((recP ar)).length c8, .slice pr (rs).length cr, Nx ((24 + (recP ar).length) + sizes rs)]) rfl (k_pt 3 (cs := #[Nx (epochF k.head), Nx ((recN ar) + rs.length), .slice p7 ((recP ar)).length c8, .slice pr (rs).length cr, Nx ((24 + (recP ar).length) + sizes rs)]) (vs := [Nx (epochF k.head), Nx ((recN ar) + rs.length), .slice p7 ((recP ar)).length c8, .slice pr (rs).length cr, Nx ((24 + (recP ar).length) + sizes rs)]) rfl rfl) rfl, rd_tmp (v := .int .i64 (0)) rfl, trivial⟩ rfl ?_
      intro w hw
      have hend := read_end hrs (by rw [← hz10]; rintro ⟨q1, q2, q3⟩; exact hg14 (by rw [q2]))
      have hw2 := st_mask [true, true, false, false, false] rfl (hw.perm (L' := [row (.slice p7 ((recP ar)).length c8) 5 1 (((recP ar)).length) (BX (recP ar)), recsR 27 pr cr rs, pt b4 (.cells #[Nx (epochF k.head), Nx ((recN ar) + rs.length), .slice p7 ((recP ar)).length c8, .slice pr (rs).length cr, Nx ((24 + (recP ar).length) + sizes rs)] 109), pt b2 (.cells #[Nx (epochF k.head), Nx ((recN ar) + rs.length), .slice p7 ((recP ar)).length c8, .slice pr (rs).length cr, Nx ((24 + (recP ar).length) + sizes rs)] 109), pt b1 (.cells #[.slice vha (k.head.length) (vhc), .slice vaa (k.a.length) (vac), .slice vba (k.b.length) (vbc), Ix (k.power)] 29)]) (by exact (perm_ix [1, 0, 2, 3, 4] 5 rfl (by kernel_rfl) (by kernel_rfl))))
      rw [hend] at hw2 ⊢
      exact .inr (.inr ⟨_, hok, read_some har (by omega) hrb0, _, _, _, _, rfl, hw2⟩)
     ·
      refine g_val (v := Nx (recN zs9)) rfl rfl rfl rfl rfl (e_move) ?_
      refine g_val (v := .bool (decide (((recN zs9 : Nat) : Int) = (4611686018427387904 : Int)))) rfl rfl rfl rfl rfl (e_eql (a := ((recN zs9 : Nat) : Int)) (b := (4611686018427387904 : Int)) rfl rfl) ?_
      refine l_val (v := .bool (decide (((recN zs9 : Nat) : Int) = (4611686018427387904 : Int)))) rfl rfl rfl (e_pick_f rfl) ?_
      refine l_nil ?_
      refine f_then ?_
      refine c_if (((recN zs9 : Nat) : Int) = (4611686018427387904 : Int)) rfl (fun hc15 => ?_) (fun hc15 => ?_)
      ·
       refine c_seq ?_
       refine c_region ?_
       refine l_val (v := .agg #[Nx (epochF k.head), Nx ((recN ar) + rs.length), .slice p7 ((recP ar)).length c8, .slice pr (rs).length cr, Nx ((24 + (recP ar).length) + sizes rs)]) rfl rfl rfl (e_load tf59 (cs := [Nx (epochF k.head), Nx ((recN ar) + rs.length), .slice p7 ((recP ar)).length c8, .slice pr (rs).length cr, Nx ((24 + (recP ar).length) + sizes rs)]) rfl (k_pt 2 (cs := #[Nx (epochF k.head), Nx ((recN ar) + rs.length), .slice p7 ((recP ar)).length c8, .slice pr (rs).length cr, Nx ((24 + (recP ar).length) + sizes rs)]) (vs := [Nx (epochF k.head), Nx ((recN ar) + rs.length), .slice p7 ((recP ar)).length c8, .slice pr (rs).length cr, Nx ((24 + (recP ar).length) + sizes rs)]) rfl rfl) rfl) ?_
       refine l_mu rfl rfl (m_store 3 tf59 (b := b2) (o := 0) (T := 109) (cs := #[.int .i64 (0), .int .i64 (0), .slice none 0 0, .slice none 0 0, .int .i64 (0)]) (cs' := #[Nx (epochF k.head), Nx ((recN ar) + rs.length), .slice p7 ((recP ar)).length c8, .slice pr (rs).length cr, Nx ((24 + (recP ar).length) + sizes rs)]) (v := .agg #[Nx (epochF k.head), Nx ((recN ar) + rs.length), .slice p7 ((recP ar)).length c8, .slice pr (rs).length cr, Nx ((24 + (recP ar).length) + sizes rs)]) rfl rfl rfl rfl rfl rfl rfl) ?_
       refine l_val (v := .int .i64 (0)) rfl rfl rfl (e_assign) ?_
       refine l_nil ?_
       refine f_then ?_
       refine c_ret ?_
       refine f_then_ret ?_
       refine f_block_ret ?_
       refine f_then_ret ?_
       refine f_block_ret ?_
       refine retG (l := [.cell 2 109, .tmp 3]) (m := [.agg #[Nx (epochF k.head), Nx ((recN ar) + rs.length), .slice p7 ((recP ar)).length c8, .slice pr (rs).length cr, Nx ((24 + (recP ar).length) + sizes rs)], .int .i64 (0)]) (v := .tuple #[.agg #[Nx (epochF k.head), Nx ((recN ar) + rs.length), .slice p7 ((recP ar)).length c8, .slice pr (rs).length cr, Nx ((24 + (recP ar).length) + sizes rs)], .int .i64 (0)]) Tryz.results45 ⟨rd_cell tf59 (cs := [Nx (epochF k.head), Nx ((recN ar) + rs.length), .slice p7 ((recP ar)).length c8, .slice pr (rs).length cr, Nx ((24 + (recP ar).length) + sizes rs)]) rfl (k_pt 3 (cs := #[Nx (epochF k.head), Nx ((recN ar) + rs.length), .slice p7 ((recP ar)).length c8, .slice pr (rs).length cr, Nx ((24 + (recP ar).length) + sizes rs)]) (vs := [Nx (epochF k.head), Nx ((recN ar) + rs.length), .slice p7 ((recP ar)).length c8, .slice pr (rs).length cr, Nx ((24 + (recP ar).length) + sizes rs)]) rfl rfl) rfl, rd_tmp (v := .int .i64 (0)) rfl, trivial⟩ rfl ?_
       intro w hw
       have hend := read_end hrs (by rw [← hz10]; rintro ⟨q1, q2, q3⟩; omega)
       have hw2 := st_mask [true, true, false, false, false] rfl (hw.perm (L' := [row (.slice p7 ((recP ar)).length c8) 5 1 (((recP ar)).length) (BX (recP ar)), recsR 27 pr cr rs, pt b4 (.cells #[Nx (epochF k.head), Nx ((recN ar) + rs.length), .slice p7 ((recP ar)).length c8, .slice pr (rs).length cr, Nx ((24 + (recP ar).length) + sizes rs)] 109), pt b2 (.cells #[Nx (epochF k.head), Nx ((recN ar) + rs.length), .slice p7 ((recP ar)).length c8, .slice pr (rs).length cr, Nx ((24 + (recP ar).length) + sizes rs)] 109), pt b1 (.cells #[.slice vha (k.head.length) (vhc), .slice vaa (k.a.length) (vac), .slice vba (k.b.length) (vbc), Ix (k.power)] 29)]) (by exact (perm_ix [1, 0, 2, 3, 4] 5 rfl (by kernel_rfl) (by kernel_rfl))))
       rw [hend] at hw2 ⊢
       exact .inr (.inr ⟨_, hok, read_some har (by omega) hrb0, _, _, _, _, rfl, hw2⟩)
      ·
       refine c_skip ?_
       refine f_then ?_
       refine c_seq ?_
       have hrb : recB ((epochF k.head : Nat) : Int) zs9 = true := by simpa using hg13
       have hrl := recP_len hrb
       refine c_any [⟨[], [], [0], [74], fun f => f 74 = .pointer (some ⟨b4, 3, none⟩)⟩, ⟨[0], [0], [], [75], fun f => f 75 = .slice pr (rs).length cr⟩, ⟨[], [], [1], [76], fun f => f 76 = .slice (recA (adv aa ac ((24 + (recP ar).length) + sizes rs) 1) (ac - ((24 + (recP ar).length) + sizes rs)) zs9) ((recP zs9).length) ((recC (ac - ((24 + (recP ar).length) + sizes rs)) zs9))⟩, ⟨[2], [2], [], [77], fun f => f 77 = .slice (sla (f 77)) ((recP zs9)).length (slc (f 77))⟩, ⟨[2, 3], [3], [], [78], fun f => f 78 = .slice (some ⟨(blk (f 78)), 0, none⟩) 1 1⟩, ⟨[0, 1, 2, 3, 4], [1, 4], [], [79], fun f => f 79 = .slice (sla (f 79)) ((rs ++ [(recP zs9)])).length (slc (f 79))⟩, ⟨[0, 1, 2, 3, 4, 5], [], [0], [80], fun f => f 80 = .pointer (some ⟨b4, 3, none⟩)⟩, ⟨[0, 1, 2, 3, 4, 5, 6], [6, 5], [], [], fun _ => True⟩] [⟨none, (some 5), [5], [], fun _ => recsR 27 pr cr rs⟩, ⟨none, none, [], [], fun _ => row (.slice p7 ((recP ar)).length c8) 5 1 (((recP ar)).length) (BX (recP ar))⟩, ⟨none, (some 7), [1, 7], [], fun _ => pt b4 (.cells #[Nx (epochF k.head), Nx ((recN ar) + rs.length), .slice p7 ((recP ar)).length c8, .slice pr (rs).length cr, Nx ((24 + (recP ar).length) + sizes rs)] 109)⟩, ⟨none, none, [], [], fun _ => pt b2 (.cells #[.int .i64 (0), .int .i64 (0), .slice none 0 0, .slice none 0 0, .int .i64 (0)] 109)⟩, ⟨none, none, [], [], fun _ => pt b1 (.cells #[.slice vha (k.head.length) (vhc), .slice vaa (k.a.length) (vac), .slice vba (k.b.length) (vbc), Ix (k.power)] 29)⟩, ⟨(some 3), (some 5), [5], [77], fun f => row (.slice (sla (f 77)) ((recP zs9)).length (slc (f 77))) 5 1 (((recP zs9)).length) (BX (recP zs9))⟩, ⟨(some 4), none, [5], [77, 78], fun f => pt (blk (f 78)) (.cells #[.slice (sla (f 77)) ((recP zs9)).length (slc (f 77))] 27)⟩, ⟨(some 5), none, [], [79], fun f => recsR 27 (sla (f 79)) (slc (f 79)) (rs ++ [(recP zs9)])⟩, ⟨(some 7), none, [], [79], fun f => pt b4 (.cells #[Nx (epochF k.head), Nx ((recN ar) + rs.length), .slice p7 ((recP ar)).length c8, .slice (sla (f 79)) ((rs ++ [(recP zs9)])).length (slc (f 79)), Nx ((24 + (recP ar).length) + sizes rs)] 109)⟩] [(4, .pointer (some ⟨b4, 0, none⟩)), (10, .slice (recA (adv aa ac ((24 + (recP ar).length) + sizes rs) 1) (ac - ((24 + (recP ar).length) + sizes rs)) zs9) ((recP zs9).length) ((recC (ac - ((24 + (recP ar).length) + sizes rs)) zs9))), (2, .pointer (some ⟨b2, 0, none⟩)), (5, .slice aa (ar.length) (ac))] [2, 0, 3, 1] [] (by kernel_rfl) (by kernel_rfl) (by kernel_rfl) (by kernel_rfl) rfl ⟨rfl, rfl, rfl, rfl, trivial⟩ ⟨?_, ?_, ?_, ?_, ?_, ?_, ?_, ?_, trivial⟩ ?_
       ·rintro f M - ⟨i0, -⟩
        have hs4 : f 4 = .pointer (some ⟨b4, 0, none⟩) := i0
        refine ob_start (L' := M) (by rfl) (up_cons rfl hs4) ?_
        refine l_val (v := .pointer (some ⟨b4, 3, none⟩)) rfl rfl rfl (e_fieldPt (b := b4) (o := 0) rfl tf64) ?_
        refine l_nil ?_
        exact f_owes_d (up_cons rfl hs4) rfl (List.Perm.refl _)
       ·rintro f M ⟨k0, -⟩ -
        have hs74 : f 74 = .pointer (some ⟨b4, 3, none⟩) := k0
        refine ob_start (L' := pt b4 (.cells #[Nx (epochF k.head), Nx ((recN ar) + rs.length), .slice p7 ((recP ar)).length c8, .slice pr (rs).length cr, Nx ((24 + (recP ar).length) + sizes rs)] 109) :: M) (by rfl) (up_cons rfl hs74) ?_
        refine l_val (v := .slice pr (rs).length cr) rfl rfl rfl (e_load1 tf65 (v := .slice pr (rs).length cr) rfl (k_pt 0 (cs := #[Nx (epochF k.head), Nx ((recN ar) + rs.length), .slice p7 ((recP ar)).length c8, .slice pr (rs).length cr, Nx ((24 + (recP ar).length) + sizes rs)]) (vs := [.slice pr (rs).length cr]) rfl rfl)) ?_
        refine l_nil ?_
        exact f_owes_d (up_cons rfl hs74) rfl (perm_front 0 rfl)
       ·rintro f M - ⟨i0, -⟩
        have hs10 : f 10 = .slice (recA (adv aa ac ((24 + (recP ar).length) + sizes rs) 1) (ac - ((24 + (recP ar).length) + sizes rs)) zs9) ((recP zs9).length) ((recC (ac - ((24 + (recP ar).length) + sizes rs)) zs9)) := i0
        refine ob_start (L' := M) (by rfl) (up_cons rfl hs10) ?_
        refine l_val (v := .slice (recA (adv aa ac ((24 + (recP ar).length) + sizes rs) 1) (ac - ((24 + (recP ar).length) + sizes rs)) zs9) ((recP zs9).length) ((recC (ac - ((24 + (recP ar).length) + sizes rs)) zs9))) rfl rfl rfl (e_move) ?_
        refine l_nil ?_
        exact f_owes_d (up_cons rfl hs10) rfl (List.Perm.refl _)
       ·rintro f M ⟨k0, -⟩ -
        have hs76 : f 76 = .slice (recA (adv aa ac ((24 + (recP ar).length) + sizes rs) 1) (ac - ((24 + (recP ar).length) + sizes rs)) zs9) ((recP zs9).length) ((recC (ac - ((24 + (recP ar).length) + sizes rs)) zs9)) := k0
        refine ob_start (L' := M) (by rfl) (up_cons rfl hs76) ?_
        refine l_call rfl rfl rfl (cl_value (fst := []) (cap := []) (vs := [.slice (recA (adv aa ac ((24 + (recP ar).length) + sizes rs) 1) (ac - ((24 + (recP ar).length) + sizes rs)) zs9) ((recP zs9).length) ((recC (ac - ((24 + (recP ar).length) + sizes rs)) zs9))]) (all := [.slice (recA (adv aa ac ((24 + (recP ar).length) + sizes rs) 1) (ac - ((24 + (recP ar).length) + sizes rs)) zs9) ((recP zs9).length) ((recC (ac - ((24 + (recP ar).length) + sizes rs)) zs9))]) tf62 rfl rfl rfl) ?_
        intro w hw
        obtain ⟨β1, sb, kn, hw1, back⟩ := St.frame_all hw
        refine (clone_ok β1 w hw1 (recP zs9) _ (by omega) (Sl.mono _ _ _ _ _ sb (rec_sl (by omega) (by omega) ze12))).mono ?_
        rintro e w' ⟨p18, c19, rfl, hw'⟩
        refine ⟨_, rfl, _, back _ _ hw', ?_⟩
        clear hw hw1 hw' back kn sb
        refine l_nil ?_
        exact f_owes_d (up_cons rfl hs76) rfl (perm_front 0 rfl)
       ·rintro f M ⟨k0, -⟩ -
        have hs77 : f 77 = .slice (sla (f 77)) ((recP zs9)).length (slc (f 77)) := k0
        refine ob_start (L' := M) (by rfl) (up_cons rfl hs77) ?_
        refine l_mv rfl rfl rfl (m_slices tf66 tf67 (vs := [(0, .slice (sla (f 77)) ((recP zs9)).length (slc (f 77)))]) (cells := #[.slice (sla (f 77)) ((recP zs9)).length (slc (f 77))]) rfl rfl rfl rfl) ?_
        rintro _ _ ⟨b21, rfl, rfl⟩
        refine l_nil ?_
        exact f_owes_d (up_cons rfl hs77) rfl (perm_front 0 rfl)
       ·rintro f M ⟨k0, k1, -⟩ -
        have hs75 : f 75 = .slice pr (rs).length cr := k0
        have hs78 : f 78 = .slice (some ⟨(blk (f 78)), 0, none⟩) 1 1 := k1
        refine ob_start (L' := recsR 27 pr cr rs :: row (.slice (sla (f 77)) ((recP zs9)).length (slc (f 77))) 5 1 (((recP zs9)).length) (BX (recP zs9)) :: pt (blk (f 78)) (.cells #[.slice (sla (f 77)) ((recP zs9)).length (slc (f 77))] 27) :: M) (by rfl) (up_cons (up_cons rfl hs75) hs78) ?_
        refine l_perm (L' := (recsR 27 pr cr rs :: row (.slice (sla (f 77)) ((recP zs9)).length (slc (f 77))) 5 1 (((recP zs9)).length) (BX (recP zs9)) :: pt (blk (f 78)) (.cells #[.slice (sla (f 77)) ((recP zs9)).length (slc (f 77))] 27) :: M)) (List.Perm.refl _) ?_
        refine l_mv rfl rfl rfl (m_appendRec (xs := rs) (bs := (recP zs9)) (b := (blk (f 78))) rfl tf66 tf68 rfl rfl (by omega) (by omega)) ?_
        rintro _ _ ⟨rp24, rc25, rfl, rfl⟩
        refine l_nil ?_
        exact f_owes_d (up_cons (up_cons rfl hs75) hs78) rfl ((perm_front 0 rfl).trans (perm_front 1 rfl))
       ·rintro f M - ⟨i0, -⟩
        have hs4 : f 4 = .pointer (some ⟨b4, 0, none⟩) := i0
        refine ob_start (L' := M) (by rfl) (up_cons rfl hs4) ?_
        refine l_val (v := .pointer (some ⟨b4, 3, none⟩)) rfl rfl rfl (e_fieldPt (b := b4) (o := 0) rfl tf64) ?_
        refine l_nil ?_
        exact f_owes_d (up_cons rfl hs4) rfl (List.Perm.refl _)
       ·rintro f M ⟨k0, k1, -⟩ -
        have hs80 : f 80 = .pointer (some ⟨b4, 3, none⟩) := k0
        have hs79 : f 79 = .slice (sla (f 79)) ((rs ++ [(recP zs9)])).length (slc (f 79)) := k1
        refine ob_start (L' := pt b4 (.cells #[Nx (epochF k.head), Nx ((recN ar) + rs.length), .slice p7 ((recP ar)).length c8, .slice pr (rs).length cr, Nx ((24 + (recP ar).length) + sizes rs)] 109) :: M) (by rfl) (up_cons (up_cons rfl hs80) hs79) ?_
        refine l_mu rfl rfl (m_store 0 tf65 (b := b4) (o := 3) (T := 109) (cs := #[Nx (epochF k.head), Nx ((recN ar) + rs.length), .slice p7 ((recP ar)).length c8, .slice pr (rs).length cr, Nx ((24 + (recP ar).length) + sizes rs)]) (cs' := #[Nx (epochF k.head), Nx ((recN ar) + rs.length), .slice p7 ((recP ar)).length c8, .slice (sla (f 79)) ((rs ++ [(recP zs9)])).length (slc (f 79)), Nx ((24 + (recP ar).length) + sizes rs)]) (v := .slice (sla (f 79)) ((rs ++ [(recP zs9)])).length (slc (f 79))) rfl rfl rfl rfl rfl rfl rfl) ?_
        refine l_nil ?_
        exact f_owes_n (up_cons (up_cons rfl hs80) hs79) trivial (perm_front 0 rfl)
       rintro fa26 ⟨-, -, -, -, -, -, -, -, -⟩ ⟨j0, j1, j2, j3, -⟩
       refine f_re (L' := [row (.slice p7 ((recP ar)).length c8) 5 1 (((recP ar)).length) (BX (recP ar)), pt b2 (.cells #[.int .i64 (0), .int .i64 (0), .slice none 0 0, .slice none 0 0, .int .i64 (0)] 109), pt b1 (.cells #[.slice vha (k.head.length) (vhc), .slice vaa (k.a.length) (vac), .slice vba (k.b.length) (vbc), Ix (k.power)] 29), pt (blk (fa26 78)) (.cells #[.slice (sla (fa26 77)) ((recP zs9)).length (slc (fa26 77))] 27), recsR 27 (sla (fa26 79)) (slc (fa26 79)) (rs ++ [(recP zs9)]), pt b4 (.cells #[Nx (epochF k.head), Nx ((recN ar) + rs.length), .slice p7 ((recP ar)).length c8, .slice (sla (fa26 79)) ((rs ++ [(recP zs9)])).length (slc (fa26 79)), Nx ((24 + (recP ar).length) + sizes rs)] 109)]) (by rfl) ?_
       refine f_rebase (d := 2) (v := .pointer (some ⟨b2, 0, none⟩)) j0 ?_
       refine f_rebase (d := 4) (v := .pointer (some ⟨b4, 0, none⟩)) j1 ?_
       refine f_rebase (d := 5) (v := .slice aa (ar.length) (ac)) j2 ?_
       refine f_rebase (d := 10) (v := .slice (recA (adv aa ac ((24 + (recP ar).length) + sizes rs) 1) (ac - ((24 + (recP ar).length) + sizes rs)) zs9) ((recP zs9).length) ((recC (ac - ((24 + (recP ar).length) + sizes rs)) zs9))) j3 ?_
       refine f_then ?_
       refine c_seq ?_
       refine c_region ?_
       refine l_val (v := .pointer (some ⟨b4, 1, none⟩)) rfl rfl rfl (e_fieldPt (b := b4) (o := 0) rfl tf53) ?_
       refine l_val (v := Nx ((recN ar) + rs.length)) rfl rfl rfl (e_load1 tf25 (v := Nx ((recN ar) + rs.length)) rfl (k_pt 5 (cs := #[Nx (epochF k.head), Nx ((recN ar) + rs.length), .slice p7 ((recP ar)).length c8, .slice (sla (fa26 79)) ((rs ++ [(recP zs9)])).length (slc (fa26 79)), Nx ((24 + (recP ar).length) + sizes rs)]) (vs := [Nx ((recN ar) + rs.length)]) rfl rfl)) ?_
       refine l_val (v := Nx (((recN ar) + rs.length) + 1)) rfl rfl rfl (e_add (a := (((recN ar) + rs.length : Nat) : Int)) (b := (1 : Int)) rfl rfl (i64n (by omega) (by omega))) ?_
       refine l_val (v := .pointer (some ⟨b4, 1, none⟩)) rfl rfl rfl (e_fieldPt (b := b4) (o := 0) rfl tf53) ?_
       refine l_mu rfl rfl (m_store 5 tf25 (b := b4) (o := 1) (T := 109) (cs := #[Nx (epochF k.head), Nx ((recN ar) + rs.length), .slice p7 ((recP ar)).length c8, .slice (sla (fa26 79)) ((rs ++ [(recP zs9)])).length (slc (fa26 79)), Nx ((24 + (recP ar).length) + sizes rs)]) (cs' := #[Nx (epochF k.head), Nx (((recN ar) + rs.length) + 1), .slice p7 ((recP ar)).length c8, .slice (sla (fa26 79)) ((rs ++ [(recP zs9)])).length (slc (fa26 79)), Nx ((24 + (recP ar).length) + sizes rs)]) (v := Nx (((recN ar) + rs.length) + 1)) rfl rfl rfl rfl rfl rfl rfl) ?_
       refine l_nil ?_
       refine f_then ?_
       refine c_region ?_
       refine l_val (v := .pointer (some ⟨b4, 4, none⟩)) rfl rfl rfl (e_fieldPt (b := b4) (o := 0) rfl tf50) ?_
       refine l_val (v := Nx ((24 + (recP ar).length) + sizes rs)) rfl rfl rfl (e_load1 tf25 (v := Nx ((24 + (recP ar).length) + sizes rs)) rfl (k_pt 5 (cs := #[Nx (epochF k.head), Nx (((recN ar) + rs.length) + 1), .slice p7 ((recP ar)).length c8, .slice (sla (fa26 79)) ((rs ++ [(recP zs9)])).length (slc (fa26 79)), Nx ((24 + (recP ar).length) + sizes rs)]) (vs := [Nx ((24 + (recP ar).length) + sizes rs)]) rfl rfl)) ?_
       refine l_val (v := .slice (recA (adv aa ac ((24 + (recP ar).length) + sizes rs) 1) (ac - ((24 + (recP ar).length) + sizes rs)) zs9) ((recP zs9).length) ((recC (ac - ((24 + (recP ar).length) + sizes rs)) zs9))) rfl rfl rfl (e_move) ?_
       refine l_val (v := Nx ((recP zs9).length)) rfl rfl rfl (e_len (a := (recA (adv aa ac ((24 + (recP ar).length) + sizes rs) 1) (ac - ((24 + (recP ar).length) + sizes rs)) zs9)) (n := (recP zs9).length) (c := (recC (ac - ((24 + (recP ar).length) + sizes rs)) zs9)) rfl tf11) ?_
       refine l_val (v := Nx (24 + ((recP zs9).length))) rfl rfl rfl (e_add (a := (24 : Int)) (b := (((recP zs9).length : Nat) : Int)) rfl rfl (i64n (by omega) (by omega))) ?_
       refine l_val (v := Nx (((24 + (recP ar).length) + sizes rs) + (24 + ((recP zs9).length)))) rfl rfl rfl (e_add (a := (((24 + (recP ar).length) + sizes rs : Nat) : Int)) (b := ((24 + ((recP zs9).length) : Nat) : Int)) rfl rfl (i64n (by omega) (by omega))) ?_
       refine l_val (v := .pointer (some ⟨b4, 4, none⟩)) rfl rfl rfl (e_fieldPt (b := b4) (o := 0) rfl tf50) ?_
       refine l_mu rfl rfl (m_store 5 tf25 (b := b4) (o := 4) (T := 109) (cs := #[Nx (epochF k.head), Nx (((recN ar) + rs.length) + 1), .slice p7 ((recP ar)).length c8, .slice (sla (fa26 79)) ((rs ++ [(recP zs9)])).length (slc (fa26 79)), Nx ((24 + (recP ar).length) + sizes rs)]) (cs' := #[Nx (epochF k.head), Nx (((recN ar) + rs.length) + 1), .slice p7 ((recP ar)).length c8, .slice (sla (fa26 79)) ((rs ++ [(recP zs9)])).length (slc (fa26 79)), Nx (((24 + (recP ar).length) + sizes rs) + (24 + ((recP zs9).length)))]) (v := Nx (((24 + (recP ar).length) + sizes rs) + (24 + ((recP zs9).length)))) rfl rfl rfl rfl rfl rfl rfl) ?_
       refine l_nil ?_
       refine f_block ?_
       have hnx := read_step hfu hle hrs (by rw [← hz10]; exact hrb) (by rw [← hz10]; omega) (by omega) (by rw [← hz10]; omega)
       rw [← hz10] at hnx
       refine f_perm (L' := [recsR 27 (sla (fa26 79)) (slc (fa26 79)) (rs ++ [(recP zs9)]), row (.slice p7 ((recP ar)).length c8) 5 1 (((recP ar)).length) (BX (recP ar)), pt b4 (.cells #[Nx (epochF k.head), Nx (((recN ar) + rs.length) + 1), .slice p7 ((recP ar)).length c8, .slice (sla (fa26 79)) ((rs ++ [(recP zs9)])).length (slc (fa26 79)), Nx (((24 + (recP ar).length) + sizes rs) + (24 + ((recP zs9).length)))] 109), pt b2 (.cells #[.int .i64 (0), .int .i64 (0), .slice none 0 0, .slice none 0 0, .int .i64 (0)] 109), pt b1 (.cells #[.slice vha (k.head.length) (vhc), .slice vaa (k.a.length) (vac), .slice vba (k.b.length) (vbc), Ix (k.power)] 29), pt (blk (fa26 78)) (.cells #[.slice (sla (fa26 77)) ((recP zs9)).length (slc (fa26 77))] 27)]) (perm_ix [4, 0, 5, 1, 2, 3] 6 rfl (by kernel_rfl) (by kernel_rfl)) ?_
       refine f_mask (L' := [recsR 27 (sla (fa26 79)) (slc (fa26 79)) (rs ++ [(recP zs9)]), row (.slice p7 ((recP ar)).length c8) 5 1 (((recP ar)).length) (BX (recP ar)), pt b4 (.cells #[Nx (epochF k.head), Nx (((recN ar) + rs.length) + 1), .slice p7 ((recP ar)).length c8, .slice (sla (fa26 79)) ((rs ++ [(recP zs9)])).length (slc (fa26 79)), Nx (((24 + (recP ar).length) + sizes rs) + (24 + ((recP zs9).length)))] 109), pt b2 (.cells #[.int .i64 (0), .int .i64 (0), .slice none 0 0, .slice none 0 0, .int .i64 (0)] 109), pt b1 (.cells #[.slice vha (k.head.length) (vhc), .slice vaa (k.a.length) (vac), .slice vba (k.b.length) (vbc), Ix (k.power)] 29)]) [true, true, true, true, true, false] rfl ?_
       exact f_cut ⟨(f, (rs ++ [(recP zs9)]), (sla (fa26 79)), (slc (fa26 79))), ⟨⟨rfl, rfl, rfl⟩, (by simp only [sizes_snoc, List.length_append, List.length_cons, List.length_nil, Nat.add_assoc]; try rfl), hnx⟩, (show f < f + 1 from Nat.lt_succ_self f)⟩
  ·
   refine c_skip ?_
   refine f_then ?_
   refine c_block ?_
   refine c_emp (r := recsR 27 none 0 []) (recs_nil _ _) ?_
   refine c_loop (fun (x_ : Nat × List Bs × Option Addr × Nat) (f : Fm) (L : List Res) => match x_ with | (fu, rs, pr, cr) => (f 2 = .pointer (some ⟨b2, 0, none⟩) ∧ f 4 = .pointer (some ⟨b4, 0, none⟩) ∧ f 5 = .slice aa (ar.length) (ac)) ∧ L = [recsR 27 pr cr rs, pt b4 (.cells #[Nx (epochF k.head), Nx (0 + rs.length), .slice none 0 0, .slice pr (rs).length cr, Nx (0 + sizes rs)] 109), pt b2 (.cells #[.int .i64 (0), .int .i64 (0), .slice none 0 0, .slice none 0 0, .int .i64 (0)] 109), pt b1 (.cells #[.slice vha (k.head.length) (vhc), .slice vaa (k.a.length) (vac), .slice vba (k.b.length) (vbc), Ix (k.power)] 29)] ∧ (((ar.drop (0 + sizes rs)).length < fu) ∧ 0 + sizes rs ≤ ar.length ∧ rs ++ parse ((epochF k.head : Nat) : Int) fu (0 + rs.length) (ar.drop (0 + sizes rs)) = (recsF (epochF k.head) 0 (ar.drop 0)))) (fun (x_ : Nat × List Bs × Option Addr × Nat) => match x_ with | (fu, rs, pr, cr) => fu) (((ar.drop 0).length + 1), [], none, 0) ?_ ?_
   ·exact ⟨⟨rfl, rfl, rfl⟩, (by show [recsR 27 none 0 [], pt b4 (.cells #[Nx (epochF k.head), .int .i64 (0), .slice none 0 0, .slice none 0 0, .int .i64 (0)] 109), pt b2 (.cells #[.int .i64 (0), .int .i64 (0), .slice none 0 0, .slice none 0 0, .int .i64 (0)] 109), pt b1 (.cells #[.slice vha (k.head.length) (vhc), .slice vaa (k.a.length) (vac), .slice vba (k.b.length) (vbc), Ix (k.power)] 29)] = _; simp only [sizes, List.length_nil, Nat.add_zero, Nat.zero_add]; try rfl), ⟨by simp [sizes], by simp only [sizes]; omega, by simp [sizes, recsF]⟩⟩
   rintro ⟨fu, rs, pr, cr⟩ f0 L0 ⟨⟨hs2, hs4, hs5⟩, hL, ⟨hfu, hle, hrs⟩⟩
   subst L0
   refine rebase (d := 2) hs2 ?_
   refine rebase (d := 4) hs4 ?_
   refine rebase (d := 5) hs5 ?_
   clear hs2 hs4 hs5
   obtain ⟨f, rfl⟩ : ∃ f, fu = f + 1 := ⟨fu - 1, by omega⟩
   have hsg := sizes_ge rs
   refine c_block ?_
   refine c_seq ?_
   refine c_quiet (by kernel_rfl) (by kernel_rfl) ?_
   refine q_val (v := .pointer (some ⟨b4, 0, none⟩)) rfl rfl rfl (e_fieldPt (b := b4) (o := 0) rfl tf48) ?_
   refine q_val (v := Nx (epochF k.head)) rfl rfl rfl (e_load1 tf25 (v := Nx (epochF k.head)) rfl (k_pt 1 (cs := #[Nx (epochF k.head), Nx (0 + rs.length), .slice none 0 0, .slice pr (rs).length cr, Nx (0 + sizes rs)]) (vs := [Nx (epochF k.head)]) rfl rfl)) ?_
   refine q_val (v := .slice aa (ar.length) (ac)) rfl rfl rfl (e_move) ?_
   refine q_val (v := .pointer (some ⟨b4, 4, none⟩)) rfl rfl rfl (e_fieldPt (b := b4) (o := 0) rfl tf50) ?_
   refine q_val (v := Nx (0 + sizes rs)) rfl rfl rfl (e_load1 tf25 (v := Nx (0 + sizes rs)) rfl (k_pt 1 (cs := #[Nx (epochF k.head), Nx (0 + rs.length), .slice none 0 0, .slice pr (rs).length cr, Nx (0 + sizes rs)]) (vs := [Nx (0 + sizes rs)]) rfl rfl)) ?_
   obtain ⟨zs27, hz28⟩ : ∃ zs, zs = (ar.drop (0 + sizes rs)) := ⟨_, rfl⟩
   have zl29 : zs27.length = (ar).length - (0 + sizes rs) := by rw [hz28]; simp; try omega
   have ze30 := (Elems.drop (cap := ac) (0 + sizes rs) (by first | omega | (simp; omega)) hae)
   rw [← hz28] at ze30
   refine q_val (v := .slice (adv aa ac (0 + sizes rs) 1) (zs27.length) ((ac - (0 + sizes rs)))) rfl rfl rfl (ev_eq (by rw [show zs27.length = ar.length - (0 + sizes rs) by omega]) (e_slice_lo (a := aa) (len := ar.length) (cap := ac) (l := 0 + sizes rs) tf12 rfl rfl (by omega))) ?_
   refine q_call (v := .tuple #[Nx (recN zs27), .slice (recA (adv aa ac (0 + sizes rs) 1) (ac - (0 + sizes rs)) zs27) ((recP zs27).length) ((recC (ac - (0 + sizes rs)) zs27)), .bool (recB ((epochF k.head : Nat) : Int) zs27)]) rfl rfl rfl (cl_value (fst := []) (cap := []) (vs := [Nx (epochF k.head), .slice (adv aa ac (0 + sizes rs) 1) (zs27.length) ((ac - (0 + sizes rs)))]) (all := [Nx (epochF k.head), .slice (adv aa ac (0 + sizes rs) 1) (zs27.length) ((ac - (0 + sizes rs)))]) tf61 rfl rfl rfl) (fun w hw => ?_) ?_
   ·obtain ⟨β1, sb, kn, hw1, back⟩ := St.frame_all hw
    exact (record_ok β1 w hw1 ((epochF k.head : Nat) : Int) zs27 (adv aa ac (0 + sizes rs) 1) (ac - (0 + sizes rs)) (by omega) (by omega) (Elems.mono _ _ _ _ _ sb ze30)).mono (fun e w' ⟨he, hw'⟩ => ⟨he, st_mask [true, true, true, true] rfl (back _ _ hw')⟩)
   refine q_val (v := .tuple #[Nx (recN zs27), .slice (recA (adv aa ac (0 + sizes rs) 1) (ac - (0 + sizes rs)) zs27) ((recP zs27).length) ((recC (ac - (0 + sizes rs)) zs27)), .bool (recB ((epochF k.head : Nat) : Int) zs27)]) rfl rfl rfl (e_move) ?_
   refine q_val (v := Nx (recN zs27)) rfl rfl rfl (e_extract (vs := #[Nx (recN zs27), .slice (recA (adv aa ac (0 + sizes rs) 1) (ac - (0 + sizes rs)) zs27) ((recP zs27).length) ((recC (ac - (0 + sizes rs)) zs27)), .bool (recB ((epochF k.head : Nat) : Int) zs27)]) rfl rfl) ?_
   refine q_val (v := .slice (recA (adv aa ac (0 + sizes rs) 1) (ac - (0 + sizes rs)) zs27) ((recP zs27).length) ((recC (ac - (0 + sizes rs)) zs27))) rfl rfl rfl (e_extract (vs := #[Nx (recN zs27), .slice (recA (adv aa ac (0 + sizes rs) 1) (ac - (0 + sizes rs)) zs27) ((recP zs27).length) ((recC (ac - (0 + sizes rs)) zs27)), .bool (recB ((epochF k.head : Nat) : Int) zs27)]) rfl rfl) ?_
   refine q_val (v := .bool (recB ((epochF k.head : Nat) : Int) zs27)) rfl rfl rfl (e_extract (vs := #[Nx (recN zs27), .slice (recA (adv aa ac (0 + sizes rs) 1) (ac - (0 + sizes rs)) zs27) ((recP zs27).length) ((recC (ac - (0 + sizes rs)) zs27)), .bool (recB ((epochF k.head : Nat) : Int) zs27)]) rfl rfl) ?_
   refine q_val (v := Nx (recN zs27)) rfl rfl rfl (e_assign) ?_
   refine q_val (v := .slice (recA (adv aa ac (0 + sizes rs) 1) (ac - (0 + sizes rs)) zs27) ((recP zs27).length) ((recC (ac - (0 + sizes rs)) zs27))) rfl rfl rfl (e_assign) ?_
   refine q_val (v := .bool (recB ((epochF k.head : Nat) : Int) zs27)) rfl rfl rfl (e_assign) ?_
   refine q_nil ?_
   refine f_then ?_
   refine c_seq ?_
   refine c_seq ?_
   have hrN := recN_small (xs := zs27)
   have hrP := recP_small (xs := zs27)
   refine c_region ?_
   refine l_val (v := .bool (recB ((epochF k.head : Nat) : Int) zs27)) rfl rfl rfl (e_move) ?_
   refine l_val (v := .bool (!(recB ((epochF k.head : Nat) : Int) zs27))) rfl rfl rfl (e_not rfl) ?_
   refine l_val (v := .bool (!(recB ((epochF k.head : Nat) : Int) zs27))) rfl rfl rfl (e_move) ?_
   refine l_splitb (s := 63) (b := !(recB ((epochF k.head : Nat) : Int) zs27)) rfl (fun hg31 => ?_) (fun hg31 => ?_)
   ·
    refine l_skip rfl rfl rfl rfl rfl rfl ?_
    refine l_skip rfl rfl rfl rfl rfl rfl ?_
    refine l_skip rfl rfl rfl rfl rfl rfl ?_
    refine l_skip rfl rfl rfl rfl rfl rfl ?_
    refine l_val (v := .bool true) rfl rfl rfl (e_pick_t rfl) ?_
    refine l_val (v := .bool true) rfl rfl rfl (e_move) ?_
    refine l_skip rfl rfl rfl rfl rfl rfl ?_
    refine l_skip rfl rfl rfl rfl rfl rfl ?_
    refine l_val (v := .bool true) rfl rfl rfl (e_pick_t rfl) ?_
    refine l_nil ?_
    refine f_then ?_
    refine c_yes rfl ?_
    refine c_seq ?_
    refine c_region ?_
    refine l_val (v := .agg #[Nx (epochF k.head), Nx (0 + rs.length), .slice none 0 0, .slice pr (rs).length cr, Nx (0 + sizes rs)]) rfl rfl rfl (e_load tf59 (cs := [Nx (epochF k.head), Nx (0 + rs.length), .slice none 0 0, .slice pr (rs).length cr, Nx (0 + sizes rs)]) rfl (k_pt 1 (cs := #[Nx (epochF k.head), Nx (0 + rs.length), .slice none 0 0, .slice pr (rs).length cr, Nx (0 + sizes rs)]) (vs := [Nx (epochF k.head), Nx (0 + rs.length), .slice none 0 0, .slice pr (rs).length cr, Nx (0 + sizes rs)]) rfl rfl) rfl) ?_
    refine l_mu rfl rfl (m_store 2 tf59 (b := b2) (o := 0) (T := 109) (cs := #[.int .i64 (0), .int .i64 (0), .slice none 0 0, .slice none 0 0, .int .i64 (0)]) (cs' := #[Nx (epochF k.head), Nx (0 + rs.length), .slice none 0 0, .slice pr (rs).length cr, Nx (0 + sizes rs)]) (v := .agg #[Nx (epochF k.head), Nx (0 + rs.length), .slice none 0 0, .slice pr (rs).length cr, Nx (0 + sizes rs)]) rfl rfl rfl rfl rfl rfl rfl) ?_
    refine l_val (v := .int .i64 (0)) rfl rfl rfl (e_assign) ?_
    refine l_nil ?_
    refine f_then ?_
    refine c_ret ?_
    refine f_then_ret ?_
    refine f_block_ret ?_
    refine f_then_ret ?_
    refine f_block_ret ?_
    refine retG (l := [.cell 2 109, .tmp 3]) (m := [.agg #[Nx (epochF k.head), Nx (0 + rs.length), .slice none 0 0, .slice pr (rs).length cr, Nx (0 + sizes rs)], .int .i64 (0)]) (v := .tuple #[.agg #[Nx (epochF k.head), Nx (0 + rs.length), .slice none 0 0, .slice pr (rs).length cr, Nx (0 + sizes rs)], .int .i64 (0)]) Tryz.results45 ⟨rd_cell tf59 (cs := [Nx (epochF k.head), Nx (0 + rs.length), .slice none 0 0, .slice pr (rs).length cr, Nx (0 + sizes rs)]) rfl (k_pt 2 (cs := #[Nx (epochF k.head), Nx (0 + rs.length), .slice none 0 0, .slice pr (rs).length cr, Nx (0 + sizes rs)]) (vs := [Nx (epochF k.head), Nx (0 + rs.length), .slice none 0 0, .slice pr (rs).length cr, Nx (0 + sizes rs)]) rfl rfl) rfl, rd_tmp (v := .int .i64 (0)) rfl, trivial⟩ rfl ?_
    intro w hw
    have hend := read_end hrs (by rw [← hz28]; rintro ⟨q1, q2, q3⟩; simp [q1] at hg31)
    have hw2 := st_mask [true, false, false, false] rfl hw
    rw [hend] at hw2 ⊢
    refine .inr (.inr ⟨_, hok, read_zero har (by omega), none, _, 0, _, (by rw [show epochF k.head = 0 by omega]; simp only [Nat.zero_add, Nat.add_zero]; rfl), ?_⟩)
    have hw3 := hw2.emp (row_nil 5 1 _)
    rw [show epochF k.head = 0 by omega] at hw3
    exact hw3
   ·
    refine g_val (v := Nx (recN zs27)) rfl rfl rfl rfl rfl (e_move) ?_
    refine g_val (v := .pointer (some ⟨b4, 1, none⟩)) rfl rfl rfl rfl rfl (e_fieldPt (b := b4) (o := 0) rfl tf53) ?_
    refine g_val (v := Nx (0 + rs.length)) rfl rfl rfl rfl rfl (e_load1 tf25 (v := Nx (0 + rs.length)) rfl (k_pt 1 (cs := #[Nx (epochF k.head), Nx (0 + rs.length), .slice none 0 0, .slice pr (rs).length cr, Nx (0 + sizes rs)]) (vs := [Nx (0 + rs.length)]) rfl rfl)) ?_
    refine g_val (v := .bool (decide (((recN zs27 : Nat) : Int) ≠ ((0 + rs.length : Nat) : Int)))) rfl rfl rfl rfl rfl (e_neq (a := ((recN zs27 : Nat) : Int)) (b := ((0 + rs.length : Nat) : Int)) rfl rfl) ?_
    refine l_val (v := .bool (decide (((recN zs27 : Nat) : Int) ≠ ((0 + rs.length : Nat) : Int)))) rfl rfl rfl (e_pick_f rfl) ?_
    refine l_val (v := .bool (decide (((recN zs27 : Nat) : Int) ≠ ((0 + rs.length : Nat) : Int)))) rfl rfl rfl (e_move) ?_
    refine l_split (s := 69) (p := ((recN zs27 : Nat) : Int) ≠ ((0 + rs.length : Nat) : Int)) rfl (fun hg32 => ?_) (fun hg32 => ?_)
    ·
     refine l_skip rfl rfl rfl rfl rfl rfl ?_
     refine l_skip rfl rfl rfl rfl rfl rfl ?_
     refine l_val (v := .bool true) rfl rfl rfl (e_pick_t rfl) ?_
     refine l_nil ?_
     refine f_then ?_
     refine c_yes rfl ?_
     refine c_seq ?_
     refine c_region ?_
     refine l_val (v := .agg #[Nx (epochF k.head), Nx (0 + rs.length), .slice none 0 0, .slice pr (rs).length cr, Nx (0 + sizes rs)]) rfl rfl rfl (e_load tf59 (cs := [Nx (epochF k.head), Nx (0 + rs.length), .slice none 0 0, .slice pr (rs).length cr, Nx (0 + sizes rs)]) rfl (k_pt 1 (cs := #[Nx (epochF k.head), Nx (0 + rs.length), .slice none 0 0, .slice pr (rs).length cr, Nx (0 + sizes rs)]) (vs := [Nx (epochF k.head), Nx (0 + rs.length), .slice none 0 0, .slice pr (rs).length cr, Nx (0 + sizes rs)]) rfl rfl) rfl) ?_
     refine l_mu rfl rfl (m_store 2 tf59 (b := b2) (o := 0) (T := 109) (cs := #[.int .i64 (0), .int .i64 (0), .slice none 0 0, .slice none 0 0, .int .i64 (0)]) (cs' := #[Nx (epochF k.head), Nx (0 + rs.length), .slice none 0 0, .slice pr (rs).length cr, Nx (0 + sizes rs)]) (v := .agg #[Nx (epochF k.head), Nx (0 + rs.length), .slice none 0 0, .slice pr (rs).length cr, Nx (0 + sizes rs)]) rfl rfl rfl rfl rfl rfl rfl) ?_
     refine l_val (v := .int .i64 (0)) rfl rfl rfl (e_assign) ?_
     refine l_nil ?_
     refine f_then ?_
     refine c_ret ?_
     refine f_then_ret ?_
     refine f_block_ret ?_
     refine f_then_ret ?_
     refine f_block_ret ?_
     refine retG (l := [.cell 2 109, .tmp 3]) (m := [.agg #[Nx (epochF k.head), Nx (0 + rs.length), .slice none 0 0, .slice pr (rs).length cr, Nx (0 + sizes rs)], .int .i64 (0)]) (v := .tuple #[.agg #[Nx (epochF k.head), Nx (0 + rs.length), .slice none 0 0, .slice pr (rs).length cr, Nx (0 + sizes rs)], .int .i64 (0)]) Tryz.results45 ⟨rd_cell tf59 (cs := [Nx (epochF k.head), Nx (0 + rs.length), .slice none 0 0, .slice pr (rs).length cr, Nx (0 + sizes rs)]) rfl (k_pt 2 (cs := #[Nx (epochF k.head), Nx (0 + rs.length), .slice none 0 0, .slice pr (rs).length cr, Nx (0 + sizes rs)]) (vs := [Nx (epochF k.head), Nx (0 + rs.length), .slice none 0 0, .slice pr (rs).length cr, Nx (0 + sizes rs)]) rfl rfl) rfl, rd_tmp (v := .int .i64 (0)) rfl, trivial⟩ rfl ?_
     intro w hw
     have hend := read_end hrs (by rw [← hz28]; rintro ⟨q1, q2, q3⟩; exact hg32 (by rw [q2]))
     have hw2 := st_mask [true, false, false, false] rfl hw
     rw [hend] at hw2 ⊢
     refine .inr (.inr ⟨_, hok, read_zero har (by omega), none, _, 0, _, (by rw [show epochF k.head = 0 by omega]; simp only [Nat.zero_add, Nat.add_zero]; rfl), ?_⟩)
     have hw3 := hw2.emp (row_nil 5 1 _)
     rw [show epochF k.head = 0 by omega] at hw3
     exact hw3
    ·
     refine g_val (v := Nx (recN zs27)) rfl rfl rfl rfl rfl (e_move) ?_
     refine g_val (v := .bool (decide (((recN zs27 : Nat) : Int) = (4611686018427387904 : Int)))) rfl rfl rfl rfl rfl (e_eql (a := ((recN zs27 : Nat) : Int)) (b := (4611686018427387904 : Int)) rfl rfl) ?_
     refine l_val (v := .bool (decide (((recN zs27 : Nat) : Int) = (4611686018427387904 : Int)))) rfl rfl rfl (e_pick_f rfl) ?_
     refine l_nil ?_
     refine f_then ?_
     refine c_if (((recN zs27 : Nat) : Int) = (4611686018427387904 : Int)) rfl (fun hc33 => ?_) (fun hc33 => ?_)
     ·
      refine c_seq ?_
      refine c_region ?_
      refine l_val (v := .agg #[Nx (epochF k.head), Nx (0 + rs.length), .slice none 0 0, .slice pr (rs).length cr, Nx (0 + sizes rs)]) rfl rfl rfl (e_load tf59 (cs := [Nx (epochF k.head), Nx (0 + rs.length), .slice none 0 0, .slice pr (rs).length cr, Nx (0 + sizes rs)]) rfl (k_pt 1 (cs := #[Nx (epochF k.head), Nx (0 + rs.length), .slice none 0 0, .slice pr (rs).length cr, Nx (0 + sizes rs)]) (vs := [Nx (epochF k.head), Nx (0 + rs.length), .slice none 0 0, .slice pr (rs).length cr, Nx (0 + sizes rs)]) rfl rfl) rfl) ?_
      refine l_mu rfl rfl (m_store 2 tf59 (b := b2) (o := 0) (T := 109) (cs := #[.int .i64 (0), .int .i64 (0), .slice none 0 0, .slice none 0 0, .int .i64 (0)]) (cs' := #[Nx (epochF k.head), Nx (0 + rs.length), .slice none 0 0, .slice pr (rs).length cr, Nx (0 + sizes rs)]) (v := .agg #[Nx (epochF k.head), Nx (0 + rs.length), .slice none 0 0, .slice pr (rs).length cr, Nx (0 + sizes rs)]) rfl rfl rfl rfl rfl rfl rfl) ?_
      refine l_val (v := .int .i64 (0)) rfl rfl rfl (e_assign) ?_
      refine l_nil ?_
      refine f_then ?_
      refine c_ret ?_
      refine f_then_ret ?_
      refine f_block_ret ?_
      refine f_then_ret ?_
      refine f_block_ret ?_
      refine retG (l := [.cell 2 109, .tmp 3]) (m := [.agg #[Nx (epochF k.head), Nx (0 + rs.length), .slice none 0 0, .slice pr (rs).length cr, Nx (0 + sizes rs)], .int .i64 (0)]) (v := .tuple #[.agg #[Nx (epochF k.head), Nx (0 + rs.length), .slice none 0 0, .slice pr (rs).length cr, Nx (0 + sizes rs)], .int .i64 (0)]) Tryz.results45 ⟨rd_cell tf59 (cs := [Nx (epochF k.head), Nx (0 + rs.length), .slice none 0 0, .slice pr (rs).length cr, Nx (0 + sizes rs)]) rfl (k_pt 2 (cs := #[Nx (epochF k.head), Nx (0 + rs.length), .slice none 0 0, .slice pr (rs).length cr, Nx (0 + sizes rs)]) (vs := [Nx (epochF k.head), Nx (0 + rs.length), .slice none 0 0, .slice pr (rs).length cr, Nx (0 + sizes rs)]) rfl rfl) rfl, rd_tmp (v := .int .i64 (0)) rfl, trivial⟩ rfl ?_
      intro w hw
      have hend := read_end hrs (by rw [← hz28]; rintro ⟨q1, q2, q3⟩; omega)
      have hw2 := st_mask [true, false, false, false] rfl hw
      rw [hend] at hw2 ⊢
      refine .inr (.inr ⟨_, hok, read_zero har (by omega), none, _, 0, _, (by rw [show epochF k.head = 0 by omega]; simp only [Nat.zero_add, Nat.add_zero]; rfl), ?_⟩)
      have hw3 := hw2.emp (row_nil 5 1 _)
      rw [show epochF k.head = 0 by omega] at hw3
      exact hw3
     ·
      refine c_skip ?_
      refine f_then ?_
      refine c_seq ?_
      have hrb : recB ((epochF k.head : Nat) : Int) zs27 = true := by simpa using hg31
      have hrl := recP_len hrb
      refine c_any [⟨[], [], [0], [74], fun f => f 74 = .pointer (some ⟨b4, 3, none⟩)⟩, ⟨[0], [0], [], [75], fun f => f 75 = .slice pr (rs).length cr⟩, ⟨[], [], [1], [76], fun f => f 76 = .slice (recA (adv aa ac (0 + sizes rs) 1) (ac - (0 + sizes rs)) zs27) ((recP zs27).length) ((recC (ac - (0 + sizes rs)) zs27))⟩, ⟨[2], [2], [], [77], fun f => f 77 = .slice (sla (f 77)) ((recP zs27)).length (slc (f 77))⟩, ⟨[2, 3], [3], [], [78], fun f => f 78 = .slice (some ⟨(blk (f 78)), 0, none⟩) 1 1⟩, ⟨[0, 1, 2, 3, 4], [1, 4], [], [79], fun f => f 79 = .slice (sla (f 79)) ((rs ++ [(recP zs27)])).length (slc (f 79))⟩, ⟨[0, 1, 2, 3, 4, 5], [], [0], [80], fun f => f 80 = .pointer (some ⟨b4, 3, none⟩)⟩, ⟨[0, 1, 2, 3, 4, 5, 6], [6, 5], [], [], fun _ => True⟩] [⟨none, (some 5), [5], [], fun _ => recsR 27 pr cr rs⟩, ⟨none, (some 7), [1, 7], [], fun _ => pt b4 (.cells #[Nx (epochF k.head), Nx (0 + rs.length), .slice none 0 0, .slice pr (rs).length cr, Nx (0 + sizes rs)] 109)⟩, ⟨none, none, [], [], fun _ => pt b2 (.cells #[.int .i64 (0), .int .i64 (0), .slice none 0 0, .slice none 0 0, .int .i64 (0)] 109)⟩, ⟨none, none, [], [], fun _ => pt b1 (.cells #[.slice vha (k.head.length) (vhc), .slice vaa (k.a.length) (vac), .slice vba (k.b.length) (vbc), Ix (k.power)] 29)⟩, ⟨(some 3), (some 5), [5], [77], fun f => row (.slice (sla (f 77)) ((recP zs27)).length (slc (f 77))) 5 1 (((recP zs27)).length) (BX (recP zs27))⟩, ⟨(some 4), none, [5], [77, 78], fun f => pt (blk (f 78)) (.cells #[.slice (sla (f 77)) ((recP zs27)).length (slc (f 77))] 27)⟩, ⟨(some 5), none, [], [79], fun f => recsR 27 (sla (f 79)) (slc (f 79)) (rs ++ [(recP zs27)])⟩, ⟨(some 7), none, [], [79], fun f => pt b4 (.cells #[Nx (epochF k.head), Nx (0 + rs.length), .slice none 0 0, .slice (sla (f 79)) ((rs ++ [(recP zs27)])).length (slc (f 79)), Nx (0 + sizes rs)] 109)⟩] [(4, .pointer (some ⟨b4, 0, none⟩)), (10, .slice (recA (adv aa ac (0 + sizes rs) 1) (ac - (0 + sizes rs)) zs27) ((recP zs27).length) ((recC (ac - (0 + sizes rs)) zs27))), (2, .pointer (some ⟨b2, 0, none⟩)), (5, .slice aa (ar.length) (ac))] [2, 0, 3, 1] [] (by kernel_rfl) (by kernel_rfl) (by kernel_rfl) (by kernel_rfl) rfl ⟨rfl, rfl, rfl, rfl, trivial⟩ ⟨?_, ?_, ?_, ?_, ?_, ?_, ?_, ?_, trivial⟩ ?_
      ·rintro f M - ⟨i0, -⟩
       have hs4 : f 4 = .pointer (some ⟨b4, 0, none⟩) := i0
       refine ob_start (L' := M) (by rfl) (up_cons rfl hs4) ?_
       refine l_val (v := .pointer (some ⟨b4, 3, none⟩)) rfl rfl rfl (e_fieldPt (b := b4) (o := 0) rfl tf64) ?_
       refine l_nil ?_
       exact f_owes_d (up_cons rfl hs4) rfl (List.Perm.refl _)
      ·rintro f M ⟨k0, -⟩ -
       have hs74 : f 74 = .pointer (some ⟨b4, 3, none⟩) := k0
       refine ob_start (L' := pt b4 (.cells #[Nx (epochF k.head), Nx (0 + rs.length), .slice none 0 0, .slice pr (rs).length cr, Nx (0 + sizes rs)] 109) :: M) (by rfl) (up_cons rfl hs74) ?_
       refine l_val (v := .slice pr (rs).length cr) rfl rfl rfl (e_load1 tf65 (v := .slice pr (rs).length cr) rfl (k_pt 0 (cs := #[Nx (epochF k.head), Nx (0 + rs.length), .slice none 0 0, .slice pr (rs).length cr, Nx (0 + sizes rs)]) (vs := [.slice pr (rs).length cr]) rfl rfl)) ?_
       refine l_nil ?_
       exact f_owes_d (up_cons rfl hs74) rfl (perm_front 0 rfl)
      ·rintro f M - ⟨i0, -⟩
       have hs10 : f 10 = .slice (recA (adv aa ac (0 + sizes rs) 1) (ac - (0 + sizes rs)) zs27) ((recP zs27).length) ((recC (ac - (0 + sizes rs)) zs27)) := i0
       refine ob_start (L' := M) (by rfl) (up_cons rfl hs10) ?_
       refine l_val (v := .slice (recA (adv aa ac (0 + sizes rs) 1) (ac - (0 + sizes rs)) zs27) ((recP zs27).length) ((recC (ac - (0 + sizes rs)) zs27))) rfl rfl rfl (e_move) ?_
       refine l_nil ?_
       exact f_owes_d (up_cons rfl hs10) rfl (List.Perm.refl _)
      ·rintro f M ⟨k0, -⟩ -
       have hs76 : f 76 = .slice (recA (adv aa ac (0 + sizes rs) 1) (ac - (0 + sizes rs)) zs27) ((recP zs27).length) ((recC (ac - (0 + sizes rs)) zs27)) := k0
       refine ob_start (L' := M) (by rfl) (up_cons rfl hs76) ?_
       refine l_call rfl rfl rfl (cl_value (fst := []) (cap := []) (vs := [.slice (recA (adv aa ac (0 + sizes rs) 1) (ac - (0 + sizes rs)) zs27) ((recP zs27).length) ((recC (ac - (0 + sizes rs)) zs27))]) (all := [.slice (recA (adv aa ac (0 + sizes rs) 1) (ac - (0 + sizes rs)) zs27) ((recP zs27).length) ((recC (ac - (0 + sizes rs)) zs27))]) tf62 rfl rfl rfl) ?_
       intro w hw
       obtain ⟨β1, sb, kn, hw1, back⟩ := St.frame_all hw
       refine (clone_ok β1 w hw1 (recP zs27) _ (by omega) (Sl.mono _ _ _ _ _ sb (rec_sl (by omega) (by omega) ze30))).mono ?_
       rintro e w' ⟨p36, c37, rfl, hw'⟩
       refine ⟨_, rfl, _, back _ _ hw', ?_⟩
       clear hw hw1 hw' back kn sb
       refine l_nil ?_
       exact f_owes_d (up_cons rfl hs76) rfl (perm_front 0 rfl)
      ·rintro f M ⟨k0, -⟩ -
       have hs77 : f 77 = .slice (sla (f 77)) ((recP zs27)).length (slc (f 77)) := k0
       refine ob_start (L' := M) (by rfl) (up_cons rfl hs77) ?_
       refine l_mv rfl rfl rfl (m_slices tf66 tf67 (vs := [(0, .slice (sla (f 77)) ((recP zs27)).length (slc (f 77)))]) (cells := #[.slice (sla (f 77)) ((recP zs27)).length (slc (f 77))]) rfl rfl rfl rfl) ?_
       rintro _ _ ⟨b39, rfl, rfl⟩
       refine l_nil ?_
       exact f_owes_d (up_cons rfl hs77) rfl (perm_front 0 rfl)
      ·rintro f M ⟨k0, k1, -⟩ -
       have hs75 : f 75 = .slice pr (rs).length cr := k0
       have hs78 : f 78 = .slice (some ⟨(blk (f 78)), 0, none⟩) 1 1 := k1
       refine ob_start (L' := recsR 27 pr cr rs :: row (.slice (sla (f 77)) ((recP zs27)).length (slc (f 77))) 5 1 (((recP zs27)).length) (BX (recP zs27)) :: pt (blk (f 78)) (.cells #[.slice (sla (f 77)) ((recP zs27)).length (slc (f 77))] 27) :: M) (by rfl) (up_cons (up_cons rfl hs75) hs78) ?_
       refine l_perm (L' := (recsR 27 pr cr rs :: row (.slice (sla (f 77)) ((recP zs27)).length (slc (f 77))) 5 1 (((recP zs27)).length) (BX (recP zs27)) :: pt (blk (f 78)) (.cells #[.slice (sla (f 77)) ((recP zs27)).length (slc (f 77))] 27) :: M)) (List.Perm.refl _) ?_
       refine l_mv rfl rfl rfl (m_appendRec (xs := rs) (bs := (recP zs27)) (b := (blk (f 78))) rfl tf66 tf68 rfl rfl (by omega) (by omega)) ?_
       rintro _ _ ⟨rp42, rc43, rfl, rfl⟩
       refine l_nil ?_
       exact f_owes_d (up_cons (up_cons rfl hs75) hs78) rfl ((perm_front 0 rfl).trans (perm_front 1 rfl))
      ·rintro f M - ⟨i0, -⟩
       have hs4 : f 4 = .pointer (some ⟨b4, 0, none⟩) := i0
       refine ob_start (L' := M) (by rfl) (up_cons rfl hs4) ?_
       refine l_val (v := .pointer (some ⟨b4, 3, none⟩)) rfl rfl rfl (e_fieldPt (b := b4) (o := 0) rfl tf64) ?_
       refine l_nil ?_
       exact f_owes_d (up_cons rfl hs4) rfl (List.Perm.refl _)
      ·rintro f M ⟨k0, k1, -⟩ -
       have hs80 : f 80 = .pointer (some ⟨b4, 3, none⟩) := k0
       have hs79 : f 79 = .slice (sla (f 79)) ((rs ++ [(recP zs27)])).length (slc (f 79)) := k1
       refine ob_start (L' := pt b4 (.cells #[Nx (epochF k.head), Nx (0 + rs.length), .slice none 0 0, .slice pr (rs).length cr, Nx (0 + sizes rs)] 109) :: M) (by rfl) (up_cons (up_cons rfl hs80) hs79) ?_
       refine l_mu rfl rfl (m_store 0 tf65 (b := b4) (o := 3) (T := 109) (cs := #[Nx (epochF k.head), Nx (0 + rs.length), .slice none 0 0, .slice pr (rs).length cr, Nx (0 + sizes rs)]) (cs' := #[Nx (epochF k.head), Nx (0 + rs.length), .slice none 0 0, .slice (sla (f 79)) ((rs ++ [(recP zs27)])).length (slc (f 79)), Nx (0 + sizes rs)]) (v := .slice (sla (f 79)) ((rs ++ [(recP zs27)])).length (slc (f 79))) rfl rfl rfl rfl rfl rfl rfl) ?_
       refine l_nil ?_
       exact f_owes_n (up_cons (up_cons rfl hs80) hs79) trivial (perm_front 0 rfl)
      rintro fa44 ⟨-, -, -, -, -, -, -, -, -⟩ ⟨j0, j1, j2, j3, -⟩
      refine f_re (L' := [pt b2 (.cells #[.int .i64 (0), .int .i64 (0), .slice none 0 0, .slice none 0 0, .int .i64 (0)] 109), pt b1 (.cells #[.slice vha (k.head.length) (vhc), .slice vaa (k.a.length) (vac), .slice vba (k.b.length) (vbc), Ix (k.power)] 29), pt (blk (fa44 78)) (.cells #[.slice (sla (fa44 77)) ((recP zs27)).length (slc (fa44 77))] 27), recsR 27 (sla (fa44 79)) (slc (fa44 79)) (rs ++ [(recP zs27)]), pt b4 (.cells #[Nx (epochF k.head), Nx (0 + rs.length), .slice none 0 0, .slice (sla (fa44 79)) ((rs ++ [(recP zs27)])).length (slc (fa44 79)), Nx (0 + sizes rs)] 109)]) (by rfl) ?_
      refine f_rebase (d := 2) (v := .pointer (some ⟨b2, 0, none⟩)) j0 ?_
      refine f_rebase (d := 4) (v := .pointer (some ⟨b4, 0, none⟩)) j1 ?_
      refine f_rebase (d := 5) (v := .slice aa (ar.length) (ac)) j2 ?_
      refine f_rebase (d := 10) (v := .slice (recA (adv aa ac (0 + sizes rs) 1) (ac - (0 + sizes rs)) zs27) ((recP zs27).length) ((recC (ac - (0 + sizes rs)) zs27))) j3 ?_
      refine f_then ?_
      refine c_seq ?_
      refine c_region ?_
      refine l_val (v := .pointer (some ⟨b4, 1, none⟩)) rfl rfl rfl (e_fieldPt (b := b4) (o := 0) rfl tf53) ?_
      refine l_val (v := Nx (0 + rs.length)) rfl rfl rfl (e_load1 tf25 (v := Nx (0 + rs.length)) rfl (k_pt 4 (cs := #[Nx (epochF k.head), Nx (0 + rs.length), .slice none 0 0, .slice (sla (fa44 79)) ((rs ++ [(recP zs27)])).length (slc (fa44 79)), Nx (0 + sizes rs)]) (vs := [Nx (0 + rs.length)]) rfl rfl)) ?_
      refine l_val (v := Nx ((0 + rs.length) + 1)) rfl rfl rfl (e_add (a := ((0 + rs.length : Nat) : Int)) (b := (1 : Int)) rfl rfl (i64n (by omega) (by omega))) ?_
      refine l_val (v := .pointer (some ⟨b4, 1, none⟩)) rfl rfl rfl (e_fieldPt (b := b4) (o := 0) rfl tf53) ?_
      refine l_mu rfl rfl (m_store 4 tf25 (b := b4) (o := 1) (T := 109) (cs := #[Nx (epochF k.head), Nx (0 + rs.length), .slice none 0 0, .slice (sla (fa44 79)) ((rs ++ [(recP zs27)])).length (slc (fa44 79)), Nx (0 + sizes rs)]) (cs' := #[Nx (epochF k.head), Nx ((0 + rs.length) + 1), .slice none 0 0, .slice (sla (fa44 79)) ((rs ++ [(recP zs27)])).length (slc (fa44 79)), Nx (0 + sizes rs)]) (v := Nx ((0 + rs.length) + 1)) rfl rfl rfl rfl rfl rfl rfl) ?_
      refine l_nil ?_
      refine f_then ?_
      refine c_region ?_
      refine l_val (v := .pointer (some ⟨b4, 4, none⟩)) rfl rfl rfl (e_fieldPt (b := b4) (o := 0) rfl tf50) ?_
      refine l_val (v := Nx (0 + sizes rs)) rfl rfl rfl (e_load1 tf25 (v := Nx (0 + sizes rs)) rfl (k_pt 4 (cs := #[Nx (epochF k.head), Nx ((0 + rs.length) + 1), .slice none 0 0, .slice (sla (fa44 79)) ((rs ++ [(recP zs27)])).length (slc (fa44 79)), Nx (0 + sizes rs)]) (vs := [Nx (0 + sizes rs)]) rfl rfl)) ?_
      refine l_val (v := .slice (recA (adv aa ac (0 + sizes rs) 1) (ac - (0 + sizes rs)) zs27) ((recP zs27).length) ((recC (ac - (0 + sizes rs)) zs27))) rfl rfl rfl (e_move) ?_
      refine l_val (v := Nx ((recP zs27).length)) rfl rfl rfl (e_len (a := (recA (adv aa ac (0 + sizes rs) 1) (ac - (0 + sizes rs)) zs27)) (n := (recP zs27).length) (c := (recC (ac - (0 + sizes rs)) zs27)) rfl tf11) ?_
      refine l_val (v := Nx (24 + ((recP zs27).length))) rfl rfl rfl (e_add (a := (24 : Int)) (b := (((recP zs27).length : Nat) : Int)) rfl rfl (i64n (by omega) (by omega))) ?_
      refine l_val (v := Nx ((0 + sizes rs) + (24 + ((recP zs27).length)))) rfl rfl rfl (e_add (a := ((0 + sizes rs : Nat) : Int)) (b := ((24 + ((recP zs27).length) : Nat) : Int)) rfl rfl (i64n (by omega) (by omega))) ?_
      refine l_val (v := .pointer (some ⟨b4, 4, none⟩)) rfl rfl rfl (e_fieldPt (b := b4) (o := 0) rfl tf50) ?_
      refine l_mu rfl rfl (m_store 4 tf25 (b := b4) (o := 4) (T := 109) (cs := #[Nx (epochF k.head), Nx ((0 + rs.length) + 1), .slice none 0 0, .slice (sla (fa44 79)) ((rs ++ [(recP zs27)])).length (slc (fa44 79)), Nx (0 + sizes rs)]) (cs' := #[Nx (epochF k.head), Nx ((0 + rs.length) + 1), .slice none 0 0, .slice (sla (fa44 79)) ((rs ++ [(recP zs27)])).length (slc (fa44 79)), Nx ((0 + sizes rs) + (24 + ((recP zs27).length)))]) (v := Nx ((0 + sizes rs) + (24 + ((recP zs27).length)))) rfl rfl rfl rfl rfl rfl rfl) ?_
      refine l_nil ?_
      refine f_block ?_
      have hnx := read_step hfu hle hrs (by rw [← hz28]; exact hrb) (by rw [← hz28]; omega) (by omega) (by rw [← hz28]; omega)
      rw [← hz28] at hnx
      refine f_perm (L' := [recsR 27 (sla (fa44 79)) (slc (fa44 79)) (rs ++ [(recP zs27)]), pt b4 (.cells #[Nx (epochF k.head), Nx ((0 + rs.length) + 1), .slice none 0 0, .slice (sla (fa44 79)) ((rs ++ [(recP zs27)])).length (slc (fa44 79)), Nx ((0 + sizes rs) + (24 + ((recP zs27).length)))] 109), pt b2 (.cells #[.int .i64 (0), .int .i64 (0), .slice none 0 0, .slice none 0 0, .int .i64 (0)] 109), pt b1 (.cells #[.slice vha (k.head.length) (vhc), .slice vaa (k.a.length) (vac), .slice vba (k.b.length) (vbc), Ix (k.power)] 29), pt (blk (fa44 78)) (.cells #[.slice (sla (fa44 77)) ((recP zs27)).length (slc (fa44 77))] 27)]) (perm_ix [3, 4, 0, 1, 2] 5 rfl (by kernel_rfl) (by kernel_rfl)) ?_
      refine f_mask (L' := [recsR 27 (sla (fa44 79)) (slc (fa44 79)) (rs ++ [(recP zs27)]), pt b4 (.cells #[Nx (epochF k.head), Nx ((0 + rs.length) + 1), .slice none 0 0, .slice (sla (fa44 79)) ((rs ++ [(recP zs27)])).length (slc (fa44 79)), Nx ((0 + sizes rs) + (24 + ((recP zs27).length)))] 109), pt b2 (.cells #[.int .i64 (0), .int .i64 (0), .slice none 0 0, .slice none 0 0, .int .i64 (0)] 109), pt b1 (.cells #[.slice vha (k.head.length) (vhc), .slice vaa (k.a.length) (vac), .slice vba (k.b.length) (vbc), Ix (k.power)] 29)]) [true, true, true, true, false] rfl ?_
      exact f_cut ⟨(f, (rs ++ [(recP zs27)]), (sla (fa44 79)), (slc (fa44 79))), ⟨⟨rfl, rfl, rfl⟩, (by simp only [sizes_snoc, List.length_append, List.length_cons, List.length_nil, Nat.add_assoc]; try rfl), hnx⟩, (show f < f + 1 from Nat.lt_succ_self f)⟩
end Go.Proofs
