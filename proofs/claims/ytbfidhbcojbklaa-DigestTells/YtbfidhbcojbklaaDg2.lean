import Derived.Test.YtbfidhbcojbklaaDg1
namespace Go.Proofs
open Go Go.Sl
def wordsC (c : KComp) : List UInt64 := [c.kind.toUInt64, U c.v0, U c.v1, U c.v2, U c.v3]
def wordsE (e : KEnt) : List UInt64 := U e.id :: U ((e.comps.length : Nat) : Int) :: e.comps.flatMap wordsC
theorem pre_id (e : KEnt) : [] ++ [U e.id] <+: wordsE e := ⟨_, rfl⟩
theorem pre_len (e : KEnt) : [U e.id] ++ [U ((e.comps.length : Nat) : Int)] <+: wordsE e := ⟨_, rfl⟩
theorem take_flat {cs : List KComp} {k : Nat} {c : KComp} (h : cs[k]? = some c) : (cs.take (k + 1)).flatMap wordsC = (cs.take k).flatMap wordsC ++ wordsC c := by
  rw [take_succ h]; simp
theorem pre_comp (e : KEnt) {k : Nat} {c : KComp} (h : e.comps[k]? = some c) (j : Nat) {x : UInt64} (hx : (wordsC c)[j]? = some x) : [U e.id, U ((e.comps.length : Nat) : Int)] ++ (e.comps.take k).flatMap wordsC ++ (wordsC c).take j ++ [x] <+: wordsE e := by
  have h1 : (wordsC c).take j ++ [x] <+: wordsC c := take_prefix hx
  obtain ⟨t, ht⟩ := h1
  refine ⟨t ++ (e.comps.drop (k + 1)).flatMap wordsC, ?_⟩
  have h2 : e.comps = e.comps.take k ++ c :: e.comps.drop (k + 1) := by
    have h3 := List.take_append_drop (k + 1) e.comps
    rw [take_succ h] at h3
    simpa using h3.symm
  have h4 : e.comps.flatMap wordsC = (e.comps.take k).flatMap wordsC ++ (wordsC c ++ (e.comps.drop (k + 1)).flatMap wordsC) := by
    conv => lhs; rw [h2]
    simp
  have h5 : wordsC c ++ (e.comps.drop (k + 1)).flatMap wordsC = (wordsC c).take j ++ [x] ++ t ++ (e.comps.drop (k + 1)).flatMap wordsC := by rw [ht]
  rw [wordsE, h4, h5]; simp
theorem tf9 : fldB Try.prog 33 0 0 1 false = true := by kernel_rfl
theorem tf10 : tyB Try.prog 3 false 1 = true := by kernel_rfl
theorem tf11 : fldB Try.prog 33 1 1 1 false = true := by kernel_rfl
theorem tf12 : tyB Try.prog 31 false 1 = true := by kernel_rfl
theorem tf13 : Try.prog.underlying 31 = some (.slice 55) := by kernel_rfl
theorem tf14 : slB Try.prog 31 55 5 = true := by kernel_rfl
theorem tf15 : tyB Try.prog 55 true 5 = true := by kernel_rfl
theorem tf16 : (Try.prog.info? 55).bind (·.zero) = some (.agg #[.int .u8 (0), .int .i64 (0), .int .i64 (0), .int .i64 (0), .int .i64 (0)]) := by kernel_rfl
theorem tf17 : fldB Try.prog 55 0 0 1 false = true := by kernel_rfl
theorem tf18 : tyB Try.prog 5 false 1 = true := by kernel_rfl
theorem tf19 : fldB Try.prog 55 1 1 4 true = true := by kernel_rfl
theorem tf20 : tyB Try.prog 53 true 4 = true := by kernel_rfl
theorem tf21 : arB Try.prog 53 4 3 1 = true := by kernel_rfl
theorem numbers_ok (β : Base) (w : World) (hw : St β [] w) (e : KEnt) (v : Value) : Calls Try.prog 37 #[.agg #[Ix e.id, v]] w fun r w' => ∃ b, r = .returned (.func (.func 50) #[] #[.pointer (some ⟨b, 0, none⟩)]) ∧ St β [pt b (.cells #[Ix e.id, v] 33)] w' := by
  refine enter (n := 4) Try.func37 rfl Try.ntmps37 rfl ?_ hw
  refine c_seq ?_
  refine c_region ?_
  refine l_mv rfl rfl rfl (m_box (v := .agg #[Ix (e.id), v]) rfl) ?_
  rintro _ _ ⟨b1, rfl, rfl⟩
  refine l_val (v := .nilFunc) rfl rfl rfl (e_assign) ?_
  refine l_nil ?_
  refine f_then ?_
  refine c_seq ?_
  refine c_region ?_
  refine l_val (v := .func (.func 50) #[] #[.pointer (some ⟨b1, 0, none⟩)]) rfl rfl rfl (e_func (u := []) (v := [.pointer (some ⟨b1, 0, none⟩)]) rfl rfl) ?_
  refine l_val (v := .func (.func 50) #[] #[.pointer (some ⟨b1, 0, none⟩)]) rfl rfl rfl (e_assign) ?_
  refine l_nil ?_
  refine f_then ?_
  refine c_ret ?_
  refine ret1 Try.results37 (v := .func (.func 50) #[] #[.pointer (some ⟨b1, 0, none⟩)]) rfl ?_
  intro w hw
  exact ⟨_, rfl, hw⟩
theorem numbers_seq (β : Base) (b : Nat) (e : KEnt) (v : Value) (hb : Cs β.heap ⟨b, 0, none⟩ [Ix e.id, v]) (hs : Sl CompR β.heap v e.comps) : SeqOf Try.prog β (.func (.func 50) #[] #[.pointer (some ⟨b, 0, none⟩)]) (fun x : UInt64 => [Ux x]) (· = wordsE e) := by
  refine ⟨50, [], [.pointer (some ⟨b, 0, none⟩)], rfl, by kernel_rfl, fun β₁ ext l J X hY M w hJ hw => ?_⟩
  have hb1 := Cs.mono _ _ _ _ ext.sub hb
  obtain ⟨sa, sc, rfl, hl, hm, he⟩ := (Sl.mono CompR v _ _ _ ext.sub hs).get
  refine enter (n := 47) Try.func50 rfl Try.ntmps50 rfl ?_ hw
  refine c_seq ?_
  refine c_seq ?_
  refine c_region ?_
  refine l_val (v := yfn l) rfl rfl rfl (e_move) ?_
  refine l_val (v := .pointer (some ((⟨b, 0, none⟩ : Addr).add 0))) rfl rfl rfl (e_fieldAddr (a := ⟨b, 0, none⟩) rfl tf9) ?_
  refine l_val (v := Ix (e.id)) rfl rfl rfl (e_load1 tf10 (v := Ix (e.id)) rfl (Knows.imp (Knows.of_base (Cs.mono _ _) hb1) (fun _ h => Cs.sub (vs := [Ix (e.id)]) 0 h rfl))) ?_
  refine l_val (v := Ux (U (e.id))) rfl rfl rfl (e_conv (a := (e.id)) rfl ⟨_, tf1⟩ tf2 (ux_of _)) ?_
  refine l_yield (own := []) (M := M) (d := 11) (enc := fun x => [Ux x]) (pre := []) (x := U (e.id)) rfl rfl rfl rfl hY (⟨_, rfl, pre_id e⟩) (by simpa using hJ) (fun M1 hJ1 => ?_) (fun M1 hX1 => ?_)
  ·
    refine l_val (v := .bool false) rfl rfl rfl (e_not (a := true) rfl) ?_
    refine l_val (v := .bool false) rfl rfl rfl (e_move) ?_
    refine g_val (v := yfn l) rfl rfl rfl rfl rfl (e_move) ?_
    refine g_val (v := .pointer (some ((⟨b, 0, none⟩ : Addr).add 1))) rfl rfl rfl rfl rfl (e_fieldAddr (a := ⟨b, 0, none⟩) rfl tf11) ?_
    refine g_val (v := .slice sa (e.comps.length) (sc)) rfl rfl rfl rfl rfl (e_load1 tf12 (v := .slice sa (e.comps.length) (sc)) rfl (Knows.imp (Knows.of_base (Cs.mono _ _) hb1) (fun _ h => Cs.sub (vs := [.slice sa (e.comps.length) (sc)]) 1 h rfl))) ?_
    refine g_val (v := Nx (e.comps.length)) rfl rfl rfl rfl rfl (e_len (a := sa) (n := e.comps.length) (c := sc) rfl tf13) ?_
    refine g_val (v := Ux (U ((e.comps.length : Nat) : Int))) rfl rfl rfl rfl rfl (e_conv (a := ((e.comps.length : Nat) : Int)) rfl ⟨_, tf1⟩ tf2 (ux_of _)) ?_
    refine g_yield rfl rfl (own := []) (M := M1) (d := 19) (enc := fun x => [Ux x]) (pre := [U e.id]) (x := U ((e.comps.length : Nat) : Int)) rfl rfl rfl rfl hY (⟨_, rfl, pre_len e⟩) (by simpa using hJ1) (fun M1 hJ1 => ?_) (fun M1 hX1 => ?_)
    ·
      refine g_val (v := .bool false) rfl rfl rfl rfl rfl (e_not (a := true) rfl) ?_
      refine l_val (v := .bool false) rfl rfl rfl (e_pick_f rfl) ?_
      refine l_nil ?_
      refine f_then ?_
      refine c_no rfl ?_
      refine c_skip ?_
      refine f_then ?_
      refine c_seq ?_
      refine c_region ?_
      refine l_val (v := .pointer (some ((⟨b, 0, none⟩ : Addr).add 1))) rfl rfl rfl (e_fieldAddr (a := ⟨b, 0, none⟩) rfl tf11) ?_
      refine l_val (v := .slice sa (e.comps.length) (sc)) rfl rfl rfl (e_load1 tf12 (v := .slice sa (e.comps.length) (sc)) rfl (Knows.imp (Knows.of_base (Cs.mono _ _) hb1) (fun _ h => Cs.sub (vs := [.slice sa (e.comps.length) (sc)]) 1 h rfl))) ?_
      refine l_val (v := Nx (e.comps.length)) rfl rfl rfl (e_len (a := sa) (n := e.comps.length) (c := sc) rfl tf13) ?_
      refine l_val (v := .int .i64 (0)) rfl rfl rfl (e_move) ?_
      refine l_nil ?_
      refine f_then ?_
      refine c_block ?_
      refine c_loop (fun (x_ : Nat × List Res) (f : Fm) (L : List Res) => match x_ with | (k, M) => (f 0 = yfn l ∧ f 23 = .slice sa (e.comps.length) (sc) ∧ f 24 = Nx (e.comps.length) ∧ f 25 = Nx (k)) ∧ L = (M) ∧ (k ≤ e.comps.length ∧ J ([U e.id, U ((e.comps.length : Nat) : Int)] ++ (e.comps.take (k)).flatMap wordsC) M)) (fun (x_ : Nat × List Res) => match x_ with | (k, M) => e.comps.length - k) (0, M1) ?_ ?_
      · exact ⟨⟨rfl, rfl, rfl, rfl⟩, rfl, ⟨by omega, by simpa using hJ1⟩⟩
      rintro ⟨k, M⟩ f0 L0 ⟨⟨hs0, hs23, hs24, hs25⟩, hL, ⟨hk, hJ⟩⟩
      subst L0
      refine rebase (d := 0) hs0 ?_
      refine rebase (d := 23) hs23 ?_
      refine rebase (d := 24) hs24 ?_
      refine rebase (d := 25) hs25 ?_
      clear hs0 hs23 hs24 hs25
      refine c_seq ?_
      refine c_region ?_
      refine l_val (v := .bool (decide (((k : Nat) : Int) < ((e.comps.length : Nat) : Int)))) rfl rfl rfl (e_lss (a := ((k : Nat) : Int)) (b := ((e.comps.length : Nat) : Int)) rfl rfl) ?_
      refine l_nil ?_
      refine f_then ?_
      refine c_seq ?_
      refine c_if (((k : Nat) : Int) < ((e.comps.length : Nat) : Int)) rfl (fun hc1 => ?_) (fun hc1 => ?_)
      ·
        refine c_skip ?_
        refine f_then ?_
        refine c_seq ?_
        refine c_block ?_
        refine c_seq ?_
        refine c_region ?_
        obtain ⟨x2, hx3⟩ : ∃ x_, (e.comps)[k]? = some x_ := ⟨_, List.getElem?_eq_getElem (by omega)⟩
        obtain ⟨ha4, cs5, hc6, rfl⟩ := he _ _ hx3
        refine l_val (v := .pointer (some ((ba sa).add (k * 5)))) rfl rfl rfl (e_indexAddr (k := k) (len := e.comps.length) (cap := sc) (a := sa) rfl rfl tf14 (by omega) ha4) ?_
        refine l_val (v := .agg #[Bx (x2.kind), Ix (x2.v0), Ix (x2.v1), Ix (x2.v2), Ix (x2.v3)]) rfl rfl rfl (e_load tf15 (cs := [Bx (x2.kind), Ix (x2.v0), Ix (x2.v1), Ix (x2.v2), Ix (x2.v3)]) rfl (Knows.of_base (Cs.mono _ _) hc6) rfl) ?_
        refine l_mv rfl rfl rfl (m_alloc tf16) ?_
        rintro _ _ ⟨b8, rfl, rfl⟩
        refine l_mu rfl rfl (m_store 0 tf15 (b := b8) (o := 0) (T := 55) (cs := #[.int .u8 (0), .int .i64 (0), .int .i64 (0), .int .i64 (0), .int .i64 (0)]) (cs' := #[Bx (x2.kind), Ix (x2.v0), Ix (x2.v1), Ix (x2.v2), Ix (x2.v3)]) (v := .agg #[Bx (x2.kind), Ix (x2.v0), Ix (x2.v1), Ix (x2.v2), Ix (x2.v3)]) rfl rfl rfl rfl rfl rfl rfl) ?_
        refine l_nil ?_
        refine f_then ?_
        refine c_seq ?_
        refine c_seq ?_
        refine c_region ?_
        refine l_val (v := yfn l) rfl rfl rfl (e_move) ?_
        refine l_val (v := .pointer (some ⟨b8, 0, none⟩)) rfl rfl rfl (e_fieldPt (b := b8) (o := 0) rfl tf17) ?_
        refine l_val (v := Bx (x2.kind)) rfl rfl rfl (e_load1 tf18 (v := Bx (x2.kind)) rfl (k_pt 0 (cs := #[Bx (x2.kind), Ix (x2.v0), Ix (x2.v1), Ix (x2.v2), Ix (x2.v3)]) (vs := [Bx (x2.kind)]) rfl rfl)) ?_
        refine l_val (v := Ux (x2.kind.toUInt64)) rfl rfl rfl (e_conv (a := ((x2.kind).toNat : Int)) rfl ⟨_, tf8⟩ tf2 (ux_of8 _)) ?_
        refine l_yield (own := [pt b8 (.cells #[Bx (x2.kind), Ix (x2.v0), Ix (x2.v1), Ix (x2.v2), Ix (x2.v3)] 55)]) (M := M) (d := 33) (enc := fun x => [Ux x]) (pre := (([U e.id, U ((e.comps.length : Nat) : Int)] ++ (e.comps.take (k)).flatMap wordsC) ++ (wordsC x2).take 0)) (x := x2.kind.toUInt64) rfl rfl rfl rfl hY (⟨_, rfl, pre_comp e hx3 0 rfl⟩) (by simpa using hJ) (fun M1 hJ1 => ?_) (fun M1 hX1 => ?_)
        ·
          refine l_val (v := .bool false) rfl rfl rfl (e_not (a := true) rfl) ?_
          refine l_nil ?_
          refine f_then ?_
          refine c_no rfl ?_
          refine c_skip ?_
          refine f_then ?_
          refine c_seq ?_
          refine c_region ?_
          refine l_val (v := .pointer (some ⟨b8, 1, none⟩)) rfl rfl rfl (e_fieldPt (b := b8) (o := 0) rfl tf19) ?_
          refine l_val (v := .agg #[Ix (x2.v0), Ix (x2.v1), Ix (x2.v2), Ix (x2.v3)]) rfl rfl rfl (e_load tf20 (cs := [Ix (x2.v0), Ix (x2.v1), Ix (x2.v2), Ix (x2.v3)]) rfl (k_pt 0 (cs := #[Bx (x2.kind), Ix (x2.v0), Ix (x2.v1), Ix (x2.v2), Ix (x2.v3)]) (vs := [Ix (x2.v0), Ix (x2.v1), Ix (x2.v2), Ix (x2.v3)]) rfl rfl) rfl) ?_
          refine l_val (v := .int .i64 (0)) rfl rfl rfl (e_move) ?_
          refine l_nil ?_
          refine f_then ?_
          refine c_block ?_
          refine c_loop (fun (x_ : Nat × List Res) (f : Fm) (L : List Res) => match x_ with | (j, N) => (f 0 = yfn l ∧ f 23 = .slice sa (e.comps.length) (sc) ∧ f 24 = Nx (e.comps.length) ∧ f 25 = Nx (k) ∧ f 36 = .agg #[Ix (x2.v0), Ix (x2.v1), Ix (x2.v2), Ix (x2.v3)] ∧ f 37 = Nx (j)) ∧ L = (pt b8 (.cells #[Bx (x2.kind), Ix (x2.v0), Ix (x2.v1), Ix (x2.v2), Ix (x2.v3)] 55) :: N) ∧ (j ≤ 4 ∧ J ([U e.id, U ((e.comps.length : Nat) : Int)] ++ (e.comps.take (k)).flatMap wordsC ++ (wordsC x2).take (j + 1)) N)) (fun (x_ : Nat × List Res) => match x_ with | (j, N) => 4 - j) (0, M1) ?_ ?_
          · exact ⟨⟨rfl, rfl, rfl, rfl, rfl, rfl⟩, rfl, ⟨by omega, by simpa [wordsC] using hJ1⟩⟩
          rintro ⟨j, N⟩ f0 L0 ⟨⟨hs0, hs23, hs24, hs25, hs36, hs37⟩, hL, ⟨hj1, hj2⟩⟩
          subst L0
          rcases (show j = 0 ∨ j = 1 ∨ j = 2 ∨ j = 3 ∨ j = 4 from by omega) with rfl | rfl | rfl | rfl | rfl
          ·
            refine rebase (d := 0) hs0 ?_
            refine rebase (d := 23) hs23 ?_
            refine rebase (d := 24) hs24 ?_
            refine rebase (d := 25) hs25 ?_
            refine rebase (d := 36) hs36 ?_
            refine rebase (d := 37) hs37 ?_
            clear hs0 hs23 hs24 hs25 hs36 hs37
            refine c_seq ?_
            refine c_region ?_
            refine l_val (v := .bool true) rfl rfl rfl (e_lss (a := (0 : Int)) (b := (4 : Int)) rfl rfl) ?_
            refine l_nil ?_
            refine f_then ?_
            refine c_seq ?_
            refine c_yes rfl ?_
            refine c_skip ?_
            refine f_then ?_
            refine c_seq ?_
            refine c_block ?_
            refine c_seq ?_
            refine c_region ?_
            refine l_val (v := Ix (x2.v0)) rfl rfl rfl (e_index_a (cs := #[Ix (x2.v0), Ix (x2.v1), Ix (x2.v2), Ix (x2.v3)]) (k := 0) rfl rfl tf21 rfl (by decide) tf10) ?_
            refine l_val (v := Ix (x2.v0)) rfl rfl rfl (e_assign) ?_
            refine l_nil ?_
            refine f_then ?_
            refine c_seq ?_
            refine c_region ?_
            refine l_val (v := yfn l) rfl rfl rfl (e_move) ?_
            refine l_val (v := Ix (x2.v0)) rfl rfl rfl (e_move) ?_
            refine l_val (v := Ux (U (x2.v0))) rfl rfl rfl (e_conv (a := (x2.v0)) rfl ⟨_, tf1⟩ tf2 (ux_of _)) ?_
            refine l_yield (own := [pt b8 (.cells #[Bx (x2.kind), Ix (x2.v0), Ix (x2.v1), Ix (x2.v2), Ix (x2.v3)] 55)]) (M := N) (d := 43) (enc := fun x => [Ux x]) (pre := (([U e.id, U ((e.comps.length : Nat) : Int)] ++ (e.comps.take (k)).flatMap wordsC) ++ (wordsC x2).take 1)) (x := U (x2.v0)) rfl rfl rfl rfl hY (⟨_, rfl, pre_comp e hx3 1 rfl⟩) (by simpa using hj2) (fun M1 hJ1 => ?_) (fun M1 hX1 => ?_)
            ·
              refine l_val (v := .bool false) rfl rfl rfl (e_not (a := true) rfl) ?_
              refine l_nil ?_
              refine f_then ?_
              refine c_no rfl ?_
              refine c_skip ?_
              refine f_block ?_
              refine f_then ?_
              refine c_region ?_
              refine l_val (v := .int .i64 (1)) rfl rfl rfl (e_add (a := (0 : Int)) (b := (1 : Int)) rfl rfl (by decide)) ?_
              refine l_val (v := .int .i64 (1)) rfl rfl rfl (e_move) ?_
              refine l_nil ?_
              exact f_cut ⟨(1, M1), ⟨⟨rfl, rfl, rfl, rfl, rfl, rfl⟩, rfl, ⟨by omega, by simpa [wordsC] using hJ1⟩⟩, (show 4 - 1 < 4 - 0 from by omega)⟩
            ·
              refine l_val (v := .bool true) rfl rfl rfl (e_not (a := false) rfl) ?_
              refine l_nil ?_
              refine f_then ?_
              refine c_yes rfl ?_
              refine c_ret ?_
              refine f_block_ret ?_
              refine f_then_ret ?_
              refine f_then_ret ?_
              refine f_block_ret ?_
              refine f_block_ret ?_
              refine f_then_ret ?_
              refine f_then_ret ?_
              refine f_block_ret ?_
              refine ret0 Try.results50 ?_
              intro w hw
              exact ⟨⟨_, rfl⟩, .inr ⟨_, M1, hX1, st_mask [false] rfl hw⟩⟩
          ·
            refine rebase (d := 0) hs0 ?_
            refine rebase (d := 23) hs23 ?_
            refine rebase (d := 24) hs24 ?_
            refine rebase (d := 25) hs25 ?_
            refine rebase (d := 36) hs36 ?_
            refine rebase (d := 37) hs37 ?_
            clear hs0 hs23 hs24 hs25 hs36 hs37
            refine c_seq ?_
            refine c_region ?_
            refine l_val (v := .bool true) rfl rfl rfl (e_lss (a := (1 : Int)) (b := (4 : Int)) rfl rfl) ?_
            refine l_nil ?_
            refine f_then ?_
            refine c_seq ?_
            refine c_yes rfl ?_
            refine c_skip ?_
            refine f_then ?_
            refine c_seq ?_
            refine c_block ?_
            refine c_seq ?_
            refine c_region ?_
            refine l_val (v := Ix (x2.v1)) rfl rfl rfl (e_index_a (cs := #[Ix (x2.v0), Ix (x2.v1), Ix (x2.v2), Ix (x2.v3)]) (k := 1) rfl rfl tf21 rfl (by decide) tf10) ?_
            refine l_val (v := Ix (x2.v1)) rfl rfl rfl (e_assign) ?_
            refine l_nil ?_
            refine f_then ?_
            refine c_seq ?_
            refine c_region ?_
            refine l_val (v := yfn l) rfl rfl rfl (e_move) ?_
            refine l_val (v := Ix (x2.v1)) rfl rfl rfl (e_move) ?_
            refine l_val (v := Ux (U (x2.v1))) rfl rfl rfl (e_conv (a := (x2.v1)) rfl ⟨_, tf1⟩ tf2 (ux_of _)) ?_
            refine l_yield (own := [pt b8 (.cells #[Bx (x2.kind), Ix (x2.v0), Ix (x2.v1), Ix (x2.v2), Ix (x2.v3)] 55)]) (M := N) (d := 43) (enc := fun x => [Ux x]) (pre := (([U e.id, U ((e.comps.length : Nat) : Int)] ++ (e.comps.take (k)).flatMap wordsC) ++ (wordsC x2).take 2)) (x := U (x2.v1)) rfl rfl rfl rfl hY (⟨_, rfl, pre_comp e hx3 2 rfl⟩) (by simpa using hj2) (fun M1 hJ1 => ?_) (fun M1 hX1 => ?_)
            ·
              refine l_val (v := .bool false) rfl rfl rfl (e_not (a := true) rfl) ?_
              refine l_nil ?_
              refine f_then ?_
              refine c_no rfl ?_
              refine c_skip ?_
              refine f_block ?_
              refine f_then ?_
              refine c_region ?_
              refine l_val (v := .int .i64 (2)) rfl rfl rfl (e_add (a := (1 : Int)) (b := (1 : Int)) rfl rfl (by decide)) ?_
              refine l_val (v := .int .i64 (2)) rfl rfl rfl (e_move) ?_
              refine l_nil ?_
              exact f_cut ⟨(2, M1), ⟨⟨rfl, rfl, rfl, rfl, rfl, rfl⟩, rfl, ⟨by omega, by simpa [wordsC] using hJ1⟩⟩, (show 4 - 2 < 4 - 1 from by omega)⟩
            ·
              refine l_val (v := .bool true) rfl rfl rfl (e_not (a := false) rfl) ?_
              refine l_nil ?_
              refine f_then ?_
              refine c_yes rfl ?_
              refine c_ret ?_
              refine f_block_ret ?_
              refine f_then_ret ?_
              refine f_then_ret ?_
              refine f_block_ret ?_
              refine f_block_ret ?_
              refine f_then_ret ?_
              refine f_then_ret ?_
              refine f_block_ret ?_
              refine ret0 Try.results50 ?_
              intro w hw
              exact ⟨⟨_, rfl⟩, .inr ⟨_, M1, hX1, st_mask [false] rfl hw⟩⟩
          ·
            refine rebase (d := 0) hs0 ?_
            refine rebase (d := 23) hs23 ?_
            refine rebase (d := 24) hs24 ?_
            refine rebase (d := 25) hs25 ?_
            refine rebase (d := 36) hs36 ?_
            refine rebase (d := 37) hs37 ?_
            clear hs0 hs23 hs24 hs25 hs36 hs37
            refine c_seq ?_
            refine c_region ?_
            refine l_val (v := .bool true) rfl rfl rfl (e_lss (a := (2 : Int)) (b := (4 : Int)) rfl rfl) ?_
            refine l_nil ?_
            refine f_then ?_
            refine c_seq ?_
            refine c_yes rfl ?_
            refine c_skip ?_
            refine f_then ?_
            refine c_seq ?_
            refine c_block ?_
            refine c_seq ?_
            refine c_region ?_
            refine l_val (v := Ix (x2.v2)) rfl rfl rfl (e_index_a (cs := #[Ix (x2.v0), Ix (x2.v1), Ix (x2.v2), Ix (x2.v3)]) (k := 2) rfl rfl tf21 rfl (by decide) tf10) ?_
            refine l_val (v := Ix (x2.v2)) rfl rfl rfl (e_assign) ?_
            refine l_nil ?_
            refine f_then ?_
            refine c_seq ?_
            refine c_region ?_
            refine l_val (v := yfn l) rfl rfl rfl (e_move) ?_
            refine l_val (v := Ix (x2.v2)) rfl rfl rfl (e_move) ?_
            refine l_val (v := Ux (U (x2.v2))) rfl rfl rfl (e_conv (a := (x2.v2)) rfl ⟨_, tf1⟩ tf2 (ux_of _)) ?_
            refine l_yield (own := [pt b8 (.cells #[Bx (x2.kind), Ix (x2.v0), Ix (x2.v1), Ix (x2.v2), Ix (x2.v3)] 55)]) (M := N) (d := 43) (enc := fun x => [Ux x]) (pre := (([U e.id, U ((e.comps.length : Nat) : Int)] ++ (e.comps.take (k)).flatMap wordsC) ++ (wordsC x2).take 3)) (x := U (x2.v2)) rfl rfl rfl rfl hY (⟨_, rfl, pre_comp e hx3 3 rfl⟩) (by simpa using hj2) (fun M1 hJ1 => ?_) (fun M1 hX1 => ?_)
            ·
              refine l_val (v := .bool false) rfl rfl rfl (e_not (a := true) rfl) ?_
              refine l_nil ?_
              refine f_then ?_
              refine c_no rfl ?_
              refine c_skip ?_
              refine f_block ?_
              refine f_then ?_
              refine c_region ?_
              refine l_val (v := .int .i64 (3)) rfl rfl rfl (e_add (a := (2 : Int)) (b := (1 : Int)) rfl rfl (by decide)) ?_
              refine l_val (v := .int .i64 (3)) rfl rfl rfl (e_move) ?_
              refine l_nil ?_
              exact f_cut ⟨(3, M1), ⟨⟨rfl, rfl, rfl, rfl, rfl, rfl⟩, rfl, ⟨by omega, by simpa [wordsC] using hJ1⟩⟩, (show 4 - 3 < 4 - 2 from by omega)⟩
            ·
              refine l_val (v := .bool true) rfl rfl rfl (e_not (a := false) rfl) ?_
              refine l_nil ?_
              refine f_then ?_
              refine c_yes rfl ?_
              refine c_ret ?_
              refine f_block_ret ?_
              refine f_then_ret ?_
              refine f_then_ret ?_
              refine f_block_ret ?_
              refine f_block_ret ?_
              refine f_then_ret ?_
              refine f_then_ret ?_
              refine f_block_ret ?_
              refine ret0 Try.results50 ?_
              intro w hw
              exact ⟨⟨_, rfl⟩, .inr ⟨_, M1, hX1, st_mask [false] rfl hw⟩⟩
          ·
            refine rebase (d := 0) hs0 ?_
            refine rebase (d := 23) hs23 ?_
            refine rebase (d := 24) hs24 ?_
            refine rebase (d := 25) hs25 ?_
            refine rebase (d := 36) hs36 ?_
            refine rebase (d := 37) hs37 ?_
            clear hs0 hs23 hs24 hs25 hs36 hs37
            refine c_seq ?_
            refine c_region ?_
            refine l_val (v := .bool true) rfl rfl rfl (e_lss (a := (3 : Int)) (b := (4 : Int)) rfl rfl) ?_
            refine l_nil ?_
            refine f_then ?_
            refine c_seq ?_
            refine c_yes rfl ?_
            refine c_skip ?_
            refine f_then ?_
            refine c_seq ?_
            refine c_block ?_
            refine c_seq ?_
            refine c_region ?_
            refine l_val (v := Ix (x2.v3)) rfl rfl rfl (e_index_a (cs := #[Ix (x2.v0), Ix (x2.v1), Ix (x2.v2), Ix (x2.v3)]) (k := 3) rfl rfl tf21 rfl (by decide) tf10) ?_
            refine l_val (v := Ix (x2.v3)) rfl rfl rfl (e_assign) ?_
            refine l_nil ?_
            refine f_then ?_
            refine c_seq ?_
            refine c_region ?_
            refine l_val (v := yfn l) rfl rfl rfl (e_move) ?_
            refine l_val (v := Ix (x2.v3)) rfl rfl rfl (e_move) ?_
            refine l_val (v := Ux (U (x2.v3))) rfl rfl rfl (e_conv (a := (x2.v3)) rfl ⟨_, tf1⟩ tf2 (ux_of _)) ?_
            refine l_yield (own := [pt b8 (.cells #[Bx (x2.kind), Ix (x2.v0), Ix (x2.v1), Ix (x2.v2), Ix (x2.v3)] 55)]) (M := N) (d := 43) (enc := fun x => [Ux x]) (pre := (([U e.id, U ((e.comps.length : Nat) : Int)] ++ (e.comps.take (k)).flatMap wordsC) ++ (wordsC x2).take 4)) (x := U (x2.v3)) rfl rfl rfl rfl hY (⟨_, rfl, pre_comp e hx3 4 rfl⟩) (by simpa using hj2) (fun M1 hJ1 => ?_) (fun M1 hX1 => ?_)
            ·
              refine l_val (v := .bool false) rfl rfl rfl (e_not (a := true) rfl) ?_
              refine l_nil ?_
              refine f_then ?_
              refine c_no rfl ?_
              refine c_skip ?_
              refine f_block ?_
              refine f_then ?_
              refine c_region ?_
              refine l_val (v := .int .i64 (4)) rfl rfl rfl (e_add (a := (3 : Int)) (b := (1 : Int)) rfl rfl (by decide)) ?_
              refine l_val (v := .int .i64 (4)) rfl rfl rfl (e_move) ?_
              refine l_nil ?_
              exact f_cut ⟨(4, M1), ⟨⟨rfl, rfl, rfl, rfl, rfl, rfl⟩, rfl, ⟨by omega, by simpa [wordsC] using hJ1⟩⟩, (show 4 - 4 < 4 - 3 from by omega)⟩
            ·
              refine l_val (v := .bool true) rfl rfl rfl (e_not (a := false) rfl) ?_
              refine l_nil ?_
              refine f_then ?_
              refine c_yes rfl ?_
              refine c_ret ?_
              refine f_block_ret ?_
              refine f_then_ret ?_
              refine f_then_ret ?_
              refine f_block_ret ?_
              refine f_block_ret ?_
              refine f_then_ret ?_
              refine f_then_ret ?_
              refine f_block_ret ?_
              refine ret0 Try.results50 ?_
              intro w hw
              exact ⟨⟨_, rfl⟩, .inr ⟨_, M1, hX1, st_mask [false] rfl hw⟩⟩
          ·
            refine rebase (d := 0) hs0 ?_
            refine rebase (d := 23) hs23 ?_
            refine rebase (d := 24) hs24 ?_
            refine rebase (d := 25) hs25 ?_
            refine rebase (d := 36) hs36 ?_
            refine rebase (d := 37) hs37 ?_
            clear hs0 hs23 hs24 hs25 hs36 hs37
            refine c_seq ?_
            refine c_region ?_
            refine l_val (v := .bool false) rfl rfl rfl (e_lss (a := (4 : Int)) (b := (4 : Int)) rfl rfl) ?_
            refine l_nil ?_
            refine f_then ?_
            refine c_seq ?_
            refine c_no rfl ?_
            refine c_exit ?_
            refine f_then_exit ?_
            refine f_then_exit ?_
            refine f_exit ?_
            refine f_block ?_
            refine f_then ?_
            refine c_region ?_
            refine l_val (v := Nx (k + 1)) rfl rfl rfl (e_add (a := ((k : Nat) : Int)) (b := (1 : Int)) rfl rfl (i64n (by omega) (by omega))) ?_
            refine l_val (v := Nx (k + 1)) rfl rfl rfl (e_move) ?_
            refine l_nil ?_
            refine f_mask (L' := (N)) [false] rfl ?_
            exact f_cut ⟨(k + 1, N), ⟨⟨rfl, rfl, rfl, rfl⟩, rfl, ⟨by omega, by simpa [wordsC, take_flat hx3] using hj2⟩⟩, (show e.comps.length - (k + 1) < e.comps.length - k from by omega)⟩
        ·
          refine l_val (v := .bool true) rfl rfl rfl (e_not (a := false) rfl) ?_
          refine l_nil ?_
          refine f_then ?_
          refine c_yes rfl ?_
          refine c_ret ?_
          refine f_then_ret ?_
          refine f_block_ret ?_
          refine f_then_ret ?_
          refine f_then_ret ?_
          refine f_block_ret ?_
          refine ret0 Try.results50 ?_
          intro w hw
          exact ⟨⟨_, rfl⟩, .inr ⟨_, M1, hX1, st_mask [false] rfl hw⟩⟩
      ·
        refine c_exit ?_
        refine f_then_exit ?_
        refine f_then_exit ?_
        refine f_exit ?_
        refine end0 Try.results50 ?_
        intro w hw
        exact ⟨⟨_, rfl⟩, .inl ⟨_, M, rfl, (by simpa [wordsE, List.take_of_length_le (show e.comps.length ≤ k by omega)] using hJ), st_mask [] rfl hw⟩⟩
    ·
      refine g_val (v := .bool true) rfl rfl rfl rfl rfl (e_not (a := false) rfl) ?_
      refine l_val (v := .bool true) rfl rfl rfl (e_pick_f rfl) ?_
      refine l_nil ?_
      refine f_then ?_
      refine c_yes rfl ?_
      refine c_ret ?_
      refine f_then_ret ?_
      refine ret0 Try.results50 ?_
      intro w hw
      exact ⟨⟨_, rfl⟩, .inr ⟨_, M1, hX1, st_mask [] rfl hw⟩⟩
  ·
    refine l_val (v := .bool true) rfl rfl rfl (e_not (a := false) rfl) ?_
    refine l_val (v := .bool true) rfl rfl rfl (e_move) ?_
    refine l_skip rfl rfl rfl rfl rfl rfl ?_
    refine l_skip rfl rfl rfl rfl rfl rfl ?_
    refine l_skip rfl rfl rfl rfl rfl rfl ?_
    refine l_skip rfl rfl rfl rfl rfl rfl ?_
    refine l_skip rfl rfl rfl rfl rfl rfl ?_
    refine l_skip rfl rfl rfl rfl rfl rfl ?_
    refine l_skip rfl rfl rfl rfl rfl rfl ?_
    refine l_val (v := .bool true) rfl rfl rfl (e_pick_t rfl) ?_
    refine l_nil ?_
    refine f_then ?_
    refine c_yes rfl ?_
    refine c_ret ?_
    refine f_then_ret ?_
    refine ret0 Try.results50 ?_
    intro w hw
    exact ⟨⟨_, rfl⟩, .inr ⟨_, M1, hX1, st_mask [] rfl hw⟩⟩
end Go.Proofs
