/-
 What a mover iterates over: the other bodies, the ends of the ropes. Printed by a program of my own.
-/
import Derived.Test.YtdkibofhppgbjaaGreatDoorSt4
import Derived.Test.YtdkibofhppgbjaaGreatDoorSlC
namespace Go.Proofs
open Go Go.Sl Go.Stp
theorem tf76 : fldB Tryz.prog 87 0 0 4 true = true := by kernel_rfl
theorem tf77 : (Tryz.prog.info? 78).bind (·.zero) = some (.agg #[.int .i64 (0), .int .i64 (0), .int .i64 (0)]) := by kernel_rfl
theorem tf78 : cfB Tryz.prog 67 = true := by kernel_rfl
theorem tf79 : cfB Tryz.prog 92 = true := by kernel_rfl
theorem bodies1_seq (β : Base) (hG : GR β) (c : Nat) (v rv : Value) (gx gy : Int) (b : KB) (y : Bool) (s : Int) (bs : List KB) (rs : List KR) (hs : Sl KBR β.heap v bs) (hr : Sl KRR β.heap rv rs) (hbs : ∀ o ∈ bs, okB o) (hrs : ∀ r ∈ rs, okR bs r) (hb : okB b) (hn : bs.length ≤ 1048576) (hc : Cs β.heap ⟨c, 0, none⟩ (mC v rv gx gy b y s).toList) : SeqOf Tryz.prog β (.func (.func 149) #[] #[pp c 0]) (fun z : KB => [.agg (bC z)]) (· = others bs b) := by
 refine ⟨149, [], [pp c 0], rfl, by kernel_rfl, fun β₁ ext l J X hY M w hJ hw => ?_⟩
 have hcM := Cs.mono _ _ _ _ ext.sub hc
 have hs := Sl.mono _ _ _ _ _ ext.sub hs
 have hr := Sl.mono _ _ _ _ _ ext.sub hr
 have hG := GR.mono ext.sub hG
 obtain ⟨va, vc, rfl, vl, vm, ve⟩ := hs.get
 obtain ⟨rva, rvc, rfl, rvl, rvm, rve⟩ := hr.get
 refine enter (n := 33) Tryz.func149 rfl Tryz.ntmps149 rfl ?_ hw
 refine csr ?_
 refine lv (v := .pointer (some ((⟨c, 0, none⟩ : Addr).add 0))) (e_fieldAddr (a := ⟨c, 0, none⟩) rfl tf76) ?_
 refine lv (v := .pointer (some (((⟨c, 0, none⟩ : Addr).add 0 : Addr).add 0))) (e_fieldAddr (a := (⟨c, 0, none⟩ : Addr).add 0) rfl tf49) ?_
 refine lv (v := sB va bs (vc)) (e_load1 tf50 rfl (Knows.imp (Knows.imp (kB hcM) (fun _ h => Cs.sub (vs := [sB va bs (vc), sB rva rs (rvc), Ix (gx), Ix (gy)]) 0 h rfl)) (fun _ h => Cs.sub (vs := [sB va bs (vc)]) 0 h rfl))) ?_
 refine lv (v := Nx (bs.length)) (e_len (a := va) (n := bs.length) (c := vc) rfl tf40) ?_
 refine lv (v := .int .i64 (0)) e_move ?_
 refine lnf ?_
 refine c_block ?_
 refine c_loop (fun (x_ : Nat × List Res) (f : Fm) (L : List Res) => match x_ with | (k, M) => (f 0 = yfn l ∧ f 1 = .pointer (some (⟨c, 0, none⟩)) ∧ f 7 = sB va bs (vc) ∧ f 8 = Nx (bs.length) ∧ f 9 = Nx (k)) ∧ L = (M) ∧ (k ≤ bs.length ∧ J (others (bs.take k) b) M)) (fun (x_ : Nat × List Res) => match x_ with | (k, M) => bs.length - k) (0, M) ?_ ?_
 ·exact ⟨⟨rfl, rfl, rfl, rfl, rfl⟩, rfl, ⟨by omega, by simpa [others] using hJ⟩⟩
 rintro ⟨k, M⟩ f0 L0 ⟨⟨hs0, hs1, hs7, hs8, hs9⟩, hL, ⟨hk, hJ⟩⟩
 subst L0
 refine rebase (d := 0) hs0 ?_
 refine rebase (d := 1) hs1 ?_
 refine rebase (d := 7) hs7 ?_
 refine rebase (d := 8) hs8 ?_
 refine rebase (d := 9) hs9 ?_
 clear hs0 hs1 hs7 hs8 hs9
 refine csr ?_
 refine lv (e_lss (a := ((k : Nat) : Int)) (b := ((bs.length : Nat) : Int)) rfl rfl) ?_
 refine lnf ?_
 refine c_seq ?_
 refine c_if (((k : Nat) : Int) < ((bs.length : Nat) : Int)) rfl (fun hc1 => ?_) (fun hc1 => ?_)
 ·refine csk ?_
  refine c_seq ?_
  refine c_block ?_
  refine csr ?_
  obtain ⟨x2, hx3⟩ : ∃ x_, (bs)[k]? = some x_ := ⟨_, List.getElem?_eq_getElem (by omega)⟩
  obtain ⟨ha4, cs5, hc6, rfl⟩ := ve _ _ hx3
  refine lv (v := .pointer (some ((ba va).add (k * 9)))) (e_indexAddr (k := k) (len := bs.length) (cap := vc) (a := va) rfl rfl tf43 (by omega) ha4) ?_
  refine lv (v := .agg (bC x2)) (e_load tf22 rfl (kB hc6) rfl) ?_
  refine l_mv rfl rfl rfl (m_alloc tf58) ?_
  rintro _ _ ⟨b8, rfl, rfl⟩
  refine lu (m_store 0 tf22 (cs' := (bC x2)) rfl rfl rfl rfl rfl rfl rfl) ?_
  refine lnc ?_
  refine lv (v := pp b8 0) (e_fieldPt rfl tf3) ?_
  refine lv (v := Ix (x2.id)) (e_load1 tf2 rfl (k_pt 0 rfl rfl)) ?_
  refine lv (v := .pointer (some ((⟨c, 0, none⟩ : Addr).add 4))) (e_fieldAddr (a := ⟨c, 0, none⟩) rfl tf65) ?_
  refine lv (v := .pointer (some (((⟨c, 0, none⟩ : Addr).add 4 : Addr).add 0))) (e_fieldAddr (a := (⟨c, 0, none⟩ : Addr).add 4) rfl tf3) ?_
  refine lv (v := Ix (b.id)) (e_load1 tf2 rfl (Knows.imp (Knows.imp (kB hcM) (fun _ h => Cs.sub (vs := (bodyE b)) 4 h rfl)) (fun _ h => Cs.sub (vs := [Ix (b.id)]) 0 h rfl))) ?_
  refine lv (e_neq (a := (x2.id)) (b := (b.id)) rfl rfl) ?_
  refine lv (v := .bool (decide ((x2.id) ≠ (b.id)))) e_move ?_
  refine l_split (s := 19) (p := (x2.id) ≠ (b.id)) rfl (fun hg9 => ?_) (fun hg9 => ?_)
  ·refine g_val (v := .agg (bC x2)) rfl rfl rfl rfl rfl (e_load tf22 rfl (k_pt 0 rfl rfl) rfl) ?_
   refine g_val (v := .pointer (some ((⟨c, 0, none⟩ : Addr).add 4))) rfl rfl rfl rfl rfl (e_fieldAddr (a := ⟨c, 0, none⟩) rfl tf65) ?_
   refine g_val (v := .agg (bC b)) rfl rfl rfl rfl rfl (e_load tf22 rfl (Knows.imp (kB hcM) (fun _ h => Cs.sub (vs := (bodyE b)) 4 h rfl)) rfl) ?_
   refine g_call rfl rfl rfl rfl rfl (cl0 (vs := [.agg (bC x2), .agg (bC b)]) tf74 rfl rfl) ?_
   intro w hw
   obtain ⟨β1, sb, kn, hw1, back⟩ := St.frame_all hw
   have hG1 := GR.mono sb hG
   refine (over_ok β1 w hw1 hG1 x2 b).mono ?_
   rintro e w' ⟨rfl, hw'⟩
   refine ⟨_, rfl, _, back _ _ hw', ?_⟩
   clear hw hw1 hw' back kn sb
   refine g_val (v := .bool (decide (¬ (Stp.over x2 b)))) rfl rfl rfl rfl rfl (e_not_p (p := Stp.over x2 b) rfl) ?_
   refine lv (v := .bool (decide (¬ (Stp.over x2 b)))) (e_pick_t rfl) ?_
   refine lv (v := .bool (decide (¬ (Stp.over x2 b)))) e_move ?_
   refine l_split (s := 26) (p := ¬ (Stp.over x2 b)) rfl (fun hg10 => ?_) (fun hg10 => ?_)
   ·refine g_val (v := yfn l) rfl rfl rfl rfl rfl e_move ?_
    refine g_val (v := .agg (bC x2)) rfl rfl rfl rfl rfl (e_load tf22 rfl (k_pt 0 rfl rfl) rfl) ?_
    refine g_yield rfl rfl (own := [pt b8 (.cells (bC x2) 52)]) (M := M) (d := 29) (enc := fun z : KB => [.agg (bC z)]) (pre := others (bs.take k) b) (x := x2) rfl rfl rfl rfl hY (⟨_, rfl, others_pre hx3 hg9 hg10⟩) hJ (fun M1 hJ1 => ?_) (fun M1 hX1 => ?_)
    ·refine g_val (v := .bool false) rfl rfl rfl rfl rfl (e_not (a := true) rfl) ?_
     refine lv (v := .bool false) (e_pick_t rfl) ?_
     refine lnf ?_
     refine c_no rfl ?_
     refine c_skip ?_
     refine f_block ?_
     refine f_then ?_
     refine c_region ?_
     refine lv (v := Nx (k + 1)) (e_add (a := ((k : Nat) : Int)) (b := (1 : Int)) rfl rfl (i64n (by omega) (by omega))) ?_
     refine lv (v := Nx (k + 1)) e_move ?_
     refine l_nil ?_
     refine f_mask (L' := (M1)) [false] rfl ?_
     exact f_cut ⟨(k + 1, M1), ⟨⟨rfl, rfl, rfl, rfl, rfl⟩, rfl, ⟨by omega, by rw [others_snoc hx3 hg9 hg10]; exact hJ1⟩⟩, (show bs.length - (k + 1) < bs.length - k from by omega)⟩
    refine g_val (v := .bool true) rfl rfl rfl rfl rfl (e_not (a := false) rfl) ?_
    refine lv (v := .bool true) (e_pick_t rfl) ?_
    refine lnf ?_
    refine c_yes rfl ?_
    refine c_ret ?_
    refine f_block_ret ?_
    refine f_then_ret ?_
    refine f_then_ret ?_
    refine f_block_ret ?_
    refine ret0 Tryz.results149 ?_
    intro w hw
    exact ⟨⟨_, rfl⟩, .inr ⟨_, M1, hX1, st_mask [false] rfl hw⟩⟩
   refine l_skip rfl rfl rfl rfl rfl rfl ?_
   refine l_skip rfl rfl rfl rfl rfl rfl ?_
   refine l_skip rfl rfl rfl rfl rfl rfl ?_
   refine l_skip rfl rfl rfl rfl rfl rfl ?_
   refine lv (v := .bool false) (e_pick_f rfl) ?_
   refine lnf ?_
   refine c_no rfl ?_
   refine c_skip ?_
   refine f_block ?_
   refine f_then ?_
   refine c_region ?_
   refine lv (v := Nx (k + 1)) (e_add (a := ((k : Nat) : Int)) (b := (1 : Int)) rfl rfl (i64n (by omega) (by omega))) ?_
   refine lv (v := Nx (k + 1)) e_move ?_
   refine l_nil ?_
   refine f_mask (L' := (M)) [false] rfl ?_
   exact f_cut ⟨(k + 1, M), ⟨⟨rfl, rfl, rfl, rfl, rfl⟩, rfl, ⟨by omega, by rw [others_skip hx3 (fun q => hg10 q.2)]; exact hJ⟩⟩, (show bs.length - (k + 1) < bs.length - k from by omega)⟩
  refine l_skip rfl rfl rfl rfl rfl rfl ?_
  refine l_skip rfl rfl rfl rfl rfl rfl ?_
  refine l_skip rfl rfl rfl rfl rfl rfl ?_
  refine l_skip rfl rfl rfl rfl rfl rfl ?_
  refine l_skip rfl rfl rfl rfl rfl rfl ?_
  refine lv (v := .bool false) (e_pick_f rfl) ?_
  refine lv (v := .bool false) e_move ?_
  refine l_skip rfl rfl rfl rfl rfl rfl ?_
  refine l_skip rfl rfl rfl rfl rfl rfl ?_
  refine l_skip rfl rfl rfl rfl rfl rfl ?_
  refine l_skip rfl rfl rfl rfl rfl rfl ?_
  refine lv (v := .bool false) (e_pick_f rfl) ?_
  refine lnf ?_
  refine c_no rfl ?_
  refine c_skip ?_
  refine f_block ?_
  refine f_then ?_
  refine c_region ?_
  refine lv (v := Nx (k + 1)) (e_add (a := ((k : Nat) : Int)) (b := (1 : Int)) rfl rfl (i64n (by omega) (by omega))) ?_
  refine lv (v := Nx (k + 1)) e_move ?_
  refine l_nil ?_
  refine f_mask (L' := (M)) [false] rfl ?_
  exact f_cut ⟨(k + 1, M), ⟨⟨rfl, rfl, rfl, rfl, rfl⟩, rfl, ⟨by omega, by rw [others_skip hx3 (fun q => hg9 q.1)]; exact hJ⟩⟩, (show bs.length - (k + 1) < bs.length - k from by omega)⟩
 refine c_exit ?_
 refine f_then_exit ?_
 refine f_then_exit ?_
 refine f_exit ?_
 refine end0 Tryz.results149 ?_
 intro w hw
 exact ⟨⟨_, rfl⟩, .inl ⟨_, M, rfl, (by rw [List.take_of_length_le (by omega)] at hJ; exact hJ), st_mask [] rfl hw⟩⟩
theorem ends11_fn (β : Base) (c : Nat) (i : Int) (hc : Cs β.heap ⟨c, 0, none⟩ [Ix i]) : FnV Tryz.prog β (.func (.func 145) #[] #[pp c 0]) (fun z : KB => [.agg (bC z)]) (fun _ => True) (fun z => .bool (decide (z.id = i))) := by
 refine ⟨145, [], [.pointer (some (⟨c, 0, none⟩))], rfl, by kernel_rfl, fun β₁ sb0 z_ hz_ w hw => ?_⟩
 have hc1 := Cs.mono _ _ _ _ sb0 hc
 obtain ⟨b, hb⟩ : ∃ b, b = z_ := ⟨_, rfl⟩
 subst hb
 refine enter (n := 8) Tryz.func145 rfl Tryz.ntmps145 rfl ?_ hw
 refine csr ?_
 refine l_mv rfl rfl rfl (m_box (v := .agg (bC b)) rfl) ?_
 rintro _ _ ⟨b1, rfl, rfl⟩
 refine lv (v := .bool false) e_assign ?_
 refine lnc ?_
 refine lv (v := pp b1 0) (e_fieldPt rfl tf3) ?_
 refine lv (v := Ix (b.id)) (e_load1 tf2 rfl (k_pt 0 rfl rfl)) ?_
 refine lv (v := Ix (i)) (e_load1 tf2 rfl (kB hc1)) ?_
 refine lv (e_eql (a := (b.id)) (b := (i)) rfl rfl) ?_
 refine lv (v := .bool (decide ((b.id) = (i)))) e_assign ?_
 refine lnf ?_
 refine c_ret ?_
 refine ret1 Tryz.results145 (v := .bool (decide ((b.id) = (i)))) rfl ?_
 intro w hw
 exact ⟨rfl, st_mask [false] rfl hw⟩
theorem indexBk_ok (β : Base) (w : World) (hw : St β [] w) (v fn : Value) (xs : List KB) (hs : Sl KBR β.heap v xs) (p : KB → Bool) (hfn : FnV Tryz.prog β fn (fun z : KB => [.agg (bC z)]) (· ∈ xs) (fun z => .bool (p z))) (k : Nat) (hk : idxI p xs = k) : Calls Tryz.prog 67 #[v, fn] w fun r w' => r = .returned (Nx k) ∧ St β [] w' := by
 refine (indexB_ok β w hw v fn xs hs p hfn).mono ?_
 rintro r w' ⟨rfl, hw'⟩
 exact ⟨by rw [hk], hw'⟩
theorem ends1_seq (β : Base) (hG : GR β) (c : Nat) (v rv : Value) (gx gy : Int) (b : KB) (y : Bool) (s : Int) (bs : List KB) (rs : List KR) (hs : Sl KBR β.heap v bs) (hr : Sl KRR β.heap rv rs) (hbs : ∀ o ∈ bs, okB o) (hrs : ∀ r ∈ rs, okR bs r) (hb : okB b) (hn : bs.length ≤ 1048576) (hc : Cs β.heap ⟨c, 0, none⟩ (mC v rv gx gy b y s).toList) : SeqOf Tryz.prog β (.func (.func 144) #[] #[pp c 0]) (fun z : KB × Int => [.agg (bC z.1), Ix z.2]) (· = ends bs rs b) := by
 refine ⟨144, [], [pp c 0], rfl, by kernel_rfl, fun β₁ ext l J X hY M w hJ hw => ?_⟩
 have hcM := Cs.mono _ _ _ _ ext.sub hc
 have hs := Sl.mono _ _ _ _ _ ext.sub hs
 have hr := Sl.mono _ _ _ _ _ ext.sub hr
 have hG := GR.mono ext.sub hG
 obtain ⟨va, vc, rfl, vl, vm, ve⟩ := hs.get
 obtain ⟨rva, rvc, rfl, rvl, rvm, rve⟩ := hr.get
 refine enter (n := 61) Tryz.func144 rfl Tryz.ntmps144 rfl ?_ hw
 refine csr ?_
 refine lv (v := .pointer (some ((⟨c, 0, none⟩ : Addr).add 0))) (e_fieldAddr (a := ⟨c, 0, none⟩) rfl tf76) ?_
 refine lv (v := .pointer (some (((⟨c, 0, none⟩ : Addr).add 0 : Addr).add 1))) (e_fieldAddr (a := (⟨c, 0, none⟩ : Addr).add 0) rfl tf55) ?_
 refine lv (v := sB rva rs (rvc)) (e_load1 tf56 rfl (Knows.imp (Knows.imp (kB hcM) (fun _ h => Cs.sub (vs := [sB va bs (vc), sB rva rs (rvc), Ix (gx), Ix (gy)]) 0 h rfl)) (fun _ h => Cs.sub (vs := [sB rva rs (rvc)]) 1 h rfl))) ?_
 refine lv (v := Nx (rs.length)) (e_len (a := rva) (n := rs.length) (c := rvc) rfl tf45) ?_
 refine lv (v := .int .i64 (0)) e_move ?_
 refine lnf ?_
 refine c_block ?_
 refine c_loop (fun (x_ : Nat × List Res) (f : Fm) (L : List Res) => match x_ with | (k, M) => (f 0 = yfn l ∧ f 1 = .pointer (some (⟨c, 0, none⟩)) ∧ f 9 = sB rva rs (rvc) ∧ f 10 = Nx (rs.length) ∧ f 11 = Nx (k)) ∧ L = (M) ∧ (k ≤ rs.length ∧ J (ends bs (rs.take k) b) M)) (fun (x_ : Nat × List Res) => match x_ with | (k, M) => rs.length - k) (0, M) ?_ ?_
 ·exact ⟨⟨rfl, rfl, rfl, rfl, rfl⟩, rfl, ⟨by omega, by simpa [ends] using hJ⟩⟩
 rintro ⟨k, M⟩ f0 L0 ⟨⟨hs0, hs1, hs9, hs10, hs11⟩, hL, ⟨hk, hJ⟩⟩
 subst L0
 refine rebase (d := 0) hs0 ?_
 refine rebase (d := 1) hs1 ?_
 refine rebase (d := 9) hs9 ?_
 refine rebase (d := 10) hs10 ?_
 refine rebase (d := 11) hs11 ?_
 clear hs0 hs1 hs9 hs10 hs11
 refine csr ?_
 refine lv (e_lss (a := ((k : Nat) : Int)) (b := ((rs.length : Nat) : Int)) rfl rfl) ?_
 refine lnf ?_
 refine c_seq ?_
 refine c_if (((k : Nat) : Int) < ((rs.length : Nat) : Int)) rfl (fun hc1 => ?_) (fun hc1 => ?_)
 ·refine csk ?_
  refine c_seq ?_
  refine c_block ?_
  refine csr ?_
  obtain ⟨x2, hx3⟩ : ∃ x_, (rs)[k]? = some x_ := ⟨_, List.getElem?_eq_getElem (by omega)⟩
  obtain ⟨ha4, cs5, hc6, rfl⟩ := rve _ _ hx3
  refine lv (v := .pointer (some ((ba rva).add (k * 3)))) (e_indexAddr (k := k) (len := rs.length) (cap := rvc) (a := rva) rfl rfl tf46 (by omega) ha4) ?_
  refine lv (v := .agg #[Ix (x2.a), Ix (x2.b), Ix (x2.len)]) (e_load tf47 rfl (kB hc6) rfl) ?_
  refine l_mv rfl rfl rfl (m_alloc tf77) ?_
  rintro _ _ ⟨b8, rfl, rfl⟩
  refine lu (m_store 0 tf47 (cs' := #[Ix (x2.a), Ix (x2.b), Ix (x2.len)]) rfl rfl rfl rfl rfl rfl rfl) ?_
  refine lnf ?_
  refine cs2 ?_
  refine c_region ?_
  refine lv (v := pp b8 0) (e_fieldPt rfl tf51) ?_
  refine lv (v := Ix (x2.a)) (e_load1 tf2 rfl (k_pt 0 rfl rfl)) ?_
  refine lv (v := .pointer (some ((⟨c, 0, none⟩ : Addr).add 4))) (e_fieldAddr (a := ⟨c, 0, none⟩) rfl tf65) ?_
  refine lv (v := .pointer (some (((⟨c, 0, none⟩ : Addr).add 4 : Addr).add 0))) (e_fieldAddr (a := (⟨c, 0, none⟩ : Addr).add 4) rfl tf3) ?_
  refine lv (v := Ix (b.id)) (e_load1 tf2 rfl (Knows.imp (Knows.imp (kB hcM) (fun _ h => Cs.sub (vs := (bodyE b)) 4 h rfl)) (fun _ h => Cs.sub (vs := [Ix (b.id)]) 0 h rfl))) ?_
  refine lv (e_neq (a := (x2.a)) (b := (b.id)) rfl rfl) ?_
  refine lv (v := .bool (decide ((x2.a) ≠ (b.id)))) e_move ?_
  refine l_split (s := 21) (p := (x2.a) ≠ (b.id)) rfl (fun hg9 => ?_) (fun hg9 => ?_)
  ·refine g_val (v := pp b8 1) rfl rfl rfl rfl rfl (e_fieldPt rfl tf53) ?_
   refine g_val (v := Ix (x2.b)) rfl rfl rfl rfl rfl (e_load1 tf2 rfl (k_pt 0 rfl rfl)) ?_
   refine g_val (v := .pointer (some ((⟨c, 0, none⟩ : Addr).add 4))) rfl rfl rfl rfl rfl (e_fieldAddr (a := ⟨c, 0, none⟩) rfl tf65) ?_
   refine g_val (v := .pointer (some (((⟨c, 0, none⟩ : Addr).add 4 : Addr).add 0))) rfl rfl rfl rfl rfl (e_fieldAddr (a := (⟨c, 0, none⟩ : Addr).add 4) rfl tf3) ?_
   refine g_val (v := Ix (b.id)) rfl rfl rfl rfl rfl (e_load1 tf2 rfl (Knows.imp (Knows.imp (kB hcM) (fun _ h => Cs.sub (vs := (bodyE b)) 4 h rfl)) (fun _ h => Cs.sub (vs := [Ix (b.id)]) 0 h rfl))) ?_
   refine g_val rfl rfl rfl rfl rfl (e_neq (a := (x2.b)) (b := (b.id)) rfl rfl) ?_
   refine lv (v := .bool (decide ((x2.b) ≠ (b.id)))) (e_pick_t rfl) ?_
   refine lnf ?_
   refine c_if ((x2.b) ≠ (b.id)) rfl (fun hc10 => ?_) (fun hc10 => ?_)
   ·refine c_exit ?_
    refine f_then_exit ?_
    refine f_exit ?_
    refine f_then ?_
    refine c_region ?_
    refine lv (v := Nx (k + 1)) (e_add (a := ((k : Nat) : Int)) (b := (1 : Int)) rfl rfl (i64n (by omega) (by omega))) ?_
    refine lv (v := Nx (k + 1)) e_move ?_
    refine l_nil ?_
    refine f_mask (L' := (M)) [false] rfl ?_
    exact f_cut ⟨(k + 1, M), ⟨⟨rfl, rfl, rfl, rfl, rfl⟩, rfl, ⟨by omega, by rw [ends_skip hx3 (endOf_skip hg9 hc10)]; exact hJ⟩⟩, (show rs.length - (k + 1) < rs.length - k from by omega)⟩
   refine csk ?_
   refine c_seq ?_
   have he : x2.a = b.id ∨ x2.b = b.id := .inr (Decidable.not_not.1 hc10)
   have hok := hrs _ (List.mem_of_getElem? hx3)
   have hid := rope_ids hbs hok
   have hbi := hb.1
   obtain ⟨o, ho⟩ := end_found hok he
   obtain ⟨kq, hkq, hx0⟩ := idx_body ho
   have hk1 := (List.getElem?_eq_some_iff.1 hx0).1
   obtain ⟨ha0, cs0, hc0, rfl⟩ := ve _ _ hx0
   have hoo := hbs _ (List.mem_of_getElem? hx0)
   have hen := endOf_some he ho
   have hq := sq_bd (x := x2.len) (B := 2097152) (by omega) (by omega)
   refine c_region ?_
   refine lv (v := pp b8 0) (e_fieldPt rfl tf51) ?_
   refine lv (v := Ix (x2.a)) (e_load1 tf2 rfl (k_pt 0 rfl rfl)) ?_
   refine lv (v := pp b8 1) (e_fieldPt rfl tf53) ?_
   refine lv (v := Ix (x2.b)) (e_load1 tf2 rfl (k_pt 0 rfl rfl)) ?_
   refine lv (v := Ix ((x2.a) + (x2.b))) (e_add (a := (x2.a)) (b := (x2.b)) rfl rfl (i64w (by omega))) ?_
   refine lv (v := .pointer (some ((⟨c, 0, none⟩ : Addr).add 4))) (e_fieldAddr (a := ⟨c, 0, none⟩) rfl tf65) ?_
   refine lv (v := .pointer (some (((⟨c, 0, none⟩ : Addr).add 4 : Addr).add 0))) (e_fieldAddr (a := (⟨c, 0, none⟩ : Addr).add 4) rfl tf3) ?_
   refine lv (v := Ix (b.id)) (e_load1 tf2 rfl (Knows.imp (Knows.imp (kB hcM) (fun _ h => Cs.sub (vs := (bodyE b)) 4 h rfl)) (fun _ h => Cs.sub (vs := [Ix (b.id)]) 0 h rfl))) ?_
   refine lv (v := Ix (((x2.a) + (x2.b)) - (b.id))) (e_sub (a := ((x2.a) + (x2.b))) (b := (b.id)) rfl rfl (i64w (by omega))) ?_
   refine l_mv rfl rfl rfl (m_alloc tf4) ?_
   rintro _ _ ⟨b11, rfl, rfl⟩
   refine lu (m_store 0 tf2 (cs' := #[Ix (((x2.a) + (x2.b)) - (b.id))]) rfl rfl rfl rfl rfl rfl rfl) ?_
   refine lnf ?_
   refine c_seq ?_
   refine c_any [⟨[], [], [0], [38], fun f => f 38 = .pointer (some ((⟨c, 0, none⟩ : Addr).add 0))⟩, ⟨[0], [0], [], [39], fun f => f 39 = .pointer (some (((⟨c, 0, none⟩ : Addr).add 0 : Addr).add 0))⟩, ⟨[0, 1], [1], [], [40], fun f => f 40 = sB va bs (vc)⟩, ⟨[], [], [0], [41], fun f => f 41 = .pointer (some ((⟨c, 0, none⟩ : Addr).add 0))⟩, ⟨[3], [3], [], [42], fun f => f 42 = .pointer (some (((⟨c, 0, none⟩ : Addr).add 0 : Addr).add 0))⟩, ⟨[3, 4], [4], [], [43], fun f => f 43 = sB va bs (vc)⟩, ⟨[], [], [1], [44], fun f => f 44 = .func (.func 145) #[] #[pp b11 0]⟩, ⟨[3, 4, 5, 6], [5, 6], [], [45], fun f => f 45 = Nx (kq)⟩, ⟨(List.range 8), [2, 7], [], [46], fun f => f 46 = .pointer (some ((ba va).add (kq * 9)))⟩, ⟨(List.range 9), [8], [], [47], fun f => f 47 = .agg (bC o)⟩, ⟨[], [], [], [6], fun f => f 6 = .pointer (some ⟨(blk (f 6)), 0, none⟩)⟩, ⟨(List.range 11), [10, 9], [], [], fun _ => True⟩] [⟨none, none, [7], [], fun _ => pt b11 (.cells #[Ix (((x2.a) + (x2.b)) - (b.id))] 3)⟩, ⟨none, none, [], [], fun _ => pt b8 (.cells #[Ix (x2.a), Ix (x2.b), Ix (x2.len)] 78)⟩, ⟨(some 10), (some 11), [11], [6], fun f => pt (blk (f 6)) (.cells #[.int .i64 (0), .int .i64 (0), .int .i64 (0), .int .i64 (0), .int .i64 (0), .int .i64 (0), .int .i64 (0), .bool false, .bool false] 52)⟩, ⟨(some 11), none, [], [6], fun f => pt (blk (f 6)) (.cells (bC o) 52)⟩] [(1, .pointer (some (⟨c, 0, none⟩))), (5, pp b11 0), (0, yfn l), (4, pp b8 0), (9, sB rva rs (rvc)), (10, Nx (rs.length)), (11, Nx (k))] [2, 0, 3, 4, 5, 6] M (by kernel_rfl) (by kernel_rfl) (by kernel_rfl) (by kernel_rfl) rfl ⟨rfl, rfl, rfl, rfl, rfl, rfl, rfl, trivial⟩ ⟨?_, ?_, ?_, ?_, ?_, ?_, ?_, ?_, ?_, ?_, ?_, ?_, trivial⟩ ?_
   ·rintro f M - ⟨i0, -⟩
    exact ob0 (up_cons (d := 1) rfl i0) rfl (e_fieldAddr (a := ⟨c, 0, none⟩) rfl tf76) (.refl _)
   ·rintro f M ⟨k0, -⟩ -
    exact ob0 (up_cons (d := 38) rfl k0) rfl (e_fieldAddr (a := (⟨c, 0, none⟩ : Addr).add 0) rfl tf49) (.refl _)
   ·rintro f M ⟨k0, -⟩ -
    exact ob0 (up_cons (d := 39) rfl k0) rfl (e_load1 tf50 rfl (Knows.imp (Knows.imp (kB hcM) (fun _ h => Cs.sub (vs := [sB va bs (vc), sB rva rs (rvc), Ix (gx), Ix (gy)]) 0 h rfl)) (fun _ h => Cs.sub (vs := [sB va bs (vc)]) 0 h rfl))) (.refl _)
   ·rintro f M - ⟨i0, -⟩
    exact ob0 (up_cons (d := 1) rfl i0) rfl (e_fieldAddr (a := ⟨c, 0, none⟩) rfl tf76) (.refl _)
   ·rintro f M ⟨k0, -⟩ -
    exact ob0 (up_cons (d := 41) rfl k0) rfl (e_fieldAddr (a := (⟨c, 0, none⟩ : Addr).add 0) rfl tf49) (.refl _)
   ·rintro f M ⟨k0, -⟩ -
    exact ob0 (up_cons (d := 42) rfl k0) rfl (e_load1 tf50 rfl (Knows.imp (Knows.imp (kB hcM) (fun _ h => Cs.sub (vs := [sB va bs (vc), sB rva rs (rvc), Ix (gx), Ix (gy)]) 0 h rfl)) (fun _ h => Cs.sub (vs := [sB va bs (vc)]) 0 h rfl))) (.refl _)
   ·rintro f M - ⟨i0, -⟩
    exact ob0 (up_cons (d := 5) rfl i0) rfl (e_func (u := []) (v := [pp b11 0]) rfl rfl) (.refl _)
   ·rintro f M ⟨k0, k1, -⟩ -
    refine ob_start (L' := pt b11 (.cells #[Ix (((x2.a) + (x2.b)) - (b.id))] 3) :: M) (by rfl) (up_cons (d := 44) (up_cons (d := 43) rfl k0) k1) ?_
    refine lcf (cl0 (vs := [sB va bs (vc), .func (.func 145) #[] #[pp b11 0]]) tf78 rfl rfl) rfl fun w β1 sb kn hw1 back => (indexBk_ok β1 w hw1 _ _ bs (Sl.mono _ _ _ _ _ sb (⟨⟨_, _, rfl, vl, vm, ve⟩⟩ : Sl KBR _ _ bs)) (fun z => decide (z.id = ((x2.a) + (x2.b)) - (b.id))) (fnv_all (ends11_fn β1 b11 (((x2.a) + (x2.b)) - (b.id)) (kn _ (k_pt 0 (o := 0) rfl rfl)))) kq hkq).mono ?_
    rintro e w' ⟨rfl, hw'⟩
    refine ⟨_, rfl, _, back _ _ hw', ?_⟩
    clear hw1 hw' back kn sb
    refine l_nil ?_
    exact f_owes_d (up_cons (d := 44) (up_cons (d := 43) rfl k0) k1) rfl (perm_front 0 rfl)
   ·rintro f M ⟨k0, k1, -⟩ -
    exact ob0 (up_cons (d := 45) (up_cons (d := 40) rfl k0) k1) rfl (e_indexAddr (k := kq) (len := bs.length) (cap := vc) (a := va) rfl rfl tf43 (by omega) ha0) (.refl _)
   ·rintro f M ⟨k0, -⟩ -
    exact ob0 (up_cons (d := 46) rfl k0) rfl (e_load tf22 rfl (kB hc0) rfl) (.refl _)
   ·rintro f M - -
    refine ob_start (L' := M) (by rfl) rfl ?_
    refine l_mv rfl rfl rfl (m_alloc tf58) ?_
    rintro _ _ ⟨b13, rfl, rfl⟩
    refine l_nil ?_
    exact f_owes_d rfl rfl (perm_front 0 rfl)
   ·rintro f M ⟨k0, k1, -⟩ -
    have hs6 : f 6 = .pointer (some ⟨(blk (f 6)), 0, none⟩) := k0
    refine ob_start (L' := pt (blk (f 6)) (.cells #[.int .i64 (0), .int .i64 (0), .int .i64 (0), .int .i64 (0), .int .i64 (0), .int .i64 (0), .int .i64 (0), .bool false, .bool false] 52) :: M) (by rfl) (up_cons (d := 47) (up_cons rfl hs6) k1) ?_
    refine lu (m_store 0 tf22 (cs' := (bC o)) rfl rfl rfl rfl rfl rfl rfl) ?_
    refine l_nil ?_
    exact f_owes_n (up_cons (d := 47) (up_cons rfl hs6) k1) trivial (perm_front 0 rfl)
   rintro fa14 ⟨-, -, -, -, -, -, -, -, -, -, k10, -, -⟩ ⟨j0, j1, j2, j3, j4, j5, -⟩
   refine f_re (L' := (pt b11 (.cells #[Ix (((x2.a) + (x2.b)) - (b.id))] 3) :: pt b8 (.cells #[Ix (x2.a), Ix (x2.b), Ix (x2.len)] 78) :: pt (blk (fa14 6)) (.cells (bC o) 52) :: M)) (by rfl) ?_
   refine f_rebase (d := 0) j0 ?_
   refine f_rebase (d := 1) j1 ?_
   refine f_rebase (d := 4) j2 ?_
   refine f_rebase (d := 6) k10 ?_
   refine f_rebase (d := 9) j3 ?_
   refine f_rebase (d := 10) j4 ?_
   refine f_rebase (d := 11) j5 ?_
   refine fts ?_
   refine c_any_tail 10 rfl (by kernel_rfl) [⟨[], [], [0], [48], fun f => f 48 = yfn l⟩, ⟨[], [], [1], [49], fun f => f 49 = .agg (bC o)⟩, ⟨[], [], [2], [50], fun f => f 50 = pp b8 2⟩, ⟨[2], [2], [], [51], fun f => f 51 = Ix (x2.len)⟩, ⟨[2, 3], [3], [], [52], fun f => f 52 = Ix ((x2.len) * (x2.len))⟩, ⟨[], [], [3], [53], fun f => f 53 = .pointer (some ((⟨c, 0, none⟩ : Addr).add 4))⟩, ⟨[5], [5], [], [54], fun f => f 54 = .agg (bC b)⟩, ⟨[], [], [1], [55], fun f => f 55 = .agg (bC o)⟩, ⟨[2, 3, 4, 5, 6, 7], [6, 7], [], [56], fun f => f 56 = Ix (Stp.dist b o)⟩, ⟨[2, 3, 4, 5, 6, 7, 8], [4, 8], [], [57], fun f => f 57 = Ix (max ((x2.len) * (x2.len)) (Stp.dist b o))⟩, ⟨(List.range 10), [], [], [], fun _ => True⟩, ⟨(List.range 11), [], [], [], fun _ => True⟩] [⟨none, none, [], [], fun _ => pt b11 (.cells #[Ix (((x2.a) + (x2.b)) - (b.id))] 3)⟩, ⟨none, none, [3], [], fun _ => pt b8 (.cells #[Ix (x2.a), Ix (x2.b), Ix (x2.len)] 78)⟩, ⟨none, none, [1, 7], [], fun _ => pt (blk (fa14 6)) (.cells (bC o) 52)⟩] [(0, yfn l), (6, .pointer (some ⟨(blk (fa14 6)), 0, none⟩)), (4, pp b8 0), (1, .pointer (some (⟨c, 0, none⟩))), (9, sB rva rs (rvc)), (10, Nx (rs.length)), (11, Nx (k))] [0, 3, 4, 5, 6] M (by kernel_rfl) (by kernel_rfl) (by kernel_rfl) (by kernel_rfl) (by kernel_rfl) (by kernel_rfl) rfl ⟨rfl, rfl, rfl, rfl, rfl, rfl, rfl, trivial⟩ ⟨?_, ?_, ?_, ?_, ?_, ?_, ?_, ?_, ?_, ?_, trivial⟩ ?_
   ·rintro f M - ⟨i0, -⟩
    exact ob0 (up_cons (d := 0) rfl i0) rfl e_move (.refl _)
   ·rintro f M - ⟨i0, -⟩
    exact obv (L' := pt (blk (fa14 6)) (.cells (bC o) 52) :: M) (up_cons (d := 6) rfl i0) rfl (e_load tf22 rfl (k_pt 0 rfl rfl) rfl) (perm_front 0 rfl) (by rfl)
   ·rintro f M - ⟨i0, -⟩
    exact ob0 (up_cons (d := 4) rfl i0) rfl (e_fieldPt rfl tf54) (.refl _)
   ·rintro f M ⟨k0, -⟩ -
    exact obv (L' := pt b8 (.cells #[Ix (x2.a), Ix (x2.b), Ix (x2.len)] 78) :: M) (up_cons (d := 50) rfl k0) rfl (e_load1 tf2 rfl (k_pt 0 rfl rfl)) (perm_front 0 rfl) (by rfl)
   ·rintro f M ⟨k0, -⟩ -
    refine ob_start (L' := M) (by rfl) (up_cons (d := 51) rfl k0) ?_
    refine lcf (cl0 (vs := [Ix (x2.len)]) tf69 rfl rfl) rfl fun w β1 sb kn hw1 back => (sq_ok β1 w hw1 (x2.len) (by omega)).mono ?_
    rintro e w' ⟨rfl, hw'⟩
    refine ⟨_, rfl, _, back _ _ hw', ?_⟩
    clear hw1 hw' back kn sb
    refine l_nil ?_
    exact f_owes_d (up_cons (d := 51) rfl k0) rfl (List.Perm.refl _)
   ·rintro f M - ⟨i0, -⟩
    exact ob0 (up_cons (d := 1) rfl i0) rfl (e_fieldAddr (a := ⟨c, 0, none⟩) rfl tf65) (.refl _)
   ·rintro f M ⟨k0, -⟩ -
    exact ob0 (up_cons (d := 53) rfl k0) rfl (e_load tf22 rfl (Knows.imp (kB hcM) (fun _ h => Cs.sub (vs := (bodyE b)) 4 h rfl)) rfl) (.refl _)
   ·rintro f M - ⟨i0, -⟩
    exact obv (L' := pt (blk (fa14 6)) (.cells (bC o) 52) :: M) (up_cons (d := 6) rfl i0) rfl (e_load tf22 rfl (k_pt 0 rfl rfl) rfl) (perm_front 0 rfl) (by rfl)
   ·rintro f M ⟨k0, k1, -⟩ -
    refine ob_start (L' := M) (by rfl) (up_cons (d := 55) (up_cons (d := 54) rfl k0) k1) ?_
    refine lcf (cl0 (vs := [.agg (bC b), .agg (bC o)]) tf79 rfl rfl) rfl fun w β1 sb kn hw1 back => (dist_ok β1 w hw1 b o hb.mid hoo.mid).mono ?_
    rintro e w' ⟨rfl, hw'⟩
    refine ⟨_, rfl, _, back _ _ hw', ?_⟩
    clear hw1 hw' back kn sb
    refine l_nil ?_
    exact f_owes_d (up_cons (d := 55) (up_cons (d := 54) rfl k0) k1) rfl (List.Perm.refl _)
   ·rintro f M ⟨k0, k1, -⟩ -
    exact ob0 (up_cons (d := 56) (up_cons (d := 52) rfl k0) k1) rfl (e_max (a := ((x2.len) * (x2.len))) (b := (Stp.dist b o)) rfl rfl) (.refl _)
   rintro fa15 ⟨k0, k1, -, -, -, -, -, -, -, k9, -⟩ ⟨j0, j1, j2, j3, j4, -⟩
   refine l_re (L' := (pt b11 (.cells #[Ix (((x2.a) + (x2.b)) - (b.id))] 3) :: pt b8 (.cells #[Ix (x2.a), Ix (x2.b), Ix (x2.len)] 78) :: pt (blk (fa14 6)) (.cells (bC o) 52) :: M)) (by rfl) ?_
   refine l_rebase (d := 0) (v := yfn l) j0 ?_
   refine l_rebase (d := 1) (v := .pointer (some (⟨c, 0, none⟩))) j1 ?_
   refine l_rebase (d := 9) (v := sB rva rs (rvc)) j2 ?_
   refine l_rebase (d := 10) (v := Nx (rs.length)) j3 ?_
   refine l_rebase (d := 11) (v := Nx (k)) j4 ?_
   refine l_rebase (d := 48) (v := yfn l) k0 ?_
   refine l_rebase (d := 49) (v := .agg (bC o)) k1 ?_
   refine l_rebase (d := 57) (v := Ix (max ((x2.len) * (x2.len)) (Stp.dist b o))) k9 ?_
   refine l_yield (own := [pt b11 (.cells #[Ix (((x2.a) + (x2.b)) - (b.id))] 3), pt b8 (.cells #[Ix (x2.a), Ix (x2.b), Ix (x2.len)] 78), pt (blk (fa14 6)) (.cells (bC o) 52)]) (M := M) (d := 58) (enc := fun z : KB × Int => [.agg (bC z.1), Ix z.2]) (pre := ends bs (rs.take k) b) (x := (o, max (x2.len * x2.len) (Stp.dist b o))) rfl rfl rfl rfl hY (⟨_, rfl, ends_pre hx3 hen⟩) hJ (fun M1 hJ1 => ?_) (fun M1 hX1 => ?_)
   ·refine lv (v := .bool false) (e_not (a := true) rfl) ?_
    refine lnf ?_
    refine c_no rfl ?_
    refine c_skip ?_
    refine f_block ?_
    refine f_then ?_
    refine c_region ?_
    refine lv (v := Nx (k + 1)) (e_add (a := ((k : Nat) : Int)) (b := (1 : Int)) rfl rfl (i64n (by omega) (by omega))) ?_
    refine lv (v := Nx (k + 1)) e_move ?_
    refine l_nil ?_
    refine f_mask (L' := (M1)) [false, false, false] rfl ?_
    exact f_cut ⟨(k + 1, M1), ⟨⟨rfl, rfl, rfl, rfl, rfl⟩, rfl, ⟨by omega, by rw [ends_snoc hx3 hen]; exact hJ1⟩⟩, (show rs.length - (k + 1) < rs.length - k from by omega)⟩
   refine lv (v := .bool true) (e_not (a := false) rfl) ?_
   refine lnf ?_
   refine c_yes rfl ?_
   refine c_ret ?_
   refine f_block_ret ?_
   refine f_then_ret ?_
   refine f_then_ret ?_
   refine f_block_ret ?_
   refine ret0 Tryz.results144 ?_
   intro w hw
   exact ⟨⟨_, rfl⟩, .inr ⟨_, M1, hX1, st_mask [false, false, false] rfl hw⟩⟩
  refine l_skip rfl rfl rfl rfl rfl rfl ?_
  refine l_skip rfl rfl rfl rfl rfl rfl ?_
  refine l_skip rfl rfl rfl rfl rfl rfl ?_
  refine l_skip rfl rfl rfl rfl rfl rfl ?_
  refine l_skip rfl rfl rfl rfl rfl rfl ?_
  refine l_skip rfl rfl rfl rfl rfl rfl ?_
  refine lv (v := .bool false) (e_pick_f rfl) ?_
  refine lnf ?_
  refine c_no rfl ?_
  refine csk ?_
  refine c_seq ?_
  have he : x2.a = b.id ∨ x2.b = b.id := .inl (Decidable.not_not.1 hg9)
  have hok := hrs _ (List.mem_of_getElem? hx3)
  have hid := rope_ids hbs hok
  have hbi := hb.1
  obtain ⟨o, ho⟩ := end_found hok he
  obtain ⟨kq, hkq, hx0⟩ := idx_body ho
  have hk1 := (List.getElem?_eq_some_iff.1 hx0).1
  obtain ⟨ha0, cs0, hc0, rfl⟩ := ve _ _ hx0
  have hoo := hbs _ (List.mem_of_getElem? hx0)
  have hen := endOf_some he ho
  have hq := sq_bd (x := x2.len) (B := 2097152) (by omega) (by omega)
  refine c_region ?_
  refine lv (v := pp b8 0) (e_fieldPt rfl tf51) ?_
  refine lv (v := Ix (x2.a)) (e_load1 tf2 rfl (k_pt 0 rfl rfl)) ?_
  refine lv (v := pp b8 1) (e_fieldPt rfl tf53) ?_
  refine lv (v := Ix (x2.b)) (e_load1 tf2 rfl (k_pt 0 rfl rfl)) ?_
  refine lv (v := Ix ((x2.a) + (x2.b))) (e_add (a := (x2.a)) (b := (x2.b)) rfl rfl (i64w (by omega))) ?_
  refine lv (v := .pointer (some ((⟨c, 0, none⟩ : Addr).add 4))) (e_fieldAddr (a := ⟨c, 0, none⟩) rfl tf65) ?_
  refine lv (v := .pointer (some (((⟨c, 0, none⟩ : Addr).add 4 : Addr).add 0))) (e_fieldAddr (a := (⟨c, 0, none⟩ : Addr).add 4) rfl tf3) ?_
  refine lv (v := Ix (b.id)) (e_load1 tf2 rfl (Knows.imp (Knows.imp (kB hcM) (fun _ h => Cs.sub (vs := (bodyE b)) 4 h rfl)) (fun _ h => Cs.sub (vs := [Ix (b.id)]) 0 h rfl))) ?_
  refine lv (v := Ix (((x2.a) + (x2.b)) - (b.id))) (e_sub (a := ((x2.a) + (x2.b))) (b := (b.id)) rfl rfl (i64w (by omega))) ?_
  refine l_mv rfl rfl rfl (m_alloc tf4) ?_
  rintro _ _ ⟨b16, rfl, rfl⟩
  refine lu (m_store 0 tf2 (cs' := #[Ix (((x2.a) + (x2.b)) - (b.id))]) rfl rfl rfl rfl rfl rfl rfl) ?_
  refine lnf ?_
  refine c_seq ?_
  refine c_any [⟨[], [], [0], [38], fun f => f 38 = .pointer (some ((⟨c, 0, none⟩ : Addr).add 0))⟩, ⟨[0], [0], [], [39], fun f => f 39 = .pointer (some (((⟨c, 0, none⟩ : Addr).add 0 : Addr).add 0))⟩, ⟨[0, 1], [1], [], [40], fun f => f 40 = sB va bs (vc)⟩, ⟨[], [], [0], [41], fun f => f 41 = .pointer (some ((⟨c, 0, none⟩ : Addr).add 0))⟩, ⟨[3], [3], [], [42], fun f => f 42 = .pointer (some (((⟨c, 0, none⟩ : Addr).add 0 : Addr).add 0))⟩, ⟨[3, 4], [4], [], [43], fun f => f 43 = sB va bs (vc)⟩, ⟨[], [], [1], [44], fun f => f 44 = .func (.func 145) #[] #[pp b16 0]⟩, ⟨[3, 4, 5, 6], [5, 6], [], [45], fun f => f 45 = Nx (kq)⟩, ⟨(List.range 8), [2, 7], [], [46], fun f => f 46 = .pointer (some ((ba va).add (kq * 9)))⟩, ⟨(List.range 9), [8], [], [47], fun f => f 47 = .agg (bC o)⟩, ⟨[], [], [], [6], fun f => f 6 = .pointer (some ⟨(blk (f 6)), 0, none⟩)⟩, ⟨(List.range 11), [10, 9], [], [], fun _ => True⟩] [⟨none, none, [7], [], fun _ => pt b16 (.cells #[Ix (((x2.a) + (x2.b)) - (b.id))] 3)⟩, ⟨none, none, [], [], fun _ => pt b8 (.cells #[Ix (x2.a), Ix (x2.b), Ix (x2.len)] 78)⟩, ⟨(some 10), (some 11), [11], [6], fun f => pt (blk (f 6)) (.cells #[.int .i64 (0), .int .i64 (0), .int .i64 (0), .int .i64 (0), .int .i64 (0), .int .i64 (0), .int .i64 (0), .bool false, .bool false] 52)⟩, ⟨(some 11), none, [], [6], fun f => pt (blk (f 6)) (.cells (bC o) 52)⟩] [(1, .pointer (some (⟨c, 0, none⟩))), (5, pp b16 0), (0, yfn l), (4, pp b8 0), (9, sB rva rs (rvc)), (10, Nx (rs.length)), (11, Nx (k))] [2, 0, 3, 4, 5, 6] M (by kernel_rfl) (by kernel_rfl) (by kernel_rfl) (by kernel_rfl) rfl ⟨rfl, rfl, rfl, rfl, rfl, rfl, rfl, trivial⟩ ⟨?_, ?_, ?_, ?_, ?_, ?_, ?_, ?_, ?_, ?_, ?_, ?_, trivial⟩ ?_
  ·rintro f M - ⟨i0, -⟩
   exact ob0 (up_cons (d := 1) rfl i0) rfl (e_fieldAddr (a := ⟨c, 0, none⟩) rfl tf76) (.refl _)
  ·rintro f M ⟨k0, -⟩ -
   exact ob0 (up_cons (d := 38) rfl k0) rfl (e_fieldAddr (a := (⟨c, 0, none⟩ : Addr).add 0) rfl tf49) (.refl _)
  ·rintro f M ⟨k0, -⟩ -
   exact ob0 (up_cons (d := 39) rfl k0) rfl (e_load1 tf50 rfl (Knows.imp (Knows.imp (kB hcM) (fun _ h => Cs.sub (vs := [sB va bs (vc), sB rva rs (rvc), Ix (gx), Ix (gy)]) 0 h rfl)) (fun _ h => Cs.sub (vs := [sB va bs (vc)]) 0 h rfl))) (.refl _)
  ·rintro f M - ⟨i0, -⟩
   exact ob0 (up_cons (d := 1) rfl i0) rfl (e_fieldAddr (a := ⟨c, 0, none⟩) rfl tf76) (.refl _)
  ·rintro f M ⟨k0, -⟩ -
   exact ob0 (up_cons (d := 41) rfl k0) rfl (e_fieldAddr (a := (⟨c, 0, none⟩ : Addr).add 0) rfl tf49) (.refl _)
  ·rintro f M ⟨k0, -⟩ -
   exact ob0 (up_cons (d := 42) rfl k0) rfl (e_load1 tf50 rfl (Knows.imp (Knows.imp (kB hcM) (fun _ h => Cs.sub (vs := [sB va bs (vc), sB rva rs (rvc), Ix (gx), Ix (gy)]) 0 h rfl)) (fun _ h => Cs.sub (vs := [sB va bs (vc)]) 0 h rfl))) (.refl _)
  ·rintro f M - ⟨i0, -⟩
   exact ob0 (up_cons (d := 5) rfl i0) rfl (e_func (u := []) (v := [pp b16 0]) rfl rfl) (.refl _)
  ·rintro f M ⟨k0, k1, -⟩ -
   refine ob_start (L' := pt b16 (.cells #[Ix (((x2.a) + (x2.b)) - (b.id))] 3) :: M) (by rfl) (up_cons (d := 44) (up_cons (d := 43) rfl k0) k1) ?_
   refine lcf (cl0 (vs := [sB va bs (vc), .func (.func 145) #[] #[pp b16 0]]) tf78 rfl rfl) rfl fun w β1 sb kn hw1 back => (indexBk_ok β1 w hw1 _ _ bs (Sl.mono _ _ _ _ _ sb (⟨⟨_, _, rfl, vl, vm, ve⟩⟩ : Sl KBR _ _ bs)) (fun z => decide (z.id = ((x2.a) + (x2.b)) - (b.id))) (fnv_all (ends11_fn β1 b16 (((x2.a) + (x2.b)) - (b.id)) (kn _ (k_pt 0 (o := 0) rfl rfl)))) kq hkq).mono ?_
   rintro e w' ⟨rfl, hw'⟩
   refine ⟨_, rfl, _, back _ _ hw', ?_⟩
   clear hw1 hw' back kn sb
   refine l_nil ?_
   exact f_owes_d (up_cons (d := 44) (up_cons (d := 43) rfl k0) k1) rfl (perm_front 0 rfl)
  ·rintro f M ⟨k0, k1, -⟩ -
   exact ob0 (up_cons (d := 45) (up_cons (d := 40) rfl k0) k1) rfl (e_indexAddr (k := kq) (len := bs.length) (cap := vc) (a := va) rfl rfl tf43 (by omega) ha0) (.refl _)
  ·rintro f M ⟨k0, -⟩ -
   exact ob0 (up_cons (d := 46) rfl k0) rfl (e_load tf22 rfl (kB hc0) rfl) (.refl _)
  ·rintro f M - -
   refine ob_start (L' := M) (by rfl) rfl ?_
   refine l_mv rfl rfl rfl (m_alloc tf58) ?_
   rintro _ _ ⟨b18, rfl, rfl⟩
   refine l_nil ?_
   exact f_owes_d rfl rfl (perm_front 0 rfl)
  ·rintro f M ⟨k0, k1, -⟩ -
   have hs6 : f 6 = .pointer (some ⟨(blk (f 6)), 0, none⟩) := k0
   refine ob_start (L' := pt (blk (f 6)) (.cells #[.int .i64 (0), .int .i64 (0), .int .i64 (0), .int .i64 (0), .int .i64 (0), .int .i64 (0), .int .i64 (0), .bool false, .bool false] 52) :: M) (by rfl) (up_cons (d := 47) (up_cons rfl hs6) k1) ?_
   refine lu (m_store 0 tf22 (cs' := (bC o)) rfl rfl rfl rfl rfl rfl rfl) ?_
   refine l_nil ?_
   exact f_owes_n (up_cons (d := 47) (up_cons rfl hs6) k1) trivial (perm_front 0 rfl)
  rintro fa19 ⟨-, -, -, -, -, -, -, -, -, -, k10, -, -⟩ ⟨j0, j1, j2, j3, j4, j5, -⟩
  refine f_re (L' := (pt b16 (.cells #[Ix (((x2.a) + (x2.b)) - (b.id))] 3) :: pt b8 (.cells #[Ix (x2.a), Ix (x2.b), Ix (x2.len)] 78) :: pt (blk (fa19 6)) (.cells (bC o) 52) :: M)) (by rfl) ?_
  refine f_rebase (d := 0) j0 ?_
  refine f_rebase (d := 1) j1 ?_
  refine f_rebase (d := 4) j2 ?_
  refine f_rebase (d := 6) k10 ?_
  refine f_rebase (d := 9) j3 ?_
  refine f_rebase (d := 10) j4 ?_
  refine f_rebase (d := 11) j5 ?_
  refine fts ?_
  refine c_any_tail 10 rfl (by kernel_rfl) [⟨[], [], [0], [48], fun f => f 48 = yfn l⟩, ⟨[], [], [1], [49], fun f => f 49 = .agg (bC o)⟩, ⟨[], [], [2], [50], fun f => f 50 = pp b8 2⟩, ⟨[2], [2], [], [51], fun f => f 51 = Ix (x2.len)⟩, ⟨[2, 3], [3], [], [52], fun f => f 52 = Ix ((x2.len) * (x2.len))⟩, ⟨[], [], [3], [53], fun f => f 53 = .pointer (some ((⟨c, 0, none⟩ : Addr).add 4))⟩, ⟨[5], [5], [], [54], fun f => f 54 = .agg (bC b)⟩, ⟨[], [], [1], [55], fun f => f 55 = .agg (bC o)⟩, ⟨[2, 3, 4, 5, 6, 7], [6, 7], [], [56], fun f => f 56 = Ix (Stp.dist b o)⟩, ⟨[2, 3, 4, 5, 6, 7, 8], [4, 8], [], [57], fun f => f 57 = Ix (max ((x2.len) * (x2.len)) (Stp.dist b o))⟩, ⟨(List.range 10), [], [], [], fun _ => True⟩, ⟨(List.range 11), [], [], [], fun _ => True⟩] [⟨none, none, [], [], fun _ => pt b16 (.cells #[Ix (((x2.a) + (x2.b)) - (b.id))] 3)⟩, ⟨none, none, [3], [], fun _ => pt b8 (.cells #[Ix (x2.a), Ix (x2.b), Ix (x2.len)] 78)⟩, ⟨none, none, [1, 7], [], fun _ => pt (blk (fa19 6)) (.cells (bC o) 52)⟩] [(0, yfn l), (6, .pointer (some ⟨(blk (fa19 6)), 0, none⟩)), (4, pp b8 0), (1, .pointer (some (⟨c, 0, none⟩))), (9, sB rva rs (rvc)), (10, Nx (rs.length)), (11, Nx (k))] [0, 3, 4, 5, 6] M (by kernel_rfl) (by kernel_rfl) (by kernel_rfl) (by kernel_rfl) (by kernel_rfl) (by kernel_rfl) rfl ⟨rfl, rfl, rfl, rfl, rfl, rfl, rfl, trivial⟩ ⟨?_, ?_, ?_, ?_, ?_, ?_, ?_, ?_, ?_, ?_, trivial⟩ ?_
  ·rintro f M - ⟨i0, -⟩
   exact ob0 (up_cons (d := 0) rfl i0) rfl e_move (.refl _)
  ·rintro f M - ⟨i0, -⟩
   exact obv (L' := pt (blk (fa19 6)) (.cells (bC o) 52) :: M) (up_cons (d := 6) rfl i0) rfl (e_load tf22 rfl (k_pt 0 rfl rfl) rfl) (perm_front 0 rfl) (by rfl)
  ·rintro f M - ⟨i0, -⟩
   exact ob0 (up_cons (d := 4) rfl i0) rfl (e_fieldPt rfl tf54) (.refl _)
  ·rintro f M ⟨k0, -⟩ -
   exact obv (L' := pt b8 (.cells #[Ix (x2.a), Ix (x2.b), Ix (x2.len)] 78) :: M) (up_cons (d := 50) rfl k0) rfl (e_load1 tf2 rfl (k_pt 0 rfl rfl)) (perm_front 0 rfl) (by rfl)
  ·rintro f M ⟨k0, -⟩ -
   refine ob_start (L' := M) (by rfl) (up_cons (d := 51) rfl k0) ?_
   refine lcf (cl0 (vs := [Ix (x2.len)]) tf69 rfl rfl) rfl fun w β1 sb kn hw1 back => (sq_ok β1 w hw1 (x2.len) (by omega)).mono ?_
   rintro e w' ⟨rfl, hw'⟩
   refine ⟨_, rfl, _, back _ _ hw', ?_⟩
   clear hw1 hw' back kn sb
   refine l_nil ?_
   exact f_owes_d (up_cons (d := 51) rfl k0) rfl (List.Perm.refl _)
  ·rintro f M - ⟨i0, -⟩
   exact ob0 (up_cons (d := 1) rfl i0) rfl (e_fieldAddr (a := ⟨c, 0, none⟩) rfl tf65) (.refl _)
  ·rintro f M ⟨k0, -⟩ -
   exact ob0 (up_cons (d := 53) rfl k0) rfl (e_load tf22 rfl (Knows.imp (kB hcM) (fun _ h => Cs.sub (vs := (bodyE b)) 4 h rfl)) rfl) (.refl _)
  ·rintro f M - ⟨i0, -⟩
   exact obv (L' := pt (blk (fa19 6)) (.cells (bC o) 52) :: M) (up_cons (d := 6) rfl i0) rfl (e_load tf22 rfl (k_pt 0 rfl rfl) rfl) (perm_front 0 rfl) (by rfl)
  ·rintro f M ⟨k0, k1, -⟩ -
   refine ob_start (L' := M) (by rfl) (up_cons (d := 55) (up_cons (d := 54) rfl k0) k1) ?_
   refine lcf (cl0 (vs := [.agg (bC b), .agg (bC o)]) tf79 rfl rfl) rfl fun w β1 sb kn hw1 back => (dist_ok β1 w hw1 b o hb.mid hoo.mid).mono ?_
   rintro e w' ⟨rfl, hw'⟩
   refine ⟨_, rfl, _, back _ _ hw', ?_⟩
   clear hw1 hw' back kn sb
   refine l_nil ?_
   exact f_owes_d (up_cons (d := 55) (up_cons (d := 54) rfl k0) k1) rfl (List.Perm.refl _)
  ·rintro f M ⟨k0, k1, -⟩ -
   exact ob0 (up_cons (d := 56) (up_cons (d := 52) rfl k0) k1) rfl (e_max (a := ((x2.len) * (x2.len))) (b := (Stp.dist b o)) rfl rfl) (.refl _)
  rintro fa20 ⟨k0, k1, -, -, -, -, -, -, -, k9, -⟩ ⟨j0, j1, j2, j3, j4, -⟩
  refine l_re (L' := (pt b16 (.cells #[Ix (((x2.a) + (x2.b)) - (b.id))] 3) :: pt b8 (.cells #[Ix (x2.a), Ix (x2.b), Ix (x2.len)] 78) :: pt (blk (fa19 6)) (.cells (bC o) 52) :: M)) (by rfl) ?_
  refine l_rebase (d := 0) (v := yfn l) j0 ?_
  refine l_rebase (d := 1) (v := .pointer (some (⟨c, 0, none⟩))) j1 ?_
  refine l_rebase (d := 9) (v := sB rva rs (rvc)) j2 ?_
  refine l_rebase (d := 10) (v := Nx (rs.length)) j3 ?_
  refine l_rebase (d := 11) (v := Nx (k)) j4 ?_
  refine l_rebase (d := 48) (v := yfn l) k0 ?_
  refine l_rebase (d := 49) (v := .agg (bC o)) k1 ?_
  refine l_rebase (d := 57) (v := Ix (max ((x2.len) * (x2.len)) (Stp.dist b o))) k9 ?_
  refine l_yield (own := [pt b16 (.cells #[Ix (((x2.a) + (x2.b)) - (b.id))] 3), pt b8 (.cells #[Ix (x2.a), Ix (x2.b), Ix (x2.len)] 78), pt (blk (fa19 6)) (.cells (bC o) 52)]) (M := M) (d := 58) (enc := fun z : KB × Int => [.agg (bC z.1), Ix z.2]) (pre := ends bs (rs.take k) b) (x := (o, max (x2.len * x2.len) (Stp.dist b o))) rfl rfl rfl rfl hY (⟨_, rfl, ends_pre hx3 hen⟩) hJ (fun M1 hJ1 => ?_) (fun M1 hX1 => ?_)
  ·refine lv (v := .bool false) (e_not (a := true) rfl) ?_
   refine lnf ?_
   refine c_no rfl ?_
   refine c_skip ?_
   refine f_block ?_
   refine f_then ?_
   refine c_region ?_
   refine lv (v := Nx (k + 1)) (e_add (a := ((k : Nat) : Int)) (b := (1 : Int)) rfl rfl (i64n (by omega) (by omega))) ?_
   refine lv (v := Nx (k + 1)) e_move ?_
   refine l_nil ?_
   refine f_mask (L' := (M1)) [false, false, false] rfl ?_
   exact f_cut ⟨(k + 1, M1), ⟨⟨rfl, rfl, rfl, rfl, rfl⟩, rfl, ⟨by omega, by rw [ends_snoc hx3 hen]; exact hJ1⟩⟩, (show rs.length - (k + 1) < rs.length - k from by omega)⟩
  refine lv (v := .bool true) (e_not (a := false) rfl) ?_
  refine lnf ?_
  refine c_yes rfl ?_
  refine c_ret ?_
  refine f_block_ret ?_
  refine f_then_ret ?_
  refine f_then_ret ?_
  refine f_block_ret ?_
  refine ret0 Tryz.results144 ?_
  intro w hw
  exact ⟨⟨_, rfl⟩, .inr ⟨_, M1, hX1, st_mask [false, false, false] rfl hw⟩⟩
 refine c_exit ?_
 refine f_then_exit ?_
 refine f_then_exit ?_
 refine f_exit ?_
 refine end0 Tryz.results144 ?_
 intro w hw
 exact ⟨⟨_, rfl⟩, .inl ⟨_, M, rfl, (by rw [List.take_of_length_le (by omega)] at hJ; exact hJ), st_mask [] rfl hw⟩⟩
end Go.Proofs
