/-
 What a mover iterates over: the other bodies, the ends of the ropes. Printed by a program of my own.
-/
import Derived.Test.YtdkibofhppgbjaaGreatDoorSt4
namespace Go.Proofs
open Go Go.Sl Go.Stp
theorem tf76 : fldB Tryz.prog 87 0 0 4 true = true := by kernel_rfl
theorem tf77 : (Tryz.prog.info? 78).bind (·.zero) = some (.agg #[.int .i64 (0), .int .i64 (0), .int .i64 (0)]) := by kernel_rfl
theorem tf78 : cfB Tryz.prog 67 = true := by kernel_rfl
theorem tf79 : cfB Tryz.prog 92 = true := by kernel_rfl
theorem bodies1_seq (β : Base) (hG : GR β) (c : Nat) (v rv : Value) (gx gy : Int) (b : KB) (y : Bool) (s : Int) (bs : List KB) (rs : List KR) (hs : Sl KBR β.heap v bs) (hr : Sl KRR β.heap rv rs) (hbs : ∀ o ∈ bs, okB o) (hrs : ∀ r ∈ rs, okR bs r) (hb : okB b) (hn : bs.length ≤ 1048576) (hc : Cs β.heap ⟨c, 0, none⟩ (mC v rv gx gy b y s).toList) : SeqOf Tryz.prog β (.func (.func 149) #[] #[.pointer (some ⟨c, 0, none⟩)]) (fun z : KB => [.agg (bC z)]) (· = others bs b) := by
 refine ⟨149, [], [.pointer (some ⟨c, 0, none⟩)], rfl, by kernel_rfl, fun β₁ ext l J X hY M w hJ hw => ?_⟩
 have hcM := Cs.mono _ _ _ _ ext.sub hc
 have hs := Sl.mono _ _ _ _ _ ext.sub hs
 have hr := Sl.mono _ _ _ _ _ ext.sub hr
 have hG := GR.mono ext.sub hG
 obtain ⟨va, vc, rfl, vl, vm, ve⟩ := hs.get
 obtain ⟨rva, rvc, rfl, rvl, rvm, rve⟩ := hr.get
 refine enter (n := 33) Tryz.func149 rfl Tryz.ntmps149 rfl ?_ hw
 refine c_seq ?_
 refine c_region ?_
 refine l_val (v := .pointer (some ((⟨c, 0, none⟩ : Addr).add 0))) rfl rfl rfl (e_fieldAddr (a := ⟨c, 0, none⟩) rfl tf76) ?_
 refine l_val (v := .pointer (some (((⟨c, 0, none⟩ : Addr).add 0 : Addr).add 0))) rfl rfl rfl (e_fieldAddr (a := (⟨c, 0, none⟩ : Addr).add 0) rfl tf49) ?_
 refine l_val (v := .slice va (bs.length) (vc)) rfl rfl rfl (e_load1 tf50 (v := .slice va (bs.length) (vc)) rfl (Knows.imp (Knows.imp (Knows.of_base (Cs.mono _ _) hcM) (fun _ h => Cs.sub (vs := [.slice va (bs.length) (vc), .slice rva (rs.length) (rvc), Ix (gx), Ix (gy)]) 0 h rfl)) (fun _ h => Cs.sub (vs := [.slice va (bs.length) (vc)]) 0 h rfl))) ?_
 refine l_val (v := Nx (bs.length)) rfl rfl rfl (e_len (a := va) (n := bs.length) (c := vc) rfl tf40) ?_
 refine l_val (v := .int .i64 (0)) rfl rfl rfl (e_move) ?_
 refine l_nil ?_
 refine f_then ?_
 refine c_block ?_
 refine c_loop (fun (x_ : Nat × List Res) (f : Fm) (L : List Res) => match x_ with | (k, M) => (f 0 = yfn l ∧ f 1 = .pointer (some (⟨c, 0, none⟩)) ∧ f 7 = .slice va (bs.length) (vc) ∧ f 8 = Nx (bs.length) ∧ f 9 = Nx (k)) ∧ L = (M) ∧ (k ≤ bs.length ∧ J (others (bs.take k) b) M)) (fun (x_ : Nat × List Res) => match x_ with | (k, M) => bs.length - k) (0, M) ?_ ?_
 ·exact ⟨⟨rfl, rfl, rfl, rfl, rfl⟩, rfl, ⟨by omega, by simpa [others] using hJ⟩⟩
 rintro ⟨k, M⟩ f0 L0 ⟨⟨hs0, hs1, hs7, hs8, hs9⟩, hL, ⟨hk, hJ⟩⟩
 subst L0
 refine rebase (d := 0) hs0 ?_
 refine rebase (d := 1) hs1 ?_
 refine rebase (d := 7) hs7 ?_
 refine rebase (d := 8) hs8 ?_
 refine rebase (d := 9) hs9 ?_
 clear hs0 hs1 hs7 hs8 hs9
 refine c_seq ?_
 refine c_region ?_
 refine l_val (v := .bool (decide (((k : Nat) : Int) < ((bs.length : Nat) : Int)))) rfl rfl rfl (e_lss (a := ((k : Nat) : Int)) (b := ((bs.length : Nat) : Int)) rfl rfl) ?_
 refine l_nil ?_
 refine f_then ?_
 refine c_seq ?_
 refine c_if (((k : Nat) : Int) < ((bs.length : Nat) : Int)) rfl (fun hc1 => ?_) (fun hc1 => ?_)
 ·
  refine c_skip ?_
  refine f_then ?_
  refine c_seq ?_
  refine c_block ?_
  refine c_seq ?_
  refine c_region ?_
  obtain ⟨x2, hx3⟩ : ∃ x_, (bs)[k]? = some x_ := ⟨_, List.getElem?_eq_getElem (by omega)⟩
  obtain ⟨ha4, cs5, hc6, rfl⟩ := ve _ _ hx3
  refine l_val (v := .pointer (some ((ba va).add (k * 9)))) rfl rfl rfl (e_indexAddr (k := k) (len := bs.length) (cap := vc) (a := va) rfl rfl tf43 (by omega) ha4) ?_
  refine l_val (v := .agg (bC x2)) rfl rfl rfl (e_load tf22 (cs := (bodyE x2)) rfl (Knows.of_base (Cs.mono _ _) hc6) rfl) ?_
  refine l_mv rfl rfl rfl (m_alloc tf58) ?_
  rintro _ _ ⟨b8, rfl, rfl⟩
  refine l_mu rfl rfl (m_store 0 tf22 (b := b8) (o := 0) (T := 52) (cs := #[.int .i64 (0), .int .i64 (0), .int .i64 (0), .int .i64 (0), .int .i64 (0), .int .i64 (0), .int .i64 (0), .bool false, .bool false]) (cs' := (bC x2)) (v := .agg (bC x2)) rfl rfl rfl rfl rfl rfl rfl) ?_
  refine l_nil ?_
  refine f_then ?_
  refine c_seq ?_
  refine c_region ?_
  refine l_val (v := .pointer (some ⟨b8, 0, none⟩)) rfl rfl rfl (e_fieldPt (b := b8) (o := 0) rfl tf3) ?_
  refine l_val (v := Ix (x2.id)) rfl rfl rfl (e_load1 tf2 (v := Ix (x2.id)) rfl (k_pt 0 (cs := (bC x2)) (vs := [Ix (x2.id)]) rfl rfl)) ?_
  refine l_val (v := .pointer (some ((⟨c, 0, none⟩ : Addr).add 4))) rfl rfl rfl (e_fieldAddr (a := ⟨c, 0, none⟩) rfl tf65) ?_
  refine l_val (v := .pointer (some (((⟨c, 0, none⟩ : Addr).add 4 : Addr).add 0))) rfl rfl rfl (e_fieldAddr (a := (⟨c, 0, none⟩ : Addr).add 4) rfl tf3) ?_
  refine l_val (v := Ix (b.id)) rfl rfl rfl (e_load1 tf2 (v := Ix (b.id)) rfl (Knows.imp (Knows.imp (Knows.of_base (Cs.mono _ _) hcM) (fun _ h => Cs.sub (vs := (bodyE b)) 4 h rfl)) (fun _ h => Cs.sub (vs := [Ix (b.id)]) 0 h rfl))) ?_
  refine l_val (v := .bool (decide ((x2.id) ≠ (b.id)))) rfl rfl rfl (e_neq (a := (x2.id)) (b := (b.id)) rfl rfl) ?_
  refine l_val (v := .bool (decide ((x2.id) ≠ (b.id)))) rfl rfl rfl (e_move) ?_
  refine l_split (s := 19) (p := (x2.id) ≠ (b.id)) rfl (fun hg9 => ?_) (fun hg9 => ?_)
  ·
   refine g_val (v := .agg (bC x2)) rfl rfl rfl rfl rfl (e_load tf22 (cs := (bodyE x2)) rfl (k_pt 0 (cs := (bC x2)) (vs := (bodyE x2)) rfl rfl) rfl) ?_
   refine g_val (v := .pointer (some ((⟨c, 0, none⟩ : Addr).add 4))) rfl rfl rfl rfl rfl (e_fieldAddr (a := ⟨c, 0, none⟩) rfl tf65) ?_
   refine g_val (v := .agg (bC b)) rfl rfl rfl rfl rfl (e_load tf22 (cs := (bodyE b)) rfl (Knows.imp (Knows.of_base (Cs.mono _ _) hcM) (fun _ h => Cs.sub (vs := (bodyE b)) 4 h rfl)) rfl) ?_
   refine g_call rfl rfl rfl rfl rfl (cl_value (fst := []) (cap := []) (vs := [.agg (bC x2), .agg (bC b)]) (all := [.agg (bC x2), .agg (bC b)]) tf74 rfl rfl rfl) ?_
   intro w hw
   obtain ⟨β1, sb, kn, hw1, back⟩ := St.frame_all hw
   have hG1 := GR.mono sb hG
   refine (over_ok β1 w hw1 hG1 x2 b).mono ?_
   rintro e w' ⟨rfl, hw'⟩
   refine ⟨_, rfl, _, back _ _ hw', ?_⟩
   clear hw hw1 hw' back kn sb
   refine g_val (v := .bool (decide (¬ (Stp.over x2 b)))) rfl rfl rfl rfl rfl (e_not_p (p := Stp.over x2 b) rfl) ?_
   refine l_val (v := .bool (decide (¬ (Stp.over x2 b)))) rfl rfl rfl (e_pick_t rfl) ?_
   refine l_val (v := .bool (decide (¬ (Stp.over x2 b)))) rfl rfl rfl (e_move) ?_
   refine l_split (s := 26) (p := ¬ (Stp.over x2 b)) rfl (fun hg10 => ?_) (fun hg10 => ?_)
   ·
    refine g_val (v := yfn l) rfl rfl rfl rfl rfl (e_move) ?_
    refine g_val (v := .agg (bC x2)) rfl rfl rfl rfl rfl (e_load tf22 (cs := (bodyE x2)) rfl (k_pt 0 (cs := (bC x2)) (vs := (bodyE x2)) rfl rfl) rfl) ?_
    refine g_yield rfl rfl (own := [pt b8 (.cells (bC x2) 52)]) (M := M) (d := 29) (enc := fun z : KB => [.agg (bC z)]) (pre := others (bs.take k) b) (x := x2) rfl rfl rfl rfl hY (⟨_, rfl, others_pre hx3 hg9 hg10⟩) hJ (fun M1 hJ1 => ?_) (fun M1 hX1 => ?_)
    ·
     refine g_val (v := .bool false) rfl rfl rfl rfl rfl (e_not (a := true) rfl) ?_
     refine l_val (v := .bool false) rfl rfl rfl (e_pick_t rfl) ?_
     refine l_nil ?_
     refine f_then ?_
     refine c_no rfl ?_
     refine c_skip ?_
     refine f_block ?_
     refine f_then ?_
     refine c_region ?_
     refine l_val (v := Nx (k + 1)) rfl rfl rfl (e_add (a := ((k : Nat) : Int)) (b := (1 : Int)) rfl rfl (i64n (by omega) (by omega))) ?_
     refine l_val (v := Nx (k + 1)) rfl rfl rfl (e_move) ?_
     refine l_nil ?_
     refine f_mask (L' := (M1)) [false] rfl ?_
     exact f_cut ⟨(k + 1, M1), ⟨⟨rfl, rfl, rfl, rfl, rfl⟩, rfl, ⟨by omega, by rw [others_snoc hx3 hg9 hg10]; exact hJ1⟩⟩, (show bs.length - (k + 1) < bs.length - k from by omega)⟩
    ·
     refine g_val (v := .bool true) rfl rfl rfl rfl rfl (e_not (a := false) rfl) ?_
     refine l_val (v := .bool true) rfl rfl rfl (e_pick_t rfl) ?_
     refine l_nil ?_
     refine f_then ?_
     refine c_yes rfl ?_
     refine c_ret ?_
     refine f_block_ret ?_
     refine f_then_ret ?_
     refine f_then_ret ?_
     refine f_block_ret ?_
     refine ret0 Tryz.results149 ?_
     intro w hw
     exact ⟨⟨_, rfl⟩, .inr ⟨_, M1, hX1, st_mask [false] rfl hw⟩⟩
   ·
    refine l_skip rfl rfl rfl rfl rfl rfl ?_
    refine l_skip rfl rfl rfl rfl rfl rfl ?_
    refine l_skip rfl rfl rfl rfl rfl rfl ?_
    refine l_skip rfl rfl rfl rfl rfl rfl ?_
    refine l_val (v := .bool false) rfl rfl rfl (e_pick_f rfl) ?_
    refine l_nil ?_
    refine f_then ?_
    refine c_no rfl ?_
    refine c_skip ?_
    refine f_block ?_
    refine f_then ?_
    refine c_region ?_
    refine l_val (v := Nx (k + 1)) rfl rfl rfl (e_add (a := ((k : Nat) : Int)) (b := (1 : Int)) rfl rfl (i64n (by omega) (by omega))) ?_
    refine l_val (v := Nx (k + 1)) rfl rfl rfl (e_move) ?_
    refine l_nil ?_
    refine f_mask (L' := (M)) [false] rfl ?_
    exact f_cut ⟨(k + 1, M), ⟨⟨rfl, rfl, rfl, rfl, rfl⟩, rfl, ⟨by omega, by rw [others_skip hx3 (fun q => hg10 q.2)]; exact hJ⟩⟩, (show bs.length - (k + 1) < bs.length - k from by omega)⟩
  ·
   refine l_skip rfl rfl rfl rfl rfl rfl ?_
   refine l_skip rfl rfl rfl rfl rfl rfl ?_
   refine l_skip rfl rfl rfl rfl rfl rfl ?_
   refine l_skip rfl rfl rfl rfl rfl rfl ?_
   refine l_skip rfl rfl rfl rfl rfl rfl ?_
   refine l_val (v := .bool false) rfl rfl rfl (e_pick_f rfl) ?_
   refine l_val (v := .bool false) rfl rfl rfl (e_move) ?_
   refine l_skip rfl rfl rfl rfl rfl rfl ?_
   refine l_skip rfl rfl rfl rfl rfl rfl ?_
   refine l_skip rfl rfl rfl rfl rfl rfl ?_
   refine l_skip rfl rfl rfl rfl rfl rfl ?_
   refine l_val (v := .bool false) rfl rfl rfl (e_pick_f rfl) ?_
   refine l_nil ?_
   refine f_then ?_
   refine c_no rfl ?_
   refine c_skip ?_
   refine f_block ?_
   refine f_then ?_
   refine c_region ?_
   refine l_val (v := Nx (k + 1)) rfl rfl rfl (e_add (a := ((k : Nat) : Int)) (b := (1 : Int)) rfl rfl (i64n (by omega) (by omega))) ?_
   refine l_val (v := Nx (k + 1)) rfl rfl rfl (e_move) ?_
   refine l_nil ?_
   refine f_mask (L' := (M)) [false] rfl ?_
   exact f_cut ⟨(k + 1, M), ⟨⟨rfl, rfl, rfl, rfl, rfl⟩, rfl, ⟨by omega, by rw [others_skip hx3 (fun q => hg9 q.1)]; exact hJ⟩⟩, (show bs.length - (k + 1) < bs.length - k from by omega)⟩
 ·
  refine c_exit ?_
  refine f_then_exit ?_
  refine f_then_exit ?_
  refine f_exit ?_
  refine end0 Tryz.results149 ?_
  intro w hw
  exact ⟨⟨_, rfl⟩, .inl ⟨_, M, rfl, (by rw [List.take_of_length_le (by omega)] at hJ; exact hJ), st_mask [] rfl hw⟩⟩
theorem ends11_fn (β : Base) (c : Nat) (i : Int) (hc : Cs β.heap ⟨c, 0, none⟩ [Ix i]) : FnV Tryz.prog β (.func (.func 145) #[] #[.pointer (some ⟨c, 0, none⟩)]) (fun z : KB => [.agg (bC z)]) (fun _ => True) (fun z => .bool (decide (z.id = i))) := by
 refine ⟨145, [], [.pointer (some (⟨c, 0, none⟩))], rfl, by kernel_rfl, fun β₁ sb0 z_ hz_ w hw => ?_⟩
 have hc1 := Cs.mono _ _ _ _ sb0 hc
 obtain ⟨b, hb⟩ : ∃ b, b = z_ := ⟨_, rfl⟩
 subst hb
 refine enter (n := 8) Tryz.func145 rfl Tryz.ntmps145 rfl ?_ hw
 refine c_seq ?_
 refine c_region ?_
 refine l_mv rfl rfl rfl (m_box (v := .agg (bC b)) rfl) ?_
 rintro _ _ ⟨b1, rfl, rfl⟩
 refine l_val (v := .bool false) rfl rfl rfl (e_assign) ?_
 refine l_nil ?_
 refine f_then ?_
 refine c_seq ?_
 refine c_region ?_
 refine l_val (v := .pointer (some ⟨b1, 0, none⟩)) rfl rfl rfl (e_fieldPt (b := b1) (o := 0) rfl tf3) ?_
 refine l_val (v := Ix (b.id)) rfl rfl rfl (e_load1 tf2 (v := Ix (b.id)) rfl (k_pt 0 (cs := (bC b)) (vs := [Ix (b.id)]) rfl rfl)) ?_
 refine l_val (v := Ix (i)) rfl rfl rfl (e_load1 tf2 (v := Ix (i)) rfl (Knows.of_base (Cs.mono _ _) hc1)) ?_
 refine l_val (v := .bool (decide ((b.id) = (i)))) rfl rfl rfl (e_eql (a := (b.id)) (b := (i)) rfl rfl) ?_
 refine l_val (v := .bool (decide ((b.id) = (i)))) rfl rfl rfl (e_assign) ?_
 refine l_nil ?_
 refine f_then ?_
 refine c_ret ?_
 refine ret1 Tryz.results145 (v := .bool (decide ((b.id) = (i)))) rfl ?_
 intro w hw
 exact ⟨rfl, st_mask [false] rfl hw⟩
theorem indexBk_ok (β : Base) (w : World) (hw : St β [] w) (v fn : Value) (xs : List KB) (hs : Sl KBR β.heap v xs) (p : KB → Bool) (hfn : FnV Tryz.prog β fn (fun z : KB => [.agg (bC z)]) (· ∈ xs) (fun z => .bool (p z))) (k : Nat) (hk : idxI p xs = k) : Calls Tryz.prog 67 #[v, fn] w fun r w' => r = .returned (Nx k) ∧ St β [] w' := by
 refine (indexB_ok β w hw v fn xs hs p hfn).mono ?_
 rintro r w' ⟨rfl, hw'⟩
 exact ⟨by rw [hk], hw'⟩
theorem ends1_seq (β : Base) (hG : GR β) (c : Nat) (v rv : Value) (gx gy : Int) (b : KB) (y : Bool) (s : Int) (bs : List KB) (rs : List KR) (hs : Sl KBR β.heap v bs) (hr : Sl KRR β.heap rv rs) (hbs : ∀ o ∈ bs, okB o) (hrs : ∀ r ∈ rs, okR bs r) (hb : okB b) (hn : bs.length ≤ 1048576) (hc : Cs β.heap ⟨c, 0, none⟩ (mC v rv gx gy b y s).toList) : SeqOf Tryz.prog β (.func (.func 144) #[] #[.pointer (some ⟨c, 0, none⟩)]) (fun z : KB × Int => [.agg (bC z.1), Ix z.2]) (· = ends bs rs b) := by
 refine ⟨144, [], [.pointer (some ⟨c, 0, none⟩)], rfl, by kernel_rfl, fun β₁ ext l J X hY M w hJ hw => ?_⟩
 have hcM := Cs.mono _ _ _ _ ext.sub hc
 have hs := Sl.mono _ _ _ _ _ ext.sub hs
 have hr := Sl.mono _ _ _ _ _ ext.sub hr
 have hG := GR.mono ext.sub hG
 obtain ⟨va, vc, rfl, vl, vm, ve⟩ := hs.get
 obtain ⟨rva, rvc, rfl, rvl, rvm, rve⟩ := hr.get
 refine enter (n := 61) Tryz.func144 rfl Tryz.ntmps144 rfl ?_ hw
 refine c_seq ?_
 refine c_region ?_
 refine l_val (v := .pointer (some ((⟨c, 0, none⟩ : Addr).add 0))) rfl rfl rfl (e_fieldAddr (a := ⟨c, 0, none⟩) rfl tf76) ?_
 refine l_val (v := .pointer (some (((⟨c, 0, none⟩ : Addr).add 0 : Addr).add 1))) rfl rfl rfl (e_fieldAddr (a := (⟨c, 0, none⟩ : Addr).add 0) rfl tf55) ?_
 refine l_val (v := .slice rva (rs.length) (rvc)) rfl rfl rfl (e_load1 tf56 (v := .slice rva (rs.length) (rvc)) rfl (Knows.imp (Knows.imp (Knows.of_base (Cs.mono _ _) hcM) (fun _ h => Cs.sub (vs := [.slice va (bs.length) (vc), .slice rva (rs.length) (rvc), Ix (gx), Ix (gy)]) 0 h rfl)) (fun _ h => Cs.sub (vs := [.slice rva (rs.length) (rvc)]) 1 h rfl))) ?_
 refine l_val (v := Nx (rs.length)) rfl rfl rfl (e_len (a := rva) (n := rs.length) (c := rvc) rfl tf45) ?_
 refine l_val (v := .int .i64 (0)) rfl rfl rfl (e_move) ?_
 refine l_nil ?_
 refine f_then ?_
 refine c_block ?_
 refine c_loop (fun (x_ : Nat × List Res) (f : Fm) (L : List Res) => match x_ with | (k, M) => (f 0 = yfn l ∧ f 1 = .pointer (some (⟨c, 0, none⟩)) ∧ f 9 = .slice rva (rs.length) (rvc) ∧ f 10 = Nx (rs.length) ∧ f 11 = Nx (k)) ∧ L = (M) ∧ (k ≤ rs.length ∧ J (ends bs (rs.take k) b) M)) (fun (x_ : Nat × List Res) => match x_ with | (k, M) => rs.length - k) (0, M) ?_ ?_
 ·exact ⟨⟨rfl, rfl, rfl, rfl, rfl⟩, rfl, ⟨by omega, by simpa [ends] using hJ⟩⟩
 rintro ⟨k, M⟩ f0 L0 ⟨⟨hs0, hs1, hs9, hs10, hs11⟩, hL, ⟨hk, hJ⟩⟩
 subst L0
 refine rebase (d := 0) hs0 ?_
 refine rebase (d := 1) hs1 ?_
 refine rebase (d := 9) hs9 ?_
 refine rebase (d := 10) hs10 ?_
 refine rebase (d := 11) hs11 ?_
 clear hs0 hs1 hs9 hs10 hs11
 refine c_seq ?_
 refine c_region ?_
 refine l_val (v := .bool (decide (((k : Nat) : Int) < ((rs.length : Nat) : Int)))) rfl rfl rfl (e_lss (a := ((k : Nat) : Int)) (b := ((rs.length : Nat) : Int)) rfl rfl) ?_
 refine l_nil ?_
 refine f_then ?_
 refine c_seq ?_
 refine c_if (((k : Nat) : Int) < ((rs.length : Nat) : Int)) rfl (fun hc1 => ?_) (fun hc1 => ?_)
 ·
  refine c_skip ?_
  refine f_then ?_
  refine c_seq ?_
  refine c_block ?_
  refine c_seq ?_
  refine c_region ?_
  obtain ⟨x2, hx3⟩ : ∃ x_, (rs)[k]? = some x_ := ⟨_, List.getElem?_eq_getElem (by omega)⟩
  obtain ⟨ha4, cs5, hc6, rfl⟩ := rve _ _ hx3
  refine l_val (v := .pointer (some ((ba rva).add (k * 3)))) rfl rfl rfl (e_indexAddr (k := k) (len := rs.length) (cap := rvc) (a := rva) rfl rfl tf46 (by omega) ha4) ?_
  refine l_val (v := .agg #[Ix (x2.a), Ix (x2.b), Ix (x2.len)]) rfl rfl rfl (e_load tf47 (cs := [Ix (x2.a), Ix (x2.b), Ix (x2.len)]) rfl (Knows.of_base (Cs.mono _ _) hc6) rfl) ?_
  refine l_mv rfl rfl rfl (m_alloc tf77) ?_
  rintro _ _ ⟨b8, rfl, rfl⟩
  refine l_mu rfl rfl (m_store 0 tf47 (b := b8) (o := 0) (T := 78) (cs := #[.int .i64 (0), .int .i64 (0), .int .i64 (0)]) (cs' := #[Ix (x2.a), Ix (x2.b), Ix (x2.len)]) (v := .agg #[Ix (x2.a), Ix (x2.b), Ix (x2.len)]) rfl rfl rfl rfl rfl rfl rfl) ?_
  refine l_nil ?_
  refine f_then ?_
  refine c_seq ?_
  refine c_seq ?_
  refine c_region ?_
  refine l_val (v := .pointer (some ⟨b8, 0, none⟩)) rfl rfl rfl (e_fieldPt (b := b8) (o := 0) rfl tf51) ?_
  refine l_val (v := Ix (x2.a)) rfl rfl rfl (e_load1 tf2 (v := Ix (x2.a)) rfl (k_pt 0 (cs := #[Ix (x2.a), Ix (x2.b), Ix (x2.len)]) (vs := [Ix (x2.a)]) rfl rfl)) ?_
  refine l_val (v := .pointer (some ((⟨c, 0, none⟩ : Addr).add 4))) rfl rfl rfl (e_fieldAddr (a := ⟨c, 0, none⟩) rfl tf65) ?_
  refine l_val (v := .pointer (some (((⟨c, 0, none⟩ : Addr).add 4 : Addr).add 0))) rfl rfl rfl (e_fieldAddr (a := (⟨c, 0, none⟩ : Addr).add 4) rfl tf3) ?_
  refine l_val (v := Ix (b.id)) rfl rfl rfl (e_load1 tf2 (v := Ix (b.id)) rfl (Knows.imp (Knows.imp (Knows.of_base (Cs.mono _ _) hcM) (fun _ h => Cs.sub (vs := (bodyE b)) 4 h rfl)) (fun _ h => Cs.sub (vs := [Ix (b.id)]) 0 h rfl))) ?_
  refine l_val (v := .bool (decide ((x2.a) ≠ (b.id)))) rfl rfl rfl (e_neq (a := (x2.a)) (b := (b.id)) rfl rfl) ?_
  refine l_val (v := .bool (decide ((x2.a) ≠ (b.id)))) rfl rfl rfl (e_move) ?_
  refine l_split (s := 21) (p := (x2.a) ≠ (b.id)) rfl (fun hg9 => ?_) (fun hg9 => ?_)
  ·
   refine g_val (v := .pointer (some ⟨b8, 1, none⟩)) rfl rfl rfl rfl rfl (e_fieldPt (b := b8) (o := 0) rfl tf53) ?_
   refine g_val (v := Ix (x2.b)) rfl rfl rfl rfl rfl (e_load1 tf2 (v := Ix (x2.b)) rfl (k_pt 0 (cs := #[Ix (x2.a), Ix (x2.b), Ix (x2.len)]) (vs := [Ix (x2.b)]) rfl rfl)) ?_
   refine g_val (v := .pointer (some ((⟨c, 0, none⟩ : Addr).add 4))) rfl rfl rfl rfl rfl (e_fieldAddr (a := ⟨c, 0, none⟩) rfl tf65) ?_
   refine g_val (v := .pointer (some (((⟨c, 0, none⟩ : Addr).add 4 : Addr).add 0))) rfl rfl rfl rfl rfl (e_fieldAddr (a := (⟨c, 0, none⟩ : Addr).add 4) rfl tf3) ?_
   refine g_val (v := Ix (b.id)) rfl rfl rfl rfl rfl (e_load1 tf2 (v := Ix (b.id)) rfl (Knows.imp (Knows.imp (Knows.of_base (Cs.mono _ _) hcM) (fun _ h => Cs.sub (vs := (bodyE b)) 4 h rfl)) (fun _ h => Cs.sub (vs := [Ix (b.id)]) 0 h rfl))) ?_
   refine g_val (v := .bool (decide ((x2.b) ≠ (b.id)))) rfl rfl rfl rfl rfl (e_neq (a := (x2.b)) (b := (b.id)) rfl rfl) ?_
   refine l_val (v := .bool (decide ((x2.b) ≠ (b.id)))) rfl rfl rfl (e_pick_t rfl) ?_
   refine l_nil ?_
   refine f_then ?_
   refine c_if ((x2.b) ≠ (b.id)) rfl (fun hc10 => ?_) (fun hc10 => ?_)
   ·
    refine c_exit ?_
    refine f_then_exit ?_
    refine f_exit ?_
    refine f_then ?_
    refine c_region ?_
    refine l_val (v := Nx (k + 1)) rfl rfl rfl (e_add (a := ((k : Nat) : Int)) (b := (1 : Int)) rfl rfl (i64n (by omega) (by omega))) ?_
    refine l_val (v := Nx (k + 1)) rfl rfl rfl (e_move) ?_
    refine l_nil ?_
    refine f_mask (L' := (M)) [false] rfl ?_
    exact f_cut ⟨(k + 1, M), ⟨⟨rfl, rfl, rfl, rfl, rfl⟩, rfl, ⟨by omega, by rw [ends_skip hx3 (endOf_skip hg9 hc10)]; exact hJ⟩⟩, (show rs.length - (k + 1) < rs.length - k from by omega)⟩
   ·
    refine c_skip ?_
    refine f_then ?_
    refine c_seq ?_
    have he : x2.a = b.id ∨ x2.b = b.id := .inr (Decidable.not_not.1 hc10)
    have hok := hrs _ (List.mem_of_getElem? hx3)
    have hid := rope_ids hbs hok
    have hbi := hb.1
    obtain ⟨o, ho⟩ := end_found hok he
    obtain ⟨kq, hkq, hx0⟩ := idx_body ho
    have hk1 := (List.getElem?_eq_some_iff.1 hx0).1
    obtain ⟨ha0, cs0, hc0, rfl⟩ := ve _ _ hx0
    have hoo := hbs _ (List.mem_of_getElem? hx0)
    have hen := endOf_some he ho
    have hq := sq_bd (x := x2.len) (B := 2097152) (by omega) (by omega)
    refine c_region ?_
    refine l_val (v := .pointer (some ⟨b8, 0, none⟩)) rfl rfl rfl (e_fieldPt (b := b8) (o := 0) rfl tf51) ?_
    refine l_val (v := Ix (x2.a)) rfl rfl rfl (e_load1 tf2 (v := Ix (x2.a)) rfl (k_pt 0 (cs := #[Ix (x2.a), Ix (x2.b), Ix (x2.len)]) (vs := [Ix (x2.a)]) rfl rfl)) ?_
    refine l_val (v := .pointer (some ⟨b8, 1, none⟩)) rfl rfl rfl (e_fieldPt (b := b8) (o := 0) rfl tf53) ?_
    refine l_val (v := Ix (x2.b)) rfl rfl rfl (e_load1 tf2 (v := Ix (x2.b)) rfl (k_pt 0 (cs := #[Ix (x2.a), Ix (x2.b), Ix (x2.len)]) (vs := [Ix (x2.b)]) rfl rfl)) ?_
    refine l_val (v := Ix ((x2.a) + (x2.b))) rfl rfl rfl (e_add (a := (x2.a)) (b := (x2.b)) rfl rfl (i64w (by omega))) ?_
    refine l_val (v := .pointer (some ((⟨c, 0, none⟩ : Addr).add 4))) rfl rfl rfl (e_fieldAddr (a := ⟨c, 0, none⟩) rfl tf65) ?_
    refine l_val (v := .pointer (some (((⟨c, 0, none⟩ : Addr).add 4 : Addr).add 0))) rfl rfl rfl (e_fieldAddr (a := (⟨c, 0, none⟩ : Addr).add 4) rfl tf3) ?_
    refine l_val (v := Ix (b.id)) rfl rfl rfl (e_load1 tf2 (v := Ix (b.id)) rfl (Knows.imp (Knows.imp (Knows.of_base (Cs.mono _ _) hcM) (fun _ h => Cs.sub (vs := (bodyE b)) 4 h rfl)) (fun _ h => Cs.sub (vs := [Ix (b.id)]) 0 h rfl))) ?_
    refine l_val (v := Ix (((x2.a) + (x2.b)) - (b.id))) rfl rfl rfl (e_sub (a := ((x2.a) + (x2.b))) (b := (b.id)) rfl rfl (i64w (by omega))) ?_
    refine l_mv rfl rfl rfl (m_alloc tf4) ?_
    rintro _ _ ⟨b11, rfl, rfl⟩
    refine l_mu rfl rfl (m_store 0 tf2 (b := b11) (o := 0) (T := 3) (cs := #[.int .i64 (0)]) (cs' := #[Ix (((x2.a) + (x2.b)) - (b.id))]) (v := Ix (((x2.a) + (x2.b)) - (b.id))) rfl rfl rfl rfl rfl rfl rfl) ?_
    refine l_nil ?_
    refine f_then ?_
    refine c_seq ?_
    refine c_any [⟨[], [], [0], [38], fun f => f 38 = .pointer (some ((⟨c, 0, none⟩ : Addr).add 0))⟩, ⟨[0], [0], [], [39], fun f => f 39 = .pointer (some (((⟨c, 0, none⟩ : Addr).add 0 : Addr).add 0))⟩, ⟨[0, 1], [1], [], [40], fun f => f 40 = .slice va (bs.length) (vc)⟩, ⟨[], [], [0], [41], fun f => f 41 = .pointer (some ((⟨c, 0, none⟩ : Addr).add 0))⟩, ⟨[3], [3], [], [42], fun f => f 42 = .pointer (some (((⟨c, 0, none⟩ : Addr).add 0 : Addr).add 0))⟩, ⟨[3, 4], [4], [], [43], fun f => f 43 = .slice va (bs.length) (vc)⟩, ⟨[], [], [1], [44], fun f => f 44 = .func (.func 145) #[] #[.pointer (some ⟨b11, 0, none⟩)]⟩, ⟨[3, 4, 5, 6], [5, 6], [], [45], fun f => f 45 = Nx (kq)⟩, ⟨[0, 1, 2, 3, 4, 5, 6, 7], [2, 7], [], [46], fun f => f 46 = .pointer (some ((ba va).add (kq * 9)))⟩, ⟨[0, 1, 2, 3, 4, 5, 6, 7, 8], [8], [], [47], fun f => f 47 = .agg (bC o)⟩, ⟨[], [], [], [6], fun f => f 6 = .pointer (some ⟨(blk (f 6)), 0, none⟩)⟩, ⟨[0, 1, 2, 3, 4, 5, 6, 7, 8, 9, 10], [10, 9], [], [], fun _ => True⟩] [⟨none, none, [7], [], fun _ => pt b11 (.cells #[Ix (((x2.a) + (x2.b)) - (b.id))] 3)⟩, ⟨none, none, [], [], fun _ => pt b8 (.cells #[Ix (x2.a), Ix (x2.b), Ix (x2.len)] 78)⟩, ⟨(some 10), (some 11), [11], [6], fun f => pt (blk (f 6)) (.cells #[.int .i64 (0), .int .i64 (0), .int .i64 (0), .int .i64 (0), .int .i64 (0), .int .i64 (0), .int .i64 (0), .bool false, .bool false] 52)⟩, ⟨(some 11), none, [], [6], fun f => pt (blk (f 6)) (.cells (bC o) 52)⟩] [(1, .pointer (some (⟨c, 0, none⟩))), (5, .pointer (some ⟨b11, 0, none⟩)), (0, yfn l), (4, .pointer (some ⟨b8, 0, none⟩)), (9, .slice rva (rs.length) (rvc)), (10, Nx (rs.length)), (11, Nx (k))] [2, 0, 3, 4, 5, 6] M (by kernel_rfl) (by kernel_rfl) (by kernel_rfl) (by kernel_rfl) rfl ⟨rfl, rfl, rfl, rfl, rfl, rfl, rfl, trivial⟩ ⟨?_, ?_, ?_, ?_, ?_, ?_, ?_, ?_, ?_, ?_, ?_, ?_, trivial⟩ ?_
    ·rintro f M - ⟨i0, -⟩
     have hs1 : f 1 = .pointer (some (⟨c, 0, none⟩)) := i0
     refine ob_start (L' := M) (by rfl) (up_cons rfl hs1) ?_
     refine l_val (v := .pointer (some ((⟨c, 0, none⟩ : Addr).add 0))) rfl rfl rfl (e_fieldAddr (a := ⟨c, 0, none⟩) rfl tf76) ?_
     refine l_nil ?_
     exact f_owes_d (up_cons rfl hs1) rfl (List.Perm.refl _)
    ·rintro f M ⟨k0, -⟩ -
     have hs38 : f 38 = .pointer (some ((⟨c, 0, none⟩ : Addr).add 0)) := k0
     refine ob_start (L' := M) (by rfl) (up_cons rfl hs38) ?_
     refine l_val (v := .pointer (some (((⟨c, 0, none⟩ : Addr).add 0 : Addr).add 0))) rfl rfl rfl (e_fieldAddr (a := (⟨c, 0, none⟩ : Addr).add 0) rfl tf49) ?_
     refine l_nil ?_
     exact f_owes_d (up_cons rfl hs38) rfl (List.Perm.refl _)
    ·rintro f M ⟨k0, -⟩ -
     have hs39 : f 39 = .pointer (some (((⟨c, 0, none⟩ : Addr).add 0 : Addr).add 0)) := k0
     refine ob_start (L' := M) (by rfl) (up_cons rfl hs39) ?_
     refine l_val (v := .slice va (bs.length) (vc)) rfl rfl rfl (e_load1 tf50 (v := .slice va (bs.length) (vc)) rfl (Knows.imp (Knows.imp (Knows.of_base (Cs.mono _ _) hcM) (fun _ h => Cs.sub (vs := [.slice va (bs.length) (vc), .slice rva (rs.length) (rvc), Ix (gx), Ix (gy)]) 0 h rfl)) (fun _ h => Cs.sub (vs := [.slice va (bs.length) (vc)]) 0 h rfl))) ?_
     refine l_nil ?_
     exact f_owes_d (up_cons rfl hs39) rfl (List.Perm.refl _)
    ·rintro f M - ⟨i0, -⟩
     have hs1 : f 1 = .pointer (some (⟨c, 0, none⟩)) := i0
     refine ob_start (L' := M) (by rfl) (up_cons rfl hs1) ?_
     refine l_val (v := .pointer (some ((⟨c, 0, none⟩ : Addr).add 0))) rfl rfl rfl (e_fieldAddr (a := ⟨c, 0, none⟩) rfl tf76) ?_
     refine l_nil ?_
     exact f_owes_d (up_cons rfl hs1) rfl (List.Perm.refl _)
    ·rintro f M ⟨k0, -⟩ -
     have hs41 : f 41 = .pointer (some ((⟨c, 0, none⟩ : Addr).add 0)) := k0
     refine ob_start (L' := M) (by rfl) (up_cons rfl hs41) ?_
     refine l_val (v := .pointer (some (((⟨c, 0, none⟩ : Addr).add 0 : Addr).add 0))) rfl rfl rfl (e_fieldAddr (a := (⟨c, 0, none⟩ : Addr).add 0) rfl tf49) ?_
     refine l_nil ?_
     exact f_owes_d (up_cons rfl hs41) rfl (List.Perm.refl _)
    ·rintro f M ⟨k0, -⟩ -
     have hs42 : f 42 = .pointer (some (((⟨c, 0, none⟩ : Addr).add 0 : Addr).add 0)) := k0
     refine ob_start (L' := M) (by rfl) (up_cons rfl hs42) ?_
     refine l_val (v := .slice va (bs.length) (vc)) rfl rfl rfl (e_load1 tf50 (v := .slice va (bs.length) (vc)) rfl (Knows.imp (Knows.imp (Knows.of_base (Cs.mono _ _) hcM) (fun _ h => Cs.sub (vs := [.slice va (bs.length) (vc), .slice rva (rs.length) (rvc), Ix (gx), Ix (gy)]) 0 h rfl)) (fun _ h => Cs.sub (vs := [.slice va (bs.length) (vc)]) 0 h rfl))) ?_
     refine l_nil ?_
     exact f_owes_d (up_cons rfl hs42) rfl (List.Perm.refl _)
    ·rintro f M - ⟨i0, -⟩
     have hs5 : f 5 = .pointer (some ⟨b11, 0, none⟩) := i0
     refine ob_start (L' := M) (by rfl) (up_cons rfl hs5) ?_
     refine l_val (v := .func (.func 145) #[] #[.pointer (some ⟨b11, 0, none⟩)]) rfl rfl rfl (e_func (u := []) (v := [.pointer (some ⟨b11, 0, none⟩)]) rfl rfl) ?_
     refine l_nil ?_
     exact f_owes_d (up_cons rfl hs5) rfl (List.Perm.refl _)
    ·rintro f M ⟨k0, k1, -⟩ -
     have hs43 : f 43 = .slice va (bs.length) (vc) := k0
     have hs44 : f 44 = .func (.func 145) #[] #[.pointer (some ⟨b11, 0, none⟩)] := k1
     refine ob_start (L' := pt b11 (.cells #[Ix (((x2.a) + (x2.b)) - (b.id))] 3) :: M) (by rfl) (up_cons (up_cons rfl hs43) hs44) ?_
     refine l_call rfl rfl rfl (cl_value (fst := []) (cap := []) (vs := [.slice va (bs.length) (vc), .func (.func 145) #[] #[.pointer (some ⟨b11, 0, none⟩)]]) (all := [.slice va (bs.length) (vc), .func (.func 145) #[] #[.pointer (some ⟨b11, 0, none⟩)]]) tf78 rfl rfl rfl) ?_
     intro w hw
     obtain ⟨β1, sb, kn, hw1, back⟩ := St.frame_all hw
     refine (indexBk_ok β1 w hw1 _ _ bs (Sl.mono _ _ _ _ _ sb (⟨⟨_, _, rfl, vl, vm, ve⟩⟩ : Sl KBR _ _ bs)) (fun z => decide (z.id = ((x2.a) + (x2.b)) - (b.id))) (fnv_all (ends11_fn β1 b11 (((x2.a) + (x2.b)) - (b.id)) (kn _ (k_pt 0 (o := 0) (cs := #[Ix (((x2.a) + (x2.b)) - (b.id))]) (vs := [Ix (((x2.a) + (x2.b)) - (b.id))]) rfl rfl)))) kq hkq).mono ?_
     rintro e w' ⟨rfl, hw'⟩
     refine ⟨_, rfl, _, back _ _ hw', ?_⟩
     clear hw hw1 hw' back kn sb
     refine l_nil ?_
     exact f_owes_d (up_cons (up_cons rfl hs43) hs44) rfl (perm_front 0 rfl)
    ·rintro f M ⟨k0, k1, -⟩ -
     have hs40 : f 40 = .slice va (bs.length) (vc) := k0
     have hs45 : f 45 = Nx (kq) := k1
     refine ob_start (L' := M) (by rfl) (up_cons (up_cons rfl hs40) hs45) ?_
     refine l_val (v := .pointer (some ((ba va).add (kq * 9)))) rfl rfl rfl (e_indexAddr (k := kq) (len := bs.length) (cap := vc) (a := va) rfl rfl tf43 (by omega) ha0) ?_
     refine l_nil ?_
     exact f_owes_d (up_cons (up_cons rfl hs40) hs45) rfl (List.Perm.refl _)
    ·rintro f M ⟨k0, -⟩ -
     have hs46 : f 46 = .pointer (some ((ba va).add (kq * 9))) := k0
     refine ob_start (L' := M) (by rfl) (up_cons rfl hs46) ?_
     refine l_val (v := .agg (bC o)) rfl rfl rfl (e_load tf22 (cs := (bodyE o)) rfl (Knows.of_base (Cs.mono _ _) hc0) rfl) ?_
     refine l_nil ?_
     exact f_owes_d (up_cons rfl hs46) rfl (List.Perm.refl _)
    ·rintro f M - -
     refine ob_start (L' := M) (by rfl) rfl ?_
     refine l_mv rfl rfl rfl (m_alloc tf58) ?_
     rintro _ _ ⟨b13, rfl, rfl⟩
     refine l_nil ?_
     exact f_owes_d rfl rfl (perm_front 0 rfl)
    ·rintro f M ⟨k0, k1, -⟩ -
     have hs6 : f 6 = .pointer (some ⟨(blk (f 6)), 0, none⟩) := k0
     have hs47 : f 47 = .agg (bC o) := k1
     refine ob_start (L' := pt (blk (f 6)) (.cells #[.int .i64 (0), .int .i64 (0), .int .i64 (0), .int .i64 (0), .int .i64 (0), .int .i64 (0), .int .i64 (0), .bool false, .bool false] 52) :: M) (by rfl) (up_cons (up_cons rfl hs6) hs47) ?_
     refine l_mu rfl rfl (m_store 0 tf22 (b := (blk (f 6))) (o := 0) (T := 52) (cs := #[.int .i64 (0), .int .i64 (0), .int .i64 (0), .int .i64 (0), .int .i64 (0), .int .i64 (0), .int .i64 (0), .bool false, .bool false]) (cs' := (bC o)) (v := .agg (bC o)) rfl rfl rfl rfl rfl rfl rfl) ?_
     refine l_nil ?_
     exact f_owes_n (up_cons (up_cons rfl hs6) hs47) trivial (perm_front 0 rfl)
    rintro fa14 ⟨-, -, -, -, -, -, -, -, -, -, k10, -, -⟩ ⟨j0, j1, j2, j3, j4, j5, -⟩
    refine f_re (L' := (pt b11 (.cells #[Ix (((x2.a) + (x2.b)) - (b.id))] 3) :: pt b8 (.cells #[Ix (x2.a), Ix (x2.b), Ix (x2.len)] 78) :: pt (blk (fa14 6)) (.cells (bC o) 52) :: M)) (by rfl) ?_
    refine f_rebase (d := 0) (v := yfn l) j0 ?_
    refine f_rebase (d := 1) (v := .pointer (some (⟨c, 0, none⟩))) j1 ?_
    refine f_rebase (d := 4) (v := .pointer (some ⟨b8, 0, none⟩)) j2 ?_
    refine f_rebase (d := 6) (v := .pointer (some ⟨(blk (fa14 6)), 0, none⟩)) k10 ?_
    refine f_rebase (d := 9) (v := .slice rva (rs.length) (rvc)) j3 ?_
    refine f_rebase (d := 10) (v := Nx (rs.length)) j4 ?_
    refine f_rebase (d := 11) (v := Nx (k)) j5 ?_
    refine f_then ?_
    refine c_seq ?_
    refine c_any_tail 10 rfl (by kernel_rfl) [⟨[], [], [0], [48], fun f => f 48 = yfn l⟩, ⟨[], [], [1], [49], fun f => f 49 = .agg (bC o)⟩, ⟨[], [], [2], [50], fun f => f 50 = .pointer (some ⟨b8, 2, none⟩)⟩, ⟨[2], [2], [], [51], fun f => f 51 = Ix (x2.len)⟩, ⟨[2, 3], [3], [], [52], fun f => f 52 = Ix ((x2.len) * (x2.len))⟩, ⟨[], [], [3], [53], fun f => f 53 = .pointer (some ((⟨c, 0, none⟩ : Addr).add 4))⟩, ⟨[5], [5], [], [54], fun f => f 54 = .agg (bC b)⟩, ⟨[], [], [1], [55], fun f => f 55 = .agg (bC o)⟩, ⟨[2, 3, 4, 5, 6, 7], [6, 7], [], [56], fun f => f 56 = Ix (Stp.dist b o)⟩, ⟨[2, 3, 4, 5, 6, 7, 8], [4, 8], [], [57], fun f => f 57 = Ix (max ((x2.len) * (x2.len)) (Stp.dist b o))⟩, ⟨[0, 1, 2, 3, 4, 5, 6, 7, 8, 9], [], [], [], fun _ => True⟩, ⟨[0, 1, 2, 3, 4, 5, 6, 7, 8, 9, 10], [], [], [], fun _ => True⟩] [⟨none, none, [], [], fun _ => pt b11 (.cells #[Ix (((x2.a) + (x2.b)) - (b.id))] 3)⟩, ⟨none, none, [3], [], fun _ => pt b8 (.cells #[Ix (x2.a), Ix (x2.b), Ix (x2.len)] 78)⟩, ⟨none, none, [1, 7], [], fun _ => pt (blk (fa14 6)) (.cells (bC o) 52)⟩] [(0, yfn l), (6, .pointer (some ⟨(blk (fa14 6)), 0, none⟩)), (4, .pointer (some ⟨b8, 0, none⟩)), (1, .pointer (some (⟨c, 0, none⟩))), (9, .slice rva (rs.length) (rvc)), (10, Nx (rs.length)), (11, Nx (k))] [0, 3, 4, 5, 6] M (by kernel_rfl) (by kernel_rfl) (by kernel_rfl) (by kernel_rfl) (by kernel_rfl) (by kernel_rfl) rfl ⟨rfl, rfl, rfl, rfl, rfl, rfl, rfl, trivial⟩ ⟨?_, ?_, ?_, ?_, ?_, ?_, ?_, ?_, ?_, ?_, trivial⟩ ?_
    ·rintro f M - ⟨i0, -⟩
     have hs0 : f 0 = yfn l := i0
     refine ob_start (L' := M) (by rfl) (up_cons rfl hs0) ?_
     refine l_val (v := yfn l) rfl rfl rfl (e_move) ?_
     refine l_nil ?_
     exact f_owes_d (up_cons rfl hs0) rfl (List.Perm.refl _)
    ·rintro f M - ⟨i0, -⟩
     have hs6 : f 6 = .pointer (some ⟨(blk (fa14 6)), 0, none⟩) := i0
     refine ob_start (L' := pt (blk (fa14 6)) (.cells (bC o) 52) :: M) (by rfl) (up_cons rfl hs6) ?_
     refine l_val (v := .agg (bC o)) rfl rfl rfl (e_load tf22 (cs := (bodyE o)) rfl (k_pt 0 (cs := (bC o)) (vs := (bodyE o)) rfl rfl) rfl) ?_
     refine l_nil ?_
     exact f_owes_d (up_cons rfl hs6) rfl (perm_front 0 rfl)
    ·rintro f M - ⟨i0, -⟩
     have hs4 : f 4 = .pointer (some ⟨b8, 0, none⟩) := i0
     refine ob_start (L' := M) (by rfl) (up_cons rfl hs4) ?_
     refine l_val (v := .pointer (some ⟨b8, 2, none⟩)) rfl rfl rfl (e_fieldPt (b := b8) (o := 0) rfl tf54) ?_
     refine l_nil ?_
     exact f_owes_d (up_cons rfl hs4) rfl (List.Perm.refl _)
    ·rintro f M ⟨k0, -⟩ -
     have hs50 : f 50 = .pointer (some ⟨b8, 2, none⟩) := k0
     refine ob_start (L' := pt b8 (.cells #[Ix (x2.a), Ix (x2.b), Ix (x2.len)] 78) :: M) (by rfl) (up_cons rfl hs50) ?_
     refine l_val (v := Ix (x2.len)) rfl rfl rfl (e_load1 tf2 (v := Ix (x2.len)) rfl (k_pt 0 (cs := #[Ix (x2.a), Ix (x2.b), Ix (x2.len)]) (vs := [Ix (x2.len)]) rfl rfl)) ?_
     refine l_nil ?_
     exact f_owes_d (up_cons rfl hs50) rfl (perm_front 0 rfl)
    ·rintro f M ⟨k0, -⟩ -
     have hs51 : f 51 = Ix (x2.len) := k0
     refine ob_start (L' := M) (by rfl) (up_cons rfl hs51) ?_
     refine l_call rfl rfl rfl (cl_value (fst := []) (cap := []) (vs := [Ix (x2.len)]) (all := [Ix (x2.len)]) tf69 rfl rfl rfl) ?_
     intro w hw
     obtain ⟨β1, sb, kn, hw1, back⟩ := St.frame_all hw
     refine (sq_ok β1 w hw1 (x2.len) (by omega)).mono ?_
     rintro e w' ⟨rfl, hw'⟩
     refine ⟨_, rfl, _, back _ _ hw', ?_⟩
     clear hw hw1 hw' back kn sb
     refine l_nil ?_
     exact f_owes_d (up_cons rfl hs51) rfl (List.Perm.refl _)
    ·rintro f M - ⟨i0, -⟩
     have hs1 : f 1 = .pointer (some (⟨c, 0, none⟩)) := i0
     refine ob_start (L' := M) (by rfl) (up_cons rfl hs1) ?_
     refine l_val (v := .pointer (some ((⟨c, 0, none⟩ : Addr).add 4))) rfl rfl rfl (e_fieldAddr (a := ⟨c, 0, none⟩) rfl tf65) ?_
     refine l_nil ?_
     exact f_owes_d (up_cons rfl hs1) rfl (List.Perm.refl _)
    ·rintro f M ⟨k0, -⟩ -
     have hs53 : f 53 = .pointer (some ((⟨c, 0, none⟩ : Addr).add 4)) := k0
     refine ob_start (L' := M) (by rfl) (up_cons rfl hs53) ?_
     refine l_val (v := .agg (bC b)) rfl rfl rfl (e_load tf22 (cs := (bodyE b)) rfl (Knows.imp (Knows.of_base (Cs.mono _ _) hcM) (fun _ h => Cs.sub (vs := (bodyE b)) 4 h rfl)) rfl) ?_
     refine l_nil ?_
     exact f_owes_d (up_cons rfl hs53) rfl (List.Perm.refl _)
    ·rintro f M - ⟨i0, -⟩
     have hs6 : f 6 = .pointer (some ⟨(blk (fa14 6)), 0, none⟩) := i0
     refine ob_start (L' := pt (blk (fa14 6)) (.cells (bC o) 52) :: M) (by rfl) (up_cons rfl hs6) ?_
     refine l_val (v := .agg (bC o)) rfl rfl rfl (e_load tf22 (cs := (bodyE o)) rfl (k_pt 0 (cs := (bC o)) (vs := (bodyE o)) rfl rfl) rfl) ?_
     refine l_nil ?_
     exact f_owes_d (up_cons rfl hs6) rfl (perm_front 0 rfl)
    ·rintro f M ⟨k0, k1, -⟩ -
     have hs54 : f 54 = .agg (bC b) := k0
     have hs55 : f 55 = .agg (bC o) := k1
     refine ob_start (L' := M) (by rfl) (up_cons (up_cons rfl hs54) hs55) ?_
     refine l_call rfl rfl rfl (cl_value (fst := []) (cap := []) (vs := [.agg (bC b), .agg (bC o)]) (all := [.agg (bC b), .agg (bC o)]) tf79 rfl rfl rfl) ?_
     intro w hw
     obtain ⟨β1, sb, kn, hw1, back⟩ := St.frame_all hw
     refine (dist_ok β1 w hw1 b o hb.mid hoo.mid).mono ?_
     rintro e w' ⟨rfl, hw'⟩
     refine ⟨_, rfl, _, back _ _ hw', ?_⟩
     clear hw hw1 hw' back kn sb
     refine l_nil ?_
     exact f_owes_d (up_cons (up_cons rfl hs54) hs55) rfl (List.Perm.refl _)
    ·rintro f M ⟨k0, k1, -⟩ -
     have hs52 : f 52 = Ix ((x2.len) * (x2.len)) := k0
     have hs56 : f 56 = Ix (Stp.dist b o) := k1
     refine ob_start (L' := M) (by rfl) (up_cons (up_cons rfl hs52) hs56) ?_
     refine l_val (v := Ix (max ((x2.len) * (x2.len)) (Stp.dist b o))) rfl rfl rfl (e_max (a := ((x2.len) * (x2.len))) (b := (Stp.dist b o)) rfl rfl) ?_
     refine l_nil ?_
     exact f_owes_d (up_cons (up_cons rfl hs52) hs56) rfl (List.Perm.refl _)
    rintro fa15 ⟨k0, k1, -, -, -, -, -, -, -, k9, -⟩ ⟨j0, j1, j2, j3, j4, -⟩
    refine l_re (L' := (pt b11 (.cells #[Ix (((x2.a) + (x2.b)) - (b.id))] 3) :: pt b8 (.cells #[Ix (x2.a), Ix (x2.b), Ix (x2.len)] 78) :: pt (blk (fa14 6)) (.cells (bC o) 52) :: M)) (by rfl) ?_
    refine l_rebase (d := 0) (v := yfn l) j0 ?_
    refine l_rebase (d := 1) (v := .pointer (some (⟨c, 0, none⟩))) j1 ?_
    refine l_rebase (d := 9) (v := .slice rva (rs.length) (rvc)) j2 ?_
    refine l_rebase (d := 10) (v := Nx (rs.length)) j3 ?_
    refine l_rebase (d := 11) (v := Nx (k)) j4 ?_
    refine l_rebase (d := 48) (v := yfn l) k0 ?_
    refine l_rebase (d := 49) (v := .agg (bC o)) k1 ?_
    refine l_rebase (d := 57) (v := Ix (max ((x2.len) * (x2.len)) (Stp.dist b o))) k9 ?_
    refine l_yield (own := [pt b11 (.cells #[Ix (((x2.a) + (x2.b)) - (b.id))] 3), pt b8 (.cells #[Ix (x2.a), Ix (x2.b), Ix (x2.len)] 78), pt (blk (fa14 6)) (.cells (bC o) 52)]) (M := M) (d := 58) (enc := fun z : KB × Int => [.agg (bC z.1), Ix z.2]) (pre := ends bs (rs.take k) b) (x := (o, max (x2.len * x2.len) (Stp.dist b o))) rfl rfl rfl rfl hY (⟨_, rfl, ends_pre hx3 hen⟩) hJ (fun M1 hJ1 => ?_) (fun M1 hX1 => ?_)
    ·
     refine l_val (v := .bool false) rfl rfl rfl (e_not (a := true) rfl) ?_
     refine l_nil ?_
     refine f_then ?_
     refine c_no rfl ?_
     refine c_skip ?_
     refine f_block ?_
     refine f_then ?_
     refine c_region ?_
     refine l_val (v := Nx (k + 1)) rfl rfl rfl (e_add (a := ((k : Nat) : Int)) (b := (1 : Int)) rfl rfl (i64n (by omega) (by omega))) ?_
     refine l_val (v := Nx (k + 1)) rfl rfl rfl (e_move) ?_
     refine l_nil ?_
     refine f_mask (L' := (M1)) [false, false, false] rfl ?_
     exact f_cut ⟨(k + 1, M1), ⟨⟨rfl, rfl, rfl, rfl, rfl⟩, rfl, ⟨by omega, by rw [ends_snoc hx3 hen]; exact hJ1⟩⟩, (show rs.length - (k + 1) < rs.length - k from by omega)⟩
    ·
     refine l_val (v := .bool true) rfl rfl rfl (e_not (a := false) rfl) ?_
     refine l_nil ?_
     refine f_then ?_
     refine c_yes rfl ?_
     refine c_ret ?_
     refine f_block_ret ?_
     refine f_then_ret ?_
     refine f_then_ret ?_
     refine f_block_ret ?_
     refine ret0 Tryz.results144 ?_
     intro w hw
     exact ⟨⟨_, rfl⟩, .inr ⟨_, M1, hX1, st_mask [false, false, false] rfl hw⟩⟩
  ·
   refine l_skip rfl rfl rfl rfl rfl rfl ?_
   refine l_skip rfl rfl rfl rfl rfl rfl ?_
   refine l_skip rfl rfl rfl rfl rfl rfl ?_
   refine l_skip rfl rfl rfl rfl rfl rfl ?_
   refine l_skip rfl rfl rfl rfl rfl rfl ?_
   refine l_skip rfl rfl rfl rfl rfl rfl ?_
   refine l_val (v := .bool false) rfl rfl rfl (e_pick_f rfl) ?_
   refine l_nil ?_
   refine f_then ?_
   refine c_no rfl ?_
   refine c_skip ?_
   refine f_then ?_
   refine c_seq ?_
   have he : x2.a = b.id ∨ x2.b = b.id := .inl (Decidable.not_not.1 hg9)
   have hok := hrs _ (List.mem_of_getElem? hx3)
   have hid := rope_ids hbs hok
   have hbi := hb.1
   obtain ⟨o, ho⟩ := end_found hok he
   obtain ⟨kq, hkq, hx0⟩ := idx_body ho
   have hk1 := (List.getElem?_eq_some_iff.1 hx0).1
   obtain ⟨ha0, cs0, hc0, rfl⟩ := ve _ _ hx0
   have hoo := hbs _ (List.mem_of_getElem? hx0)
   have hen := endOf_some he ho
   have hq := sq_bd (x := x2.len) (B := 2097152) (by omega) (by omega)
   refine c_region ?_
   refine l_val (v := .pointer (some ⟨b8, 0, none⟩)) rfl rfl rfl (e_fieldPt (b := b8) (o := 0) rfl tf51) ?_
   refine l_val (v := Ix (x2.a)) rfl rfl rfl (e_load1 tf2 (v := Ix (x2.a)) rfl (k_pt 0 (cs := #[Ix (x2.a), Ix (x2.b), Ix (x2.len)]) (vs := [Ix (x2.a)]) rfl rfl)) ?_
   refine l_val (v := .pointer (some ⟨b8, 1, none⟩)) rfl rfl rfl (e_fieldPt (b := b8) (o := 0) rfl tf53) ?_
   refine l_val (v := Ix (x2.b)) rfl rfl rfl (e_load1 tf2 (v := Ix (x2.b)) rfl (k_pt 0 (cs := #[Ix (x2.a), Ix (x2.b), Ix (x2.len)]) (vs := [Ix (x2.b)]) rfl rfl)) ?_
   refine l_val (v := Ix ((x2.a) + (x2.b))) rfl rfl rfl (e_add (a := (x2.a)) (b := (x2.b)) rfl rfl (i64w (by omega))) ?_
   refine l_val (v := .pointer (some ((⟨c, 0, none⟩ : Addr).add 4))) rfl rfl rfl (e_fieldAddr (a := ⟨c, 0, none⟩) rfl tf65) ?_
   refine l_val (v := .pointer (some (((⟨c, 0, none⟩ : Addr).add 4 : Addr).add 0))) rfl rfl rfl (e_fieldAddr (a := (⟨c, 0, none⟩ : Addr).add 4) rfl tf3) ?_
   refine l_val (v := Ix (b.id)) rfl rfl rfl (e_load1 tf2 (v := Ix (b.id)) rfl (Knows.imp (Knows.imp (Knows.of_base (Cs.mono _ _) hcM) (fun _ h => Cs.sub (vs := (bodyE b)) 4 h rfl)) (fun _ h => Cs.sub (vs := [Ix (b.id)]) 0 h rfl))) ?_
   refine l_val (v := Ix (((x2.a) + (x2.b)) - (b.id))) rfl rfl rfl (e_sub (a := ((x2.a) + (x2.b))) (b := (b.id)) rfl rfl (i64w (by omega))) ?_
   refine l_mv rfl rfl rfl (m_alloc tf4) ?_
   rintro _ _ ⟨b16, rfl, rfl⟩
   refine l_mu rfl rfl (m_store 0 tf2 (b := b16) (o := 0) (T := 3) (cs := #[.int .i64 (0)]) (cs' := #[Ix (((x2.a) + (x2.b)) - (b.id))]) (v := Ix (((x2.a) + (x2.b)) - (b.id))) rfl rfl rfl rfl rfl rfl rfl) ?_
   refine l_nil ?_
   refine f_then ?_
   refine c_seq ?_
   refine c_any [⟨[], [], [0], [38], fun f => f 38 = .pointer (some ((⟨c, 0, none⟩ : Addr).add 0))⟩, ⟨[0], [0], [], [39], fun f => f 39 = .pointer (some (((⟨c, 0, none⟩ : Addr).add 0 : Addr).add 0))⟩, ⟨[0, 1], [1], [], [40], fun f => f 40 = .slice va (bs.length) (vc)⟩, ⟨[], [], [0], [41], fun f => f 41 = .pointer (some ((⟨c, 0, none⟩ : Addr).add 0))⟩, ⟨[3], [3], [], [42], fun f => f 42 = .pointer (some (((⟨c, 0, none⟩ : Addr).add 0 : Addr).add 0))⟩, ⟨[3, 4], [4], [], [43], fun f => f 43 = .slice va (bs.length) (vc)⟩, ⟨[], [], [1], [44], fun f => f 44 = .func (.func 145) #[] #[.pointer (some ⟨b16, 0, none⟩)]⟩, ⟨[3, 4, 5, 6], [5, 6], [], [45], fun f => f 45 = Nx (kq)⟩, ⟨[0, 1, 2, 3, 4, 5, 6, 7], [2, 7], [], [46], fun f => f 46 = .pointer (some ((ba va).add (kq * 9)))⟩, ⟨[0, 1, 2, 3, 4, 5, 6, 7, 8], [8], [], [47], fun f => f 47 = .agg (bC o)⟩, ⟨[], [], [], [6], fun f => f 6 = .pointer (some ⟨(blk (f 6)), 0, none⟩)⟩, ⟨[0, 1, 2, 3, 4, 5, 6, 7, 8, 9, 10], [10, 9], [], [], fun _ => True⟩] [⟨none, none, [7], [], fun _ => pt b16 (.cells #[Ix (((x2.a) + (x2.b)) - (b.id))] 3)⟩, ⟨none, none, [], [], fun _ => pt b8 (.cells #[Ix (x2.a), Ix (x2.b), Ix (x2.len)] 78)⟩, ⟨(some 10), (some 11), [11], [6], fun f => pt (blk (f 6)) (.cells #[.int .i64 (0), .int .i64 (0), .int .i64 (0), .int .i64 (0), .int .i64 (0), .int .i64 (0), .int .i64 (0), .bool false, .bool false] 52)⟩, ⟨(some 11), none, [], [6], fun f => pt (blk (f 6)) (.cells (bC o) 52)⟩] [(1, .pointer (some (⟨c, 0, none⟩))), (5, .pointer (some ⟨b16, 0, none⟩)), (0, yfn l), (4, .pointer (some ⟨b8, 0, none⟩)), (9, .slice rva (rs.length) (rvc)), (10, Nx (rs.length)), (11, Nx (k))] [2, 0, 3, 4, 5, 6] M (by kernel_rfl) (by kernel_rfl) (by kernel_rfl) (by kernel_rfl) rfl ⟨rfl, rfl, rfl, rfl, rfl, rfl, rfl, trivial⟩ ⟨?_, ?_, ?_, ?_, ?_, ?_, ?_, ?_, ?_, ?_, ?_, ?_, trivial⟩ ?_
   ·rintro f M - ⟨i0, -⟩
    have hs1 : f 1 = .pointer (some (⟨c, 0, none⟩)) := i0
    refine ob_start (L' := M) (by rfl) (up_cons rfl hs1) ?_
    refine l_val (v := .pointer (some ((⟨c, 0, none⟩ : Addr).add 0))) rfl rfl rfl (e_fieldAddr (a := ⟨c, 0, none⟩) rfl tf76) ?_
    refine l_nil ?_
    exact f_owes_d (up_cons rfl hs1) rfl (List.Perm.refl _)
   ·rintro f M ⟨k0, -⟩ -
    have hs38 : f 38 = .pointer (some ((⟨c, 0, none⟩ : Addr).add 0)) := k0
    refine ob_start (L' := M) (by rfl) (up_cons rfl hs38) ?_
    refine l_val (v := .pointer (some (((⟨c, 0, none⟩ : Addr).add 0 : Addr).add 0))) rfl rfl rfl (e_fieldAddr (a := (⟨c, 0, none⟩ : Addr).add 0) rfl tf49) ?_
    refine l_nil ?_
    exact f_owes_d (up_cons rfl hs38) rfl (List.Perm.refl _)
   ·rintro f M ⟨k0, -⟩ -
    have hs39 : f 39 = .pointer (some (((⟨c, 0, none⟩ : Addr).add 0 : Addr).add 0)) := k0
    refine ob_start (L' := M) (by rfl) (up_cons rfl hs39) ?_
    refine l_val (v := .slice va (bs.length) (vc)) rfl rfl rfl (e_load1 tf50 (v := .slice va (bs.length) (vc)) rfl (Knows.imp (Knows.imp (Knows.of_base (Cs.mono _ _) hcM) (fun _ h => Cs.sub (vs := [.slice va (bs.length) (vc), .slice rva (rs.length) (rvc), Ix (gx), Ix (gy)]) 0 h rfl)) (fun _ h => Cs.sub (vs := [.slice va (bs.length) (vc)]) 0 h rfl))) ?_
    refine l_nil ?_
    exact f_owes_d (up_cons rfl hs39) rfl (List.Perm.refl _)
   ·rintro f M - ⟨i0, -⟩
    have hs1 : f 1 = .pointer (some (⟨c, 0, none⟩)) := i0
    refine ob_start (L' := M) (by rfl) (up_cons rfl hs1) ?_
    refine l_val (v := .pointer (some ((⟨c, 0, none⟩ : Addr).add 0))) rfl rfl rfl (e_fieldAddr (a := ⟨c, 0, none⟩) rfl tf76) ?_
    refine l_nil ?_
    exact f_owes_d (up_cons rfl hs1) rfl (List.Perm.refl _)
   ·rintro f M ⟨k0, -⟩ -
    have hs41 : f 41 = .pointer (some ((⟨c, 0, none⟩ : Addr).add 0)) := k0
    refine ob_start (L' := M) (by rfl) (up_cons rfl hs41) ?_
    refine l_val (v := .pointer (some (((⟨c, 0, none⟩ : Addr).add 0 : Addr).add 0))) rfl rfl rfl (e_fieldAddr (a := (⟨c, 0, none⟩ : Addr).add 0) rfl tf49) ?_
    refine l_nil ?_
    exact f_owes_d (up_cons rfl hs41) rfl (List.Perm.refl _)
   ·rintro f M ⟨k0, -⟩ -
    have hs42 : f 42 = .pointer (some (((⟨c, 0, none⟩ : Addr).add 0 : Addr).add 0)) := k0
    refine ob_start (L' := M) (by rfl) (up_cons rfl hs42) ?_
    refine l_val (v := .slice va (bs.length) (vc)) rfl rfl rfl (e_load1 tf50 (v := .slice va (bs.length) (vc)) rfl (Knows.imp (Knows.imp (Knows.of_base (Cs.mono _ _) hcM) (fun _ h => Cs.sub (vs := [.slice va (bs.length) (vc), .slice rva (rs.length) (rvc), Ix (gx), Ix (gy)]) 0 h rfl)) (fun _ h => Cs.sub (vs := [.slice va (bs.length) (vc)]) 0 h rfl))) ?_
    refine l_nil ?_
    exact f_owes_d (up_cons rfl hs42) rfl (List.Perm.refl _)
   ·rintro f M - ⟨i0, -⟩
    have hs5 : f 5 = .pointer (some ⟨b16, 0, none⟩) := i0
    refine ob_start (L' := M) (by rfl) (up_cons rfl hs5) ?_
    refine l_val (v := .func (.func 145) #[] #[.pointer (some ⟨b16, 0, none⟩)]) rfl rfl rfl (e_func (u := []) (v := [.pointer (some ⟨b16, 0, none⟩)]) rfl rfl) ?_
    refine l_nil ?_
    exact f_owes_d (up_cons rfl hs5) rfl (List.Perm.refl _)
   ·rintro f M ⟨k0, k1, -⟩ -
    have hs43 : f 43 = .slice va (bs.length) (vc) := k0
    have hs44 : f 44 = .func (.func 145) #[] #[.pointer (some ⟨b16, 0, none⟩)] := k1
    refine ob_start (L' := pt b16 (.cells #[Ix (((x2.a) + (x2.b)) - (b.id))] 3) :: M) (by rfl) (up_cons (up_cons rfl hs43) hs44) ?_
    refine l_call rfl rfl rfl (cl_value (fst := []) (cap := []) (vs := [.slice va (bs.length) (vc), .func (.func 145) #[] #[.pointer (some ⟨b16, 0, none⟩)]]) (all := [.slice va (bs.length) (vc), .func (.func 145) #[] #[.pointer (some ⟨b16, 0, none⟩)]]) tf78 rfl rfl rfl) ?_
    intro w hw
    obtain ⟨β1, sb, kn, hw1, back⟩ := St.frame_all hw
    refine (indexBk_ok β1 w hw1 _ _ bs (Sl.mono _ _ _ _ _ sb (⟨⟨_, _, rfl, vl, vm, ve⟩⟩ : Sl KBR _ _ bs)) (fun z => decide (z.id = ((x2.a) + (x2.b)) - (b.id))) (fnv_all (ends11_fn β1 b16 (((x2.a) + (x2.b)) - (b.id)) (kn _ (k_pt 0 (o := 0) (cs := #[Ix (((x2.a) + (x2.b)) - (b.id))]) (vs := [Ix (((x2.a) + (x2.b)) - (b.id))]) rfl rfl)))) kq hkq).mono ?_
    rintro e w' ⟨rfl, hw'⟩
    refine ⟨_, rfl, _, back _ _ hw', ?_⟩
    clear hw hw1 hw' back kn sb
    refine l_nil ?_
    exact f_owes_d (up_cons (up_cons rfl hs43) hs44) rfl (perm_front 0 rfl)
   ·rintro f M ⟨k0, k1, -⟩ -
    have hs40 : f 40 = .slice va (bs.length) (vc) := k0
    have hs45 : f 45 = Nx (kq) := k1
    refine ob_start (L' := M) (by rfl) (up_cons (up_cons rfl hs40) hs45) ?_
    refine l_val (v := .pointer (some ((ba va).add (kq * 9)))) rfl rfl rfl (e_indexAddr (k := kq) (len := bs.length) (cap := vc) (a := va) rfl rfl tf43 (by omega) ha0) ?_
    refine l_nil ?_
    exact f_owes_d (up_cons (up_cons rfl hs40) hs45) rfl (List.Perm.refl _)
   ·rintro f M ⟨k0, -⟩ -
    have hs46 : f 46 = .pointer (some ((ba va).add (kq * 9))) := k0
    refine ob_start (L' := M) (by rfl) (up_cons rfl hs46) ?_
    refine l_val (v := .agg (bC o)) rfl rfl rfl (e_load tf22 (cs := (bodyE o)) rfl (Knows.of_base (Cs.mono _ _) hc0) rfl) ?_
    refine l_nil ?_
    exact f_owes_d (up_cons rfl hs46) rfl (List.Perm.refl _)
   ·rintro f M - -
    refine ob_start (L' := M) (by rfl) rfl ?_
    refine l_mv rfl rfl rfl (m_alloc tf58) ?_
    rintro _ _ ⟨b18, rfl, rfl⟩
    refine l_nil ?_
    exact f_owes_d rfl rfl (perm_front 0 rfl)
   ·rintro f M ⟨k0, k1, -⟩ -
    have hs6 : f 6 = .pointer (some ⟨(blk (f 6)), 0, none⟩) := k0
    have hs47 : f 47 = .agg (bC o) := k1
    refine ob_start (L' := pt (blk (f 6)) (.cells #[.int .i64 (0), .int .i64 (0), .int .i64 (0), .int .i64 (0), .int .i64 (0), .int .i64 (0), .int .i64 (0), .bool false, .bool false] 52) :: M) (by rfl) (up_cons (up_cons rfl hs6) hs47) ?_
    refine l_mu rfl rfl (m_store 0 tf22 (b := (blk (f 6))) (o := 0) (T := 52) (cs := #[.int .i64 (0), .int .i64 (0), .int .i64 (0), .int .i64 (0), .int .i64 (0), .int .i64 (0), .int .i64 (0), .bool false, .bool false]) (cs' := (bC o)) (v := .agg (bC o)) rfl rfl rfl rfl rfl rfl rfl) ?_
    refine l_nil ?_
    exact f_owes_n (up_cons (up_cons rfl hs6) hs47) trivial (perm_front 0 rfl)
   rintro fa19 ⟨-, -, -, -, -, -, -, -, -, -, k10, -, -⟩ ⟨j0, j1, j2, j3, j4, j5, -⟩
   refine f_re (L' := (pt b16 (.cells #[Ix (((x2.a) + (x2.b)) - (b.id))] 3) :: pt b8 (.cells #[Ix (x2.a), Ix (x2.b), Ix (x2.len)] 78) :: pt (blk (fa19 6)) (.cells (bC o) 52) :: M)) (by rfl) ?_
   refine f_rebase (d := 0) (v := yfn l) j0 ?_
   refine f_rebase (d := 1) (v := .pointer (some (⟨c, 0, none⟩))) j1 ?_
   refine f_rebase (d := 4) (v := .pointer (some ⟨b8, 0, none⟩)) j2 ?_
   refine f_rebase (d := 6) (v := .pointer (some ⟨(blk (fa19 6)), 0, none⟩)) k10 ?_
   refine f_rebase (d := 9) (v := .slice rva (rs.length) (rvc)) j3 ?_
   refine f_rebase (d := 10) (v := Nx (rs.length)) j4 ?_
   refine f_rebase (d := 11) (v := Nx (k)) j5 ?_
   refine f_then ?_
   refine c_seq ?_
   refine c_any_tail 10 rfl (by kernel_rfl) [⟨[], [], [0], [48], fun f => f 48 = yfn l⟩, ⟨[], [], [1], [49], fun f => f 49 = .agg (bC o)⟩, ⟨[], [], [2], [50], fun f => f 50 = .pointer (some ⟨b8, 2, none⟩)⟩, ⟨[2], [2], [], [51], fun f => f 51 = Ix (x2.len)⟩, ⟨[2, 3], [3], [], [52], fun f => f 52 = Ix ((x2.len) * (x2.len))⟩, ⟨[], [], [3], [53], fun f => f 53 = .pointer (some ((⟨c, 0, none⟩ : Addr).add 4))⟩, ⟨[5], [5], [], [54], fun f => f 54 = .agg (bC b)⟩, ⟨[], [], [1], [55], fun f => f 55 = .agg (bC o)⟩, ⟨[2, 3, 4, 5, 6, 7], [6, 7], [], [56], fun f => f 56 = Ix (Stp.dist b o)⟩, ⟨[2, 3, 4, 5, 6, 7, 8], [4, 8], [], [57], fun f => f 57 = Ix (max ((x2.len) * (x2.len)) (Stp.dist b o))⟩, ⟨[0, 1, 2, 3, 4, 5, 6, 7, 8, 9], [], [], [], fun _ => True⟩, ⟨[0, 1, 2, 3, 4, 5, 6, 7, 8, 9, 10], [], [], [], fun _ => True⟩] [⟨none, none, [], [], fun _ => pt b16 (.cells #[Ix (((x2.a) + (x2.b)) - (b.id))] 3)⟩, ⟨none, none, [3], [], fun _ => pt b8 (.cells #[Ix (x2.a), Ix (x2.b), Ix (x2.len)] 78)⟩, ⟨none, none, [1, 7], [], fun _ => pt (blk (fa19 6)) (.cells (bC o) 52)⟩] [(0, yfn l), (6, .pointer (some ⟨(blk (fa19 6)), 0, none⟩)), (4, .pointer (some ⟨b8, 0, none⟩)), (1, .pointer (some (⟨c, 0, none⟩))), (9, .slice rva (rs.length) (rvc)), (10, Nx (rs.length)), (11, Nx (k))] [0, 3, 4, 5, 6] M (by kernel_rfl) (by kernel_rfl) (by kernel_rfl) (by kernel_rfl) (by kernel_rfl) (by kernel_rfl) rfl ⟨rfl, rfl, rfl, rfl, rfl, rfl, rfl, trivial⟩ ⟨?_, ?_, ?_, ?_, ?_, ?_, ?_, ?_, ?_, ?_, trivial⟩ ?_
   ·rintro f M - ⟨i0, -⟩
    have hs0 : f 0 = yfn l := i0
    refine ob_start (L' := M) (by rfl) (up_cons rfl hs0) ?_
    refine l_val (v := yfn l) rfl rfl rfl (e_move) ?_
    refine l_nil ?_
    exact f_owes_d (up_cons rfl hs0) rfl (List.Perm.refl _)
   ·rintro f M - ⟨i0, -⟩
    have hs6 : f 6 = .pointer (some ⟨(blk (fa19 6)), 0, none⟩) := i0
    refine ob_start (L' := pt (blk (fa19 6)) (.cells (bC o) 52) :: M) (by rfl) (up_cons rfl hs6) ?_
    refine l_val (v := .agg (bC o)) rfl rfl rfl (e_load tf22 (cs := (bodyE o)) rfl (k_pt 0 (cs := (bC o)) (vs := (bodyE o)) rfl rfl) rfl) ?_
    refine l_nil ?_
    exact f_owes_d (up_cons rfl hs6) rfl (perm_front 0 rfl)
   ·rintro f M - ⟨i0, -⟩
    have hs4 : f 4 = .pointer (some ⟨b8, 0, none⟩) := i0
    refine ob_start (L' := M) (by rfl) (up_cons rfl hs4) ?_
    refine l_val (v := .pointer (some ⟨b8, 2, none⟩)) rfl rfl rfl (e_fieldPt (b := b8) (o := 0) rfl tf54) ?_
    refine l_nil ?_
    exact f_owes_d (up_cons rfl hs4) rfl (List.Perm.refl _)
   ·rintro f M ⟨k0, -⟩ -
    have hs50 : f 50 = .pointer (some ⟨b8, 2, none⟩) := k0
    refine ob_start (L' := pt b8 (.cells #[Ix (x2.a), Ix (x2.b), Ix (x2.len)] 78) :: M) (by rfl) (up_cons rfl hs50) ?_
    refine l_val (v := Ix (x2.len)) rfl rfl rfl (e_load1 tf2 (v := Ix (x2.len)) rfl (k_pt 0 (cs := #[Ix (x2.a), Ix (x2.b), Ix (x2.len)]) (vs := [Ix (x2.len)]) rfl rfl)) ?_
    refine l_nil ?_
    exact f_owes_d (up_cons rfl hs50) rfl (perm_front 0 rfl)
   ·rintro f M ⟨k0, -⟩ -
    have hs51 : f 51 = Ix (x2.len) := k0
    refine ob_start (L' := M) (by rfl) (up_cons rfl hs51) ?_
    refine l_call rfl rfl rfl (cl_value (fst := []) (cap := []) (vs := [Ix (x2.len)]) (all := [Ix (x2.len)]) tf69 rfl rfl rfl) ?_
    intro w hw
    obtain ⟨β1, sb, kn, hw1, back⟩ := St.frame_all hw
    refine (sq_ok β1 w hw1 (x2.len) (by omega)).mono ?_
    rintro e w' ⟨rfl, hw'⟩
    refine ⟨_, rfl, _, back _ _ hw', ?_⟩
    clear hw hw1 hw' back kn sb
    refine l_nil ?_
    exact f_owes_d (up_cons rfl hs51) rfl (List.Perm.refl _)
   ·rintro f M - ⟨i0, -⟩
    have hs1 : f 1 = .pointer (some (⟨c, 0, none⟩)) := i0
    refine ob_start (L' := M) (by rfl) (up_cons rfl hs1) ?_
    refine l_val (v := .pointer (some ((⟨c, 0, none⟩ : Addr).add 4))) rfl rfl rfl (e_fieldAddr (a := ⟨c, 0, none⟩) rfl tf65) ?_
    refine l_nil ?_
    exact f_owes_d (up_cons rfl hs1) rfl (List.Perm.refl _)
   ·rintro f M ⟨k0, -⟩ -
    have hs53 : f 53 = .pointer (some ((⟨c, 0, none⟩ : Addr).add 4)) := k0
    refine ob_start (L' := M) (by rfl) (up_cons rfl hs53) ?_
    refine l_val (v := .agg (bC b)) rfl rfl rfl (e_load tf22 (cs := (bodyE b)) rfl (Knows.imp (Knows.of_base (Cs.mono _ _) hcM) (fun _ h => Cs.sub (vs := (bodyE b)) 4 h rfl)) rfl) ?_
    refine l_nil ?_
    exact f_owes_d (up_cons rfl hs53) rfl (List.Perm.refl _)
   ·rintro f M - ⟨i0, -⟩
    have hs6 : f 6 = .pointer (some ⟨(blk (fa19 6)), 0, none⟩) := i0
    refine ob_start (L' := pt (blk (fa19 6)) (.cells (bC o) 52) :: M) (by rfl) (up_cons rfl hs6) ?_
    refine l_val (v := .agg (bC o)) rfl rfl rfl (e_load tf22 (cs := (bodyE o)) rfl (k_pt 0 (cs := (bC o)) (vs := (bodyE o)) rfl rfl) rfl) ?_
    refine l_nil ?_
    exact f_owes_d (up_cons rfl hs6) rfl (perm_front 0 rfl)
   ·rintro f M ⟨k0, k1, -⟩ -
    have hs54 : f 54 = .agg (bC b) := k0
    have hs55 : f 55 = .agg (bC o) := k1
    refine ob_start (L' := M) (by rfl) (up_cons (up_cons rfl hs54) hs55) ?_
    refine l_call rfl rfl rfl (cl_value (fst := []) (cap := []) (vs := [.agg (bC b), .agg (bC o)]) (all := [.agg (bC b), .agg (bC o)]) tf79 rfl rfl rfl) ?_
    intro w hw
    obtain ⟨β1, sb, kn, hw1, back⟩ := St.frame_all hw
    refine (dist_ok β1 w hw1 b o hb.mid hoo.mid).mono ?_
    rintro e w' ⟨rfl, hw'⟩
    refine ⟨_, rfl, _, back _ _ hw', ?_⟩
    clear hw hw1 hw' back kn sb
    refine l_nil ?_
    exact f_owes_d (up_cons (up_cons rfl hs54) hs55) rfl (List.Perm.refl _)
   ·rintro f M ⟨k0, k1, -⟩ -
    have hs52 : f 52 = Ix ((x2.len) * (x2.len)) := k0
    have hs56 : f 56 = Ix (Stp.dist b o) := k1
    refine ob_start (L' := M) (by rfl) (up_cons (up_cons rfl hs52) hs56) ?_
    refine l_val (v := Ix (max ((x2.len) * (x2.len)) (Stp.dist b o))) rfl rfl rfl (e_max (a := ((x2.len) * (x2.len))) (b := (Stp.dist b o)) rfl rfl) ?_
    refine l_nil ?_
    exact f_owes_d (up_cons (up_cons rfl hs52) hs56) rfl (List.Perm.refl _)
   rintro fa20 ⟨k0, k1, -, -, -, -, -, -, -, k9, -⟩ ⟨j0, j1, j2, j3, j4, -⟩
   refine l_re (L' := (pt b16 (.cells #[Ix (((x2.a) + (x2.b)) - (b.id))] 3) :: pt b8 (.cells #[Ix (x2.a), Ix (x2.b), Ix (x2.len)] 78) :: pt (blk (fa19 6)) (.cells (bC o) 52) :: M)) (by rfl) ?_
   refine l_rebase (d := 0) (v := yfn l) j0 ?_
   refine l_rebase (d := 1) (v := .pointer (some (⟨c, 0, none⟩))) j1 ?_
   refine l_rebase (d := 9) (v := .slice rva (rs.length) (rvc)) j2 ?_
   refine l_rebase (d := 10) (v := Nx (rs.length)) j3 ?_
   refine l_rebase (d := 11) (v := Nx (k)) j4 ?_
   refine l_rebase (d := 48) (v := yfn l) k0 ?_
   refine l_rebase (d := 49) (v := .agg (bC o)) k1 ?_
   refine l_rebase (d := 57) (v := Ix (max ((x2.len) * (x2.len)) (Stp.dist b o))) k9 ?_
   refine l_yield (own := [pt b16 (.cells #[Ix (((x2.a) + (x2.b)) - (b.id))] 3), pt b8 (.cells #[Ix (x2.a), Ix (x2.b), Ix (x2.len)] 78), pt (blk (fa19 6)) (.cells (bC o) 52)]) (M := M) (d := 58) (enc := fun z : KB × Int => [.agg (bC z.1), Ix z.2]) (pre := ends bs (rs.take k) b) (x := (o, max (x2.len * x2.len) (Stp.dist b o))) rfl rfl rfl rfl hY (⟨_, rfl, ends_pre hx3 hen⟩) hJ (fun M1 hJ1 => ?_) (fun M1 hX1 => ?_)
   ·
    refine l_val (v := .bool false) rfl rfl rfl (e_not (a := true) rfl) ?_
    refine l_nil ?_
    refine f_then ?_
    refine c_no rfl ?_
    refine c_skip ?_
    refine f_block ?_
    refine f_then ?_
    refine c_region ?_
    refine l_val (v := Nx (k + 1)) rfl rfl rfl (e_add (a := ((k : Nat) : Int)) (b := (1 : Int)) rfl rfl (i64n (by omega) (by omega))) ?_
    refine l_val (v := Nx (k + 1)) rfl rfl rfl (e_move) ?_
    refine l_nil ?_
    refine f_mask (L' := (M1)) [false, false, false] rfl ?_
    exact f_cut ⟨(k + 1, M1), ⟨⟨rfl, rfl, rfl, rfl, rfl⟩, rfl, ⟨by omega, by rw [ends_snoc hx3 hen]; exact hJ1⟩⟩, (show rs.length - (k + 1) < rs.length - k from by omega)⟩
   ·
    refine l_val (v := .bool true) rfl rfl rfl (e_not (a := false) rfl) ?_
    refine l_nil ?_
    refine f_then ?_
    refine c_yes rfl ?_
    refine c_ret ?_
    refine f_block_ret ?_
    refine f_then_ret ?_
    refine f_then_ret ?_
    refine f_block_ret ?_
    refine ret0 Tryz.results144 ?_
    intro w hw
    exact ⟨⟨_, rfl⟩, .inr ⟨_, M1, hX1, st_mask [false, false, false] rfl hw⟩⟩
 ·
  refine c_exit ?_
  refine f_then_exit ?_
  refine f_then_exit ?_
  refine f_exit ?_
  refine end0 Tryz.results144 ?_
  intro w hw
  exact ⟨⟨_, rfl⟩, .inl ⟨_, M, rfl, (by rw [List.take_of_length_le (by omega)] at hJ; exact hJ), st_mask [] rfl hw⟩⟩
end Go.Proofs
