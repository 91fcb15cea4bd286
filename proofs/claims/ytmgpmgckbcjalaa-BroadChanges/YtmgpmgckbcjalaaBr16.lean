/-
  BroadChanges: walked. Printed by a program of my own.
-/
import Derived.Test.YtmgpmgckbcjalaaBr15
namespace Go.Brd
theorem errDrop_two {s : KSp} {id : Int} (h : errDrop s id ≠ 0) : ¬ errDrop s id ≠ 6 := by unfold errDrop at *; split at h <;> simp_all
theorem errPut_del {s : KSp} {id : Int} {a : KA} (h : argS id a) (hl : s.ar.length < 128) : errPut (delS s id) id a = 0 :=
  errPut_zero h (Nat.lt_of_le_of_lt (List.length_filter_le _ _) hl)
theorem put_told (s : KSp) (id : Int) (a : KA) : (putX s id a).told = s.told := by unfold putX; split <;> rfl
theorem del_len {s : KSp} {id : Int} {i : Nat} (h : s.ar.length ≤ i) : (delS s id).ar.length ≤ i + 1 := by
  have := List.length_filter_le (fun p : Int × KA => !decide (p.1 = id)) s.ar
  show (s.ar.filter _).length ≤ _
  omega
theorem put_len {s : KSp} {id : Int} {a : KA} {i : Nat} (h : s.ar.length ≤ i) : (putX (delS s id) id a).ar.length ≤ i + 1 := by
  have h1 := List.length_filter_le (fun p : Int × KA => !decide (p.1 = id)) s.ar
  unfold putX
  split
  · have h2 := List.length_filter_le (fun p : Int × KA => !decide (p.1 = id)) (delS s id).ar
    show ((delS s id).ar.filter _ ++ [_]).length ≤ _
    rw [List.length_append, List.length_singleton]
    have : (delS s id).ar.length = (s.ar.filter fun p => !decide (p.1 = id)).length := rfl
    omega
  · exact del_len h
theorem began_few {s : KSp} (h : s.ok) : (beganS s).length ≤ 16384 := Nat.le_trans (List.length_filter_le _ _) (pairsS_few h)
theorem ended_few {s : KSp} (h : s.ok) : (endedS s).length ≤ 16384 := by
  rw [endedS, (sortP_perm _).length_eq]
  exact Nat.le_trans (List.length_filter_le _ _) h.many
theorem mem_ended {s : KSp} {p : KP} : p ∈ endedS s ↔ p ∈ s.told ∧ p ∉ pairsS s := by
  rw [endedS, (sortP_perm _).mem_iff, List.mem_filter]; simp
theorem mem_began {s : KSp} {p : KP} : p ∈ beganS s ↔ p ∈ pairsS s ∧ p ∉ s.told := by
  rw [beganS, List.mem_filter]; simp
theorem chg_facts {s : KSp} (h : s.ok) {T : List KP} (hT : T.Perm s.told) : inL T (endedS s) = ((endedS s).length : Int) ∧ inL (beganS s) T = 0 ∧ beganL T (beganS s) = beganS s ∧ (beganL (endedS s) T ++ beganS s).Perm (pairsS s) := by
  have nT := hT.nodup_iff.2 h.once
  have nP := pairsS_nodup h
  have nE : (endedS s).Nodup := (sortP_perm _).nodup_iff.2 (h.once.sublist List.filter_sublist)
  refine ⟨?_, ?_, ?_, ?_⟩
  · unfold inL
    have : (T.filter fun p => decide (p ∈ endedS s)).Perm (endedS s) := by
      refine (List.perm_ext_iff_of_nodup (nT.sublist List.filter_sublist) nE).2 fun p => ?_
      simp only [List.mem_filter, hT.mem_iff, mem_ended, decide_eq_true_eq]
      exact ⟨fun q => q.2, fun q => ⟨q.1, q⟩⟩
    rw [this.length_eq]
  · unfold inL
    rw [List.filter_eq_nil_iff.2 fun p hp => by have := (mem_began.1 hp).2; simp [hT.mem_iff, this]]; rfl
  · exact List.filter_eq_self.2 fun p hp => by have := (mem_began.1 hp).2; simp [hT.mem_iff, this]
  · refine (List.perm_ext_iff_of_nodup ?_ nP).2 fun p => ?_
    · rw [List.nodup_append]
      refine ⟨nT.sublist List.filter_sublist, nP.sublist List.filter_sublist, ?_⟩
      rintro p hp _ hq rfl
      exact (mem_began.1 hq).2 (hT.mem_iff.1 (List.mem_filter.1 hp).1)
    · rw [List.mem_append, mem_began]
      unfold beganL
      rw [List.mem_filter, hT.mem_iff]
      simp only [Bool.not_eq_true', decide_eq_false_iff_not, mem_ended]
      by_cases a : p ∈ s.told <;> by_cases b : p ∈ pairsS s <;> simp [a, b]
theorem chg_again (s : KSp) : beganS (toldS s) = [] ∧ endedS (toldS s) = [] := by
  constructor
  · exact List.filter_eq_nil_iff.2 fun p hp => by
      have : p ∈ (toldS s).told := hp
      simp [this]
  · have : (toldS s).told.filter (fun p => !decide (p ∈ pairsS (toldS s))) = [] := List.filter_eq_nil_iff.2 fun p hp => by
      have : p ∈ pairsS (toldS s) := hp
      simp [this]
    rw [endedS, this]; exact sortP_is (by decide) List.Pairwise.nil
theorem perm_none2 {l m : List KP} (h : l.Perm m) : beganL m l = [] ∧ inL l m = (m.length : Int) := perm_none h.symm
end Go.Brd
namespace Go.Proofs
open Go Go.Sl Go.Brd
theorem tf118 : Try.prog.underlying 54 = some (.slice 5) := by kernel_rfl
theorem tf119 : slB Try.prog 54 5 1 = true := by kernel_rfl
set_option maxHeartbeats 4000000 in
theorem changesL_ok (β : Base) (w : World) (hw : St β [] w) (v u : Value) (fs : List KF) (us : List UInt8) (hs0 : Sl FormF.R β.heap v fs) (hu0 : Sl U8R β.heap u us) : Calls Try.prog 7 #[v, u] w fun r w' => r = .returned (.bool true) ∧ St β [] w' := by
  obtain ⟨va, vc, rfl, vl, vm, ve⟩ := hs0.get
  obtain ⟨ua, uc, rfl, ul, um, ue⟩ := hu0.get
  refine enter (n := 146) Try.func7 rfl Try.ntmps7 rfl ?_ hw
  refine c_seq ?_
  refine c_region ?_
  refine l_val (v := .bool false) rfl rfl rfl (e_assign) ?_
  refine l_nil ?_
  refine f_then ?_
  refine c_seq ?_
  refine c_seq ?_
  refine c_region ?_
  refine l_call rfl rfl rfl (cl_value (fst := []) (cap := []) (vs := []) (all := []) tf98 rfl rfl rfl) ?_
  intro w hw
  obtain ⟨β1, sb, kn, hw1, back⟩ := St.frame_all hw
  refine (awake_ok β1 w hw1).mono ?_
  rintro e w' ⟨rfl, hw'⟩
  refine ⟨_, rfl, _, back _ _ hw', ?_⟩
  clear hw hw1 hw' back kn sb
  refine l_val (v := .bool false) rfl rfl rfl (e_not (a := true) rfl) ?_
  refine l_nil ?_
  refine f_then ?_
  refine c_no rfl ?_
  refine c_skip ?_
  refine f_then ?_
  refine c_seq ?_
  refine c_region ?_
  refine l_call rfl rfl rfl (cl_value (fst := []) (cap := []) (vs := []) (all := []) tf74 rfl rfl rfl) ?_
  intro w hw
  obtain ⟨β1, sb, kn, hw1, back⟩ := St.frame_all hw
  refine (new_ok β1 w hw1).mono ?_
  rintro e w' ⟨b1, rfl, hw'⟩
  refine ⟨_, rfl, _, back _ _ hw', ?_⟩
  clear hw hw1 hw' back kn sb
  refine l_val (v := .pointer (some ⟨b1, 0, none⟩)) rfl rfl rfl (e_assign) ?_
  refine l_nil ?_
  refine f_then ?_
  refine c_seq ?_
  refine c_region ?_
  refine l_val (v := .slice none 0 0) rfl rfl rfl (e_assign) ?_
  refine l_nil ?_
  refine f_then ?_
  refine c_seq ?_
  refine c_seq ?_
  refine c_emp (r := rowF PairF 40 none 0 []) (row_nil _ _ _) ?_
  refine c_region ?_
  refine l_val (v := .int .i64 (0)) rfl rfl rfl (e_assign) ?_
  refine l_nil ?_
  refine f_then ?_
  refine c_block ?_
  refine c_loop (fun (x_ : Nat × KSp × List KP × Option Addr × Nat) (f : Fm) (L : List Res) => match x_ with | (i, s, T, tp, tc) => (f 0 = .slice va (fs.length) (vc) ∧ f 1 = .slice ua (us.length) (uc) ∧ f 5 = .pointer (some ⟨b1, 0, none⟩) ∧ f 6 = .slice tp (T.length) tc ∧ f 7 = Nx (i)) ∧ L = [rowF PairF 40 tp tc T, spcR b1 s] ∧ (i ≤ 40 ∧ s.ok ∧ T.Perm s.told ∧ s.ar.length ≤ i)) (fun (x_ : Nat × KSp × List KP × Option Addr × Nat) => match x_ with | (i, s, T, tp, tc) => 40 - i) (0, newS, [], none, 0) ?_ ?_
  · exact ⟨⟨rfl, rfl, rfl, rfl, rfl⟩, rfl, ⟨by omega, new_okS, List.Perm.refl _, Nat.le_refl _⟩⟩
  rintro ⟨i, s, T, tp, tc⟩ f0 L0 ⟨⟨hs0, hs1, hs5, hs6, hs7⟩, hL, ⟨hi, hs, hT, hsl⟩⟩
  subst L0
  refine rebase (d := 0) hs0 ?_
  refine rebase (d := 1) hs1 ?_
  refine rebase (d := 5) hs5 ?_
  refine rebase (d := 6) hs6 ?_
  refine rebase (d := 7) hs7 ?_
  clear hs0 hs1 hs5 hs6 hs7
  have hTl := hT.length_eq
  have hsm := hs.many
  refine c_seq ?_
  refine c_seq ?_
  refine c_region ?_
  refine l_val (v := Nx (i)) rfl rfl rfl (e_move) ?_
  refine l_val (v := .slice va (fs.length) (vc)) rfl rfl rfl (e_move) ?_
  refine l_val (v := Nx (fs.length)) rfl rfl rfl (e_len (a := va) (n := fs.length) (c := vc) rfl tf93) ?_
  refine l_val (v := .bool (decide (((i : Nat) : Int) < ((fs.length : Nat) : Int)))) rfl rfl rfl (e_lss (a := ((i : Nat) : Int)) (b := ((fs.length : Nat) : Int)) rfl rfl) ?_
  refine l_val (v := .bool (decide (((i : Nat) : Int) < ((fs.length : Nat) : Int)))) rfl rfl rfl (e_move) ?_
  refine l_split (s := 28) (p := ((i : Nat) : Int) < ((fs.length : Nat) : Int)) rfl (fun hg2 => ?_) (fun hg2 => ?_)
  ·
    refine g_val (v := Nx (i)) rfl rfl rfl rfl rfl (e_move) ?_
    refine g_val (v := .bool (decide (((i : Nat) : Int) < (40 : Int)))) rfl rfl rfl rfl rfl (e_lss (a := ((i : Nat) : Int)) (b := (40 : Int)) rfl rfl) ?_
    refine l_val (v := .bool (decide (((i : Nat) : Int) < (40 : Int)))) rfl rfl rfl (e_pick_t rfl) ?_
    refine l_val (v := .bool (decide (((i : Nat) : Int) < (40 : Int)))) rfl rfl rfl (e_move) ?_
    refine l_split (s := 32) (p := ((i : Nat) : Int) < (40 : Int)) rfl (fun hg3 => ?_) (fun hg3 => ?_)
    ·
      refine g_val (v := Nx (i)) rfl rfl rfl rfl rfl (e_move) ?_
      refine g_val (v := .slice ua (us.length) (uc)) rfl rfl rfl rfl rfl (e_move) ?_
      refine g_val (v := Nx (us.length)) rfl rfl rfl rfl rfl (e_len (a := ua) (n := us.length) (c := uc) rfl tf118) ?_
      refine g_val (v := .bool (decide (((i : Nat) : Int) < ((us.length : Nat) : Int)))) rfl rfl rfl rfl rfl (e_lss (a := ((i : Nat) : Int)) (b := ((us.length : Nat) : Int)) rfl rfl) ?_
      refine l_val (v := .bool (decide (((i : Nat) : Int) < ((us.length : Nat) : Int)))) rfl rfl rfl (e_pick_t rfl) ?_
      refine l_nil ?_
      refine f_then ?_
      refine c_if (((i : Nat) : Int) < ((us.length : Nat) : Int)) rfl (fun hc4 => ?_) (fun hc4 => ?_)
      ·
        refine c_skip ?_
        refine f_then ?_
        refine c_seq ?_
        refine c_block ?_
        refine c_seq ?_
        refine c_region ?_
        refine l_val (v := .slice ua (us.length) (uc)) rfl rfl rfl (e_move) ?_
        refine l_val (v := Nx (i)) rfl rfl rfl (e_move) ?_
        obtain ⟨x5, hx6⟩ : ∃ x_, (us)[i]? = some x_ := ⟨_, List.getElem?_eq_getElem (by omega)⟩
        obtain ⟨ha7, cs8, hc9, rfl⟩ := ue _ _ hx6
        refine l_val (v := .pointer (some ((ba ua).add (i * 1)))) rfl rfl rfl (e_indexAddr (k := i) (len := us.length) (cap := uc) (a := ua) rfl rfl tf119 (by omega) ha7) ?_
        refine l_val (v := Bx (x5)) rfl rfl rfl (e_load1 tf87 (v := Bx (x5)) rfl (Knows.of_base (Cs.mono _ _) hc9)) ?_
        refine l_val (v := Nx (x5.toNat)) rfl rfl rfl (e_conv (a := ((x5).toNat : Int)) rfl ⟨_, tf88⟩ tf89 (i64n rfl (by have := (x5).toNat_lt; omega))) ?_
        refine l_val (v := Nx (x5.toNat % 12)) rfl rfl rfl (e_rem (a := ((x5.toNat : Nat) : Int)) (b := (12 : Int)) rfl rfl (by decide) (nat_tmod _ 12)) ?_
        refine l_val (v := Nx (x5.toNat % 12)) rfl rfl rfl (e_assign) ?_
        refine l_nil ?_
        refine f_then ?_
        refine c_seq ?_
        refine c_seq ?_
        refine c_region ?_
        refine l_val (v := .pointer (some ⟨b1, 0, none⟩)) rfl rfl rfl (e_move) ?_
        refine l_val (v := Nx (x5.toNat % 12)) rfl rfl rfl (e_move) ?_
        refine l_call rfl rfl rfl (cl_value (fst := []) (cap := []) (vs := [.pointer (some ⟨b1, 0, none⟩), Nx (x5.toNat % 12)]) (all := [.pointer (some ⟨b1, 0, none⟩), Nx (x5.toNat % 12)]) tf112 rfl rfl rfl) ?_
        intro w hw
        replace hw := hw.perm (L' := _ :: _ :: []) (by exact ((perm_front 0 rfl).trans (perm_front 1 rfl)))
        obtain ⟨β1, sb, kn, hw1, back⟩ := St.frame (L := [_]) (M := _ :: []) hw
        refine (drop_ok β1 w b1 s hw1 hs ((x5.toNat % 12 : Nat) : Int)).mono ?_
        rintro e w' ⟨rfl, hw'⟩
        refine ⟨_, rfl, _, back _ _ hw', ?_⟩
        clear hw hw1 hw' back kn sb
        have hde := errDrop_le s ((x5.toNat % 12 : Nat) : Int)
        refine l_val (v := Ix (errDrop s ((x5.toNat % 12 : Nat) : Int))) rfl rfl rfl (e_assign) ?_
        refine l_nil ?_
        refine f_then ?_
        refine c_seq ?_
        refine c_region ?_
        refine l_val (v := Ix (errDrop s ((x5.toNat % 12 : Nat) : Int))) rfl rfl rfl (e_move) ?_
        refine l_val (v := .bool (decide ((errDrop s ((x5.toNat % 12 : Nat) : Int)) ≠ (0 : Int)))) rfl rfl rfl (e_neq (a := (errDrop s ((x5.toNat % 12 : Nat) : Int))) (b := (0 : Int)) rfl rfl) ?_
        refine l_val (v := .bool (decide ((errDrop s ((x5.toNat % 12 : Nat) : Int)) ≠ (0 : Int)))) rfl rfl rfl (e_move) ?_
        refine l_split (s := 51) (p := (errDrop s ((x5.toNat % 12 : Nat) : Int)) ≠ (0 : Int)) rfl (fun hg11 => ?_) (fun hg11 => ?_)
        ·
          refine g_val (v := Ix (errDrop s ((x5.toNat % 12 : Nat) : Int))) rfl rfl rfl rfl rfl (e_move) ?_
          refine g_val (v := .bool (decide ((errDrop s ((x5.toNat % 12 : Nat) : Int)) ≠ (6 : Int)))) rfl rfl rfl rfl rfl (e_neq (a := (errDrop s ((x5.toNat % 12 : Nat) : Int))) (b := (6 : Int)) rfl rfl) ?_
          refine l_val (v := .bool (decide ((errDrop s ((x5.toNat % 12 : Nat) : Int)) ≠ (6 : Int)))) rfl rfl rfl (e_pick_t rfl) ?_
          refine l_nil ?_
          refine f_then ?_
          refine c_if ((errDrop s ((x5.toNat % 12 : Nat) : Int)) ≠ (6 : Int)) rfl (fun hc12 => ?_) (fun hc12 => ?_)
          ·
            exact absurd hc12 (fun q => errDrop_two hg11 q)
          ·
            refine c_skip ?_
            refine f_then ?_
            refine c_seq ?_
            refine c_seq ?_
            refine c_region ?_
            refine l_val (v := .slice ua (us.length) (uc)) rfl rfl rfl (e_move) ?_
            refine l_val (v := Nx (i)) rfl rfl rfl (e_move) ?_
            refine l_val (v := .pointer (some ((ba ua).add (i * 1)))) rfl rfl rfl (e_indexAddr (k := i) (len := us.length) (cap := uc) (a := ua) rfl rfl tf119 (by omega) ha7) ?_
            refine l_val (v := Bx (x5)) rfl rfl rfl (e_load1 tf87 (v := Bx (x5)) rfl (Knows.of_base (Cs.mono _ _) hc9)) ?_
            refine l_val (v := .bool (decide (((x5).toNat : Int) < (200 : Int)))) rfl rfl rfl (e_lss (a := ((x5).toNat : Int)) (b := (200 : Int)) rfl rfl) ?_
            refine l_val (v := .bool (decide (((x5).toNat : Int) < (200 : Int)))) rfl rfl rfl (e_move) ?_
            refine l_split (s := 60) (p := ((x5).toNat : Int) < (200 : Int)) rfl (fun hg13 => ?_) (fun hg13 => ?_)
            ·
              refine g_val (v := .pointer (some ⟨b1, 0, none⟩)) rfl rfl rfl rfl rfl (e_move) ?_
              refine g_val (v := Nx (x5.toNat % 12)) rfl rfl rfl rfl rfl (e_move) ?_
              refine g_val (v := .slice va (fs.length) (vc)) rfl rfl rfl rfl rfl (e_move) ?_
              refine g_val (v := Nx (i)) rfl rfl rfl rfl rfl (e_move) ?_
              obtain ⟨x14, hx15⟩ : ∃ x_, (fs)[i]? = some x_ := ⟨_, List.getElem?_eq_getElem (by omega)⟩
              obtain ⟨ha16, cs17, hc18, rfl⟩ := ve _ _ hx15
              refine g_val (v := .pointer (some ((ba va).add (i * 4)))) rfl rfl rfl rfl rfl (e_indexAddr (k := i) (len := fs.length) (cap := vc) (a := va) rfl rfl tf94 (by omega) ha16) ?_
              refine g_val (v := .agg #[Bx (x14.x), Bx (x14.y), Bx (x14.w), Bx (x14.h)]) rfl rfl rfl rfl rfl (e_load tf95 (cs := [Bx (x14.x), Bx (x14.y), Bx (x14.w), Bx (x14.h)]) rfl (Knows.of_base (Cs.mono _ _) hc18) rfl) ?_
              refine g_call rfl rfl rfl rfl rfl (cl_value (fst := []) (cap := []) (vs := [.agg #[Bx (x14.x), Bx (x14.y), Bx (x14.w), Bx (x14.h)]]) (all := [.agg #[Bx (x14.x), Bx (x14.y), Bx (x14.w), Bx (x14.h)]]) tf96 rfl rfl rfl) ?_
              intro w hw
              obtain ⟨β1, sb, kn, hw1, back⟩ := St.frame_all hw
              refine (made_ok β1 w hw1 x14).mono ?_
              rintro e w' ⟨rfl, hw'⟩
              refine ⟨_, rfl, _, back _ _ hw', ?_⟩
              clear hw hw1 hw' back kn sb
              refine g_call rfl rfl rfl rfl rfl (cl_value (fst := []) (cap := []) (vs := [.pointer (some ⟨b1, 0, none⟩), Nx (x5.toNat % 12), .agg (aC (madeA x14))]) (all := [.pointer (some ⟨b1, 0, none⟩), Nx (x5.toNat % 12), .agg (aC (madeA x14))]) tf75 rfl rfl rfl) ?_
              intro w hw
              replace hw := hw.perm (L' := _ :: _ :: []) (by exact ((perm_front 1 rfl).trans (perm_front 1 rfl)))
              obtain ⟨β1, sb, kn, hw1, back⟩ := St.frame (L := [_]) (M := _ :: []) hw
              refine (put_ok' β1 w b1 (delS s ((x5.toNat % 12 : Nat) : Int)) hw1 (del_ok hs _) ((x5.toNat % 12 : Nat) : Int) (madeA x14)).mono ?_
              rintro e w' ⟨rfl, hw'⟩
              refine ⟨_, rfl, _, back _ _ hw', ?_⟩
              clear hw hw1 hw' back kn sb
              have hpe := errPut_le (delS s ((x5.toNat % 12 : Nat) : Int)) ((x5.toNat % 12 : Nat) : Int) (madeA x14)
              refine g_val (v := .bool (decide ((errPut (delS s ((x5.toNat % 12 : Nat) : Int)) ((x5.toNat % 12 : Nat) : Int) (madeA x14)) ≠ (0 : Int)))) rfl rfl rfl rfl rfl (e_neq (a := (errPut (delS s ((x5.toNat % 12 : Nat) : Int)) ((x5.toNat % 12 : Nat) : Int) (madeA x14))) (b := (0 : Int)) rfl rfl) ?_
              refine l_val (v := .bool (decide ((errPut (delS s ((x5.toNat % 12 : Nat) : Int)) ((x5.toNat % 12 : Nat) : Int) (madeA x14)) ≠ (0 : Int)))) rfl rfl rfl (e_pick_t rfl) ?_
              refine l_nil ?_
              refine f_then ?_
              refine c_if ((errPut (delS s ((x5.toNat % 12 : Nat) : Int)) ((x5.toNat % 12 : Nat) : Int) (madeA x14)) ≠ (0 : Int)) rfl (fun hc20 => ?_) (fun hc20 => ?_)
              ·
                exact absurd hc20 (fun q => q (errPut_del ⟨by omega, by omega, made_okA _⟩ (by omega)))
              ·
                refine c_skip ?_
                refine f_then ?_
                refine c_seq ?_
                refine c_seq ?_
                obtain ⟨z, hzE⟩ : ∃ z, z = putX (delS s ((x5.toNat % 12 : Nat) : Int)) ((x5.toNat % 12 : Nat) : Int) (madeA x14) := ⟨_, rfl⟩
                rw [← hzE]
                have hz : z.ok := by rw [hzE]; exact put_ok (del_ok hs _) _ _
                have hTz : T.Perm z.told := by rw [hzE]; exact (put_told _ _ _).symm ▸ hT
                have hzl : z.ar.length ≤ i + 1 := by rw [hzE]; exact put_len hsl
                have hzm := hz.many
                have hTl2 := hTz.length_eq
                refine c_region ?_
                refine l_val (v := Nx (i)) rfl rfl rfl (e_move) ?_
                refine l_val (v := Nx (i % 3)) rfl rfl rfl (e_rem (a := ((i : Nat) : Int)) (b := (3 : Int)) rfl rfl (by decide) (nat_tmod _ 3)) ?_
                refine l_val (v := .bool (decide (((i % 3 : Nat) : Int) = (1 : Int)))) rfl rfl rfl (e_eql (a := ((i % 3 : Nat) : Int)) (b := (1 : Int)) rfl rfl) ?_
                refine l_nil ?_
                refine f_then ?_
                refine c_if (((i % 3 : Nat) : Int) = (1 : Int)) rfl (fun hc21 => ?_) (fun hc21 => ?_)
                ·
                  refine c_exit ?_
                  refine f_then_exit ?_
                  refine f_exit ?_
                  refine f_then ?_
                  refine c_region ?_
                  refine l_val (v := Nx (i)) rfl rfl rfl (e_move) ?_
                  refine l_val (v := Nx (i + 1)) rfl rfl rfl (e_add (a := ((i : Nat) : Int)) (b := (1 : Int)) rfl rfl (i64n (by omega) (by omega))) ?_
                  refine l_val (v := Nx (i + 1)) rfl rfl rfl (e_assign) ?_
                  refine l_nil ?_
                  refine f_perm (L' := [rowF PairF 40 tp tc T, spcR b1 z]) (perm_ix [1, 0] 2 rfl (by kernel_rfl) (by kernel_rfl)) ?_
                  exact f_cut ⟨(i + 1, z, T, tp, tc), ⟨⟨rfl, rfl, rfl, rfl, rfl⟩, rfl, ⟨by omega, hz, hTz, hzl⟩⟩, (show 40 - (i + 1) < 40 - i from by omega)⟩
                ·
                  refine c_skip ?_
                  refine f_then ?_
                  refine c_seq ?_
                  refine c_region ?_
                  refine l_val (v := .pointer (some ⟨b1, 0, none⟩)) rfl rfl rfl (e_move) ?_
                  refine l_call rfl rfl rfl (cl_value (fst := []) (cap := []) (vs := [.pointer (some ⟨b1, 0, none⟩)]) (all := [.pointer (some ⟨b1, 0, none⟩)]) tf77 rfl rfl rfl) ?_
                  intro w hw
                  replace hw := hw.perm (L' := _ :: _ :: []) (by exact ((perm_front 1 rfl).trans (perm_front 1 rfl)))
                  obtain ⟨β1, sb, kn, hw1, back⟩ := St.frame (L := [_]) (M := _ :: []) hw
                  refine (changes_ok β1 w b1 z hw1 hz).mono ?_
                  rintro e w' ⟨p22, c23, q24, d25, rfl, hw'⟩
                  refine ⟨_, rfl, _, back _ _ hw', ?_⟩
                  clear hw hw1 hw' back kn sb
                  refine l_val (v := .tuple #[.slice p22 ((beganS z).length) c23, .slice q24 ((endedS z).length) d25]) rfl rfl rfl (e_move) ?_
                  refine l_val (v := .slice p22 ((beganS z).length) c23) rfl rfl rfl (e_extract (vs := #[.slice p22 ((beganS z).length) c23, .slice q24 ((endedS z).length) d25]) rfl rfl) ?_
                  refine l_val (v := .slice q24 ((endedS z).length) d25) rfl rfl rfl (e_extract (vs := #[.slice p22 ((beganS z).length) c23, .slice q24 ((endedS z).length) d25]) rfl rfl) ?_
                  refine l_val (v := .slice p22 ((beganS z).length) c23) rfl rfl rfl (e_assign) ?_
                  refine l_val (v := .slice q24 ((endedS z).length) d25) rfl rfl rfl (e_assign) ?_
                  refine l_nil ?_
                  refine f_then ?_
                  refine c_seq ?_
                  have hzb := began_few hz
                  have hze := ended_few hz
                  obtain ⟨hc1, hc2, hc3, hc4⟩ := chg_facts hz hTz
                  have hbl3 := beganL_le (endedS z) T
                  refine c_region ?_
                  refine l_val (v := .slice tp (T.length) tc) rfl rfl rfl (e_move) ?_
                  refine l_val (v := .slice q24 ((endedS z).length) d25) rfl rfl rfl (e_move) ?_
                  refine l_call rfl rfl rfl (cl_value (fst := []) (cap := []) (vs := [.slice tp (T.length) tc, .slice q24 ((endedS z).length) d25]) (all := [.slice tp (T.length) tc, .slice q24 ((endedS z).length) d25]) tf117 rfl rfl rfl) ?_
                  intro w hw
                  obtain ⟨β1, sb, kn, hw1, back⟩ := St.frame_all hw
                  refine (without_ok β1 w hw1 _ _ T (endedS z) (kn _ (k_flN 3 (F := PairF) (m := T.length) rfl rfl)) (kn _ (k_flN 1 (F := PairF) (m := (endedS z).length) rfl rfl)) (by omega)).mono ?_
                  rintro e w' ⟨p26, c27, rfl, hw'⟩
                  refine ⟨_, rfl, _, back _ _ hw', ?_⟩
                  clear hw hw1 hw' back kn sb
                  refine l_val (v := .tuple #[.slice p26 ((beganL (endedS z) T).length) c27, Ix (inL T (endedS z))]) rfl rfl rfl (e_move) ?_
                  refine l_val (v := .slice p26 ((beganL (endedS z) T).length) c27) rfl rfl rfl (e_extract (vs := #[.slice p26 ((beganL (endedS z) T).length) c27, Ix (inL T (endedS z))]) rfl rfl) ?_
                  refine l_val (v := Ix (inL T (endedS z))) rfl rfl rfl (e_extract (vs := #[.slice p26 ((beganL (endedS z) T).length) c27, Ix (inL T (endedS z))]) rfl rfl) ?_
                  refine l_val (v := .slice p26 ((beganL (endedS z) T).length) c27) rfl rfl rfl (e_assign) ?_
                  refine l_val (v := Ix (inL T (endedS z))) rfl rfl rfl (e_assign) ?_
                  refine l_nil ?_
                  refine f_then ?_
                  refine c_seq ?_
                  refine c_region ?_
                  refine l_val (v := .slice p22 ((beganS z).length) c23) rfl rfl rfl (e_move) ?_
                  refine l_val (v := .slice tp (T.length) tc) rfl rfl rfl (e_move) ?_
                  refine l_call rfl rfl rfl (cl_value (fst := []) (cap := []) (vs := [.slice p22 ((beganS z).length) c23, .slice tp (T.length) tc]) (all := [.slice p22 ((beganS z).length) c23, .slice tp (T.length) tc]) tf117 rfl rfl rfl) ?_
                  intro w hw
                  obtain ⟨β1, sb, kn, hw1, back⟩ := St.frame_all hw
                  refine (without_ok β1 w hw1 _ _ (beganS z) T (kn _ (k_flN 1 (F := PairF) (m := (beganS z).length) rfl rfl)) (kn _ (k_flN 4 (F := PairF) (m := T.length) rfl rfl)) (by omega)).mono ?_
                  rintro e w' ⟨p28, c29, rfl, hw'⟩
                  refine ⟨_, rfl, _, back _ _ hw', ?_⟩
                  clear hw hw1 hw' back kn sb
                  refine l_val (v := .tuple #[.slice p28 ((beganL T (beganS z)).length) c29, Ix (inL (beganS z) T)]) rfl rfl rfl (e_move) ?_
                  refine l_val (v := .slice p28 ((beganL T (beganS z)).length) c29) rfl rfl rfl (e_extract (vs := #[.slice p28 ((beganL T (beganS z)).length) c29, Ix (inL (beganS z) T)]) rfl rfl) ?_
                  refine l_val (v := Ix (inL (beganS z) T)) rfl rfl rfl (e_extract (vs := #[.slice p28 ((beganL T (beganS z)).length) c29, Ix (inL (beganS z) T)]) rfl rfl) ?_
                  refine l_val (v := .slice p28 ((beganL T (beganS z)).length) c29) rfl rfl rfl (e_assign) ?_
                  refine l_val (v := Ix (inL (beganS z) T)) rfl rfl rfl (e_assign) ?_
                  refine l_nil ?_
                  refine f_then ?_
                  refine c_seq ?_
                  refine c_seq ?_
                  refine c_region ?_
                  refine l_val (v := Ix (inL T (endedS z))) rfl rfl rfl (e_move) ?_
                  refine l_val (v := .slice q24 ((endedS z).length) d25) rfl rfl rfl (e_move) ?_
                  refine l_val (v := Nx ((endedS z).length)) rfl rfl rfl (e_len (a := q24) (n := (endedS z).length) (c := d25) rfl tf65) ?_
                  refine l_val (v := .bool (decide ((inL T (endedS z)) ≠ (((endedS z).length : Nat) : Int)))) rfl rfl rfl (e_neq (a := (inL T (endedS z))) (b := (((endedS z).length : Nat) : Int)) rfl rfl) ?_
                  refine l_val (v := .bool (decide ((inL T (endedS z)) ≠ (((endedS z).length : Nat) : Int)))) rfl rfl rfl (e_move) ?_
                  refine l_split (s := 95) (p := (inL T (endedS z)) ≠ (((endedS z).length : Nat) : Int)) rfl (fun h => ?_) (fun h => ?_)
                  exact absurd h (fun q => q hc1)
                  refine g_val (v := Ix (inL (beganS z) T)) rfl rfl rfl rfl rfl (e_move) ?_
                  refine g_val (v := .bool (decide ((inL (beganS z) T) ≠ (0 : Int)))) rfl rfl rfl rfl rfl (e_neq (a := (inL (beganS z) T)) (b := (0 : Int)) rfl rfl) ?_
                  refine l_val (v := .bool (decide ((inL (beganS z) T) ≠ (0 : Int)))) rfl rfl rfl (e_pick_f rfl) ?_
                  refine l_val (v := .bool (decide ((inL (beganS z) T) ≠ (0 : Int)))) rfl rfl rfl (e_move) ?_
                  refine l_split (s := 99) (p := (inL (beganS z) T) ≠ (0 : Int)) rfl (fun h => ?_) (fun h => ?_)
                  exact absurd h (fun q => q hc2)
                  refine g_val (v := .slice p28 ((beganL T (beganS z)).length) c29) rfl rfl rfl rfl rfl (e_move) ?_
                  refine g_val (v := Nx ((beganL T (beganS z)).length)) rfl rfl rfl rfl rfl (e_len (a := p28) (n := (beganL T (beganS z)).length) (c := c29) rfl tf65) ?_
                  refine g_val (v := .slice p22 ((beganS z).length) c23) rfl rfl rfl rfl rfl (e_move) ?_
                  refine g_val (v := Nx ((beganS z).length)) rfl rfl rfl rfl rfl (e_len (a := p22) (n := (beganS z).length) (c := c23) rfl tf65) ?_
                  refine g_val (v := .bool (decide ((((beganL T (beganS z)).length : Nat) : Int) ≠ (((beganS z).length : Nat) : Int)))) rfl rfl rfl rfl rfl (e_neq (a := (((beganL T (beganS z)).length : Nat) : Int)) (b := (((beganS z).length : Nat) : Int)) rfl rfl) ?_
                  refine l_val (v := .bool (decide ((((beganL T (beganS z)).length : Nat) : Int) ≠ (((beganS z).length : Nat) : Int)))) rfl rfl rfl (e_pick_f rfl) ?_
                  refine l_nil ?_
                  refine f_then ?_
                  refine c_if ((((beganL T (beganS z)).length : Nat) : Int) ≠ (((beganS z).length : Nat) : Int)) rfl (fun hc30 => ?_) (fun hc30 => ?_)
                  ·
                    exact absurd hc30 (fun q => q (by rw [hc3]))
                  ·
                    refine c_skip ?_
                    refine f_then ?_
                    refine c_seq ?_
                    refine c_region ?_
                    refine l_val (v := .slice p26 ((beganL (endedS z) T).length) c27) rfl rfl rfl (e_move) ?_
                    refine l_val (v := .slice p22 ((beganS z).length) c23) rfl rfl rfl (e_move) ?_
                    refine l_mv rfl rfl rfl (m_appendFlN (F := PairF) 1 tf37 tf38 (p := p26) (m := (beganL (endedS z) T).length) (xs := (beganL (endedS z) T)) (ys := (beganS z)) (ao := p22) (k := (beganS z).length) (c := c23) rfl rfl rfl rfl rfl (Knows.imp (k_flN 2 (F := PairF) (m := (beganS z).length) rfl rfl) fun _ h => (Sl.parts h).2.2.2) (by first | omega | simp only [List.length_nil, List.length_cons, List.length_append, List.length_set]; omega) (by first | omega | simp only [List.length_nil, List.length_cons, List.length_append, List.length_set]; omega)) ?_
                    rintro _ _ ⟨rp31, rc32, rfl, rfl⟩
                    refine l_val (v := .slice rp31 (((beganL (endedS z) T) ++ (beganS z)).length) rc32) rfl rfl rfl (e_assign) ?_
                    refine l_nil ?_
                    refine f_then ?_
                    refine c_seq ?_
                    have hc4l := hc4.length_eq
                    obtain ⟨hc6, hc7⟩ := chg_again z
                    have hzp := pairsS_few hz
                    refine c_region ?_
                    refine l_val (v := .pointer (some ⟨b1, 0, none⟩)) rfl rfl rfl (e_move) ?_
                    refine l_call rfl rfl rfl (cl_value (fst := []) (cap := []) (vs := [.pointer (some ⟨b1, 0, none⟩)]) (all := [.pointer (some ⟨b1, 0, none⟩)]) tf76 rfl rfl rfl) ?_
                    intro w hw
                    replace hw := hw.perm (L' := _ :: _ :: _ :: _ :: _ :: _ :: []) (by exact ((((((perm_front 5 rfl).trans (perm_front 4 rfl)).trans (perm_front 4 rfl)).trans (perm_front 4 rfl)).trans (perm_front 4 rfl)).trans (perm_front 5 rfl)))
                    obtain ⟨β1, sb, kn, hw1, back⟩ := St.frame (L := [_]) (M := _ :: _ :: _ :: _ :: _ :: []) hw
                    refine (spairsx_ok β1 w b1 (toldS z) hw1 (told_ok hz)).mono ?_
                    rintro e w' ⟨p33, c34, rfl, hw'⟩
                    refine ⟨_, rfl, _, back _ _ hw', ?_⟩
                    clear hw hw1 hw' back kn sb
                    refine l_val (v := .slice p33 ((pairsS (toldS z)).length) c34) rfl rfl rfl (e_assign) ?_
                    refine l_nil ?_
                    refine f_then ?_
                    refine c_seq ?_
                    obtain ⟨hc8, hc9⟩ := perm_none2 (m := pairsS (toldS z)) hc4
                    have hc5 : (beganL (endedS z) T ++ beganS z).length = (pairsS (toldS z)).length := hc4.length_eq
                    have hl6 : (beganS (toldS z)).length = 0 := by rw [hc6]; rfl
                    have hl7 : (endedS (toldS z)).length = 0 := by rw [hc7]; rfl
                    refine c_region ?_
                    refine l_val (v := .slice rp31 (((beganL (endedS z) T) ++ (beganS z)).length) rc32) rfl rfl rfl (e_move) ?_
                    refine l_val (v := .slice p33 ((pairsS (toldS z)).length) c34) rfl rfl rfl (e_move) ?_
                    refine l_call rfl rfl rfl (cl_value (fst := []) (cap := []) (vs := [.slice rp31 (((beganL (endedS z) T) ++ (beganS z)).length) rc32, .slice p33 ((pairsS (toldS z)).length) c34]) (all := [.slice rp31 (((beganL (endedS z) T) ++ (beganS z)).length) rc32, .slice p33 ((pairsS (toldS z)).length) c34]) tf117 rfl rfl rfl) ?_
                    intro w hw
                    obtain ⟨β1, sb, kn, hw1, back⟩ := St.frame_all hw
                    refine (without_ok β1 w hw1 _ _ ((beganL (endedS z) T) ++ (beganS z)) (pairsS (toldS z)) (kn _ (k_flN 3 (F := PairF) (m := ((beganL (endedS z) T) ++ (beganS z)).length) rfl rfl)) (kn _ (k_flN 0 (F := PairF) (m := (pairsS (toldS z)).length) rfl rfl)) (by omega)).mono ?_
                    rintro e w' ⟨p35, c36, rfl, hw'⟩
                    refine ⟨_, rfl, _, back _ _ hw', ?_⟩
                    clear hw hw1 hw' back kn sb
                    refine l_val (v := .tuple #[.slice p35 ((beganL (pairsS (toldS z)) ((beganL (endedS z) T) ++ (beganS z))).length) c36, Ix (inL ((beganL (endedS z) T) ++ (beganS z)) (pairsS (toldS z)))]) rfl rfl rfl (e_move) ?_
                    refine l_val (v := .slice p35 ((beganL (pairsS (toldS z)) ((beganL (endedS z) T) ++ (beganS z))).length) c36) rfl rfl rfl (e_extract (vs := #[.slice p35 ((beganL (pairsS (toldS z)) ((beganL (endedS z) T) ++ (beganS z))).length) c36, Ix (inL ((beganL (endedS z) T) ++ (beganS z)) (pairsS (toldS z)))]) rfl rfl) ?_
                    refine l_val (v := Ix (inL ((beganL (endedS z) T) ++ (beganS z)) (pairsS (toldS z)))) rfl rfl rfl (e_extract (vs := #[.slice p35 ((beganL (pairsS (toldS z)) ((beganL (endedS z) T) ++ (beganS z))).length) c36, Ix (inL ((beganL (endedS z) T) ++ (beganS z)) (pairsS (toldS z)))]) rfl rfl) ?_
                    refine l_val (v := .slice p35 ((beganL (pairsS (toldS z)) ((beganL (endedS z) T) ++ (beganS z))).length) c36) rfl rfl rfl (e_assign) ?_
                    refine l_val (v := Ix (inL ((beganL (endedS z) T) ++ (beganS z)) (pairsS (toldS z)))) rfl rfl rfl (e_assign) ?_
                    refine l_nil ?_
                    refine f_then ?_
                    refine c_seq ?_
                    refine c_region ?_
                    refine l_val (v := .pointer (some ⟨b1, 0, none⟩)) rfl rfl rfl (e_move) ?_
                    refine l_call rfl rfl rfl (cl_value (fst := []) (cap := []) (vs := [.pointer (some ⟨b1, 0, none⟩)]) (all := [.pointer (some ⟨b1, 0, none⟩)]) tf77 rfl rfl rfl) ?_
                    intro w hw
                    replace hw := hw.perm (L' := _ :: _ :: _ :: _ :: _ :: _ :: _ :: _ :: []) (by exact ((((((((perm_front 7 rfl).trans (perm_front 7 rfl)).trans (perm_front 7 rfl)).trans (perm_front 7 rfl)).trans (perm_front 7 rfl)).trans (perm_front 6 rfl)).trans (perm_front 6 rfl)).trans (perm_front 7 rfl)))
                    obtain ⟨β1, sb, kn, hw1, back⟩ := St.frame (L := [_]) (M := _ :: _ :: _ :: _ :: _ :: _ :: _ :: []) hw
                    refine (changes_ok β1 w b1 (toldS z) hw1 (told_ok hz)).mono ?_
                    rintro e w' ⟨p37, c38, q39, d40, rfl, hw'⟩
                    refine ⟨_, rfl, _, back _ _ hw', ?_⟩
                    clear hw hw1 hw' back kn sb
                    refine l_val (v := .tuple #[.slice p37 ((beganS (toldS z)).length) c38, .slice q39 ((endedS (toldS z)).length) d40]) rfl rfl rfl (e_move) ?_
                    refine l_val (v := .slice p37 ((beganS (toldS z)).length) c38) rfl rfl rfl (e_extract (vs := #[.slice p37 ((beganS (toldS z)).length) c38, .slice q39 ((endedS (toldS z)).length) d40]) rfl rfl) ?_
                    refine l_val (v := .slice q39 ((endedS (toldS z)).length) d40) rfl rfl rfl (e_extract (vs := #[.slice p37 ((beganS (toldS z)).length) c38, .slice q39 ((endedS (toldS z)).length) d40]) rfl rfl) ?_
                    refine l_val (v := .slice p37 ((beganS (toldS z)).length) c38) rfl rfl rfl (e_assign) ?_
                    refine l_val (v := .slice q39 ((endedS (toldS z)).length) d40) rfl rfl rfl (e_assign) ?_
                    refine l_nil ?_
                    refine f_then ?_
                    refine c_seq ?_
                    refine c_region ?_
                    refine l_val (v := .slice p35 ((beganL (pairsS (toldS z)) ((beganL (endedS z) T) ++ (beganS z))).length) c36) rfl rfl rfl (e_move) ?_
                    refine l_val (v := Nx ((beganL (pairsS (toldS z)) ((beganL (endedS z) T) ++ (beganS z))).length)) rfl rfl rfl (e_len (a := p35) (n := (beganL (pairsS (toldS z)) ((beganL (endedS z) T) ++ (beganS z))).length) (c := c36) rfl tf65) ?_
                    refine l_val (v := .bool (decide ((((beganL (pairsS (toldS z)) ((beganL (endedS z) T) ++ (beganS z))).length : Nat) : Int) ≠ (0 : Int)))) rfl rfl rfl (e_neq (a := (((beganL (pairsS (toldS z)) ((beganL (endedS z) T) ++ (beganS z))).length : Nat) : Int)) (b := (0 : Int)) rfl rfl) ?_
                    refine l_val (v := .bool (decide ((((beganL (pairsS (toldS z)) ((beganL (endedS z) T) ++ (beganS z))).length : Nat) : Int) ≠ (0 : Int)))) rfl rfl rfl (e_move) ?_
                    refine l_split (s := 125) (p := (((beganL (pairsS (toldS z)) ((beganL (endedS z) T) ++ (beganS z))).length : Nat) : Int) ≠ (0 : Int)) rfl (fun h => ?_) (fun h => ?_)
                    exact absurd h (fun q => q (by rw [hc8]; rfl))
                    refine g_val (v := Ix (inL ((beganL (endedS z) T) ++ (beganS z)) (pairsS (toldS z)))) rfl rfl rfl rfl rfl (e_move) ?_
                    refine g_val (v := .slice p33 ((pairsS (toldS z)).length) c34) rfl rfl rfl rfl rfl (e_move) ?_
                    refine g_val (v := Nx ((pairsS (toldS z)).length)) rfl rfl rfl rfl rfl (e_len (a := p33) (n := (pairsS (toldS z)).length) (c := c34) rfl tf65) ?_
                    refine g_val (v := .bool (decide ((inL ((beganL (endedS z) T) ++ (beganS z)) (pairsS (toldS z))) ≠ (((pairsS (toldS z)).length : Nat) : Int)))) rfl rfl rfl rfl rfl (e_neq (a := (inL ((beganL (endedS z) T) ++ (beganS z)) (pairsS (toldS z)))) (b := (((pairsS (toldS z)).length : Nat) : Int)) rfl rfl) ?_
                    refine l_val (v := .bool (decide ((inL ((beganL (endedS z) T) ++ (beganS z)) (pairsS (toldS z))) ≠ (((pairsS (toldS z)).length : Nat) : Int)))) rfl rfl rfl (e_pick_f rfl) ?_
                    refine l_val (v := .bool (decide ((inL ((beganL (endedS z) T) ++ (beganS z)) (pairsS (toldS z))) ≠ (((pairsS (toldS z)).length : Nat) : Int)))) rfl rfl rfl (e_move) ?_
                    refine l_split (s := 131) (p := (inL ((beganL (endedS z) T) ++ (beganS z)) (pairsS (toldS z))) ≠ (((pairsS (toldS z)).length : Nat) : Int)) rfl (fun h => ?_) (fun h => ?_)
                    exact absurd h (fun q => q hc9)
                    refine g_val (v := .slice rp31 (((beganL (endedS z) T) ++ (beganS z)).length) rc32) rfl rfl rfl rfl rfl (e_move) ?_
                    refine g_val (v := Nx (((beganL (endedS z) T) ++ (beganS z)).length)) rfl rfl rfl rfl rfl (e_len (a := rp31) (n := ((beganL (endedS z) T) ++ (beganS z)).length) (c := rc32) rfl tf65) ?_
                    refine g_val (v := .slice p33 ((pairsS (toldS z)).length) c34) rfl rfl rfl rfl rfl (e_move) ?_
                    refine g_val (v := Nx ((pairsS (toldS z)).length)) rfl rfl rfl rfl rfl (e_len (a := p33) (n := (pairsS (toldS z)).length) (c := c34) rfl tf65) ?_
                    refine g_val (v := .bool (decide (((((beganL (endedS z) T) ++ (beganS z)).length : Nat) : Int) ≠ (((pairsS (toldS z)).length : Nat) : Int)))) rfl rfl rfl rfl rfl (e_neq (a := ((((beganL (endedS z) T) ++ (beganS z)).length : Nat) : Int)) (b := (((pairsS (toldS z)).length : Nat) : Int)) rfl rfl) ?_
                    refine l_val (v := .bool (decide (((((beganL (endedS z) T) ++ (beganS z)).length : Nat) : Int) ≠ (((pairsS (toldS z)).length : Nat) : Int)))) rfl rfl rfl (e_pick_f rfl) ?_
                    refine l_val (v := .bool (decide (((((beganL (endedS z) T) ++ (beganS z)).length : Nat) : Int) ≠ (((pairsS (toldS z)).length : Nat) : Int)))) rfl rfl rfl (e_move) ?_
                    refine l_split (s := 138) (p := ((((beganL (endedS z) T) ++ (beganS z)).length : Nat) : Int) ≠ (((pairsS (toldS z)).length : Nat) : Int)) rfl (fun h => ?_) (fun h => ?_)
                    exact absurd h (fun q => q (by omega))
                    refine g_val (v := .slice p37 ((beganS (toldS z)).length) c38) rfl rfl rfl rfl rfl (e_move) ?_
                    refine g_val (v := Nx ((beganS (toldS z)).length)) rfl rfl rfl rfl rfl (e_len (a := p37) (n := (beganS (toldS z)).length) (c := c38) rfl tf65) ?_
                    refine g_val (v := .slice q39 ((endedS (toldS z)).length) d40) rfl rfl rfl rfl rfl (e_move) ?_
                    refine g_val (v := Nx ((endedS (toldS z)).length)) rfl rfl rfl rfl rfl (e_len (a := q39) (n := (endedS (toldS z)).length) (c := d40) rfl tf65) ?_
                    refine g_val (v := Nx (((beganS (toldS z)).length) + ((endedS (toldS z)).length))) rfl rfl rfl rfl rfl (e_add (a := (((beganS (toldS z)).length : Nat) : Int)) (b := (((endedS (toldS z)).length : Nat) : Int)) rfl rfl (i64n (by omega) (by omega))) ?_
                    refine g_val (v := .bool (decide (((((beganS (toldS z)).length) + ((endedS (toldS z)).length) : Nat) : Int) ≠ (0 : Int)))) rfl rfl rfl rfl rfl (e_neq (a := ((((beganS (toldS z)).length) + ((endedS (toldS z)).length) : Nat) : Int)) (b := (0 : Int)) rfl rfl) ?_
                    refine l_val (v := .bool (decide (((((beganS (toldS z)).length) + ((endedS (toldS z)).length) : Nat) : Int) ≠ (0 : Int)))) rfl rfl rfl (e_pick_f rfl) ?_
                    refine l_nil ?_
                    refine f_then ?_
                    refine c_if (((((beganS (toldS z)).length) + ((endedS (toldS z)).length) : Nat) : Int) ≠ (0 : Int)) rfl (fun hc41 => ?_) (fun hc41 => ?_)
                    ·
                      exact absurd hc41 (fun q => q (by omega))
                    ·
                      refine c_skip ?_
                      refine f_block ?_
                      refine f_then ?_
                      refine c_region ?_
                      refine l_val (v := Nx (i)) rfl rfl rfl (e_move) ?_
                      refine l_val (v := Nx (i + 1)) rfl rfl rfl (e_add (a := ((i : Nat) : Int)) (b := (1 : Int)) rfl rfl (i64n (by omega) (by omega))) ?_
                      refine l_val (v := Nx (i + 1)) rfl rfl rfl (e_assign) ?_
                      refine l_nil ?_
                      refine f_perm (L' := [rowF PairF 40 rp31 rc32 ((beganL (endedS z) T) ++ (beganS z)), spcR b1 (toldS (toldS z)), rowF PairF 40 p37 c38 (beganS (toldS z)), rowF PairF 40 q39 d40 (endedS (toldS z)), rowF PairF 40 p35 c36 (beganL (pairsS (toldS z)) ((beganL (endedS z) T) ++ (beganS z))), rowF PairF 40 p33 c34 (pairsS (toldS z)), rowF PairF 40 p28 c29 (beganL T (beganS z)), rowF PairF 40 p22 c23 (beganS z), rowF PairF 40 q24 d25 (endedS z), rowF PairF 40 tp tc T]) (perm_ix [6, 2, 0, 1, 3, 4, 5, 7, 8, 9] 10 rfl (by kernel_rfl) (by kernel_rfl)) ?_
                      refine f_mask (L' := [rowF PairF 40 rp31 rc32 ((beganL (endedS z) T) ++ (beganS z)), spcR b1 (toldS (toldS z))]) [true, true, false, false, false, false, false, false, false, false] rfl ?_
                      exact f_cut ⟨(i + 1, (toldS (toldS z)), ((beganL (endedS z) T) ++ (beganS z)), rp31, rc32), ⟨⟨rfl, rfl, rfl, rfl, rfl⟩, rfl, ⟨by omega, told_ok (told_ok hz), hc4, hzl⟩⟩, (show 40 - (i + 1) < 40 - i from by omega)⟩
            ·
              refine l_skip rfl rfl rfl rfl rfl rfl ?_
              refine l_skip rfl rfl rfl rfl rfl rfl ?_
              refine l_skip rfl rfl rfl rfl rfl rfl ?_
              refine l_skip rfl rfl rfl rfl rfl rfl ?_
              refine l_skip rfl rfl rfl rfl rfl rfl ?_
              refine l_skip rfl rfl rfl rfl rfl rfl ?_
              refine l_skip rfl rfl rfl rfl rfl rfl ?_
              refine l_skip rfl rfl rfl rfl rfl rfl ?_
              refine l_skip rfl rfl rfl rfl rfl rfl ?_
              refine l_val (v := .bool false) rfl rfl rfl (e_pick_f rfl) ?_
              refine l_nil ?_
              refine f_then ?_
              refine c_no rfl ?_
              refine c_skip ?_
              refine f_then ?_
              refine c_seq ?_
              refine c_seq ?_
              obtain ⟨z, hzE⟩ : ∃ z, z = delS s ((x5.toNat % 12 : Nat) : Int) := ⟨_, rfl⟩
              rw [← hzE]
              have hz : z.ok := by rw [hzE]; exact del_ok hs _
              have hTz : T.Perm z.told := by rw [hzE]; exact hT
              have hzl : z.ar.length ≤ i + 1 := by rw [hzE]; exact del_len hsl
              have hzm := hz.many
              have hTl2 := hTz.length_eq
              refine c_region ?_
              refine l_val (v := Nx (i)) rfl rfl rfl (e_move) ?_
              refine l_val (v := Nx (i % 3)) rfl rfl rfl (e_rem (a := ((i : Nat) : Int)) (b := (3 : Int)) rfl rfl (by decide) (nat_tmod _ 3)) ?_
              refine l_val (v := .bool (decide (((i % 3 : Nat) : Int) = (1 : Int)))) rfl rfl rfl (e_eql (a := ((i % 3 : Nat) : Int)) (b := (1 : Int)) rfl rfl) ?_
              refine l_nil ?_
              refine f_then ?_
              refine c_if (((i % 3 : Nat) : Int) = (1 : Int)) rfl (fun hc42 => ?_) (fun hc42 => ?_)
              ·
                refine c_exit ?_
                refine f_then_exit ?_
                refine f_exit ?_
                refine f_then ?_
                refine c_region ?_
                refine l_val (v := Nx (i)) rfl rfl rfl (e_move) ?_
                refine l_val (v := Nx (i + 1)) rfl rfl rfl (e_add (a := ((i : Nat) : Int)) (b := (1 : Int)) rfl rfl (i64n (by omega) (by omega))) ?_
                refine l_val (v := Nx (i + 1)) rfl rfl rfl (e_assign) ?_
                refine l_nil ?_
                refine f_perm (L' := [rowF PairF 40 tp tc T, spcR b1 z]) (perm_ix [1, 0] 2 rfl (by kernel_rfl) (by kernel_rfl)) ?_
                exact f_cut ⟨(i + 1, z, T, tp, tc), ⟨⟨rfl, rfl, rfl, rfl, rfl⟩, rfl, ⟨by omega, hz, hTz, hzl⟩⟩, (show 40 - (i + 1) < 40 - i from by omega)⟩
              ·
                refine c_skip ?_
                refine f_then ?_
                refine c_seq ?_
                refine c_region ?_
                refine l_val (v := .pointer (some ⟨b1, 0, none⟩)) rfl rfl rfl (e_move) ?_
                refine l_call rfl rfl rfl (cl_value (fst := []) (cap := []) (vs := [.pointer (some ⟨b1, 0, none⟩)]) (all := [.pointer (some ⟨b1, 0, none⟩)]) tf77 rfl rfl rfl) ?_
                intro w hw
                replace hw := hw.perm (L' := _ :: _ :: []) (by exact ((perm_front 1 rfl).trans (perm_front 1 rfl)))
                obtain ⟨β1, sb, kn, hw1, back⟩ := St.frame (L := [_]) (M := _ :: []) hw
                refine (changes_ok β1 w b1 z hw1 hz).mono ?_
                rintro e w' ⟨p43, c44, q45, d46, rfl, hw'⟩
                refine ⟨_, rfl, _, back _ _ hw', ?_⟩
                clear hw hw1 hw' back kn sb
                refine l_val (v := .tuple #[.slice p43 ((beganS z).length) c44, .slice q45 ((endedS z).length) d46]) rfl rfl rfl (e_move) ?_
                refine l_val (v := .slice p43 ((beganS z).length) c44) rfl rfl rfl (e_extract (vs := #[.slice p43 ((beganS z).length) c44, .slice q45 ((endedS z).length) d46]) rfl rfl) ?_
                refine l_val (v := .slice q45 ((endedS z).length) d46) rfl rfl rfl (e_extract (vs := #[.slice p43 ((beganS z).length) c44, .slice q45 ((endedS z).length) d46]) rfl rfl) ?_
                refine l_val (v := .slice p43 ((beganS z).length) c44) rfl rfl rfl (e_assign) ?_
                refine l_val (v := .slice q45 ((endedS z).length) d46) rfl rfl rfl (e_assign) ?_
                refine l_nil ?_
                refine f_then ?_
                refine c_seq ?_
                have hzb := began_few hz
                have hze := ended_few hz
                obtain ⟨hc1, hc2, hc3, hc4⟩ := chg_facts hz hTz
                have hbl3 := beganL_le (endedS z) T
                refine c_region ?_
                refine l_val (v := .slice tp (T.length) tc) rfl rfl rfl (e_move) ?_
                refine l_val (v := .slice q45 ((endedS z).length) d46) rfl rfl rfl (e_move) ?_
                refine l_call rfl rfl rfl (cl_value (fst := []) (cap := []) (vs := [.slice tp (T.length) tc, .slice q45 ((endedS z).length) d46]) (all := [.slice tp (T.length) tc, .slice q45 ((endedS z).length) d46]) tf117 rfl rfl rfl) ?_
                intro w hw
                obtain ⟨β1, sb, kn, hw1, back⟩ := St.frame_all hw
                refine (without_ok β1 w hw1 _ _ T (endedS z) (kn _ (k_flN 3 (F := PairF) (m := T.length) rfl rfl)) (kn _ (k_flN 1 (F := PairF) (m := (endedS z).length) rfl rfl)) (by omega)).mono ?_
                rintro e w' ⟨p47, c48, rfl, hw'⟩
                refine ⟨_, rfl, _, back _ _ hw', ?_⟩
                clear hw hw1 hw' back kn sb
                refine l_val (v := .tuple #[.slice p47 ((beganL (endedS z) T).length) c48, Ix (inL T (endedS z))]) rfl rfl rfl (e_move) ?_
                refine l_val (v := .slice p47 ((beganL (endedS z) T).length) c48) rfl rfl rfl (e_extract (vs := #[.slice p47 ((beganL (endedS z) T).length) c48, Ix (inL T (endedS z))]) rfl rfl) ?_
                refine l_val (v := Ix (inL T (endedS z))) rfl rfl rfl (e_extract (vs := #[.slice p47 ((beganL (endedS z) T).length) c48, Ix (inL T (endedS z))]) rfl rfl) ?_
                refine l_val (v := .slice p47 ((beganL (endedS z) T).length) c48) rfl rfl rfl (e_assign) ?_
                refine l_val (v := Ix (inL T (endedS z))) rfl rfl rfl (e_assign) ?_
                refine l_nil ?_
                refine f_then ?_
                refine c_seq ?_
                refine c_region ?_
                refine l_val (v := .slice p43 ((beganS z).length) c44) rfl rfl rfl (e_move) ?_
                refine l_val (v := .slice tp (T.length) tc) rfl rfl rfl (e_move) ?_
                refine l_call rfl rfl rfl (cl_value (fst := []) (cap := []) (vs := [.slice p43 ((beganS z).length) c44, .slice tp (T.length) tc]) (all := [.slice p43 ((beganS z).length) c44, .slice tp (T.length) tc]) tf117 rfl rfl rfl) ?_
                intro w hw
                obtain ⟨β1, sb, kn, hw1, back⟩ := St.frame_all hw
                refine (without_ok β1 w hw1 _ _ (beganS z) T (kn _ (k_flN 1 (F := PairF) (m := (beganS z).length) rfl rfl)) (kn _ (k_flN 4 (F := PairF) (m := T.length) rfl rfl)) (by omega)).mono ?_
                rintro e w' ⟨p49, c50, rfl, hw'⟩
                refine ⟨_, rfl, _, back _ _ hw', ?_⟩
                clear hw hw1 hw' back kn sb
                refine l_val (v := .tuple #[.slice p49 ((beganL T (beganS z)).length) c50, Ix (inL (beganS z) T)]) rfl rfl rfl (e_move) ?_
                refine l_val (v := .slice p49 ((beganL T (beganS z)).length) c50) rfl rfl rfl (e_extract (vs := #[.slice p49 ((beganL T (beganS z)).length) c50, Ix (inL (beganS z) T)]) rfl rfl) ?_
                refine l_val (v := Ix (inL (beganS z) T)) rfl rfl rfl (e_extract (vs := #[.slice p49 ((beganL T (beganS z)).length) c50, Ix (inL (beganS z) T)]) rfl rfl) ?_
                refine l_val (v := .slice p49 ((beganL T (beganS z)).length) c50) rfl rfl rfl (e_assign) ?_
                refine l_val (v := Ix (inL (beganS z) T)) rfl rfl rfl (e_assign) ?_
                refine l_nil ?_
                refine f_then ?_
                refine c_seq ?_
                refine c_seq ?_
                refine c_region ?_
                refine l_val (v := Ix (inL T (endedS z))) rfl rfl rfl (e_move) ?_
                refine l_val (v := .slice q45 ((endedS z).length) d46) rfl rfl rfl (e_move) ?_
                refine l_val (v := Nx ((endedS z).length)) rfl rfl rfl (e_len (a := q45) (n := (endedS z).length) (c := d46) rfl tf65) ?_
                refine l_val (v := .bool (decide ((inL T (endedS z)) ≠ (((endedS z).length : Nat) : Int)))) rfl rfl rfl (e_neq (a := (inL T (endedS z))) (b := (((endedS z).length : Nat) : Int)) rfl rfl) ?_
                refine l_val (v := .bool (decide ((inL T (endedS z)) ≠ (((endedS z).length : Nat) : Int)))) rfl rfl rfl (e_move) ?_
                refine l_split (s := 95) (p := (inL T (endedS z)) ≠ (((endedS z).length : Nat) : Int)) rfl (fun h => ?_) (fun h => ?_)
                exact absurd h (fun q => q hc1)
                refine g_val (v := Ix (inL (beganS z) T)) rfl rfl rfl rfl rfl (e_move) ?_
                refine g_val (v := .bool (decide ((inL (beganS z) T) ≠ (0 : Int)))) rfl rfl rfl rfl rfl (e_neq (a := (inL (beganS z) T)) (b := (0 : Int)) rfl rfl) ?_
                refine l_val (v := .bool (decide ((inL (beganS z) T) ≠ (0 : Int)))) rfl rfl rfl (e_pick_f rfl) ?_
                refine l_val (v := .bool (decide ((inL (beganS z) T) ≠ (0 : Int)))) rfl rfl rfl (e_move) ?_
                refine l_split (s := 99) (p := (inL (beganS z) T) ≠ (0 : Int)) rfl (fun h => ?_) (fun h => ?_)
                exact absurd h (fun q => q hc2)
                refine g_val (v := .slice p49 ((beganL T (beganS z)).length) c50) rfl rfl rfl rfl rfl (e_move) ?_
                refine g_val (v := Nx ((beganL T (beganS z)).length)) rfl rfl rfl rfl rfl (e_len (a := p49) (n := (beganL T (beganS z)).length) (c := c50) rfl tf65) ?_
                refine g_val (v := .slice p43 ((beganS z).length) c44) rfl rfl rfl rfl rfl (e_move) ?_
                refine g_val (v := Nx ((beganS z).length)) rfl rfl rfl rfl rfl (e_len (a := p43) (n := (beganS z).length) (c := c44) rfl tf65) ?_
                refine g_val (v := .bool (decide ((((beganL T (beganS z)).length : Nat) : Int) ≠ (((beganS z).length : Nat) : Int)))) rfl rfl rfl rfl rfl (e_neq (a := (((beganL T (beganS z)).length : Nat) : Int)) (b := (((beganS z).length : Nat) : Int)) rfl rfl) ?_
                refine l_val (v := .bool (decide ((((beganL T (beganS z)).length : Nat) : Int) ≠ (((beganS z).length : Nat) : Int)))) rfl rfl rfl (e_pick_f rfl) ?_
                refine l_nil ?_
                refine f_then ?_
                refine c_if ((((beganL T (beganS z)).length : Nat) : Int) ≠ (((beganS z).length : Nat) : Int)) rfl (fun hc51 => ?_) (fun hc51 => ?_)
                ·
                  exact absurd hc51 (fun q => q (by rw [hc3]))
                ·
                  refine c_skip ?_
                  refine f_then ?_
                  refine c_seq ?_
                  refine c_region ?_
                  refine l_val (v := .slice p47 ((beganL (endedS z) T).length) c48) rfl rfl rfl (e_move) ?_
                  refine l_val (v := .slice p43 ((beganS z).length) c44) rfl rfl rfl (e_move) ?_
                  refine l_mv rfl rfl rfl (m_appendFlN (F := PairF) 1 tf37 tf38 (p := p47) (m := (beganL (endedS z) T).length) (xs := (beganL (endedS z) T)) (ys := (beganS z)) (ao := p43) (k := (beganS z).length) (c := c44) rfl rfl rfl rfl rfl (Knows.imp (k_flN 2 (F := PairF) (m := (beganS z).length) rfl rfl) fun _ h => (Sl.parts h).2.2.2) (by first | omega | simp only [List.length_nil, List.length_cons, List.length_append, List.length_set]; omega) (by first | omega | simp only [List.length_nil, List.length_cons, List.length_append, List.length_set]; omega)) ?_
                  rintro _ _ ⟨rp52, rc53, rfl, rfl⟩
                  refine l_val (v := .slice rp52 (((beganL (endedS z) T) ++ (beganS z)).length) rc53) rfl rfl rfl (e_assign) ?_
                  refine l_nil ?_
                  refine f_then ?_
                  refine c_seq ?_
                  have hc4l := hc4.length_eq
                  obtain ⟨hc6, hc7⟩ := chg_again z
                  have hzp := pairsS_few hz
                  refine c_region ?_
                  refine l_val (v := .pointer (some ⟨b1, 0, none⟩)) rfl rfl rfl (e_move) ?_
                  refine l_call rfl rfl rfl (cl_value (fst := []) (cap := []) (vs := [.pointer (some ⟨b1, 0, none⟩)]) (all := [.pointer (some ⟨b1, 0, none⟩)]) tf76 rfl rfl rfl) ?_
                  intro w hw
                  replace hw := hw.perm (L' := _ :: _ :: _ :: _ :: _ :: _ :: []) (by exact ((((((perm_front 5 rfl).trans (perm_front 4 rfl)).trans (perm_front 4 rfl)).trans (perm_front 4 rfl)).trans (perm_front 4 rfl)).trans (perm_front 5 rfl)))
                  obtain ⟨β1, sb, kn, hw1, back⟩ := St.frame (L := [_]) (M := _ :: _ :: _ :: _ :: _ :: []) hw
                  refine (spairsx_ok β1 w b1 (toldS z) hw1 (told_ok hz)).mono ?_
                  rintro e w' ⟨p54, c55, rfl, hw'⟩
                  refine ⟨_, rfl, _, back _ _ hw', ?_⟩
                  clear hw hw1 hw' back kn sb
                  refine l_val (v := .slice p54 ((pairsS (toldS z)).length) c55) rfl rfl rfl (e_assign) ?_
                  refine l_nil ?_
                  refine f_then ?_
                  refine c_seq ?_
                  obtain ⟨hc8, hc9⟩ := perm_none2 (m := pairsS (toldS z)) hc4
                  have hc5 : (beganL (endedS z) T ++ beganS z).length = (pairsS (toldS z)).length := hc4.length_eq
                  have hl6 : (beganS (toldS z)).length = 0 := by rw [hc6]; rfl
                  have hl7 : (endedS (toldS z)).length = 0 := by rw [hc7]; rfl
                  refine c_region ?_
                  refine l_val (v := .slice rp52 (((beganL (endedS z) T) ++ (beganS z)).length) rc53) rfl rfl rfl (e_move) ?_
                  refine l_val (v := .slice p54 ((pairsS (toldS z)).length) c55) rfl rfl rfl (e_move) ?_
                  refine l_call rfl rfl rfl (cl_value (fst := []) (cap := []) (vs := [.slice rp52 (((beganL (endedS z) T) ++ (beganS z)).length) rc53, .slice p54 ((pairsS (toldS z)).length) c55]) (all := [.slice rp52 (((beganL (endedS z) T) ++ (beganS z)).length) rc53, .slice p54 ((pairsS (toldS z)).length) c55]) tf117 rfl rfl rfl) ?_
                  intro w hw
                  obtain ⟨β1, sb, kn, hw1, back⟩ := St.frame_all hw
                  refine (without_ok β1 w hw1 _ _ ((beganL (endedS z) T) ++ (beganS z)) (pairsS (toldS z)) (kn _ (k_flN 3 (F := PairF) (m := ((beganL (endedS z) T) ++ (beganS z)).length) rfl rfl)) (kn _ (k_flN 0 (F := PairF) (m := (pairsS (toldS z)).length) rfl rfl)) (by omega)).mono ?_
                  rintro e w' ⟨p56, c57, rfl, hw'⟩
                  refine ⟨_, rfl, _, back _ _ hw', ?_⟩
                  clear hw hw1 hw' back kn sb
                  refine l_val (v := .tuple #[.slice p56 ((beganL (pairsS (toldS z)) ((beganL (endedS z) T) ++ (beganS z))).length) c57, Ix (inL ((beganL (endedS z) T) ++ (beganS z)) (pairsS (toldS z)))]) rfl rfl rfl (e_move) ?_
                  refine l_val (v := .slice p56 ((beganL (pairsS (toldS z)) ((beganL (endedS z) T) ++ (beganS z))).length) c57) rfl rfl rfl (e_extract (vs := #[.slice p56 ((beganL (pairsS (toldS z)) ((beganL (endedS z) T) ++ (beganS z))).length) c57, Ix (inL ((beganL (endedS z) T) ++ (beganS z)) (pairsS (toldS z)))]) rfl rfl) ?_
                  refine l_val (v := Ix (inL ((beganL (endedS z) T) ++ (beganS z)) (pairsS (toldS z)))) rfl rfl rfl (e_extract (vs := #[.slice p56 ((beganL (pairsS (toldS z)) ((beganL (endedS z) T) ++ (beganS z))).length) c57, Ix (inL ((beganL (endedS z) T) ++ (beganS z)) (pairsS (toldS z)))]) rfl rfl) ?_
                  refine l_val (v := .slice p56 ((beganL (pairsS (toldS z)) ((beganL (endedS z) T) ++ (beganS z))).length) c57) rfl rfl rfl (e_assign) ?_
                  refine l_val (v := Ix (inL ((beganL (endedS z) T) ++ (beganS z)) (pairsS (toldS z)))) rfl rfl rfl (e_assign) ?_
                  refine l_nil ?_
                  refine f_then ?_
                  refine c_seq ?_
                  refine c_region ?_
                  refine l_val (v := .pointer (some ⟨b1, 0, none⟩)) rfl rfl rfl (e_move) ?_
                  refine l_call rfl rfl rfl (cl_value (fst := []) (cap := []) (vs := [.pointer (some ⟨b1, 0, none⟩)]) (all := [.pointer (some ⟨b1, 0, none⟩)]) tf77 rfl rfl rfl) ?_
                  intro w hw
                  replace hw := hw.perm (L' := _ :: _ :: _ :: _ :: _ :: _ :: _ :: _ :: []) (by exact ((((((((perm_front 7 rfl).trans (perm_front 7 rfl)).trans (perm_front 7 rfl)).trans (perm_front 7 rfl)).trans (perm_front 7 rfl)).trans (perm_front 6 rfl)).trans (perm_front 6 rfl)).trans (perm_front 7 rfl)))
                  obtain ⟨β1, sb, kn, hw1, back⟩ := St.frame (L := [_]) (M := _ :: _ :: _ :: _ :: _ :: _ :: _ :: []) hw
                  refine (changes_ok β1 w b1 (toldS z) hw1 (told_ok hz)).mono ?_
                  rintro e w' ⟨p58, c59, q60, d61, rfl, hw'⟩
                  refine ⟨_, rfl, _, back _ _ hw', ?_⟩
                  clear hw hw1 hw' back kn sb
                  refine l_val (v := .tuple #[.slice p58 ((beganS (toldS z)).length) c59, .slice q60 ((endedS (toldS z)).length) d61]) rfl rfl rfl (e_move) ?_
                  refine l_val (v := .slice p58 ((beganS (toldS z)).length) c59) rfl rfl rfl (e_extract (vs := #[.slice p58 ((beganS (toldS z)).length) c59, .slice q60 ((endedS (toldS z)).length) d61]) rfl rfl) ?_
                  refine l_val (v := .slice q60 ((endedS (toldS z)).length) d61) rfl rfl rfl (e_extract (vs := #[.slice p58 ((beganS (toldS z)).length) c59, .slice q60 ((endedS (toldS z)).length) d61]) rfl rfl) ?_
                  refine l_val (v := .slice p58 ((beganS (toldS z)).length) c59) rfl rfl rfl (e_assign) ?_
                  refine l_val (v := .slice q60 ((endedS (toldS z)).length) d61) rfl rfl rfl (e_assign) ?_
                  refine l_nil ?_
                  refine f_then ?_
                  refine c_seq ?_
                  refine c_region ?_
                  refine l_val (v := .slice p56 ((beganL (pairsS (toldS z)) ((beganL (endedS z) T) ++ (beganS z))).length) c57) rfl rfl rfl (e_move) ?_
                  refine l_val (v := Nx ((beganL (pairsS (toldS z)) ((beganL (endedS z) T) ++ (beganS z))).length)) rfl rfl rfl (e_len (a := p56) (n := (beganL (pairsS (toldS z)) ((beganL (endedS z) T) ++ (beganS z))).length) (c := c57) rfl tf65) ?_
                  refine l_val (v := .bool (decide ((((beganL (pairsS (toldS z)) ((beganL (endedS z) T) ++ (beganS z))).length : Nat) : Int) ≠ (0 : Int)))) rfl rfl rfl (e_neq (a := (((beganL (pairsS (toldS z)) ((beganL (endedS z) T) ++ (beganS z))).length : Nat) : Int)) (b := (0 : Int)) rfl rfl) ?_
                  refine l_val (v := .bool (decide ((((beganL (pairsS (toldS z)) ((beganL (endedS z) T) ++ (beganS z))).length : Nat) : Int) ≠ (0 : Int)))) rfl rfl rfl (e_move) ?_
                  refine l_split (s := 125) (p := (((beganL (pairsS (toldS z)) ((beganL (endedS z) T) ++ (beganS z))).length : Nat) : Int) ≠ (0 : Int)) rfl (fun h => ?_) (fun h => ?_)
                  exact absurd h (fun q => q (by rw [hc8]; rfl))
                  refine g_val (v := Ix (inL ((beganL (endedS z) T) ++ (beganS z)) (pairsS (toldS z)))) rfl rfl rfl rfl rfl (e_move) ?_
                  refine g_val (v := .slice p54 ((pairsS (toldS z)).length) c55) rfl rfl rfl rfl rfl (e_move) ?_
                  refine g_val (v := Nx ((pairsS (toldS z)).length)) rfl rfl rfl rfl rfl (e_len (a := p54) (n := (pairsS (toldS z)).length) (c := c55) rfl tf65) ?_
                  refine g_val (v := .bool (decide ((inL ((beganL (endedS z) T) ++ (beganS z)) (pairsS (toldS z))) ≠ (((pairsS (toldS z)).length : Nat) : Int)))) rfl rfl rfl rfl rfl (e_neq (a := (inL ((beganL (endedS z) T) ++ (beganS z)) (pairsS (toldS z)))) (b := (((pairsS (toldS z)).length : Nat) : Int)) rfl rfl) ?_
                  refine l_val (v := .bool (decide ((inL ((beganL (endedS z) T) ++ (beganS z)) (pairsS (toldS z))) ≠ (((pairsS (toldS z)).length : Nat) : Int)))) rfl rfl rfl (e_pick_f rfl) ?_
                  refine l_val (v := .bool (decide ((inL ((beganL (endedS z) T) ++ (beganS z)) (pairsS (toldS z))) ≠ (((pairsS (toldS z)).length : Nat) : Int)))) rfl rfl rfl (e_move) ?_
                  refine l_split (s := 131) (p := (inL ((beganL (endedS z) T) ++ (beganS z)) (pairsS (toldS z))) ≠ (((pairsS (toldS z)).length : Nat) : Int)) rfl (fun h => ?_) (fun h => ?_)
                  exact absurd h (fun q => q hc9)
                  refine g_val (v := .slice rp52 (((beganL (endedS z) T) ++ (beganS z)).length) rc53) rfl rfl rfl rfl rfl (e_move) ?_
                  refine g_val (v := Nx (((beganL (endedS z) T) ++ (beganS z)).length)) rfl rfl rfl rfl rfl (e_len (a := rp52) (n := ((beganL (endedS z) T) ++ (beganS z)).length) (c := rc53) rfl tf65) ?_
                  refine g_val (v := .slice p54 ((pairsS (toldS z)).length) c55) rfl rfl rfl rfl rfl (e_move) ?_
                  refine g_val (v := Nx ((pairsS (toldS z)).length)) rfl rfl rfl rfl rfl (e_len (a := p54) (n := (pairsS (toldS z)).length) (c := c55) rfl tf65) ?_
                  refine g_val (v := .bool (decide (((((beganL (endedS z) T) ++ (beganS z)).length : Nat) : Int) ≠ (((pairsS (toldS z)).length : Nat) : Int)))) rfl rfl rfl rfl rfl (e_neq (a := ((((beganL (endedS z) T) ++ (beganS z)).length : Nat) : Int)) (b := (((pairsS (toldS z)).length : Nat) : Int)) rfl rfl) ?_
                  refine l_val (v := .bool (decide (((((beganL (endedS z) T) ++ (beganS z)).length : Nat) : Int) ≠ (((pairsS (toldS z)).length : Nat) : Int)))) rfl rfl rfl (e_pick_f rfl) ?_
                  refine l_val (v := .bool (decide (((((beganL (endedS z) T) ++ (beganS z)).length : Nat) : Int) ≠ (((pairsS (toldS z)).length : Nat) : Int)))) rfl rfl rfl (e_move) ?_
                  refine l_split (s := 138) (p := ((((beganL (endedS z) T) ++ (beganS z)).length : Nat) : Int) ≠ (((pairsS (toldS z)).length : Nat) : Int)) rfl (fun h => ?_) (fun h => ?_)
                  exact absurd h (fun q => q (by omega))
                  refine g_val (v := .slice p58 ((beganS (toldS z)).length) c59) rfl rfl rfl rfl rfl (e_move) ?_
                  refine g_val (v := Nx ((beganS (toldS z)).length)) rfl rfl rfl rfl rfl (e_len (a := p58) (n := (beganS (toldS z)).length) (c := c59) rfl tf65) ?_
                  refine g_val (v := .slice q60 ((endedS (toldS z)).length) d61) rfl rfl rfl rfl rfl (e_move) ?_
                  refine g_val (v := Nx ((endedS (toldS z)).length)) rfl rfl rfl rfl rfl (e_len (a := q60) (n := (endedS (toldS z)).length) (c := d61) rfl tf65) ?_
                  refine g_val (v := Nx (((beganS (toldS z)).length) + ((endedS (toldS z)).length))) rfl rfl rfl rfl rfl (e_add (a := (((beganS (toldS z)).length : Nat) : Int)) (b := (((endedS (toldS z)).length : Nat) : Int)) rfl rfl (i64n (by omega) (by omega))) ?_
                  refine g_val (v := .bool (decide (((((beganS (toldS z)).length) + ((endedS (toldS z)).length) : Nat) : Int) ≠ (0 : Int)))) rfl rfl rfl rfl rfl (e_neq (a := ((((beganS (toldS z)).length) + ((endedS (toldS z)).length) : Nat) : Int)) (b := (0 : Int)) rfl rfl) ?_
                  refine l_val (v := .bool (decide (((((beganS (toldS z)).length) + ((endedS (toldS z)).length) : Nat) : Int) ≠ (0 : Int)))) rfl rfl rfl (e_pick_f rfl) ?_
                  refine l_nil ?_
                  refine f_then ?_
                  refine c_if (((((beganS (toldS z)).length) + ((endedS (toldS z)).length) : Nat) : Int) ≠ (0 : Int)) rfl (fun hc62 => ?_) (fun hc62 => ?_)
                  ·
                    exact absurd hc62 (fun q => q (by omega))
                  ·
                    refine c_skip ?_
                    refine f_block ?_
                    refine f_then ?_
                    refine c_region ?_
                    refine l_val (v := Nx (i)) rfl rfl rfl (e_move) ?_
                    refine l_val (v := Nx (i + 1)) rfl rfl rfl (e_add (a := ((i : Nat) : Int)) (b := (1 : Int)) rfl rfl (i64n (by omega) (by omega))) ?_
                    refine l_val (v := Nx (i + 1)) rfl rfl rfl (e_assign) ?_
                    refine l_nil ?_
                    refine f_perm (L' := [rowF PairF 40 rp52 rc53 ((beganL (endedS z) T) ++ (beganS z)), spcR b1 (toldS (toldS z)), rowF PairF 40 p58 c59 (beganS (toldS z)), rowF PairF 40 q60 d61 (endedS (toldS z)), rowF PairF 40 p56 c57 (beganL (pairsS (toldS z)) ((beganL (endedS z) T) ++ (beganS z))), rowF PairF 40 p54 c55 (pairsS (toldS z)), rowF PairF 40 p49 c50 (beganL T (beganS z)), rowF PairF 40 p43 c44 (beganS z), rowF PairF 40 q45 d46 (endedS z), rowF PairF 40 tp tc T]) (perm_ix [6, 2, 0, 1, 3, 4, 5, 7, 8, 9] 10 rfl (by kernel_rfl) (by kernel_rfl)) ?_
                    refine f_mask (L' := [rowF PairF 40 rp52 rc53 ((beganL (endedS z) T) ++ (beganS z)), spcR b1 (toldS (toldS z))]) [true, true, false, false, false, false, false, false, false, false] rfl ?_
                    exact f_cut ⟨(i + 1, (toldS (toldS z)), ((beganL (endedS z) T) ++ (beganS z)), rp52, rc53), ⟨⟨rfl, rfl, rfl, rfl, rfl⟩, rfl, ⟨by omega, told_ok (told_ok hz), hc4, hzl⟩⟩, (show 40 - (i + 1) < 40 - i from by omega)⟩
        ·
          refine l_skip rfl rfl rfl rfl rfl rfl ?_
          refine l_skip rfl rfl rfl rfl rfl rfl ?_
          refine l_val (v := .bool false) rfl rfl rfl (e_pick_f rfl) ?_
          refine l_nil ?_
          refine f_then ?_
          refine c_no rfl ?_
          refine c_skip ?_
          refine f_then ?_
          refine c_seq ?_
          refine c_seq ?_
          refine c_region ?_
          refine l_val (v := .slice ua (us.length) (uc)) rfl rfl rfl (e_move) ?_
          refine l_val (v := Nx (i)) rfl rfl rfl (e_move) ?_
          refine l_val (v := .pointer (some ((ba ua).add (i * 1)))) rfl rfl rfl (e_indexAddr (k := i) (len := us.length) (cap := uc) (a := ua) rfl rfl tf119 (by omega) ha7) ?_
          refine l_val (v := Bx (x5)) rfl rfl rfl (e_load1 tf87 (v := Bx (x5)) rfl (Knows.of_base (Cs.mono _ _) hc9)) ?_
          refine l_val (v := .bool (decide (((x5).toNat : Int) < (200 : Int)))) rfl rfl rfl (e_lss (a := ((x5).toNat : Int)) (b := (200 : Int)) rfl rfl) ?_
          refine l_val (v := .bool (decide (((x5).toNat : Int) < (200 : Int)))) rfl rfl rfl (e_move) ?_
          refine l_split (s := 60) (p := ((x5).toNat : Int) < (200 : Int)) rfl (fun hg63 => ?_) (fun hg63 => ?_)
          ·
            refine g_val (v := .pointer (some ⟨b1, 0, none⟩)) rfl rfl rfl rfl rfl (e_move) ?_
            refine g_val (v := Nx (x5.toNat % 12)) rfl rfl rfl rfl rfl (e_move) ?_
            refine g_val (v := .slice va (fs.length) (vc)) rfl rfl rfl rfl rfl (e_move) ?_
            refine g_val (v := Nx (i)) rfl rfl rfl rfl rfl (e_move) ?_
            obtain ⟨x64, hx65⟩ : ∃ x_, (fs)[i]? = some x_ := ⟨_, List.getElem?_eq_getElem (by omega)⟩
            obtain ⟨ha66, cs67, hc68, rfl⟩ := ve _ _ hx65
            refine g_val (v := .pointer (some ((ba va).add (i * 4)))) rfl rfl rfl rfl rfl (e_indexAddr (k := i) (len := fs.length) (cap := vc) (a := va) rfl rfl tf94 (by omega) ha66) ?_
            refine g_val (v := .agg #[Bx (x64.x), Bx (x64.y), Bx (x64.w), Bx (x64.h)]) rfl rfl rfl rfl rfl (e_load tf95 (cs := [Bx (x64.x), Bx (x64.y), Bx (x64.w), Bx (x64.h)]) rfl (Knows.of_base (Cs.mono _ _) hc68) rfl) ?_
            refine g_call rfl rfl rfl rfl rfl (cl_value (fst := []) (cap := []) (vs := [.agg #[Bx (x64.x), Bx (x64.y), Bx (x64.w), Bx (x64.h)]]) (all := [.agg #[Bx (x64.x), Bx (x64.y), Bx (x64.w), Bx (x64.h)]]) tf96 rfl rfl rfl) ?_
            intro w hw
            obtain ⟨β1, sb, kn, hw1, back⟩ := St.frame_all hw
            refine (made_ok β1 w hw1 x64).mono ?_
            rintro e w' ⟨rfl, hw'⟩
            refine ⟨_, rfl, _, back _ _ hw', ?_⟩
            clear hw hw1 hw' back kn sb
            refine g_call rfl rfl rfl rfl rfl (cl_value (fst := []) (cap := []) (vs := [.pointer (some ⟨b1, 0, none⟩), Nx (x5.toNat % 12), .agg (aC (madeA x64))]) (all := [.pointer (some ⟨b1, 0, none⟩), Nx (x5.toNat % 12), .agg (aC (madeA x64))]) tf75 rfl rfl rfl) ?_
            intro w hw
            replace hw := hw.perm (L' := _ :: _ :: []) (by exact ((perm_front 1 rfl).trans (perm_front 1 rfl)))
            obtain ⟨β1, sb, kn, hw1, back⟩ := St.frame (L := [_]) (M := _ :: []) hw
            refine (put_ok' β1 w b1 (delS s ((x5.toNat % 12 : Nat) : Int)) hw1 (del_ok hs _) ((x5.toNat % 12 : Nat) : Int) (madeA x64)).mono ?_
            rintro e w' ⟨rfl, hw'⟩
            refine ⟨_, rfl, _, back _ _ hw', ?_⟩
            clear hw hw1 hw' back kn sb
            have hpe := errPut_le (delS s ((x5.toNat % 12 : Nat) : Int)) ((x5.toNat % 12 : Nat) : Int) (madeA x64)
            refine g_val (v := .bool (decide ((errPut (delS s ((x5.toNat % 12 : Nat) : Int)) ((x5.toNat % 12 : Nat) : Int) (madeA x64)) ≠ (0 : Int)))) rfl rfl rfl rfl rfl (e_neq (a := (errPut (delS s ((x5.toNat % 12 : Nat) : Int)) ((x5.toNat % 12 : Nat) : Int) (madeA x64))) (b := (0 : Int)) rfl rfl) ?_
            refine l_val (v := .bool (decide ((errPut (delS s ((x5.toNat % 12 : Nat) : Int)) ((x5.toNat % 12 : Nat) : Int) (madeA x64)) ≠ (0 : Int)))) rfl rfl rfl (e_pick_t rfl) ?_
            refine l_nil ?_
            refine f_then ?_
            refine c_if ((errPut (delS s ((x5.toNat % 12 : Nat) : Int)) ((x5.toNat % 12 : Nat) : Int) (madeA x64)) ≠ (0 : Int)) rfl (fun hc70 => ?_) (fun hc70 => ?_)
            ·
              exact absurd hc70 (fun q => q (errPut_del ⟨by omega, by omega, made_okA _⟩ (by omega)))
            ·
              refine c_skip ?_
              refine f_then ?_
              refine c_seq ?_
              refine c_seq ?_
              obtain ⟨z, hzE⟩ : ∃ z, z = putX (delS s ((x5.toNat % 12 : Nat) : Int)) ((x5.toNat % 12 : Nat) : Int) (madeA x64) := ⟨_, rfl⟩
              rw [← hzE]
              have hz : z.ok := by rw [hzE]; exact put_ok (del_ok hs _) _ _
              have hTz : T.Perm z.told := by rw [hzE]; exact (put_told _ _ _).symm ▸ hT
              have hzl : z.ar.length ≤ i + 1 := by rw [hzE]; exact put_len hsl
              have hzm := hz.many
              have hTl2 := hTz.length_eq
              refine c_region ?_
              refine l_val (v := Nx (i)) rfl rfl rfl (e_move) ?_
              refine l_val (v := Nx (i % 3)) rfl rfl rfl (e_rem (a := ((i : Nat) : Int)) (b := (3 : Int)) rfl rfl (by decide) (nat_tmod _ 3)) ?_
              refine l_val (v := .bool (decide (((i % 3 : Nat) : Int) = (1 : Int)))) rfl rfl rfl (e_eql (a := ((i % 3 : Nat) : Int)) (b := (1 : Int)) rfl rfl) ?_
              refine l_nil ?_
              refine f_then ?_
              refine c_if (((i % 3 : Nat) : Int) = (1 : Int)) rfl (fun hc71 => ?_) (fun hc71 => ?_)
              ·
                refine c_exit ?_
                refine f_then_exit ?_
                refine f_exit ?_
                refine f_then ?_
                refine c_region ?_
                refine l_val (v := Nx (i)) rfl rfl rfl (e_move) ?_
                refine l_val (v := Nx (i + 1)) rfl rfl rfl (e_add (a := ((i : Nat) : Int)) (b := (1 : Int)) rfl rfl (i64n (by omega) (by omega))) ?_
                refine l_val (v := Nx (i + 1)) rfl rfl rfl (e_assign) ?_
                refine l_nil ?_
                refine f_perm (L' := [rowF PairF 40 tp tc T, spcR b1 z]) (perm_ix [1, 0] 2 rfl (by kernel_rfl) (by kernel_rfl)) ?_
                exact f_cut ⟨(i + 1, z, T, tp, tc), ⟨⟨rfl, rfl, rfl, rfl, rfl⟩, rfl, ⟨by omega, hz, hTz, hzl⟩⟩, (show 40 - (i + 1) < 40 - i from by omega)⟩
              ·
                refine c_skip ?_
                refine f_then ?_
                refine c_seq ?_
                refine c_region ?_
                refine l_val (v := .pointer (some ⟨b1, 0, none⟩)) rfl rfl rfl (e_move) ?_
                refine l_call rfl rfl rfl (cl_value (fst := []) (cap := []) (vs := [.pointer (some ⟨b1, 0, none⟩)]) (all := [.pointer (some ⟨b1, 0, none⟩)]) tf77 rfl rfl rfl) ?_
                intro w hw
                replace hw := hw.perm (L' := _ :: _ :: []) (by exact ((perm_front 1 rfl).trans (perm_front 1 rfl)))
                obtain ⟨β1, sb, kn, hw1, back⟩ := St.frame (L := [_]) (M := _ :: []) hw
                refine (changes_ok β1 w b1 z hw1 hz).mono ?_
                rintro e w' ⟨p72, c73, q74, d75, rfl, hw'⟩
                refine ⟨_, rfl, _, back _ _ hw', ?_⟩
                clear hw hw1 hw' back kn sb
                refine l_val (v := .tuple #[.slice p72 ((beganS z).length) c73, .slice q74 ((endedS z).length) d75]) rfl rfl rfl (e_move) ?_
                refine l_val (v := .slice p72 ((beganS z).length) c73) rfl rfl rfl (e_extract (vs := #[.slice p72 ((beganS z).length) c73, .slice q74 ((endedS z).length) d75]) rfl rfl) ?_
                refine l_val (v := .slice q74 ((endedS z).length) d75) rfl rfl rfl (e_extract (vs := #[.slice p72 ((beganS z).length) c73, .slice q74 ((endedS z).length) d75]) rfl rfl) ?_
                refine l_val (v := .slice p72 ((beganS z).length) c73) rfl rfl rfl (e_assign) ?_
                refine l_val (v := .slice q74 ((endedS z).length) d75) rfl rfl rfl (e_assign) ?_
                refine l_nil ?_
                refine f_then ?_
                refine c_seq ?_
                have hzb := began_few hz
                have hze := ended_few hz
                obtain ⟨hc1, hc2, hc3, hc4⟩ := chg_facts hz hTz
                have hbl3 := beganL_le (endedS z) T
                refine c_region ?_
                refine l_val (v := .slice tp (T.length) tc) rfl rfl rfl (e_move) ?_
                refine l_val (v := .slice q74 ((endedS z).length) d75) rfl rfl rfl (e_move) ?_
                refine l_call rfl rfl rfl (cl_value (fst := []) (cap := []) (vs := [.slice tp (T.length) tc, .slice q74 ((endedS z).length) d75]) (all := [.slice tp (T.length) tc, .slice q74 ((endedS z).length) d75]) tf117 rfl rfl rfl) ?_
                intro w hw
                obtain ⟨β1, sb, kn, hw1, back⟩ := St.frame_all hw
                refine (without_ok β1 w hw1 _ _ T (endedS z) (kn _ (k_flN 3 (F := PairF) (m := T.length) rfl rfl)) (kn _ (k_flN 1 (F := PairF) (m := (endedS z).length) rfl rfl)) (by omega)).mono ?_
                rintro e w' ⟨p76, c77, rfl, hw'⟩
                refine ⟨_, rfl, _, back _ _ hw', ?_⟩
                clear hw hw1 hw' back kn sb
                refine l_val (v := .tuple #[.slice p76 ((beganL (endedS z) T).length) c77, Ix (inL T (endedS z))]) rfl rfl rfl (e_move) ?_
                refine l_val (v := .slice p76 ((beganL (endedS z) T).length) c77) rfl rfl rfl (e_extract (vs := #[.slice p76 ((beganL (endedS z) T).length) c77, Ix (inL T (endedS z))]) rfl rfl) ?_
                refine l_val (v := Ix (inL T (endedS z))) rfl rfl rfl (e_extract (vs := #[.slice p76 ((beganL (endedS z) T).length) c77, Ix (inL T (endedS z))]) rfl rfl) ?_
                refine l_val (v := .slice p76 ((beganL (endedS z) T).length) c77) rfl rfl rfl (e_assign) ?_
                refine l_val (v := Ix (inL T (endedS z))) rfl rfl rfl (e_assign) ?_
                refine l_nil ?_
                refine f_then ?_
                refine c_seq ?_
                refine c_region ?_
                refine l_val (v := .slice p72 ((beganS z).length) c73) rfl rfl rfl (e_move) ?_
                refine l_val (v := .slice tp (T.length) tc) rfl rfl rfl (e_move) ?_
                refine l_call rfl rfl rfl (cl_value (fst := []) (cap := []) (vs := [.slice p72 ((beganS z).length) c73, .slice tp (T.length) tc]) (all := [.slice p72 ((beganS z).length) c73, .slice tp (T.length) tc]) tf117 rfl rfl rfl) ?_
                intro w hw
                obtain ⟨β1, sb, kn, hw1, back⟩ := St.frame_all hw
                refine (without_ok β1 w hw1 _ _ (beganS z) T (kn _ (k_flN 1 (F := PairF) (m := (beganS z).length) rfl rfl)) (kn _ (k_flN 4 (F := PairF) (m := T.length) rfl rfl)) (by omega)).mono ?_
                rintro e w' ⟨p78, c79, rfl, hw'⟩
                refine ⟨_, rfl, _, back _ _ hw', ?_⟩
                clear hw hw1 hw' back kn sb
                refine l_val (v := .tuple #[.slice p78 ((beganL T (beganS z)).length) c79, Ix (inL (beganS z) T)]) rfl rfl rfl (e_move) ?_
                refine l_val (v := .slice p78 ((beganL T (beganS z)).length) c79) rfl rfl rfl (e_extract (vs := #[.slice p78 ((beganL T (beganS z)).length) c79, Ix (inL (beganS z) T)]) rfl rfl) ?_
                refine l_val (v := Ix (inL (beganS z) T)) rfl rfl rfl (e_extract (vs := #[.slice p78 ((beganL T (beganS z)).length) c79, Ix (inL (beganS z) T)]) rfl rfl) ?_
                refine l_val (v := .slice p78 ((beganL T (beganS z)).length) c79) rfl rfl rfl (e_assign) ?_
                refine l_val (v := Ix (inL (beganS z) T)) rfl rfl rfl (e_assign) ?_
                refine l_nil ?_
                refine f_then ?_
                refine c_seq ?_
                refine c_seq ?_
                refine c_region ?_
                refine l_val (v := Ix (inL T (endedS z))) rfl rfl rfl (e_move) ?_
                refine l_val (v := .slice q74 ((endedS z).length) d75) rfl rfl rfl (e_move) ?_
                refine l_val (v := Nx ((endedS z).length)) rfl rfl rfl (e_len (a := q74) (n := (endedS z).length) (c := d75) rfl tf65) ?_
                refine l_val (v := .bool (decide ((inL T (endedS z)) ≠ (((endedS z).length : Nat) : Int)))) rfl rfl rfl (e_neq (a := (inL T (endedS z))) (b := (((endedS z).length : Nat) : Int)) rfl rfl) ?_
                refine l_val (v := .bool (decide ((inL T (endedS z)) ≠ (((endedS z).length : Nat) : Int)))) rfl rfl rfl (e_move) ?_
                refine l_split (s := 95) (p := (inL T (endedS z)) ≠ (((endedS z).length : Nat) : Int)) rfl (fun h => ?_) (fun h => ?_)
                exact absurd h (fun q => q hc1)
                refine g_val (v := Ix (inL (beganS z) T)) rfl rfl rfl rfl rfl (e_move) ?_
                refine g_val (v := .bool (decide ((inL (beganS z) T) ≠ (0 : Int)))) rfl rfl rfl rfl rfl (e_neq (a := (inL (beganS z) T)) (b := (0 : Int)) rfl rfl) ?_
                refine l_val (v := .bool (decide ((inL (beganS z) T) ≠ (0 : Int)))) rfl rfl rfl (e_pick_f rfl) ?_
                refine l_val (v := .bool (decide ((inL (beganS z) T) ≠ (0 : Int)))) rfl rfl rfl (e_move) ?_
                refine l_split (s := 99) (p := (inL (beganS z) T) ≠ (0 : Int)) rfl (fun h => ?_) (fun h => ?_)
                exact absurd h (fun q => q hc2)
                refine g_val (v := .slice p78 ((beganL T (beganS z)).length) c79) rfl rfl rfl rfl rfl (e_move) ?_
                refine g_val (v := Nx ((beganL T (beganS z)).length)) rfl rfl rfl rfl rfl (e_len (a := p78) (n := (beganL T (beganS z)).length) (c := c79) rfl tf65) ?_
                refine g_val (v := .slice p72 ((beganS z).length) c73) rfl rfl rfl rfl rfl (e_move) ?_
                refine g_val (v := Nx ((beganS z).length)) rfl rfl rfl rfl rfl (e_len (a := p72) (n := (beganS z).length) (c := c73) rfl tf65) ?_
                refine g_val (v := .bool (decide ((((beganL T (beganS z)).length : Nat) : Int) ≠ (((beganS z).length : Nat) : Int)))) rfl rfl rfl rfl rfl (e_neq (a := (((beganL T (beganS z)).length : Nat) : Int)) (b := (((beganS z).length : Nat) : Int)) rfl rfl) ?_
                refine l_val (v := .bool (decide ((((beganL T (beganS z)).length : Nat) : Int) ≠ (((beganS z).length : Nat) : Int)))) rfl rfl rfl (e_pick_f rfl) ?_
                refine l_nil ?_
                refine f_then ?_
                refine c_if ((((beganL T (beganS z)).length : Nat) : Int) ≠ (((beganS z).length : Nat) : Int)) rfl (fun hc80 => ?_) (fun hc80 => ?_)
                ·
                  exact absurd hc80 (fun q => q (by rw [hc3]))
                ·
                  refine c_skip ?_
                  refine f_then ?_
                  refine c_seq ?_
                  refine c_region ?_
                  refine l_val (v := .slice p76 ((beganL (endedS z) T).length) c77) rfl rfl rfl (e_move) ?_
                  refine l_val (v := .slice p72 ((beganS z).length) c73) rfl rfl rfl (e_move) ?_
                  refine l_mv rfl rfl rfl (m_appendFlN (F := PairF) 1 tf37 tf38 (p := p76) (m := (beganL (endedS z) T).length) (xs := (beganL (endedS z) T)) (ys := (beganS z)) (ao := p72) (k := (beganS z).length) (c := c73) rfl rfl rfl rfl rfl (Knows.imp (k_flN 2 (F := PairF) (m := (beganS z).length) rfl rfl) fun _ h => (Sl.parts h).2.2.2) (by first | omega | simp only [List.length_nil, List.length_cons, List.length_append, List.length_set]; omega) (by first | omega | simp only [List.length_nil, List.length_cons, List.length_append, List.length_set]; omega)) ?_
                  rintro _ _ ⟨rp81, rc82, rfl, rfl⟩
                  refine l_val (v := .slice rp81 (((beganL (endedS z) T) ++ (beganS z)).length) rc82) rfl rfl rfl (e_assign) ?_
                  refine l_nil ?_
                  refine f_then ?_
                  refine c_seq ?_
                  have hc4l := hc4.length_eq
                  obtain ⟨hc6, hc7⟩ := chg_again z
                  have hzp := pairsS_few hz
                  refine c_region ?_
                  refine l_val (v := .pointer (some ⟨b1, 0, none⟩)) rfl rfl rfl (e_move) ?_
                  refine l_call rfl rfl rfl (cl_value (fst := []) (cap := []) (vs := [.pointer (some ⟨b1, 0, none⟩)]) (all := [.pointer (some ⟨b1, 0, none⟩)]) tf76 rfl rfl rfl) ?_
                  intro w hw
                  replace hw := hw.perm (L' := _ :: _ :: _ :: _ :: _ :: _ :: []) (by exact ((((((perm_front 5 rfl).trans (perm_front 4 rfl)).trans (perm_front 4 rfl)).trans (perm_front 4 rfl)).trans (perm_front 4 rfl)).trans (perm_front 5 rfl)))
                  obtain ⟨β1, sb, kn, hw1, back⟩ := St.frame (L := [_]) (M := _ :: _ :: _ :: _ :: _ :: []) hw
                  refine (spairsx_ok β1 w b1 (toldS z) hw1 (told_ok hz)).mono ?_
                  rintro e w' ⟨p83, c84, rfl, hw'⟩
                  refine ⟨_, rfl, _, back _ _ hw', ?_⟩
                  clear hw hw1 hw' back kn sb
                  refine l_val (v := .slice p83 ((pairsS (toldS z)).length) c84) rfl rfl rfl (e_assign) ?_
                  refine l_nil ?_
                  refine f_then ?_
                  refine c_seq ?_
                  obtain ⟨hc8, hc9⟩ := perm_none2 (m := pairsS (toldS z)) hc4
                  have hc5 : (beganL (endedS z) T ++ beganS z).length = (pairsS (toldS z)).length := hc4.length_eq
                  have hl6 : (beganS (toldS z)).length = 0 := by rw [hc6]; rfl
                  have hl7 : (endedS (toldS z)).length = 0 := by rw [hc7]; rfl
                  refine c_region ?_
                  refine l_val (v := .slice rp81 (((beganL (endedS z) T) ++ (beganS z)).length) rc82) rfl rfl rfl (e_move) ?_
                  refine l_val (v := .slice p83 ((pairsS (toldS z)).length) c84) rfl rfl rfl (e_move) ?_
                  refine l_call rfl rfl rfl (cl_value (fst := []) (cap := []) (vs := [.slice rp81 (((beganL (endedS z) T) ++ (beganS z)).length) rc82, .slice p83 ((pairsS (toldS z)).length) c84]) (all := [.slice rp81 (((beganL (endedS z) T) ++ (beganS z)).length) rc82, .slice p83 ((pairsS (toldS z)).length) c84]) tf117 rfl rfl rfl) ?_
                  intro w hw
                  obtain ⟨β1, sb, kn, hw1, back⟩ := St.frame_all hw
                  refine (without_ok β1 w hw1 _ _ ((beganL (endedS z) T) ++ (beganS z)) (pairsS (toldS z)) (kn _ (k_flN 3 (F := PairF) (m := ((beganL (endedS z) T) ++ (beganS z)).length) rfl rfl)) (kn _ (k_flN 0 (F := PairF) (m := (pairsS (toldS z)).length) rfl rfl)) (by omega)).mono ?_
                  rintro e w' ⟨p85, c86, rfl, hw'⟩
                  refine ⟨_, rfl, _, back _ _ hw', ?_⟩
                  clear hw hw1 hw' back kn sb
                  refine l_val (v := .tuple #[.slice p85 ((beganL (pairsS (toldS z)) ((beganL (endedS z) T) ++ (beganS z))).length) c86, Ix (inL ((beganL (endedS z) T) ++ (beganS z)) (pairsS (toldS z)))]) rfl rfl rfl (e_move) ?_
                  refine l_val (v := .slice p85 ((beganL (pairsS (toldS z)) ((beganL (endedS z) T) ++ (beganS z))).length) c86) rfl rfl rfl (e_extract (vs := #[.slice p85 ((beganL (pairsS (toldS z)) ((beganL (endedS z) T) ++ (beganS z))).length) c86, Ix (inL ((beganL (endedS z) T) ++ (beganS z)) (pairsS (toldS z)))]) rfl rfl) ?_
                  refine l_val (v := Ix (inL ((beganL (endedS z) T) ++ (beganS z)) (pairsS (toldS z)))) rfl rfl rfl (e_extract (vs := #[.slice p85 ((beganL (pairsS (toldS z)) ((beganL (endedS z) T) ++ (beganS z))).length) c86, Ix (inL ((beganL (endedS z) T) ++ (beganS z)) (pairsS (toldS z)))]) rfl rfl) ?_
                  refine l_val (v := .slice p85 ((beganL (pairsS (toldS z)) ((beganL (endedS z) T) ++ (beganS z))).length) c86) rfl rfl rfl (e_assign) ?_
                  refine l_val (v := Ix (inL ((beganL (endedS z) T) ++ (beganS z)) (pairsS (toldS z)))) rfl rfl rfl (e_assign) ?_
                  refine l_nil ?_
                  refine f_then ?_
                  refine c_seq ?_
                  refine c_region ?_
                  refine l_val (v := .pointer (some ⟨b1, 0, none⟩)) rfl rfl rfl (e_move) ?_
                  refine l_call rfl rfl rfl (cl_value (fst := []) (cap := []) (vs := [.pointer (some ⟨b1, 0, none⟩)]) (all := [.pointer (some ⟨b1, 0, none⟩)]) tf77 rfl rfl rfl) ?_
                  intro w hw
                  replace hw := hw.perm (L' := _ :: _ :: _ :: _ :: _ :: _ :: _ :: _ :: []) (by exact ((((((((perm_front 7 rfl).trans (perm_front 7 rfl)).trans (perm_front 7 rfl)).trans (perm_front 7 rfl)).trans (perm_front 7 rfl)).trans (perm_front 6 rfl)).trans (perm_front 6 rfl)).trans (perm_front 7 rfl)))
                  obtain ⟨β1, sb, kn, hw1, back⟩ := St.frame (L := [_]) (M := _ :: _ :: _ :: _ :: _ :: _ :: _ :: []) hw
                  refine (changes_ok β1 w b1 (toldS z) hw1 (told_ok hz)).mono ?_
                  rintro e w' ⟨p87, c88, q89, d90, rfl, hw'⟩
                  refine ⟨_, rfl, _, back _ _ hw', ?_⟩
                  clear hw hw1 hw' back kn sb
                  refine l_val (v := .tuple #[.slice p87 ((beganS (toldS z)).length) c88, .slice q89 ((endedS (toldS z)).length) d90]) rfl rfl rfl (e_move) ?_
                  refine l_val (v := .slice p87 ((beganS (toldS z)).length) c88) rfl rfl rfl (e_extract (vs := #[.slice p87 ((beganS (toldS z)).length) c88, .slice q89 ((endedS (toldS z)).length) d90]) rfl rfl) ?_
                  refine l_val (v := .slice q89 ((endedS (toldS z)).length) d90) rfl rfl rfl (e_extract (vs := #[.slice p87 ((beganS (toldS z)).length) c88, .slice q89 ((endedS (toldS z)).length) d90]) rfl rfl) ?_
                  refine l_val (v := .slice p87 ((beganS (toldS z)).length) c88) rfl rfl rfl (e_assign) ?_
                  refine l_val (v := .slice q89 ((endedS (toldS z)).length) d90) rfl rfl rfl (e_assign) ?_
                  refine l_nil ?_
                  refine f_then ?_
                  refine c_seq ?_
                  refine c_region ?_
                  refine l_val (v := .slice p85 ((beganL (pairsS (toldS z)) ((beganL (endedS z) T) ++ (beganS z))).length) c86) rfl rfl rfl (e_move) ?_
                  refine l_val (v := Nx ((beganL (pairsS (toldS z)) ((beganL (endedS z) T) ++ (beganS z))).length)) rfl rfl rfl (e_len (a := p85) (n := (beganL (pairsS (toldS z)) ((beganL (endedS z) T) ++ (beganS z))).length) (c := c86) rfl tf65) ?_
                  refine l_val (v := .bool (decide ((((beganL (pairsS (toldS z)) ((beganL (endedS z) T) ++ (beganS z))).length : Nat) : Int) ≠ (0 : Int)))) rfl rfl rfl (e_neq (a := (((beganL (pairsS (toldS z)) ((beganL (endedS z) T) ++ (beganS z))).length : Nat) : Int)) (b := (0 : Int)) rfl rfl) ?_
                  refine l_val (v := .bool (decide ((((beganL (pairsS (toldS z)) ((beganL (endedS z) T) ++ (beganS z))).length : Nat) : Int) ≠ (0 : Int)))) rfl rfl rfl (e_move) ?_
                  refine l_split (s := 125) (p := (((beganL (pairsS (toldS z)) ((beganL (endedS z) T) ++ (beganS z))).length : Nat) : Int) ≠ (0 : Int)) rfl (fun h => ?_) (fun h => ?_)
                  exact absurd h (fun q => q (by rw [hc8]; rfl))
                  refine g_val (v := Ix (inL ((beganL (endedS z) T) ++ (beganS z)) (pairsS (toldS z)))) rfl rfl rfl rfl rfl (e_move) ?_
                  refine g_val (v := .slice p83 ((pairsS (toldS z)).length) c84) rfl rfl rfl rfl rfl (e_move) ?_
                  refine g_val (v := Nx ((pairsS (toldS z)).length)) rfl rfl rfl rfl rfl (e_len (a := p83) (n := (pairsS (toldS z)).length) (c := c84) rfl tf65) ?_
                  refine g_val (v := .bool (decide ((inL ((beganL (endedS z) T) ++ (beganS z)) (pairsS (toldS z))) ≠ (((pairsS (toldS z)).length : Nat) : Int)))) rfl rfl rfl rfl rfl (e_neq (a := (inL ((beganL (endedS z) T) ++ (beganS z)) (pairsS (toldS z)))) (b := (((pairsS (toldS z)).length : Nat) : Int)) rfl rfl) ?_
                  refine l_val (v := .bool (decide ((inL ((beganL (endedS z) T) ++ (beganS z)) (pairsS (toldS z))) ≠ (((pairsS (toldS z)).length : Nat) : Int)))) rfl rfl rfl (e_pick_f rfl) ?_
                  refine l_val (v := .bool (decide ((inL ((beganL (endedS z) T) ++ (beganS z)) (pairsS (toldS z))) ≠ (((pairsS (toldS z)).length : Nat) : Int)))) rfl rfl rfl (e_move) ?_
                  refine l_split (s := 131) (p := (inL ((beganL (endedS z) T) ++ (beganS z)) (pairsS (toldS z))) ≠ (((pairsS (toldS z)).length : Nat) : Int)) rfl (fun h => ?_) (fun h => ?_)
                  exact absurd h (fun q => q hc9)
                  refine g_val (v := .slice rp81 (((beganL (endedS z) T) ++ (beganS z)).length) rc82) rfl rfl rfl rfl rfl (e_move) ?_
                  refine g_val (v := Nx (((beganL (endedS z) T) ++ (beganS z)).length)) rfl rfl rfl rfl rfl (e_len (a := rp81) (n := ((beganL (endedS z) T) ++ (beganS z)).length) (c := rc82) rfl tf65) ?_
                  refine g_val (v := .slice p83 ((pairsS (toldS z)).length) c84) rfl rfl rfl rfl rfl (e_move) ?_
                  refine g_val (v := Nx ((pairsS (toldS z)).length)) rfl rfl rfl rfl rfl (e_len (a := p83) (n := (pairsS (toldS z)).length) (c := c84) rfl tf65) ?_
                  refine g_val (v := .bool (decide (((((beganL (endedS z) T) ++ (beganS z)).length : Nat) : Int) ≠ (((pairsS (toldS z)).length : Nat) : Int)))) rfl rfl rfl rfl rfl (e_neq (a := ((((beganL (endedS z) T) ++ (beganS z)).length : Nat) : Int)) (b := (((pairsS (toldS z)).length : Nat) : Int)) rfl rfl) ?_
                  refine l_val (v := .bool (decide (((((beganL (endedS z) T) ++ (beganS z)).length : Nat) : Int) ≠ (((pairsS (toldS z)).length : Nat) : Int)))) rfl rfl rfl (e_pick_f rfl) ?_
                  refine l_val (v := .bool (decide (((((beganL (endedS z) T) ++ (beganS z)).length : Nat) : Int) ≠ (((pairsS (toldS z)).length : Nat) : Int)))) rfl rfl rfl (e_move) ?_
                  refine l_split (s := 138) (p := ((((beganL (endedS z) T) ++ (beganS z)).length : Nat) : Int) ≠ (((pairsS (toldS z)).length : Nat) : Int)) rfl (fun h => ?_) (fun h => ?_)
                  exact absurd h (fun q => q (by omega))
                  refine g_val (v := .slice p87 ((beganS (toldS z)).length) c88) rfl rfl rfl rfl rfl (e_move) ?_
                  refine g_val (v := Nx ((beganS (toldS z)).length)) rfl rfl rfl rfl rfl (e_len (a := p87) (n := (beganS (toldS z)).length) (c := c88) rfl tf65) ?_
                  refine g_val (v := .slice q89 ((endedS (toldS z)).length) d90) rfl rfl rfl rfl rfl (e_move) ?_
                  refine g_val (v := Nx ((endedS (toldS z)).length)) rfl rfl rfl rfl rfl (e_len (a := q89) (n := (endedS (toldS z)).length) (c := d90) rfl tf65) ?_
                  refine g_val (v := Nx (((beganS (toldS z)).length) + ((endedS (toldS z)).length))) rfl rfl rfl rfl rfl (e_add (a := (((beganS (toldS z)).length : Nat) : Int)) (b := (((endedS (toldS z)).length : Nat) : Int)) rfl rfl (i64n (by omega) (by omega))) ?_
                  refine g_val (v := .bool (decide (((((beganS (toldS z)).length) + ((endedS (toldS z)).length) : Nat) : Int) ≠ (0 : Int)))) rfl rfl rfl rfl rfl (e_neq (a := ((((beganS (toldS z)).length) + ((endedS (toldS z)).length) : Nat) : Int)) (b := (0 : Int)) rfl rfl) ?_
                  refine l_val (v := .bool (decide (((((beganS (toldS z)).length) + ((endedS (toldS z)).length) : Nat) : Int) ≠ (0 : Int)))) rfl rfl rfl (e_pick_f rfl) ?_
                  refine l_nil ?_
                  refine f_then ?_
                  refine c_if (((((beganS (toldS z)).length) + ((endedS (toldS z)).length) : Nat) : Int) ≠ (0 : Int)) rfl (fun hc91 => ?_) (fun hc91 => ?_)
                  ·
                    exact absurd hc91 (fun q => q (by omega))
                  ·
                    refine c_skip ?_
                    refine f_block ?_
                    refine f_then ?_
                    refine c_region ?_
                    refine l_val (v := Nx (i)) rfl rfl rfl (e_move) ?_
                    refine l_val (v := Nx (i + 1)) rfl rfl rfl (e_add (a := ((i : Nat) : Int)) (b := (1 : Int)) rfl rfl (i64n (by omega) (by omega))) ?_
                    refine l_val (v := Nx (i + 1)) rfl rfl rfl (e_assign) ?_
                    refine l_nil ?_
                    refine f_perm (L' := [rowF PairF 40 rp81 rc82 ((beganL (endedS z) T) ++ (beganS z)), spcR b1 (toldS (toldS z)), rowF PairF 40 p87 c88 (beganS (toldS z)), rowF PairF 40 q89 d90 (endedS (toldS z)), rowF PairF 40 p85 c86 (beganL (pairsS (toldS z)) ((beganL (endedS z) T) ++ (beganS z))), rowF PairF 40 p83 c84 (pairsS (toldS z)), rowF PairF 40 p78 c79 (beganL T (beganS z)), rowF PairF 40 p72 c73 (beganS z), rowF PairF 40 q74 d75 (endedS z), rowF PairF 40 tp tc T]) (perm_ix [6, 2, 0, 1, 3, 4, 5, 7, 8, 9] 10 rfl (by kernel_rfl) (by kernel_rfl)) ?_
                    refine f_mask (L' := [rowF PairF 40 rp81 rc82 ((beganL (endedS z) T) ++ (beganS z)), spcR b1 (toldS (toldS z))]) [true, true, false, false, false, false, false, false, false, false] rfl ?_
                    exact f_cut ⟨(i + 1, (toldS (toldS z)), ((beganL (endedS z) T) ++ (beganS z)), rp81, rc82), ⟨⟨rfl, rfl, rfl, rfl, rfl⟩, rfl, ⟨by omega, told_ok (told_ok hz), hc4, hzl⟩⟩, (show 40 - (i + 1) < 40 - i from by omega)⟩
          ·
            refine l_skip rfl rfl rfl rfl rfl rfl ?_
            refine l_skip rfl rfl rfl rfl rfl rfl ?_
            refine l_skip rfl rfl rfl rfl rfl rfl ?_
            refine l_skip rfl rfl rfl rfl rfl rfl ?_
            refine l_skip rfl rfl rfl rfl rfl rfl ?_
            refine l_skip rfl rfl rfl rfl rfl rfl ?_
            refine l_skip rfl rfl rfl rfl rfl rfl ?_
            refine l_skip rfl rfl rfl rfl rfl rfl ?_
            refine l_skip rfl rfl rfl rfl rfl rfl ?_
            refine l_val (v := .bool false) rfl rfl rfl (e_pick_f rfl) ?_
            refine l_nil ?_
            refine f_then ?_
            refine c_no rfl ?_
            refine c_skip ?_
            refine f_then ?_
            refine c_seq ?_
            refine c_seq ?_
            obtain ⟨z, hzE⟩ : ∃ z, z = delS s ((x5.toNat % 12 : Nat) : Int) := ⟨_, rfl⟩
            rw [← hzE]
            have hz : z.ok := by rw [hzE]; exact del_ok hs _
            have hTz : T.Perm z.told := by rw [hzE]; exact hT
            have hzl : z.ar.length ≤ i + 1 := by rw [hzE]; exact del_len hsl
            have hzm := hz.many
            have hTl2 := hTz.length_eq
            refine c_region ?_
            refine l_val (v := Nx (i)) rfl rfl rfl (e_move) ?_
            refine l_val (v := Nx (i % 3)) rfl rfl rfl (e_rem (a := ((i : Nat) : Int)) (b := (3 : Int)) rfl rfl (by decide) (nat_tmod _ 3)) ?_
            refine l_val (v := .bool (decide (((i % 3 : Nat) : Int) = (1 : Int)))) rfl rfl rfl (e_eql (a := ((i % 3 : Nat) : Int)) (b := (1 : Int)) rfl rfl) ?_
            refine l_nil ?_
            refine f_then ?_
            refine c_if (((i % 3 : Nat) : Int) = (1 : Int)) rfl (fun hc92 => ?_) (fun hc92 => ?_)
            ·
              refine c_exit ?_
              refine f_then_exit ?_
              refine f_exit ?_
              refine f_then ?_
              refine c_region ?_
              refine l_val (v := Nx (i)) rfl rfl rfl (e_move) ?_
              refine l_val (v := Nx (i + 1)) rfl rfl rfl (e_add (a := ((i : Nat) : Int)) (b := (1 : Int)) rfl rfl (i64n (by omega) (by omega))) ?_
              refine l_val (v := Nx (i + 1)) rfl rfl rfl (e_assign) ?_
              refine l_nil ?_
              refine f_perm (L' := [rowF PairF 40 tp tc T, spcR b1 z]) (perm_ix [1, 0] 2 rfl (by kernel_rfl) (by kernel_rfl)) ?_
              exact f_cut ⟨(i + 1, z, T, tp, tc), ⟨⟨rfl, rfl, rfl, rfl, rfl⟩, rfl, ⟨by omega, hz, hTz, hzl⟩⟩, (show 40 - (i + 1) < 40 - i from by omega)⟩
            ·
              refine c_skip ?_
              refine f_then ?_
              refine c_seq ?_
              refine c_region ?_
              refine l_val (v := .pointer (some ⟨b1, 0, none⟩)) rfl rfl rfl (e_move) ?_
              refine l_call rfl rfl rfl (cl_value (fst := []) (cap := []) (vs := [.pointer (some ⟨b1, 0, none⟩)]) (all := [.pointer (some ⟨b1, 0, none⟩)]) tf77 rfl rfl rfl) ?_
              intro w hw
              replace hw := hw.perm (L' := _ :: _ :: []) (by exact ((perm_front 1 rfl).trans (perm_front 1 rfl)))
              obtain ⟨β1, sb, kn, hw1, back⟩ := St.frame (L := [_]) (M := _ :: []) hw
              refine (changes_ok β1 w b1 z hw1 hz).mono ?_
              rintro e w' ⟨p93, c94, q95, d96, rfl, hw'⟩
              refine ⟨_, rfl, _, back _ _ hw', ?_⟩
              clear hw hw1 hw' back kn sb
              refine l_val (v := .tuple #[.slice p93 ((beganS z).length) c94, .slice q95 ((endedS z).length) d96]) rfl rfl rfl (e_move) ?_
              refine l_val (v := .slice p93 ((beganS z).length) c94) rfl rfl rfl (e_extract (vs := #[.slice p93 ((beganS z).length) c94, .slice q95 ((endedS z).length) d96]) rfl rfl) ?_
              refine l_val (v := .slice q95 ((endedS z).length) d96) rfl rfl rfl (e_extract (vs := #[.slice p93 ((beganS z).length) c94, .slice q95 ((endedS z).length) d96]) rfl rfl) ?_
              refine l_val (v := .slice p93 ((beganS z).length) c94) rfl rfl rfl (e_assign) ?_
              refine l_val (v := .slice q95 ((endedS z).length) d96) rfl rfl rfl (e_assign) ?_
              refine l_nil ?_
              refine f_then ?_
              refine c_seq ?_
              have hzb := began_few hz
              have hze := ended_few hz
              obtain ⟨hc1, hc2, hc3, hc4⟩ := chg_facts hz hTz
              have hbl3 := beganL_le (endedS z) T
              refine c_region ?_
              refine l_val (v := .slice tp (T.length) tc) rfl rfl rfl (e_move) ?_
              refine l_val (v := .slice q95 ((endedS z).length) d96) rfl rfl rfl (e_move) ?_
              refine l_call rfl rfl rfl (cl_value (fst := []) (cap := []) (vs := [.slice tp (T.length) tc, .slice q95 ((endedS z).length) d96]) (all := [.slice tp (T.length) tc, .slice q95 ((endedS z).length) d96]) tf117 rfl rfl rfl) ?_
              intro w hw
              obtain ⟨β1, sb, kn, hw1, back⟩ := St.frame_all hw
              refine (without_ok β1 w hw1 _ _ T (endedS z) (kn _ (k_flN 3 (F := PairF) (m := T.length) rfl rfl)) (kn _ (k_flN 1 (F := PairF) (m := (endedS z).length) rfl rfl)) (by omega)).mono ?_
              rintro e w' ⟨p97, c98, rfl, hw'⟩
              refine ⟨_, rfl, _, back _ _ hw', ?_⟩
              clear hw hw1 hw' back kn sb
              refine l_val (v := .tuple #[.slice p97 ((beganL (endedS z) T).length) c98, Ix (inL T (endedS z))]) rfl rfl rfl (e_move) ?_
              refine l_val (v := .slice p97 ((beganL (endedS z) T).length) c98) rfl rfl rfl (e_extract (vs := #[.slice p97 ((beganL (endedS z) T).length) c98, Ix (inL T (endedS z))]) rfl rfl) ?_
              refine l_val (v := Ix (inL T (endedS z))) rfl rfl rfl (e_extract (vs := #[.slice p97 ((beganL (endedS z) T).length) c98, Ix (inL T (endedS z))]) rfl rfl) ?_
              refine l_val (v := .slice p97 ((beganL (endedS z) T).length) c98) rfl rfl rfl (e_assign) ?_
              refine l_val (v := Ix (inL T (endedS z))) rfl rfl rfl (e_assign) ?_
              refine l_nil ?_
              refine f_then ?_
              refine c_seq ?_
              refine c_region ?_
              refine l_val (v := .slice p93 ((beganS z).length) c94) rfl rfl rfl (e_move) ?_
              refine l_val (v := .slice tp (T.length) tc) rfl rfl rfl (e_move) ?_
              refine l_call rfl rfl rfl (cl_value (fst := []) (cap := []) (vs := [.slice p93 ((beganS z).length) c94, .slice tp (T.length) tc]) (all := [.slice p93 ((beganS z).length) c94, .slice tp (T.length) tc]) tf117 rfl rfl rfl) ?_
              intro w hw
              obtain ⟨β1, sb, kn, hw1, back⟩ := St.frame_all hw
              refine (without_ok β1 w hw1 _ _ (beganS z) T (kn _ (k_flN 1 (F := PairF) (m := (beganS z).length) rfl rfl)) (kn _ (k_flN 4 (F := PairF) (m := T.length) rfl rfl)) (by omega)).mono ?_
              rintro e w' ⟨p99, c100, rfl, hw'⟩
              refine ⟨_, rfl, _, back _ _ hw', ?_⟩
              clear hw hw1 hw' back kn sb
              refine l_val (v := .tuple #[.slice p99 ((beganL T (beganS z)).length) c100, Ix (inL (beganS z) T)]) rfl rfl rfl (e_move) ?_
              refine l_val (v := .slice p99 ((beganL T (beganS z)).length) c100) rfl rfl rfl (e_extract (vs := #[.slice p99 ((beganL T (beganS z)).length) c100, Ix (inL (beganS z) T)]) rfl rfl) ?_
              refine l_val (v := Ix (inL (beganS z) T)) rfl rfl rfl (e_extract (vs := #[.slice p99 ((beganL T (beganS z)).length) c100, Ix (inL (beganS z) T)]) rfl rfl) ?_
              refine l_val (v := .slice p99 ((beganL T (beganS z)).length) c100) rfl rfl rfl (e_assign) ?_
              refine l_val (v := Ix (inL (beganS z) T)) rfl rfl rfl (e_assign) ?_
              refine l_nil ?_
              refine f_then ?_
              refine c_seq ?_
              refine c_seq ?_
              refine c_region ?_
              refine l_val (v := Ix (inL T (endedS z))) rfl rfl rfl (e_move) ?_
              refine l_val (v := .slice q95 ((endedS z).length) d96) rfl rfl rfl (e_move) ?_
              refine l_val (v := Nx ((endedS z).length)) rfl rfl rfl (e_len (a := q95) (n := (endedS z).length) (c := d96) rfl tf65) ?_
              refine l_val (v := .bool (decide ((inL T (endedS z)) ≠ (((endedS z).length : Nat) : Int)))) rfl rfl rfl (e_neq (a := (inL T (endedS z))) (b := (((endedS z).length : Nat) : Int)) rfl rfl) ?_
              refine l_val (v := .bool (decide ((inL T (endedS z)) ≠ (((endedS z).length : Nat) : Int)))) rfl rfl rfl (e_move) ?_
              refine l_split (s := 95) (p := (inL T (endedS z)) ≠ (((endedS z).length : Nat) : Int)) rfl (fun h => ?_) (fun h => ?_)
              exact absurd h (fun q => q hc1)
              refine g_val (v := Ix (inL (beganS z) T)) rfl rfl rfl rfl rfl (e_move) ?_
              refine g_val (v := .bool (decide ((inL (beganS z) T) ≠ (0 : Int)))) rfl rfl rfl rfl rfl (e_neq (a := (inL (beganS z) T)) (b := (0 : Int)) rfl rfl) ?_
              refine l_val (v := .bool (decide ((inL (beganS z) T) ≠ (0 : Int)))) rfl rfl rfl (e_pick_f rfl) ?_
              refine l_val (v := .bool (decide ((inL (beganS z) T) ≠ (0 : Int)))) rfl rfl rfl (e_move) ?_
              refine l_split (s := 99) (p := (inL (beganS z) T) ≠ (0 : Int)) rfl (fun h => ?_) (fun h => ?_)
              exact absurd h (fun q => q hc2)
              refine g_val (v := .slice p99 ((beganL T (beganS z)).length) c100) rfl rfl rfl rfl rfl (e_move) ?_
              refine g_val (v := Nx ((beganL T (beganS z)).length)) rfl rfl rfl rfl rfl (e_len (a := p99) (n := (beganL T (beganS z)).length) (c := c100) rfl tf65) ?_
              refine g_val (v := .slice p93 ((beganS z).length) c94) rfl rfl rfl rfl rfl (e_move) ?_
              refine g_val (v := Nx ((beganS z).length)) rfl rfl rfl rfl rfl (e_len (a := p93) (n := (beganS z).length) (c := c94) rfl tf65) ?_
              refine g_val (v := .bool (decide ((((beganL T (beganS z)).length : Nat) : Int) ≠ (((beganS z).length : Nat) : Int)))) rfl rfl rfl rfl rfl (e_neq (a := (((beganL T (beganS z)).length : Nat) : Int)) (b := (((beganS z).length : Nat) : Int)) rfl rfl) ?_
              refine l_val (v := .bool (decide ((((beganL T (beganS z)).length : Nat) : Int) ≠ (((beganS z).length : Nat) : Int)))) rfl rfl rfl (e_pick_f rfl) ?_
              refine l_nil ?_
              refine f_then ?_
              refine c_if ((((beganL T (beganS z)).length : Nat) : Int) ≠ (((beganS z).length : Nat) : Int)) rfl (fun hc101 => ?_) (fun hc101 => ?_)
              ·
                exact absurd hc101 (fun q => q (by rw [hc3]))
              ·
                refine c_skip ?_
                refine f_then ?_
                refine c_seq ?_
                refine c_region ?_
                refine l_val (v := .slice p97 ((beganL (endedS z) T).length) c98) rfl rfl rfl (e_move) ?_
                refine l_val (v := .slice p93 ((beganS z).length) c94) rfl rfl rfl (e_move) ?_
                refine l_mv rfl rfl rfl (m_appendFlN (F := PairF) 1 tf37 tf38 (p := p97) (m := (beganL (endedS z) T).length) (xs := (beganL (endedS z) T)) (ys := (beganS z)) (ao := p93) (k := (beganS z).length) (c := c94) rfl rfl rfl rfl rfl (Knows.imp (k_flN 2 (F := PairF) (m := (beganS z).length) rfl rfl) fun _ h => (Sl.parts h).2.2.2) (by first | omega | simp only [List.length_nil, List.length_cons, List.length_append, List.length_set]; omega) (by first | omega | simp only [List.length_nil, List.length_cons, List.length_append, List.length_set]; omega)) ?_
                rintro _ _ ⟨rp102, rc103, rfl, rfl⟩
                refine l_val (v := .slice rp102 (((beganL (endedS z) T) ++ (beganS z)).length) rc103) rfl rfl rfl (e_assign) ?_
                refine l_nil ?_
                refine f_then ?_
                refine c_seq ?_
                have hc4l := hc4.length_eq
                obtain ⟨hc6, hc7⟩ := chg_again z
                have hzp := pairsS_few hz
                refine c_region ?_
                refine l_val (v := .pointer (some ⟨b1, 0, none⟩)) rfl rfl rfl (e_move) ?_
                refine l_call rfl rfl rfl (cl_value (fst := []) (cap := []) (vs := [.pointer (some ⟨b1, 0, none⟩)]) (all := [.pointer (some ⟨b1, 0, none⟩)]) tf76 rfl rfl rfl) ?_
                intro w hw
                replace hw := hw.perm (L' := _ :: _ :: _ :: _ :: _ :: _ :: []) (by exact ((((((perm_front 5 rfl).trans (perm_front 4 rfl)).trans (perm_front 4 rfl)).trans (perm_front 4 rfl)).trans (perm_front 4 rfl)).trans (perm_front 5 rfl)))
                obtain ⟨β1, sb, kn, hw1, back⟩ := St.frame (L := [_]) (M := _ :: _ :: _ :: _ :: _ :: []) hw
                refine (spairsx_ok β1 w b1 (toldS z) hw1 (told_ok hz)).mono ?_
                rintro e w' ⟨p104, c105, rfl, hw'⟩
                refine ⟨_, rfl, _, back _ _ hw', ?_⟩
                clear hw hw1 hw' back kn sb
                refine l_val (v := .slice p104 ((pairsS (toldS z)).length) c105) rfl rfl rfl (e_assign) ?_
                refine l_nil ?_
                refine f_then ?_
                refine c_seq ?_
                obtain ⟨hc8, hc9⟩ := perm_none2 (m := pairsS (toldS z)) hc4
                have hc5 : (beganL (endedS z) T ++ beganS z).length = (pairsS (toldS z)).length := hc4.length_eq
                have hl6 : (beganS (toldS z)).length = 0 := by rw [hc6]; rfl
                have hl7 : (endedS (toldS z)).length = 0 := by rw [hc7]; rfl
                refine c_region ?_
                refine l_val (v := .slice rp102 (((beganL (endedS z) T) ++ (beganS z)).length) rc103) rfl rfl rfl (e_move) ?_
                refine l_val (v := .slice p104 ((pairsS (toldS z)).length) c105) rfl rfl rfl (e_move) ?_
                refine l_call rfl rfl rfl (cl_value (fst := []) (cap := []) (vs := [.slice rp102 (((beganL (endedS z) T) ++ (beganS z)).length) rc103, .slice p104 ((pairsS (toldS z)).length) c105]) (all := [.slice rp102 (((beganL (endedS z) T) ++ (beganS z)).length) rc103, .slice p104 ((pairsS (toldS z)).length) c105]) tf117 rfl rfl rfl) ?_
                intro w hw
                obtain ⟨β1, sb, kn, hw1, back⟩ := St.frame_all hw
                refine (without_ok β1 w hw1 _ _ ((beganL (endedS z) T) ++ (beganS z)) (pairsS (toldS z)) (kn _ (k_flN 3 (F := PairF) (m := ((beganL (endedS z) T) ++ (beganS z)).length) rfl rfl)) (kn _ (k_flN 0 (F := PairF) (m := (pairsS (toldS z)).length) rfl rfl)) (by omega)).mono ?_
                rintro e w' ⟨p106, c107, rfl, hw'⟩
                refine ⟨_, rfl, _, back _ _ hw', ?_⟩
                clear hw hw1 hw' back kn sb
                refine l_val (v := .tuple #[.slice p106 ((beganL (pairsS (toldS z)) ((beganL (endedS z) T) ++ (beganS z))).length) c107, Ix (inL ((beganL (endedS z) T) ++ (beganS z)) (pairsS (toldS z)))]) rfl rfl rfl (e_move) ?_
                refine l_val (v := .slice p106 ((beganL (pairsS (toldS z)) ((beganL (endedS z) T) ++ (beganS z))).length) c107) rfl rfl rfl (e_extract (vs := #[.slice p106 ((beganL (pairsS (toldS z)) ((beganL (endedS z) T) ++ (beganS z))).length) c107, Ix (inL ((beganL (endedS z) T) ++ (beganS z)) (pairsS (toldS z)))]) rfl rfl) ?_
                refine l_val (v := Ix (inL ((beganL (endedS z) T) ++ (beganS z)) (pairsS (toldS z)))) rfl rfl rfl (e_extract (vs := #[.slice p106 ((beganL (pairsS (toldS z)) ((beganL (endedS z) T) ++ (beganS z))).length) c107, Ix (inL ((beganL (endedS z) T) ++ (beganS z)) (pairsS (toldS z)))]) rfl rfl) ?_
                refine l_val (v := .slice p106 ((beganL (pairsS (toldS z)) ((beganL (endedS z) T) ++ (beganS z))).length) c107) rfl rfl rfl (e_assign) ?_
                refine l_val (v := Ix (inL ((beganL (endedS z) T) ++ (beganS z)) (pairsS (toldS z)))) rfl rfl rfl (e_assign) ?_
                refine l_nil ?_
                refine f_then ?_
                refine c_seq ?_
                refine c_region ?_
                refine l_val (v := .pointer (some ⟨b1, 0, none⟩)) rfl rfl rfl (e_move) ?_
                refine l_call rfl rfl rfl (cl_value (fst := []) (cap := []) (vs := [.pointer (some ⟨b1, 0, none⟩)]) (all := [.pointer (some ⟨b1, 0, none⟩)]) tf77 rfl rfl rfl) ?_
                intro w hw
                replace hw := hw.perm (L' := _ :: _ :: _ :: _ :: _ :: _ :: _ :: _ :: []) (by exact ((((((((perm_front 7 rfl).trans (perm_front 7 rfl)).trans (perm_front 7 rfl)).trans (perm_front 7 rfl)).trans (perm_front 7 rfl)).trans (perm_front 6 rfl)).trans (perm_front 6 rfl)).trans (perm_front 7 rfl)))
                obtain ⟨β1, sb, kn, hw1, back⟩ := St.frame (L := [_]) (M := _ :: _ :: _ :: _ :: _ :: _ :: _ :: []) hw
                refine (changes_ok β1 w b1 (toldS z) hw1 (told_ok hz)).mono ?_
                rintro e w' ⟨p108, c109, q110, d111, rfl, hw'⟩
                refine ⟨_, rfl, _, back _ _ hw', ?_⟩
                clear hw hw1 hw' back kn sb
                refine l_val (v := .tuple #[.slice p108 ((beganS (toldS z)).length) c109, .slice q110 ((endedS (toldS z)).length) d111]) rfl rfl rfl (e_move) ?_
                refine l_val (v := .slice p108 ((beganS (toldS z)).length) c109) rfl rfl rfl (e_extract (vs := #[.slice p108 ((beganS (toldS z)).length) c109, .slice q110 ((endedS (toldS z)).length) d111]) rfl rfl) ?_
                refine l_val (v := .slice q110 ((endedS (toldS z)).length) d111) rfl rfl rfl (e_extract (vs := #[.slice p108 ((beganS (toldS z)).length) c109, .slice q110 ((endedS (toldS z)).length) d111]) rfl rfl) ?_
                refine l_val (v := .slice p108 ((beganS (toldS z)).length) c109) rfl rfl rfl (e_assign) ?_
                refine l_val (v := .slice q110 ((endedS (toldS z)).length) d111) rfl rfl rfl (e_assign) ?_
                refine l_nil ?_
                refine f_then ?_
                refine c_seq ?_
                refine c_region ?_
                refine l_val (v := .slice p106 ((beganL (pairsS (toldS z)) ((beganL (endedS z) T) ++ (beganS z))).length) c107) rfl rfl rfl (e_move) ?_
                refine l_val (v := Nx ((beganL (pairsS (toldS z)) ((beganL (endedS z) T) ++ (beganS z))).length)) rfl rfl rfl (e_len (a := p106) (n := (beganL (pairsS (toldS z)) ((beganL (endedS z) T) ++ (beganS z))).length) (c := c107) rfl tf65) ?_
                refine l_val (v := .bool (decide ((((beganL (pairsS (toldS z)) ((beganL (endedS z) T) ++ (beganS z))).length : Nat) : Int) ≠ (0 : Int)))) rfl rfl rfl (e_neq (a := (((beganL (pairsS (toldS z)) ((beganL (endedS z) T) ++ (beganS z))).length : Nat) : Int)) (b := (0 : Int)) rfl rfl) ?_
                refine l_val (v := .bool (decide ((((beganL (pairsS (toldS z)) ((beganL (endedS z) T) ++ (beganS z))).length : Nat) : Int) ≠ (0 : Int)))) rfl rfl rfl (e_move) ?_
                refine l_split (s := 125) (p := (((beganL (pairsS (toldS z)) ((beganL (endedS z) T) ++ (beganS z))).length : Nat) : Int) ≠ (0 : Int)) rfl (fun h => ?_) (fun h => ?_)
                exact absurd h (fun q => q (by rw [hc8]; rfl))
                refine g_val (v := Ix (inL ((beganL (endedS z) T) ++ (beganS z)) (pairsS (toldS z)))) rfl rfl rfl rfl rfl (e_move) ?_
                refine g_val (v := .slice p104 ((pairsS (toldS z)).length) c105) rfl rfl rfl rfl rfl (e_move) ?_
                refine g_val (v := Nx ((pairsS (toldS z)).length)) rfl rfl rfl rfl rfl (e_len (a := p104) (n := (pairsS (toldS z)).length) (c := c105) rfl tf65) ?_
                refine g_val (v := .bool (decide ((inL ((beganL (endedS z) T) ++ (beganS z)) (pairsS (toldS z))) ≠ (((pairsS (toldS z)).length : Nat) : Int)))) rfl rfl rfl rfl rfl (e_neq (a := (inL ((beganL (endedS z) T) ++ (beganS z)) (pairsS (toldS z)))) (b := (((pairsS (toldS z)).length : Nat) : Int)) rfl rfl) ?_
                refine l_val (v := .bool (decide ((inL ((beganL (endedS z) T) ++ (beganS z)) (pairsS (toldS z))) ≠ (((pairsS (toldS z)).length : Nat) : Int)))) rfl rfl rfl (e_pick_f rfl) ?_
                refine l_val (v := .bool (decide ((inL ((beganL (endedS z) T) ++ (beganS z)) (pairsS (toldS z))) ≠ (((pairsS (toldS z)).length : Nat) : Int)))) rfl rfl rfl (e_move) ?_
                refine l_split (s := 131) (p := (inL ((beganL (endedS z) T) ++ (beganS z)) (pairsS (toldS z))) ≠ (((pairsS (toldS z)).length : Nat) : Int)) rfl (fun h => ?_) (fun h => ?_)
                exact absurd h (fun q => q hc9)
                refine g_val (v := .slice rp102 (((beganL (endedS z) T) ++ (beganS z)).length) rc103) rfl rfl rfl rfl rfl (e_move) ?_
                refine g_val (v := Nx (((beganL (endedS z) T) ++ (beganS z)).length)) rfl rfl rfl rfl rfl (e_len (a := rp102) (n := ((beganL (endedS z) T) ++ (beganS z)).length) (c := rc103) rfl tf65) ?_
                refine g_val (v := .slice p104 ((pairsS (toldS z)).length) c105) rfl rfl rfl rfl rfl (e_move) ?_
                refine g_val (v := Nx ((pairsS (toldS z)).length)) rfl rfl rfl rfl rfl (e_len (a := p104) (n := (pairsS (toldS z)).length) (c := c105) rfl tf65) ?_
                refine g_val (v := .bool (decide (((((beganL (endedS z) T) ++ (beganS z)).length : Nat) : Int) ≠ (((pairsS (toldS z)).length : Nat) : Int)))) rfl rfl rfl rfl rfl (e_neq (a := ((((beganL (endedS z) T) ++ (beganS z)).length : Nat) : Int)) (b := (((pairsS (toldS z)).length : Nat) : Int)) rfl rfl) ?_
                refine l_val (v := .bool (decide (((((beganL (endedS z) T) ++ (beganS z)).length : Nat) : Int) ≠ (((pairsS (toldS z)).length : Nat) : Int)))) rfl rfl rfl (e_pick_f rfl) ?_
                refine l_val (v := .bool (decide (((((beganL (endedS z) T) ++ (beganS z)).length : Nat) : Int) ≠ (((pairsS (toldS z)).length : Nat) : Int)))) rfl rfl rfl (e_move) ?_
                refine l_split (s := 138) (p := ((((beganL (endedS z) T) ++ (beganS z)).length : Nat) : Int) ≠ (((pairsS (toldS z)).length : Nat) : Int)) rfl (fun h => ?_) (fun h => ?_)
                exact absurd h (fun q => q (by omega))
                refine g_val (v := .slice p108 ((beganS (toldS z)).length) c109) rfl rfl rfl rfl rfl (e_move) ?_
                refine g_val (v := Nx ((beganS (toldS z)).length)) rfl rfl rfl rfl rfl (e_len (a := p108) (n := (beganS (toldS z)).length) (c := c109) rfl tf65) ?_
                refine g_val (v := .slice q110 ((endedS (toldS z)).length) d111) rfl rfl rfl rfl rfl (e_move) ?_
                refine g_val (v := Nx ((endedS (toldS z)).length)) rfl rfl rfl rfl rfl (e_len (a := q110) (n := (endedS (toldS z)).length) (c := d111) rfl tf65) ?_
                refine g_val (v := Nx (((beganS (toldS z)).length) + ((endedS (toldS z)).length))) rfl rfl rfl rfl rfl (e_add (a := (((beganS (toldS z)).length : Nat) : Int)) (b := (((endedS (toldS z)).length : Nat) : Int)) rfl rfl (i64n (by omega) (by omega))) ?_
                refine g_val (v := .bool (decide (((((beganS (toldS z)).length) + ((endedS (toldS z)).length) : Nat) : Int) ≠ (0 : Int)))) rfl rfl rfl rfl rfl (e_neq (a := ((((beganS (toldS z)).length) + ((endedS (toldS z)).length) : Nat) : Int)) (b := (0 : Int)) rfl rfl) ?_
                refine l_val (v := .bool (decide (((((beganS (toldS z)).length) + ((endedS (toldS z)).length) : Nat) : Int) ≠ (0 : Int)))) rfl rfl rfl (e_pick_f rfl) ?_
                refine l_nil ?_
                refine f_then ?_
                refine c_if (((((beganS (toldS z)).length) + ((endedS (toldS z)).length) : Nat) : Int) ≠ (0 : Int)) rfl (fun hc112 => ?_) (fun hc112 => ?_)
                ·
                  exact absurd hc112 (fun q => q (by omega))
                ·
                  refine c_skip ?_
                  refine f_block ?_
                  refine f_then ?_
                  refine c_region ?_
                  refine l_val (v := Nx (i)) rfl rfl rfl (e_move) ?_
                  refine l_val (v := Nx (i + 1)) rfl rfl rfl (e_add (a := ((i : Nat) : Int)) (b := (1 : Int)) rfl rfl (i64n (by omega) (by omega))) ?_
                  refine l_val (v := Nx (i + 1)) rfl rfl rfl (e_assign) ?_
                  refine l_nil ?_
                  refine f_perm (L' := [rowF PairF 40 rp102 rc103 ((beganL (endedS z) T) ++ (beganS z)), spcR b1 (toldS (toldS z)), rowF PairF 40 p108 c109 (beganS (toldS z)), rowF PairF 40 q110 d111 (endedS (toldS z)), rowF PairF 40 p106 c107 (beganL (pairsS (toldS z)) ((beganL (endedS z) T) ++ (beganS z))), rowF PairF 40 p104 c105 (pairsS (toldS z)), rowF PairF 40 p99 c100 (beganL T (beganS z)), rowF PairF 40 p93 c94 (beganS z), rowF PairF 40 q95 d96 (endedS z), rowF PairF 40 tp tc T]) (perm_ix [6, 2, 0, 1, 3, 4, 5, 7, 8, 9] 10 rfl (by kernel_rfl) (by kernel_rfl)) ?_
                  refine f_mask (L' := [rowF PairF 40 rp102 rc103 ((beganL (endedS z) T) ++ (beganS z)), spcR b1 (toldS (toldS z))]) [true, true, false, false, false, false, false, false, false, false] rfl ?_
                  exact f_cut ⟨(i + 1, (toldS (toldS z)), ((beganL (endedS z) T) ++ (beganS z)), rp102, rc103), ⟨⟨rfl, rfl, rfl, rfl, rfl⟩, rfl, ⟨by omega, told_ok (told_ok hz), hc4, hzl⟩⟩, (show 40 - (i + 1) < 40 - i from by omega)⟩
      ·
        refine c_exit ?_
        refine f_then_exit ?_
        refine f_then_exit ?_
        refine f_exit ?_
        refine f_then ?_
        refine c_seq ?_
        refine c_region ?_
        refine l_val (v := .bool true) rfl rfl rfl (e_assign) ?_
        refine l_nil ?_
        refine f_then ?_
        refine c_ret ?_
        refine ret1 Try.results7 (v := .bool true) rfl ?_
        intro w hw
        exact ⟨rfl, st_mask [false, false] rfl hw⟩
    ·
      refine l_skip rfl rfl rfl rfl rfl rfl ?_
      refine l_skip rfl rfl rfl rfl rfl rfl ?_
      refine l_skip rfl rfl rfl rfl rfl rfl ?_
      refine l_skip rfl rfl rfl rfl rfl rfl ?_
      refine l_val (v := .bool false) rfl rfl rfl (e_pick_f rfl) ?_
      refine l_nil ?_
      refine f_then ?_
      refine c_no rfl ?_
      refine c_exit ?_
      refine f_then_exit ?_
      refine f_then_exit ?_
      refine f_exit ?_
      refine f_then ?_
      refine c_seq ?_
      refine c_region ?_
      refine l_val (v := .bool true) rfl rfl rfl (e_assign) ?_
      refine l_nil ?_
      refine f_then ?_
      refine c_ret ?_
      refine ret1 Try.results7 (v := .bool true) rfl ?_
      intro w hw
      exact ⟨rfl, st_mask [false, false] rfl hw⟩
  ·
    refine l_skip rfl rfl rfl rfl rfl rfl ?_
    refine l_skip rfl rfl rfl rfl rfl rfl ?_
    refine l_val (v := .bool false) rfl rfl rfl (e_pick_f rfl) ?_
    refine l_val (v := .bool false) rfl rfl rfl (e_move) ?_
    refine l_skip rfl rfl rfl rfl rfl rfl ?_
    refine l_skip rfl rfl rfl rfl rfl rfl ?_
    refine l_skip rfl rfl rfl rfl rfl rfl ?_
    refine l_skip rfl rfl rfl rfl rfl rfl ?_
    refine l_val (v := .bool false) rfl rfl rfl (e_pick_f rfl) ?_
    refine l_nil ?_
    refine f_then ?_
    refine c_no rfl ?_
    refine c_exit ?_
    refine f_then_exit ?_
    refine f_then_exit ?_
    refine f_exit ?_
    refine f_then ?_
    refine c_seq ?_
    refine c_region ?_
    refine l_val (v := .bool true) rfl rfl rfl (e_assign) ?_
    refine l_nil ?_
    refine f_then ?_
    refine c_ret ?_
    refine ret1 Try.results7 (v := .bool true) rfl ?_
    intro w hw
    exact ⟨rfl, st_mask [false, false] rfl hw⟩
end Go.Proofs
