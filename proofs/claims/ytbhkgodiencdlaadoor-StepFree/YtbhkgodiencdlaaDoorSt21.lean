/-
 StepFree, walked. Printed by a program of my own.
-/
import Derived.Test.YtbhkgodiencdlaaDoorSt20
import Derived.Test.YtbhkgodiencdlaaDoorStFree
namespace Go.Proofs
open Go Go.Sl Go.Stp
section
variable {P : Program} {ro : Option Nat} {n : Nat} {ds : List Deferred} {β : Base} {Q : Exit → Act → World → Prop} {f : Fm} {L : List Res} {ops : Array Oper} {rest : List Oper}
variable {d : Option Tmp} {ty : TypeId} {ps : String} {af : Array Edge} {g : Option (Nat × Bool)}
theorem e_indexArrK {x y : Operand} {t len e n k b o : Nat} {ik : IntKind} (hx : ev f x = .pointer (some ⟨b, o, none⟩)) (hy : ev f y = .int ik (k : Int)) (ht : arB P t len e n = true) (hk : k < len) :
  EV P β L f ⟨d, .indexAddr t x y, ty, ps, af, g⟩ (.pointer (some ⟨b, o + k * n, none⟩)) := fun w _ => by
 have e0 : (⟨b, o, none⟩ : Addr).add (k * n) = ⟨b, o + k * n, none⟩ := by unfold Addr.add; split <;> simp_all
 rw [← e0]
 unfold arB at ht
 simp only [Bool.and_eq_true] at ht
 obtain ⟨h1, h2⟩ := ht
 cases hu : P.underlying t with
 | none => rw [hu] at h1; cases h1
 | some dd =>
  rw [hu] at h1
  cases dd <;> simp only [] at h1 <;> try (cases h1)
  rename_i l' e'
  have he : l' = len ∧ e' = e := by simpa using h1
  obtain ⟨rfl, rfl⟩ := he
  cases hi : P.info? e' with
  | none => rw [hi] at h2; cases h2
  | some i =>
   rw [hi] at h2
   have hn : i.size = n := by simpa using h2
   simp only [execOp, hx, hy, Instr.indexAt, Instr.sureAddr, asIntOf, Sem.run_bind, run_underlying hu, Sem.run_pure, Result.andThen_ok]
   simp [hk, sizeOf, typeInfo, hi, hn]
end
structure KQ where
 m : Int
 s : Int
 v : Int
 n : Nat
abbrev quadE (q : KQ) : List Value := [Ix q.m, Ix q.s, Ix q.v, Nx q.n]
abbrev QuadF : Fl KQ := ⟨4, quadE, fun _ => rfl, fun _ => rfl, by decide⟩
theorem arr3_eq {a b c d e f : Int} : [Ix a, Ix b, Ix c] = [Ix d, Ix e, Ix f] ↔ a = d ∧ b = e ∧ c = f := by simp
theorem cnt_next {S : List KS} {j : Nat} {z : KS} {id : Int} {al : UInt8} (hz : S[j]? = some z) : cnt (S.take (j + 1)) id al = cnt (S.take j) id al + if z.id = id ∧ z.along = al then 1 else 0 := by
 unfold cnt
 rw [List.take_add_one, hz, List.filter_append, List.countP_append]
 by_cases h1 : z.id = id <;> by_cases h2 : z.along = al <;> simp [h1, h2]
theorem cnt_take (S : List KS) (j : Nat) (id : Int) (al : UInt8) : cnt (S.take j) id al ≤ cnt S id al := ((List.take_sublist j S).filter _).countP_le
theorem alone_next {bs : List KB} {gx gy : Int} {a y : KB} {i k : Nat} (h : ∀ k' o, k' < k → k' ≠ i → bs[k']? = some o → ¬ meets (reachB gx gy a) (reachB gx gy o)) (hy : bs[k]? = some y) (hn : k ≠ i → ¬ meets (reachB gx gy a) (reachB gx gy y)) : ∀ k' o, k' < k + 1 → k' ≠ i → bs[k']? = some o → ¬ meets (reachB gx gy a) (reachB gx gy o) := fun k' o h1 h2 h3 => by
 by_cases e : k' = k
 ·subst e; rw [hy] at h3; injection h3 with h3; rw [← h3]; exact hn h2
 ·exact h k' o (by omega) h2 h3
theorem rope_next {R : List KR} {k : Nat} {r : KR} {id : Int} (h : ∀ r ∈ R.take k, r.a ≠ id ∧ r.b ≠ id) (hr : R[k]? = some r) (h1 : r.a ≠ id) (h2 : r.b ≠ id) : ∀ r ∈ R.take (k + 1), r.a ≠ id ∧ r.b ≠ id := by
 rw [List.take_add_one, hr]
 intro z hz
 rcases List.mem_append.1 hz with hz | hz
 ·exact h z hz
 ·simp at hz; rw [hz]; exact ⟨h1, h2⟩
theorem tf147 : (Tryd.prog.info? 65).bind (·.zero) = some (.agg #[.int .i64 (0), .int .i64 (0), .int .i64 (0)]) := by kernel_rfl
theorem tf148 : fldB Tryd.prog 45 0 0 1 false = true := by kernel_rfl
theorem tf149 : fldB Tryd.prog 45 1 1 1 false = true := by kernel_rfl
theorem tf150 : arB Tryd.prog 65 3 3 1 = true := by kernel_rfl
theorem tf151 : tyB Tryd.prog 65 true 3 = true := by kernel_rfl
theorem tf152 : lay Tryd.prog 10000 65 = some [.int .i64, .int .i64, .int .i64] := by kernel_rfl
theorem tf153 : isAggT Tryd.prog 65 = true := by kernel_rfl
theorem tf154 : Tryd.prog.eqGuardType Tryd.prog.depth 65 = false := by kernel_rfl
theorem tf155 : arB Tryd.prog 66 4 3 1 = true := by kernel_rfl
theorem tf156 : (Tryd.prog.info? 66).bind (·.zero) = some (.agg #[.int .i64 (0), .int .i64 (0), .int .i64 (0), .int .i64 (0)]) := by kernel_rfl
theorem tf157 : slB Tryd.prog 67 66 4 = true := by kernel_rfl
theorem tf158 : Tryd.prog.underlying 67 = some (.slice 66) := by kernel_rfl
theorem tf159 : tyB Tryd.prog 66 true 4 = true := by kernel_rfl
set_option maxHeartbeats 4000000 in
theorem free_ok (β : Base) (w : World) (hw : St β [] w) (v u : Value) (fs : List KF) (us : List UInt8) (hs : Sl FormR β.heap v fs) (hu : Sl U8R β.heap u us) (gx gy : Int) (hgx8 : -128 ≤ gx ∧ gx ≤ 127) (hgy8 : -128 ≤ gy ∧ gy ≤ 127) (hG : GR β) : Calls Tryd.prog 9 #[v, u, .int .i8 gx, .int .i8 gy] w fun r w' => r = .returned (.bool true) ∧ St β [] w' := by
 refine enter (n := 284) Tryd.func9 rfl Tryd.ntmps9 rfl ?_ hw
 refine c_seq ?_
 refine c_region ?_
 refine l_val (v := .bool false) rfl rfl rfl (e_assign) ?_
 refine l_nil ?_
 refine f_then ?_
 refine c_seq ?_
 refine c_seq ?_
 refine c_region ?_
 refine l_call rfl rfl rfl (cl_value (fst := []) (cap := []) (vs := []) (all := []) tf137 rfl rfl rfl) ?_
 intro w hw
 obtain ⟨β1, sb, kn, hw1, back⟩ := St.frame_all hw
 have hG1 := GR.mono sb hG
 refine (awake_ok β1 w hw1 hG1).mono ?_
 rintro e w' ⟨rfl, hw'⟩
 refine ⟨_, rfl, _, back _ _ hw', ?_⟩
 clear hw hw1 hw' back kn sb
 refine l_val (v := .bool false) rfl rfl rfl (e_not (a := true) rfl) ?_
 refine l_nil ?_
 refine f_then ?_
 refine c_no rfl ?_
 refine c_skip ?_
 refine f_then ?_
 refine c_seq ?_
 refine c_region ?_
 refine l_val (v := v) rfl rfl rfl (e_move) ?_
 refine l_val (v := u) rfl rfl rfl (e_move) ?_
 refine l_val (v := .int .i8 (gx)) rfl rfl rfl (e_move) ?_
 refine l_val (v := .int .i8 (gy)) rfl rfl rfl (e_move) ?_
 refine l_call rfl rfl rfl (cl_value (fst := []) (cap := []) (vs := [v, u, .int .i8 (gx), .int .i8 (gy)]) (all := [v, u, .int .i8 (gx), .int .i8 (gy)]) tf138 rfl rfl rfl) ?_
 intro w hw
 obtain ⟨β1, sb, kn, hw1, back⟩ := St.frame_all hw
 refine (made8_ok β1 w hw1 _ _ fs us (Sl.mono _ _ _ _ _ sb hs) (Sl.mono _ _ _ _ _ sb hu) gx gy hgx8 hgy8).mono ?_
 rintro e w' ⟨bs, R, p1, c2, p3, c4, rfl, hmP, hbl, hRu, hw'⟩
 refine ⟨_, rfl, _, back _ _ hw', ?_⟩
 clear hw hw1 hw' back kn sb
 refine l_mv rfl rfl rfl (m_alloc tf85) ?_
 rintro _ _ ⟨b5, rfl, rfl⟩
 refine l_mu rfl rfl (m_store 0 tf86 (b := b5) (o := 0) (T := 27) (cs := #[.slice none 0 0, .slice none 0 0, .int .i64 (0), .int .i64 (0)]) (cs' := #[.slice p1 (bs.length) c2, .slice p3 (R.length) c4, Ix (Int.tmod gx 32), Ix (Int.tmod gy 32)]) (v := .agg #[.slice p1 (bs.length) c2, .slice p3 (R.length) c4, Ix (Int.tmod gx 32), Ix (Int.tmod gy 32)]) rfl rfl rfl rfl rfl rfl rfl) ?_
 refine l_nil ?_
 refine f_then ?_
 refine c_seq ?_
 have hgX := tmod_bd gx
 have hgY := tmod_bd gy
 obtain ⟨gX, hgx1⟩ : ∃ z, z = Int.tmod gx 32 := ⟨_, rfl⟩
 obtain ⟨gY, hgy1⟩ : ∃ z, z = Int.tmod gy 32 := ⟨_, rfl⟩
 rw [← hgx1] at hgX hmP
 rw [← hgy1] at hgY hmP
 rw [← hgx1, ← hgy1]
 have hokS := hmP.ok
 obtain ⟨o1, o2, o3, o4, o5, o6⟩ := id hokS
 have hov := hokS.2.2.1
 obtain ⟨T, S, hTS⟩ : ∃ T S, stepsTo R gX gY bs bs.length = (T, S) := ⟨_, _, rfl⟩
 have hT1 : (stepsTo R gX gY bs bs.length).1 = T := by rw [hTS]
 have hS1 : (stepsTo R gX gY bs bs.length).2 = S := by rw [hTS]
 have hokT : okS T R gX gY := by rw [← hT1]; exact okS_step hokS _
 have hTl : T.length = bs.length := by rw [← hT1]; exact (step_keeps hokS.2.2.2.1 _).1.len
 have hSa : ∀ s ∈ S, s.along = 1 ∨ s.along = 2 := by rw [← hS1]; exact stops_along _
 refine c_region ?_
 refine l_val (v := .agg #[.slice p1 (bs.length) c2, .slice p3 (R.length) c4, Ix (gX), Ix (gY)]) rfl rfl rfl (e_load tf86 (cs := [.slice p1 (bs.length) c2, .slice p3 (R.length) c4, Ix (gX), Ix (gY)]) rfl (k_pt 0 (cs := #[.slice p1 (bs.length) c2, .slice p3 (R.length) c4, Ix (gX), Ix (gY)]) (vs := [.slice p1 (bs.length) c2, .slice p3 (R.length) c4, Ix (gX), Ix (gY)]) rfl rfl) rfl) ?_
 refine l_call rfl rfl rfl (cl_value (fst := []) (cap := []) (vs := [.agg #[.slice p1 (bs.length) c2, .slice p3 (R.length) c4, Ix (gX), Ix (gY)]]) (all := [.agg #[.slice p1 (bs.length) c2, .slice p3 (R.length) c4, Ix (gX), Ix (gY)]]) tf104 rfl rfl rfl) ?_
 intro w hw
 obtain ⟨β1, sb, kn, hw1, back⟩ := St.frame_all hw
 refine (stepY_ok β1 w hw1 _ _ gX gY bs R (kn _ (k_flN 1 (F := BodyF) (m := bs.length) (xs := bs) rfl rfl)) (kn _ (k_flN 2 (F := RopeF) (m := R.length) (xs := R) rfl rfl)) (by omega) (by omega) (GR.mono sb hG) hokS T S hTS).mono ?_
 rintro e w' ⟨p6, c7, p8, c9, p10, c11, rfl, hw'⟩
 refine ⟨_, rfl, _, back _ _ hw', ?_⟩
 clear hw hw1 hw' back kn sb
 refine l_val (v := .tuple #[.agg #[.slice p6 (bs.length) c7, .slice p8 (R.length) c9, Ix (gX), Ix (gY)], .slice p10 (S.length) c11, .int .i64 (0)]) rfl rfl rfl (e_move) ?_
 refine l_val (v := .agg #[.slice p6 (bs.length) c7, .slice p8 (R.length) c9, Ix (gX), Ix (gY)]) rfl rfl rfl (e_extract (vs := #[.agg #[.slice p6 (bs.length) c7, .slice p8 (R.length) c9, Ix (gX), Ix (gY)], .slice p10 (S.length) c11, .int .i64 (0)]) rfl rfl) ?_
 refine l_val (v := .slice p10 (S.length) c11) rfl rfl rfl (e_extract (vs := #[.agg #[.slice p6 (bs.length) c7, .slice p8 (R.length) c9, Ix (gX), Ix (gY)], .slice p10 (S.length) c11, .int .i64 (0)]) rfl rfl) ?_
 refine l_val (v := .int .i64 (0)) rfl rfl rfl (e_extract (vs := #[.agg #[.slice p6 (bs.length) c7, .slice p8 (R.length) c9, Ix (gX), Ix (gY)], .slice p10 (S.length) c11, .int .i64 (0)]) rfl rfl) ?_
 refine l_mv rfl rfl rfl (m_alloc tf85) ?_
 rintro _ _ ⟨b12, rfl, rfl⟩
 refine l_mu rfl rfl (m_store 0 tf86 (b := b12) (o := 0) (T := 27) (cs := #[.slice none 0 0, .slice none 0 0, .int .i64 (0), .int .i64 (0)]) (cs' := #[.slice p6 (bs.length) c7, .slice p8 (R.length) c9, Ix (gX), Ix (gY)]) (v := .agg #[.slice p6 (bs.length) c7, .slice p8 (R.length) c9, Ix (gX), Ix (gY)]) rfl rfl rfl rfl rfl rfl rfl) ?_
 refine l_val (v := .slice p10 (S.length) c11) rfl rfl rfl (e_assign) ?_
 refine l_val (v := .int .i64 (0)) rfl rfl rfl (e_assign) ?_
 refine l_nil ?_
 refine f_then ?_
 refine c_seq ?_
 refine c_seq ?_
 refine c_region ?_
 refine l_val (v := .int .i64 (0)) rfl rfl rfl (e_move) ?_
 refine l_val (v := .bool false) rfl rfl rfl (e_neq (a := (0 : Int)) (b := (0 : Int)) rfl rfl) ?_
 refine l_val (v := .bool false) rfl rfl rfl (e_move) ?_
 refine g_val (v := .pointer (some ⟨b12, 0, none⟩)) rfl rfl rfl rfl rfl (e_fieldPt (b := b12) (o := 0) rfl tf49) ?_
 refine g_val (v := .slice p6 (bs.length) c7) rfl rfl rfl rfl rfl (e_load1 tf50 (v := .slice p6 (bs.length) c7) rfl (k_pt 0 (cs := #[.slice p6 (bs.length) c7, .slice p8 (R.length) c9, Ix (gX), Ix (gY)]) (vs := [.slice p6 (bs.length) c7]) rfl rfl)) ?_
 refine g_val (v := Nx (bs.length)) rfl rfl rfl rfl rfl (e_len (a := p6) (n := bs.length) (c := c7) rfl tf40) ?_
 refine g_val (v := .pointer (some ⟨b5, 0, none⟩)) rfl rfl rfl rfl rfl (e_fieldPt (b := b5) (o := 0) rfl tf49) ?_
 refine g_val (v := .slice p1 (bs.length) c2) rfl rfl rfl rfl rfl (e_load1 tf50 (v := .slice p1 (bs.length) c2) rfl (k_pt 4 (cs := #[.slice p1 (bs.length) c2, .slice p3 (R.length) c4, Ix (gX), Ix (gY)]) (vs := [.slice p1 (bs.length) c2]) rfl rfl)) ?_
 refine g_val (v := Nx (bs.length)) rfl rfl rfl rfl rfl (e_len (a := p1) (n := bs.length) (c := c2) rfl tf40) ?_
 refine g_val (v := .bool (decide (((bs.length : Nat) : Int) ≠ ((bs.length : Nat) : Int)))) rfl rfl rfl rfl rfl (e_neq (a := ((bs.length : Nat) : Int)) (b := ((bs.length : Nat) : Int)) rfl rfl) ?_
 refine l_val (v := .bool (decide (((bs.length : Nat) : Int) ≠ ((bs.length : Nat) : Int)))) rfl rfl rfl (e_pick_f rfl) ?_
 refine l_nil ?_
 refine f_then ?_
 refine c_if (((bs.length : Nat) : Int) ≠ ((bs.length : Nat) : Int)) rfl (fun hc13 => ?_) (fun hc13 => ?_)
 ·
  exact absurd hc13 (by omega)
 ·
  refine c_skip ?_
  refine f_then ?_
  refine c_seq ?_
  refine c_seq ?_
  refine c_perm (L' := [pt b12 (.cells #[.slice p6 (bs.length) c7, .slice p8 (R.length) c9, Ix (gX), Ix (gY)] 27), pt b5 (.cells #[.slice p1 (bs.length) c2, .slice p3 (R.length) c4, Ix (gX), Ix (gY)] 27), rowF BodyF 31 p6 c7 T, rowF RopeF 35 p8 c9 R, rowF StopF 45 p10 c11 S, rowF BodyF 31 p1 c2 bs, rowF RopeF 35 p3 c4 R]) (by exact (perm_ix [0, 4, 1, 2, 3, 5, 6] 7 rfl (by kernel_rfl) (by kernel_rfl))) ?_
  refine c_freeze2 (M := [pt b12 (.cells #[.slice p6 (bs.length) c7, .slice p8 (R.length) c9, Ix (gX), Ix (gY)] 27), pt b5 (.cells #[.slice p1 (bs.length) c2, .slice p3 (R.length) c4, Ix (gX), Ix (gY)] 27)]) (K := [rowF BodyF 31 p6 c7 T, rowF RopeF 35 p8 c9 R, rowF StopF 45 p10 c11 S, rowF BodyF 31 p1 c2 bs, rowF RopeF 35 p3 c4 R]) rfl (fun βf ext1 kn1 bk1 => ?_)
  have hsl0 : Sl KBR βf.heap (.slice p6 T.length c7) T := kn1 _ (k_fl 0 (F := BodyF) rfl)
  obtain ⟨-, hc0, hm0, he0⟩ := hsl0.parts
  have hsl1 : Sl KRR βf.heap (.slice p8 R.length c9) R := kn1 _ (k_fl 1 (F := RopeF) rfl)
  obtain ⟨-, hc1, hm1, he1⟩ := hsl1.parts
  have hsl2 : Sl StopR βf.heap (.slice p10 S.length c11) S := kn1 _ (k_fl 2 (F := StopF) rfl)
  obtain ⟨-, hc2, hm2, he2⟩ := hsl2.parts
  have hsl3 : Sl KBR βf.heap (.slice p1 bs.length c2) bs := kn1 _ (k_fl 3 (F := BodyF) rfl)
  obtain ⟨-, hc3, hm3, he3⟩ := hsl3.parts
  have hsl4 : Sl KRR βf.heap (.slice p3 R.length c4) R := kn1 _ (k_fl 4 (F := RopeF) rfl)
  obtain ⟨-, hc4, hm4, he4⟩ := hsl4.parts
  have hG := GR.mono ext1.sub hG
  refine c_re (L' := [pt b12 (.cells #[.slice p6 (T.length) (c7), .slice p8 (R.length) (c9), Ix (gX), Ix (gY)] 27), pt b5 (.cells #[.slice p1 (bs.length) (c2), .slice p3 (R.length) (c4), Ix (gX), Ix (gY)] 27)]) (by rw [hTl]) ?_
  refine c_region ?_
  refine l_val (v := .pointer (some ⟨b5, 0, none⟩)) rfl rfl rfl (e_fieldPt (b := b5) (o := 0) rfl tf49) ?_
  refine l_val (v := .slice p1 (bs.length) (c2)) rfl rfl rfl (e_load1 tf50 (v := .slice p1 (bs.length) (c2)) rfl (k_pt 1 (cs := #[.slice p1 (bs.length) (c2), .slice p3 (R.length) (c4), Ix (gX), Ix (gY)]) (vs := [.slice p1 (bs.length) (c2)]) rfl rfl)) ?_
  refine l_val (v := Nx (bs.length)) rfl rfl rfl (e_len (a := p1) (n := bs.length) (c := c2) rfl tf40) ?_
  refine l_val (v := .int .i64 (0)) rfl rfl rfl (e_move) ?_
  refine l_nil ?_
  refine f_then ?_
  refine c_block ?_
  refine c_mask [true, true] rfl ?_
  refine c_loop (fun (i : Nat) (f : Fm) (L : List Res) => (f 9 = .pointer (some ⟨b5, 0, none⟩) ∧ f 10 = .pointer (some ⟨b12, 0, none⟩) ∧ f 11 = .slice p10 (S.length) (c11) ∧ f 58 = .slice p1 (bs.length) (c2) ∧ f 59 = Nx (bs.length) ∧ f 60 = Nx (i)) ∧ L = [pt b12 (.cells #[.slice p6 (T.length) (c7), .slice p8 (R.length) (c9), Ix (gX), Ix (gY)] 27), pt b5 (.cells #[.slice p1 (bs.length) (c2), .slice p3 (R.length) (c4), Ix (gX), Ix (gY)] 27)] ∧ (i ≤ bs.length)) (fun (i : Nat) => bs.length - i) 0 ?_ ?_
  ·exact ⟨⟨rfl, rfl, rfl, rfl, rfl, rfl⟩, rfl, (by omega)⟩
  rintro i f0 L0 ⟨⟨hs9, hs10, hs11, hs58, hs59, hs60⟩, hL, hi⟩
  subst L0
  refine rebase (d := 9) hs9 ?_
  refine rebase (d := 10) hs10 ?_
  refine rebase (d := 11) hs11 ?_
  refine rebase (d := 58) hs58 ?_
  refine rebase (d := 59) hs59 ?_
  refine rebase (d := 60) hs60 ?_
  clear hs9 hs10 hs11 hs58 hs59 hs60
  refine c_seq ?_
  refine c_region ?_
  refine l_val (v := .bool (decide (((i : Nat) : Int) < ((bs.length : Nat) : Int)))) rfl rfl rfl (e_lss (a := ((i : Nat) : Int)) (b := ((bs.length : Nat) : Int)) rfl rfl) ?_
  refine l_nil ?_
  refine f_then ?_
  refine c_seq ?_
  refine c_if (((i : Nat) : Int) < ((bs.length : Nat) : Int)) rfl (fun hc14 => ?_) (fun hc14 => ?_)
  ·
   refine c_skip ?_
   refine f_then ?_
   refine c_seq ?_
   refine c_block ?_
   refine c_seq ?_
   refine c_region ?_
   refine l_val (v := Nx (i)) rfl rfl rfl (e_move) ?_
   obtain ⟨x15, hx16⟩ : ∃ x_, (bs)[i]? = some x_ := ⟨_, List.getElem?_eq_getElem (by omega)⟩
   obtain ⟨ha17, cs18, hc19, rfl⟩ := he3 _ _ hx16
   refine l_val (v := .pointer (some ((ba p1).add (i * 9)))) rfl rfl rfl (e_indexAddr (k := i) (len := bs.length) (cap := c2) (a := p1) rfl rfl tf43 (by omega) ha17) ?_
   refine l_val (v := .agg (bC x15)) rfl rfl rfl (e_load tf22 (cs := (bodyE x15)) rfl (Knows.of_base (Cs.mono _ _) hc19) rfl) ?_
   refine l_mv rfl rfl rfl (m_alloc tf58) ?_
   rintro _ _ ⟨b21, rfl, rfl⟩
   refine l_val (v := Nx (i)) rfl rfl rfl (e_assign) ?_
   refine l_mu rfl rfl (m_store 0 tf22 (b := b21) (o := 0) (T := 31) (cs := #[.int .i64 (0), .int .i64 (0), .int .i64 (0), .int .i64 (0), .int .i64 (0), .int .i64 (0), .int .i64 (0), .bool false, .bool false]) (cs' := (bC x15)) (v := .agg (bC x15)) rfl rfl rfl rfl rfl rfl rfl) ?_
   refine l_nil ?_
   refine f_then ?_
   refine c_seq ?_
   obtain ⟨x22, hx23⟩ : ∃ x_, (T)[i]? = some x_ := ⟨_, List.getElem?_eq_getElem (by omega)⟩
   obtain ⟨ha24, cs25, hc26, rfl⟩ := he0 _ _ hx23
   refine c_any [⟨[], [], [0], [65], fun f => f 65 = .agg (bC x15)⟩, ⟨[], [], [1], [66], fun f => f 66 = .pointer (some ⟨b5, 2, none⟩)⟩, ⟨[1], [1], [], [67], fun f => f 67 = .agg #[Ix (gX), Ix (gY)]⟩, ⟨[0, 1, 2], [0, 2], [], [68], fun f => f 68 = .agg #[Ix (speedX x15 (gX) (gY)), Ix (speedY x15 (gX) (gY))]⟩, ⟨[], [], [2], [69], fun f => f 69 = .pointer (some ⟨b12, 0, none⟩)⟩, ⟨[4], [4], [], [70], fun f => f 70 = .slice p6 (T.length) (c7)⟩, ⟨[], [], [3], [71], fun f => f 71 = Nx (i)⟩, ⟨[4, 5, 6], [5, 6], [], [72], fun f => f 72 = .pointer (some ((ba p6).add (i * 9)))⟩, ⟨[4, 5, 6, 7], [7], [], [73], fun f => f 73 = .agg (bC x22)⟩, ⟨[], [], [], [15], fun f => f 15 = .pointer (some ⟨(blk (f 15)), 0, none⟩)⟩, ⟨[], [], [], [16], fun f => f 16 = .pointer (some ⟨(blk (f 16)), 0, none⟩)⟩, ⟨[0, 1, 2, 3, 9, 10], [9, 3], [], [], fun _ => True⟩, ⟨[0, 1, 2, 3, 4, 5, 6, 7, 8, 9, 10, 11], [10, 8], [], [], fun _ => True⟩] [⟨none, none, [0], [], fun _ => pt b21 (.cells (bC x15) 31)⟩, ⟨none, none, [5], [], fun _ => pt b12 (.cells #[.slice p6 (T.length) (c7), .slice p8 (R.length) (c9), Ix (gX), Ix (gY)] 27)⟩, ⟨none, none, [2], [], fun _ => pt b5 (.cells #[.slice p1 (bs.length) (c2), .slice p3 (R.length) (c4), Ix (gX), Ix (gY)] 27)⟩, ⟨(some 9), (some 11), [11], [15], fun f => pt (blk (f 15)) (.cells #[.int .i64 (0), .int .i64 (0)] 25)⟩, ⟨(some 10), (some 12), [12], [16], fun f => pt (blk (f 16)) (.cells #[.int .i64 (0), .int .i64 (0), .int .i64 (0), .int .i64 (0), .int .i64 (0), .int .i64 (0), .int .i64 (0), .bool false, .bool false] 31)⟩, ⟨(some 11), none, [], [15], fun f => pt (blk (f 15)) (.cells #[Ix (speedX x15 (gX) (gY)), Ix (speedY x15 (gX) (gY))] 25)⟩, ⟨(some 12), none, [], [16], fun f => pt (blk (f 16)) (.cells (bC x22) 31)⟩] [(14, .pointer (some ⟨b21, 0, none⟩)), (9, .pointer (some ⟨b5, 0, none⟩)), (10, .pointer (some ⟨b12, 0, none⟩)), (13, Nx (i)), (11, .slice p10 (S.length) (c11)), (58, .slice p1 (bs.length) (c2)), (59, Nx (bs.length)), (60, Nx (i))] [1, 2, 4, 3, 0, 5, 6, 7] [] (by kernel_rfl) (by kernel_rfl) (by kernel_rfl) (by kernel_rfl) rfl ⟨rfl, rfl, rfl, rfl, rfl, rfl, rfl, rfl, trivial⟩ ⟨?_, ?_, ?_, ?_, ?_, ?_, ?_, ?_, ?_, ?_, ?_, ?_, ?_, trivial⟩ ?_
   ·rintro f M - ⟨i0, -⟩
    have hs14 : f 14 = .pointer (some ⟨b21, 0, none⟩) := i0
    refine ob_start (L' := pt b21 (.cells (bC x15) 31) :: M) (by rfl) (up_cons rfl hs14) ?_
    refine l_val (v := .agg (bC x15)) rfl rfl rfl (e_load tf22 (cs := (bodyE x15)) rfl (k_pt 0 (cs := (bC x15)) (vs := (bodyE x15)) rfl rfl) rfl) ?_
    refine l_nil ?_
    exact f_owes_d (up_cons rfl hs14) rfl (perm_front 0 rfl)
   ·rintro f M - ⟨i0, -⟩
    have hs9 : f 9 = .pointer (some ⟨b5, 0, none⟩) := i0
    refine ob_start (L' := M) (by rfl) (up_cons rfl hs9) ?_
    refine l_val (v := .pointer (some ⟨b5, 2, none⟩)) rfl rfl rfl (e_fieldPt (b := b5) (o := 0) rfl tf57) ?_
    refine l_nil ?_
    exact f_owes_d (up_cons rfl hs9) rfl (List.Perm.refl _)
   ·rintro f M ⟨k0, -⟩ -
    have hs66 : f 66 = .pointer (some ⟨b5, 2, none⟩) := k0
    refine ob_start (L' := pt b5 (.cells #[.slice p1 (bs.length) (c2), .slice p3 (R.length) (c4), Ix (gX), Ix (gY)] 27) :: M) (by rfl) (up_cons rfl hs66) ?_
    refine l_val (v := .agg #[Ix (gX), Ix (gY)]) rfl rfl rfl (e_load tf15 (cs := [Ix (gX), Ix (gY)]) rfl (k_pt 0 (cs := #[.slice p1 (bs.length) (c2), .slice p3 (R.length) (c4), Ix (gX), Ix (gY)]) (vs := [Ix (gX), Ix (gY)]) rfl rfl) rfl) ?_
    refine l_nil ?_
    exact f_owes_d (up_cons rfl hs66) rfl (perm_front 0 rfl)
   ·rintro f M ⟨k0, k1, -⟩ -
    have hs65 : f 65 = .agg (bC x15) := k0
    have hs67 : f 67 = .agg #[Ix (gX), Ix (gY)] := k1
    refine ob_start (L' := M) (by rfl) (up_cons (up_cons rfl hs65) hs67) ?_
    refine l_call rfl rfl rfl (cl_value (fst := []) (cap := []) (vs := [.agg (bC x15), .agg #[Ix (gX), Ix (gY)]]) (all := [.agg (bC x15), .agg #[Ix (gX), Ix (gY)]]) tf91 rfl rfl rfl) ?_
    intro w hw
    obtain ⟨β1, sb, kn, hw1, back⟩ := St.frame_all hw
    refine (speed_ok β1 w hw1 x15 (gX) (gY) (by omega) (by omega)).mono ?_
    rintro e w' ⟨rfl, hw'⟩
    refine ⟨_, rfl, _, back _ _ hw', ?_⟩
    clear hw hw1 hw' back kn sb
    refine l_nil ?_
    exact f_owes_d (up_cons (up_cons rfl hs65) hs67) rfl (List.Perm.refl _)
   ·rintro f M - ⟨i0, -⟩
    have hs10 : f 10 = .pointer (some ⟨b12, 0, none⟩) := i0
    refine ob_start (L' := M) (by rfl) (up_cons rfl hs10) ?_
    refine l_val (v := .pointer (some ⟨b12, 0, none⟩)) rfl rfl rfl (e_fieldPt (b := b12) (o := 0) rfl tf49) ?_
    refine l_nil ?_
    exact f_owes_d (up_cons rfl hs10) rfl (List.Perm.refl _)
   ·rintro f M ⟨k0, -⟩ -
    have hs69 : f 69 = .pointer (some ⟨b12, 0, none⟩) := k0
    refine ob_start (L' := pt b12 (.cells #[.slice p6 (T.length) (c7), .slice p8 (R.length) (c9), Ix (gX), Ix (gY)] 27) :: M) (by rfl) (up_cons rfl hs69) ?_
    refine l_val (v := .slice p6 (T.length) (c7)) rfl rfl rfl (e_load1 tf50 (v := .slice p6 (T.length) (c7)) rfl (k_pt 0 (cs := #[.slice p6 (T.length) (c7), .slice p8 (R.length) (c9), Ix (gX), Ix (gY)]) (vs := [.slice p6 (T.length) (c7)]) rfl rfl)) ?_
    refine l_nil ?_
    exact f_owes_d (up_cons rfl hs69) rfl (perm_front 0 rfl)
   ·rintro f M - ⟨i0, -⟩
    have hs13 : f 13 = Nx (i) := i0
    refine ob_start (L' := M) (by rfl) (up_cons rfl hs13) ?_
    refine l_val (v := Nx (i)) rfl rfl rfl (e_move) ?_
    refine l_nil ?_
    exact f_owes_d (up_cons rfl hs13) rfl (List.Perm.refl _)
   ·rintro f M ⟨k0, k1, -⟩ -
    have hs70 : f 70 = .slice p6 (T.length) (c7) := k0
    have hs71 : f 71 = Nx (i) := k1
    refine ob_start (L' := M) (by rfl) (up_cons (up_cons rfl hs70) hs71) ?_
    refine l_val (v := .pointer (some ((ba p6).add (i * 9)))) rfl rfl rfl (e_indexAddr (k := i) (len := T.length) (cap := c7) (a := p6) rfl rfl tf43 (by omega) ha24) ?_
    refine l_nil ?_
    exact f_owes_d (up_cons (up_cons rfl hs70) hs71) rfl (List.Perm.refl _)
   ·rintro f M ⟨k0, -⟩ -
    have hs72 : f 72 = .pointer (some ((ba p6).add (i * 9))) := k0
    refine ob_start (L' := M) (by rfl) (up_cons rfl hs72) ?_
    refine l_val (v := .agg (bC x22)) rfl rfl rfl (e_load tf22 (cs := (bodyE x22)) rfl (Knows.of_base (Cs.mono _ _) hc26) rfl) ?_
    refine l_nil ?_
    exact f_owes_d (up_cons rfl hs72) rfl (List.Perm.refl _)
   ·rintro f M - -
    refine ob_start (L' := M) (by rfl) rfl ?_
    refine l_mv rfl rfl rfl (m_alloc tf17) ?_
    rintro _ _ ⟨b29, rfl, rfl⟩
    refine l_nil ?_
    exact f_owes_d rfl rfl (perm_front 0 rfl)
   ·rintro f M - -
    refine ob_start (L' := M) (by rfl) rfl ?_
    refine l_mv rfl rfl rfl (m_alloc tf58) ?_
    rintro _ _ ⟨b31, rfl, rfl⟩
    refine l_nil ?_
    exact f_owes_d rfl rfl (perm_front 0 rfl)
   ·rintro f M ⟨k0, k1, -⟩ -
    have hs15 : f 15 = .pointer (some ⟨(blk (f 15)), 0, none⟩) := k0
    have hs68 : f 68 = .agg #[Ix (speedX x15 (gX) (gY)), Ix (speedY x15 (gX) (gY))] := k1
    refine ob_start (L' := pt (blk (f 15)) (.cells #[.int .i64 (0), .int .i64 (0)] 25) :: M) (by rfl) (up_cons (up_cons rfl hs15) hs68) ?_
    refine l_mu rfl rfl (m_store 0 tf15 (b := (blk (f 15))) (o := 0) (T := 25) (cs := #[.int .i64 (0), .int .i64 (0)]) (cs' := #[Ix (speedX x15 (gX) (gY)), Ix (speedY x15 (gX) (gY))]) (v := .agg #[Ix (speedX x15 (gX) (gY)), Ix (speedY x15 (gX) (gY))]) rfl rfl rfl rfl rfl rfl rfl) ?_
    refine l_nil ?_
    exact f_owes_n (up_cons (up_cons rfl hs15) hs68) trivial (perm_front 0 rfl)
   ·rintro f M ⟨k0, k1, -⟩ -
    have hs16 : f 16 = .pointer (some ⟨(blk (f 16)), 0, none⟩) := k0
    have hs73 : f 73 = .agg (bC x22) := k1
    refine ob_start (L' := pt (blk (f 16)) (.cells #[.int .i64 (0), .int .i64 (0), .int .i64 (0), .int .i64 (0), .int .i64 (0), .int .i64 (0), .int .i64 (0), .bool false, .bool false] 31) :: M) (by rfl) (up_cons (up_cons rfl hs16) hs73) ?_
    refine l_mu rfl rfl (m_store 0 tf22 (b := (blk (f 16))) (o := 0) (T := 31) (cs := #[.int .i64 (0), .int .i64 (0), .int .i64 (0), .int .i64 (0), .int .i64 (0), .int .i64 (0), .int .i64 (0), .bool false, .bool false]) (cs' := (bC x22)) (v := .agg (bC x22)) rfl rfl rfl rfl rfl rfl rfl) ?_
    refine l_nil ?_
    exact f_owes_n (up_cons (up_cons rfl hs16) hs73) trivial (perm_front 0 rfl)
   rintro fa32 ⟨-, -, -, -, -, -, -, -, -, k9, k10, -, -, -⟩ ⟨j0, j1, j2, j3, j4, j5, j6, j7, -⟩
   refine f_re (L' := [pt b21 (.cells (bC x15) 31), pt b12 (.cells #[.slice p6 (T.length) (c7), .slice p8 (R.length) (c9), Ix (gX), Ix (gY)] 27), pt b5 (.cells #[.slice p1 (bs.length) (c2), .slice p3 (R.length) (c4), Ix (gX), Ix (gY)] 27), pt (blk (fa32 15)) (.cells #[Ix (speedX x15 (gX) (gY)), Ix (speedY x15 (gX) (gY))] 25), pt (blk (fa32 16)) (.cells (bC x22) 31)]) (by rfl) ?_
   refine f_rebase (d := 9) (v := .pointer (some ⟨b5, 0, none⟩)) j0 ?_
   refine f_rebase (d := 10) (v := .pointer (some ⟨b12, 0, none⟩)) j1 ?_
   refine f_rebase (d := 11) (v := .slice p10 (S.length) (c11)) j2 ?_
   refine f_rebase (d := 13) (v := Nx (i)) j3 ?_
   refine f_rebase (d := 14) (v := .pointer (some ⟨b21, 0, none⟩)) j4 ?_
   refine f_rebase (d := 15) (v := .pointer (some ⟨(blk (fa32 15)), 0, none⟩)) k9 ?_
   refine f_rebase (d := 16) (v := .pointer (some ⟨(blk (fa32 16)), 0, none⟩)) k10 ?_
   refine f_rebase (d := 58) (v := .slice p1 (bs.length) (c2)) j5 ?_
   refine f_rebase (d := 59) (v := Nx (bs.length)) j6 ?_
   refine f_rebase (d := 60) (v := Nx (i)) j7 ?_
   refine f_then ?_
   refine c_seq ?_
   have ok_x15 := o4 x15 (List.mem_of_getElem? hx16)
   have ok_x22 := hokT.2.2.2.1 x22 (List.mem_of_getElem? hx23)
   have kp1 := ok_x15.2.1
   have kp2 := ok_x15.2.2.1
   have kq1 := ok_x22.2.1
   have kq2 := ok_x22.2.2.1
   have hF := free_law hokS hTS hx16 hx23 (hmP.bodies.2.2 x15 (List.mem_of_getElem? hx16))
   refine c_region ?_
   refine l_mv rfl rfl rfl (m_alloc tf147) ?_
   rintro _ _ ⟨b33, rfl, rfl⟩
   refine l_nil ?_
   refine f_then ?_
   refine c_seq ?_
   refine c_seq ?_
   refine c_region ?_
   refine l_val (v := .slice p10 (S.length) (c11)) rfl rfl rfl (e_move) ?_
   refine l_val (v := Nx (S.length)) rfl rfl rfl (e_len (a := p10) (n := S.length) (c := c11) rfl tf105) ?_
   refine l_val (v := .int .i64 (0)) rfl rfl rfl (e_move) ?_
   refine l_nil ?_
   refine f_then ?_
   refine c_block ?_
   refine c_mask [true, true, true, true, true, true] rfl ?_
   refine c_loop (fun (x_ : Nat × Nat × Nat) (f : Fm) (L : List Res) => match x_ with | (j, n1, n2) => (f 9 = .pointer (some ⟨b5, 0, none⟩) ∧ f 10 = .pointer (some ⟨b12, 0, none⟩) ∧ f 11 = .slice p10 (S.length) (c11) ∧ f 13 = Nx (i) ∧ f 14 = .pointer (some ⟨b21, 0, none⟩) ∧ f 15 = .pointer (some ⟨(blk (fa32 15)), 0, none⟩) ∧ f 16 = .pointer (some ⟨(blk (fa32 16)), 0, none⟩) ∧ f 17 = .pointer (some ⟨b33, 0, none⟩) ∧ f 58 = .slice p1 (bs.length) (c2) ∧ f 59 = Nx (bs.length) ∧ f 60 = Nx (i) ∧ f 74 = .slice p10 (S.length) (c11) ∧ f 75 = Nx (S.length) ∧ f 76 = Nx (j)) ∧ L = [pt b33 (.cells #[.int .i64 (0), Nx (n1), Nx (n2)] 65), pt b21 (.cells (bC x15) 31), pt b12 (.cells #[.slice p6 (T.length) (c7), .slice p8 (R.length) (c9), Ix (gX), Ix (gY)] 27), pt b5 (.cells #[.slice p1 (bs.length) (c2), .slice p3 (R.length) (c4), Ix (gX), Ix (gY)] 27), pt (blk (fa32 15)) (.cells #[Ix (speedX x15 (gX) (gY)), Ix (speedY x15 (gX) (gY))] 25), pt (blk (fa32 16)) (.cells (bC x22) 31)] ∧ (j ≤ S.length ∧ n1 = cnt (S.take j) x15.id 1 ∧ n2 = cnt (S.take j) x15.id 2)) (fun (x_ : Nat × Nat × Nat) => match x_ with | (j, n1, n2) => S.length - j) (0, 0, 0) ?_ ?_
   ·exact ⟨⟨rfl, rfl, rfl, rfl, rfl, rfl, rfl, rfl, rfl, rfl, rfl, rfl, rfl, rfl⟩, rfl, ⟨by omega, by simp [cnt], by simp [cnt]⟩⟩
   rintro ⟨j, n1, n2⟩ f0 L0 ⟨⟨hs9, hs10, hs11, hs13, hs14, hs15, hs16, hs17, hs58, hs59, hs60, hs74, hs75, hs76⟩, hL, ⟨hj, hc1, hc2⟩⟩
   subst L0
   refine rebase (d := 9) hs9 ?_
   refine rebase (d := 10) hs10 ?_
   refine rebase (d := 11) hs11 ?_
   refine rebase (d := 13) hs13 ?_
   refine rebase (d := 14) hs14 ?_
   refine rebase (d := 15) hs15 ?_
   refine rebase (d := 16) hs16 ?_
   refine rebase (d := 17) hs17 ?_
   refine rebase (d := 58) hs58 ?_
   refine rebase (d := 59) hs59 ?_
   refine rebase (d := 60) hs60 ?_
   refine rebase (d := 74) hs74 ?_
   refine rebase (d := 75) hs75 ?_
   refine rebase (d := 76) hs76 ?_
   clear hs9 hs10 hs11 hs13 hs14 hs15 hs16 hs17 hs58 hs59 hs60 hs74 hs75 hs76
   have hc1b := Nat.le_trans (cnt_take S j x15.id 1) hF.few.1
   have hc2b := Nat.le_trans (cnt_take S j x15.id 2) hF.few.2
   refine c_seq ?_
   refine c_region ?_
   refine l_val (v := .bool (decide (((j : Nat) : Int) < ((S.length : Nat) : Int)))) rfl rfl rfl (e_lss (a := ((j : Nat) : Int)) (b := ((S.length : Nat) : Int)) rfl rfl) ?_
   refine l_nil ?_
   refine f_then ?_
   refine c_seq ?_
   refine c_if (((j : Nat) : Int) < ((S.length : Nat) : Int)) rfl (fun hc34 => ?_) (fun hc34 => ?_)
   ·
    refine c_skip ?_
    refine f_then ?_
    refine c_seq ?_
    refine c_block ?_
    refine c_seq ?_
    refine c_region ?_
    obtain ⟨x35, hx36⟩ : ∃ x_, (S)[j]? = some x_ := ⟨_, List.getElem?_eq_getElem (by omega)⟩
    obtain ⟨ha37, cs38, hc39, rfl⟩ := he2 _ _ hx36
    refine l_val (v := .pointer (some ((ba p10).add (j * 3)))) rfl rfl rfl (e_indexAddr (k := j) (len := S.length) (cap := c11) (a := p10) rfl rfl tf100 (by omega) ha37) ?_
    refine l_val (v := .agg #[Ix (x35.id), Bx (x35.along), Ix (x35.by_)]) rfl rfl rfl (e_load tf106 (cs := [Ix (x35.id), Bx (x35.along), Ix (x35.by_)]) rfl (Knows.of_base (Cs.mono _ _) hc39) rfl) ?_
    refine l_mv rfl rfl rfl (m_alloc tf99) ?_
    rintro _ _ ⟨b41, rfl, rfl⟩
    refine l_mu rfl rfl (m_store 0 tf106 (b := b41) (o := 0) (T := 45) (cs := #[.int .i64 (0), .int .u8 (0), .int .i64 (0)]) (cs' := #[Ix (x35.id), Bx (x35.along), Ix (x35.by_)]) (v := .agg #[Ix (x35.id), Bx (x35.along), Ix (x35.by_)]) rfl rfl rfl rfl rfl rfl rfl) ?_
    refine l_nil ?_
    refine f_then ?_
    refine c_seq ?_
    refine c_region ?_
    refine l_val (v := .pointer (some ⟨b41, 0, none⟩)) rfl rfl rfl (e_fieldPt (b := b41) (o := 0) rfl tf148) ?_
    refine l_val (v := Ix (x35.id)) rfl rfl rfl (e_load1 tf2 (v := Ix (x35.id)) rfl (k_pt 0 (cs := #[Ix (x35.id), Bx (x35.along), Ix (x35.by_)]) (vs := [Ix (x35.id)]) rfl rfl)) ?_
    refine l_val (v := .pointer (some ⟨b21, 0, none⟩)) rfl rfl rfl (e_fieldPt (b := b21) (o := 0) rfl tf3) ?_
    refine l_val (v := Ix (x15.id)) rfl rfl rfl (e_load1 tf2 (v := Ix (x15.id)) rfl (k_pt 2 (cs := (bC x15)) (vs := [Ix (x15.id)]) rfl rfl)) ?_
    refine l_val (v := .bool (decide ((x35.id) = (x15.id)))) rfl rfl rfl (e_eql (a := (x35.id)) (b := (x15.id)) rfl rfl) ?_
    refine l_nil ?_
    refine f_then ?_
    refine c_if ((x35.id) = (x15.id)) rfl (fun hc42 => ?_) (fun hc42 => ?_)
    ·
     rcases hSa x35 (List.mem_of_getElem? hx36) with hal | hal
     ·
      refine c_re (L' := [pt b41 (.cells #[Ix (x35.id), .int .u8 (1), Ix (x35.by_)] 45), pt b33 (.cells #[.int .i64 (0), Nx (n1), Nx (n2)] 65), pt b21 (.cells (bC x15) 31), pt b12 (.cells #[.slice p6 (T.length) (c7), .slice p8 (R.length) (c9), Ix (gX), Ix (gY)] 27), pt b5 (.cells #[.slice p1 (bs.length) (c2), .slice p3 (R.length) (c4), Ix (gX), Ix (gY)] 27), pt (blk (fa32 15)) (.cells #[Ix (speedX x15 (gX) (gY)), Ix (speedY x15 (gX) (gY))] 25), pt (blk (fa32 16)) (.cells (bC x22) 31)]) (by rw [hal]; rfl) ?_
      refine c_region ?_
      refine l_val (v := .pointer (some ⟨b41, 1, none⟩)) rfl rfl rfl (e_fieldPt (b := b41) (o := 0) rfl tf149) ?_
      refine l_val (v := .int .u8 (1)) rfl rfl rfl (e_load1 tf97 (v := .int .u8 (1)) rfl (k_pt 0 (cs := #[Ix (x35.id), .int .u8 (1), Ix (x35.by_)]) (vs := [.int .u8 (1)]) rfl rfl)) ?_
      refine l_val (v := .int .u8 (1)) rfl rfl rfl (e_rem (a := (1 : Int)) (b := (3 : Int)) rfl rfl (by decide) (by decide)) ?_
      refine l_val (v := .pointer (some ⟨b33, 1, none⟩)) rfl rfl rfl (e_indexArrK (b := b33) (o := 0) (k := 1) rfl rfl tf150 (by decide)) ?_
      refine l_val (v := Nx (n1)) rfl rfl rfl (e_load1 tf2 (v := Nx (n1)) rfl (k_pt 1 (cs := #[.int .i64 (0), Nx (n1), Nx (n2)]) (vs := [Nx (n1)]) rfl rfl)) ?_
      refine l_val (v := Nx (n1 + 1)) rfl rfl rfl (e_add (a := ((n1 : Nat) : Int)) (b := (1 : Int)) rfl rfl (i64n (by omega) (by omega))) ?_
      refine l_val (v := .pointer (some ⟨b33, 1, none⟩)) rfl rfl rfl (e_indexArrK (b := b33) (o := 0) (k := 1) rfl rfl tf150 (by decide)) ?_
      refine l_mu rfl rfl (m_store 1 tf2 (b := b33) (o := 1) (T := 65) (cs := #[.int .i64 (0), Nx (n1), Nx (n2)]) (cs' := #[.int .i64 (0), Nx (n1 + 1), Nx (n2)]) (v := Nx (n1 + 1)) rfl rfl rfl rfl rfl rfl rfl) ?_
      refine l_nil ?_
      refine f_block ?_
      refine f_then ?_
      refine c_region ?_
      refine l_val (v := Nx (j + 1)) rfl rfl rfl (e_add (a := ((j : Nat) : Int)) (b := (1 : Int)) rfl rfl (i64n (by omega) (by omega))) ?_
      refine l_val (v := Nx (j + 1)) rfl rfl rfl (e_move) ?_
      refine l_nil ?_
      refine f_mask (L' := [pt b33 (.cells #[.int .i64 (0), Nx (n1 + 1), Nx (n2)] 65), pt b21 (.cells (bC x15) 31), pt b12 (.cells #[.slice p6 (T.length) (c7), .slice p8 (R.length) (c9), Ix (gX), Ix (gY)] 27), pt b5 (.cells #[.slice p1 (bs.length) (c2), .slice p3 (R.length) (c4), Ix (gX), Ix (gY)] 27), pt (blk (fa32 15)) (.cells #[Ix (speedX x15 (gX) (gY)), Ix (speedY x15 (gX) (gY))] 25), pt (blk (fa32 16)) (.cells (bC x22) 31)]) [false, true, true, true, true, true, true] rfl ?_
      exact f_cut ⟨(j + 1, n1 + 1, n2), ⟨⟨rfl, rfl, rfl, rfl, rfl, rfl, rfl, rfl, rfl, rfl, rfl, rfl, rfl, rfl⟩, rfl, ⟨by omega, by rw [cnt_next hx36, if_pos ⟨hc42, hal⟩, ← hc1], by rw [cnt_next hx36, if_neg fun h => by rw [hal] at h; exact absurd h.2 (by decide)]; exact hc2⟩⟩, (show S.length - (j + 1) < S.length - j from by omega)⟩
     ·
      refine c_re (L' := [pt b41 (.cells #[Ix (x35.id), .int .u8 (2), Ix (x35.by_)] 45), pt b33 (.cells #[.int .i64 (0), Nx (n1), Nx (n2)] 65), pt b21 (.cells (bC x15) 31), pt b12 (.cells #[.slice p6 (T.length) (c7), .slice p8 (R.length) (c9), Ix (gX), Ix (gY)] 27), pt b5 (.cells #[.slice p1 (bs.length) (c2), .slice p3 (R.length) (c4), Ix (gX), Ix (gY)] 27), pt (blk (fa32 15)) (.cells #[Ix (speedX x15 (gX) (gY)), Ix (speedY x15 (gX) (gY))] 25), pt (blk (fa32 16)) (.cells (bC x22) 31)]) (by rw [hal]; rfl) ?_
      refine c_region ?_
      refine l_val (v := .pointer (some ⟨b41, 1, none⟩)) rfl rfl rfl (e_fieldPt (b := b41) (o := 0) rfl tf149) ?_
      refine l_val (v := .int .u8 (2)) rfl rfl rfl (e_load1 tf97 (v := .int .u8 (2)) rfl (k_pt 0 (cs := #[Ix (x35.id), .int .u8 (2), Ix (x35.by_)]) (vs := [.int .u8 (2)]) rfl rfl)) ?_
      refine l_val (v := .int .u8 (2)) rfl rfl rfl (e_rem (a := (2 : Int)) (b := (3 : Int)) rfl rfl (by decide) (by decide)) ?_
      refine l_val (v := .pointer (some ⟨b33, 2, none⟩)) rfl rfl rfl (e_indexArrK (b := b33) (o := 0) (k := 2) rfl rfl tf150 (by decide)) ?_
      refine l_val (v := Nx (n2)) rfl rfl rfl (e_load1 tf2 (v := Nx (n2)) rfl (k_pt 1 (cs := #[.int .i64 (0), Nx (n1), Nx (n2)]) (vs := [Nx (n2)]) rfl rfl)) ?_
      refine l_val (v := Nx (n2 + 1)) rfl rfl rfl (e_add (a := ((n2 : Nat) : Int)) (b := (1 : Int)) rfl rfl (i64n (by omega) (by omega))) ?_
      refine l_val (v := .pointer (some ⟨b33, 2, none⟩)) rfl rfl rfl (e_indexArrK (b := b33) (o := 0) (k := 2) rfl rfl tf150 (by decide)) ?_
      refine l_mu rfl rfl (m_store 1 tf2 (b := b33) (o := 2) (T := 65) (cs := #[.int .i64 (0), Nx (n1), Nx (n2)]) (cs' := #[.int .i64 (0), Nx (n1), Nx (n2 + 1)]) (v := Nx (n2 + 1)) rfl rfl rfl rfl rfl rfl rfl) ?_
      refine l_nil ?_
      refine f_block ?_
      refine f_then ?_
      refine c_region ?_
      refine l_val (v := Nx (j + 1)) rfl rfl rfl (e_add (a := ((j : Nat) : Int)) (b := (1 : Int)) rfl rfl (i64n (by omega) (by omega))) ?_
      refine l_val (v := Nx (j + 1)) rfl rfl rfl (e_move) ?_
      refine l_nil ?_
      refine f_mask (L' := [pt b33 (.cells #[.int .i64 (0), Nx (n1), Nx (n2 + 1)] 65), pt b21 (.cells (bC x15) 31), pt b12 (.cells #[.slice p6 (T.length) (c7), .slice p8 (R.length) (c9), Ix (gX), Ix (gY)] 27), pt b5 (.cells #[.slice p1 (bs.length) (c2), .slice p3 (R.length) (c4), Ix (gX), Ix (gY)] 27), pt (blk (fa32 15)) (.cells #[Ix (speedX x15 (gX) (gY)), Ix (speedY x15 (gX) (gY))] 25), pt (blk (fa32 16)) (.cells (bC x22) 31)]) [false, true, true, true, true, true, true] rfl ?_
      exact f_cut ⟨(j + 1, n1, n2 + 1), ⟨⟨rfl, rfl, rfl, rfl, rfl, rfl, rfl, rfl, rfl, rfl, rfl, rfl, rfl, rfl⟩, rfl, ⟨by omega, by rw [cnt_next hx36, if_neg fun h => by rw [hal] at h; exact absurd h.2 (by decide)]; exact hc1, by rw [cnt_next hx36, if_pos ⟨hc42, hal⟩, ← hc2]⟩⟩, (show S.length - (j + 1) < S.length - j from by omega)⟩
    ·
     refine c_skip ?_
     refine f_block ?_
     refine f_then ?_
     refine c_region ?_
     refine l_val (v := Nx (j + 1)) rfl rfl rfl (e_add (a := ((j : Nat) : Int)) (b := (1 : Int)) rfl rfl (i64n (by omega) (by omega))) ?_
     refine l_val (v := Nx (j + 1)) rfl rfl rfl (e_move) ?_
     refine l_nil ?_
     refine f_mask (L' := [pt b33 (.cells #[.int .i64 (0), Nx (n1), Nx (n2)] 65), pt b21 (.cells (bC x15) 31), pt b12 (.cells #[.slice p6 (T.length) (c7), .slice p8 (R.length) (c9), Ix (gX), Ix (gY)] 27), pt b5 (.cells #[.slice p1 (bs.length) (c2), .slice p3 (R.length) (c4), Ix (gX), Ix (gY)] 27), pt (blk (fa32 15)) (.cells #[Ix (speedX x15 (gX) (gY)), Ix (speedY x15 (gX) (gY))] 25), pt (blk (fa32 16)) (.cells (bC x22) 31)]) [false, true, true, true, true, true, true] rfl ?_
     exact f_cut ⟨(j + 1, n1, n2), ⟨⟨rfl, rfl, rfl, rfl, rfl, rfl, rfl, rfl, rfl, rfl, rfl, rfl, rfl, rfl⟩, rfl, ⟨by omega, by rw [cnt_next hx36, if_neg fun h => hc42 h.1]; exact hc1, by rw [cnt_next hx36, if_neg fun h => hc42 h.1]; exact hc2⟩⟩, (show S.length - (j + 1) < S.length - j from by omega)⟩
   ·
    refine c_exit ?_
    refine f_then_exit ?_
    refine f_then_exit ?_
    refine f_exit ?_
    refine f_then ?_
    refine c_seq ?_
    rw [List.take_of_length_le (by omega)] at hc1 hc2
    refine c_region ?_
    refine l_val (v := .bool true) rfl rfl rfl (e_assign) ?_
    refine l_nil ?_
    refine f_then ?_
    refine c_seq ?_
    refine c_seq ?_
    refine c_region ?_
    refine l_val (v := .pointer (some ⟨b5, 0, none⟩)) rfl rfl rfl (e_fieldPt (b := b5) (o := 0) rfl tf49) ?_
    refine l_val (v := .slice p1 (bs.length) (c2)) rfl rfl rfl (e_load1 tf50 (v := .slice p1 (bs.length) (c2)) rfl (k_pt 3 (cs := #[.slice p1 (bs.length) (c2), .slice p3 (R.length) (c4), Ix (gX), Ix (gY)]) (vs := [.slice p1 (bs.length) (c2)]) rfl rfl)) ?_
    refine l_val (v := Nx (bs.length)) rfl rfl rfl (e_len (a := p1) (n := bs.length) (c := c2) rfl tf40) ?_
    refine l_val (v := .int .i64 (0)) rfl rfl rfl (e_move) ?_
    refine l_nil ?_
    refine f_then ?_
    refine c_block ?_
    refine c_mask [true, true, true, true, true, true] rfl ?_
    refine c_loop (fun (x_ : Nat × Bool) (f : Fm) (L : List Res) => match x_ with | (k, al) => (f 9 = .pointer (some ⟨b5, 0, none⟩) ∧ f 10 = .pointer (some ⟨b12, 0, none⟩) ∧ f 11 = .slice p10 (S.length) (c11) ∧ f 13 = Nx (i) ∧ f 14 = .pointer (some ⟨b21, 0, none⟩) ∧ f 15 = .pointer (some ⟨(blk (fa32 15)), 0, none⟩) ∧ f 16 = .pointer (some ⟨(blk (fa32 16)), 0, none⟩) ∧ f 17 = .pointer (some ⟨b33, 0, none⟩) ∧ f 20 = .bool (al) ∧ f 58 = .slice p1 (bs.length) (c2) ∧ f 59 = Nx (bs.length) ∧ f 60 = Nx (i) ∧ f 94 = .slice p1 (bs.length) (c2) ∧ f 95 = Nx (bs.length) ∧ f 96 = Nx (k)) ∧ L = [pt b33 (.cells #[.int .i64 (0), Nx (n1), Nx (n2)] 65), pt b21 (.cells (bC x15) 31), pt b12 (.cells #[.slice p6 (T.length) (c7), .slice p8 (R.length) (c9), Ix (gX), Ix (gY)] 27), pt b5 (.cells #[.slice p1 (bs.length) (c2), .slice p3 (R.length) (c4), Ix (gX), Ix (gY)] 27), pt (blk (fa32 15)) (.cells #[Ix (speedX x15 (gX) (gY)), Ix (speedY x15 (gX) (gY))] 25), pt (blk (fa32 16)) (.cells (bC x22) 31)] ∧ (k ≤ bs.length ∧ (al = true → ∀ k' o, k' < k → k' ≠ i → bs[k']? = some o → ¬ meets (reachB gX gY x15) (reachB gX gY o)))) (fun (x_ : Nat × Bool) => match x_ with | (k, al) => bs.length - k) (0, true) ?_ ?_
    ·exact ⟨⟨rfl, rfl, rfl, rfl, rfl, rfl, rfl, rfl, rfl, rfl, rfl, rfl, rfl, rfl, rfl⟩, rfl, ⟨by omega, fun _ k' o h => by omega⟩⟩
    rintro ⟨k, al⟩ f0 L0 ⟨⟨hs9, hs10, hs11, hs13, hs14, hs15, hs16, hs17, hs20, hs58, hs59, hs60, hs94, hs95, hs96⟩, hL, ⟨hk, hal⟩⟩
    subst L0
    refine rebase (d := 9) hs9 ?_
    refine rebase (d := 10) hs10 ?_
    refine rebase (d := 11) hs11 ?_
    refine rebase (d := 13) hs13 ?_
    refine rebase (d := 14) hs14 ?_
    refine rebase (d := 15) hs15 ?_
    refine rebase (d := 16) hs16 ?_
    refine rebase (d := 17) hs17 ?_
    refine rebase (d := 20) hs20 ?_
    refine rebase (d := 58) hs58 ?_
    refine rebase (d := 59) hs59 ?_
    refine rebase (d := 60) hs60 ?_
    refine rebase (d := 94) hs94 ?_
    refine rebase (d := 95) hs95 ?_
    refine rebase (d := 96) hs96 ?_
    clear hs9 hs10 hs11 hs13 hs14 hs15 hs16 hs17 hs20 hs58 hs59 hs60 hs94 hs95 hs96
    refine c_seq ?_
    refine c_region ?_
    refine l_val (v := .bool (decide (((k : Nat) : Int) < ((bs.length : Nat) : Int)))) rfl rfl rfl (e_lss (a := ((k : Nat) : Int)) (b := ((bs.length : Nat) : Int)) rfl rfl) ?_
    refine l_nil ?_
    refine f_then ?_
    refine c_seq ?_
    refine c_if (((k : Nat) : Int) < ((bs.length : Nat) : Int)) rfl (fun hc43 => ?_) (fun hc43 => ?_)
    ·
     refine c_skip ?_
     refine f_then ?_
     refine c_seq ?_
     refine c_block ?_
     refine c_seq ?_
     refine c_region ?_
     refine l_val (v := Nx (k)) rfl rfl rfl (e_move) ?_
     obtain ⟨x44, hx45⟩ : ∃ x_, (bs)[k]? = some x_ := ⟨_, List.getElem?_eq_getElem (by omega)⟩
     obtain ⟨ha46, cs47, hc48, rfl⟩ := he3 _ _ hx45
     refine l_val (v := .pointer (some ((ba p1).add (k * 9)))) rfl rfl rfl (e_indexAddr (k := k) (len := bs.length) (cap := c2) (a := p1) rfl rfl tf43 (by omega) ha46) ?_
     refine l_val (v := .agg (bC x44)) rfl rfl rfl (e_load tf22 (cs := (bodyE x44)) rfl (Knows.of_base (Cs.mono _ _) hc48) rfl) ?_
     refine l_mv rfl rfl rfl (m_alloc tf58) ?_
     rintro _ _ ⟨b50, rfl, rfl⟩
     refine l_val (v := Nx (k)) rfl rfl rfl (e_assign) ?_
     refine l_mu rfl rfl (m_store 0 tf22 (b := b50) (o := 0) (T := 31) (cs := #[.int .i64 (0), .int .i64 (0), .int .i64 (0), .int .i64 (0), .int .i64 (0), .int .i64 (0), .int .i64 (0), .bool false, .bool false]) (cs' := (bC x44)) (v := .agg (bC x44)) rfl rfl rfl rfl rfl rfl rfl) ?_
     refine l_nil ?_
     refine f_then ?_
     refine c_seq ?_
     have ok_x44 := o4 x44 (List.mem_of_getElem? hx45)
     refine c_any [⟨[], [], [0], [101], fun f => f 101 = .agg (bC x15)⟩, ⟨[], [], [1], [102], fun f => f 102 = .pointer (some ⟨b5, 2, none⟩)⟩, ⟨[1], [1], [], [103], fun f => f 103 = .agg #[Ix (gX), Ix (gY)]⟩, ⟨[0, 1, 2], [0, 2], [], [104], fun f => f 104 = .agg #[Ix (x15.x - x15.w + min (speedX x15 (gX) (gY)) 0), Ix (x15.y - x15.h + min (speedY x15 (gX) (gY)) 0), Ix (x15.x + x15.w + max (speedX x15 (gX) (gY)) 0), Ix (x15.y + x15.h + max (speedY x15 (gX) (gY)) 0)]⟩, ⟨[], [], [2], [105], fun f => f 105 = .agg (bC x44)⟩, ⟨[], [], [1], [106], fun f => f 106 = .pointer (some ⟨b5, 2, none⟩)⟩, ⟨[5], [5], [], [107], fun f => f 107 = .agg #[Ix (gX), Ix (gY)]⟩, ⟨[0, 1, 2, 3, 4, 5, 6], [4, 6], [], [108], fun f => f 108 = .agg #[Ix (x44.x - x44.w + min (speedX x44 (gX) (gY)) 0), Ix (x44.y - x44.h + min (speedY x44 (gX) (gY)) 0), Ix (x44.x + x44.w + max (speedX x44 (gX) (gY)) 0), Ix (x44.y + x44.h + max (speedY x44 (gX) (gY)) 0)]⟩, ⟨[], [], [], [23], fun f => f 23 = .pointer (some ⟨(blk (f 23)), 0, none⟩)⟩, ⟨[], [], [], [24], fun f => f 24 = .pointer (some ⟨(blk (f 24)), 0, none⟩)⟩, ⟨[0, 1, 2, 3, 4, 5, 6, 7, 8, 9], [8, 3], [], [], fun _ => True⟩, ⟨[0, 1, 2, 3, 4, 5, 6, 7, 8, 9, 10], [9, 7], [], [], fun _ => True⟩] [⟨none, none, [4], [], fun _ => pt b50 (.cells (bC x44) 31)⟩, ⟨none, none, [], [], fun _ => pt b33 (.cells #[.int .i64 (0), Nx (n1), Nx (n2)] 65)⟩, ⟨none, none, [0], [], fun _ => pt b21 (.cells (bC x15) 31)⟩, ⟨none, none, [], [], fun _ => pt b12 (.cells #[.slice p6 (T.length) (c7), .slice p8 (R.length) (c9), Ix (gX), Ix (gY)] 27)⟩, ⟨none, none, [2, 6], [], fun _ => pt b5 (.cells #[.slice p1 (bs.length) (c2), .slice p3 (R.length) (c4), Ix (gX), Ix (gY)] 27)⟩, ⟨none, none, [], [], fun _ => pt (blk (fa32 15)) (.cells #[Ix (speedX x15 (gX) (gY)), Ix (speedY x15 (gX) (gY))] 25)⟩, ⟨none, none, [], [], fun _ => pt (blk (fa32 16)) (.cells (bC x22) 31)⟩, ⟨(some 8), (some 10), [10], [23], fun f => pt (blk (f 23)) (.cells #[.int .i64 (0), .int .i64 (0), .int .i64 (0), .int .i64 (0)] 62)⟩, ⟨(some 9), (some 11), [11], [24], fun f => pt (blk (f 24)) (.cells #[.int .i64 (0), .int .i64 (0), .int .i64 (0), .int .i64 (0)] 62)⟩, ⟨(some 10), none, [], [23], fun f => pt (blk (f 23)) (.cells #[Ix (x15.x - x15.w + min (speedX x15 (gX) (gY)) 0), Ix (x15.y - x15.h + min (speedY x15 (gX) (gY)) 0), Ix (x15.x + x15.w + max (speedX x15 (gX) (gY)) 0), Ix (x15.y + x15.h + max (speedY x15 (gX) (gY)) 0)] 62)⟩, ⟨(some 11), none, [], [24], fun f => pt (blk (f 24)) (.cells #[Ix (x44.x - x44.w + min (speedX x44 (gX) (gY)) 0), Ix (x44.y - x44.h + min (speedY x44 (gX) (gY)) 0), Ix (x44.x + x44.w + max (speedX x44 (gX) (gY)) 0), Ix (x44.y + x44.h + max (speedY x44 (gX) (gY)) 0)] 62)⟩] [(14, .pointer (some ⟨b21, 0, none⟩)), (9, .pointer (some ⟨b5, 0, none⟩)), (22, .pointer (some ⟨b50, 0, none⟩)), (10, .pointer (some ⟨b12, 0, none⟩)), (11, .slice p10 (S.length) (c11)), (13, Nx (i)), (15, .pointer (some ⟨(blk (fa32 15)), 0, none⟩)), (16, .pointer (some ⟨(blk (fa32 16)), 0, none⟩)), (17, .pointer (some ⟨b33, 0, none⟩)), (20, .bool (al)), (21, Nx (k)), (58, .slice p1 (bs.length) (c2)), (59, Nx (bs.length)), (60, Nx (i)), (94, .slice p1 (bs.length) (c2)), (95, Nx (bs.length)), (96, Nx (k))] [1, 3, 4, 5, 0, 6, 7, 8, 9, 10, 11, 12, 13, 14, 15, 16] [] (by kernel_rfl) (by kernel_rfl) (by kernel_rfl) (by kernel_rfl) rfl ⟨rfl, rfl, rfl, rfl, rfl, rfl, rfl, rfl, rfl, rfl, rfl, rfl, rfl, rfl, rfl, rfl, rfl, trivial⟩ ⟨?_, ?_, ?_, ?_, ?_, ?_, ?_, ?_, ?_, ?_, ?_, ?_, trivial⟩ ?_
     ·rintro f M - ⟨i0, -⟩
      have hs14 : f 14 = .pointer (some ⟨b21, 0, none⟩) := i0
      refine ob_start (L' := pt b21 (.cells (bC x15) 31) :: M) (by rfl) (up_cons rfl hs14) ?_
      refine l_val (v := .agg (bC x15)) rfl rfl rfl (e_load tf22 (cs := (bodyE x15)) rfl (k_pt 0 (cs := (bC x15)) (vs := (bodyE x15)) rfl rfl) rfl) ?_
      refine l_nil ?_
      exact f_owes_d (up_cons rfl hs14) rfl (perm_front 0 rfl)
     ·rintro f M - ⟨i0, -⟩
      have hs9 : f 9 = .pointer (some ⟨b5, 0, none⟩) := i0
      refine ob_start (L' := M) (by rfl) (up_cons rfl hs9) ?_
      refine l_val (v := .pointer (some ⟨b5, 2, none⟩)) rfl rfl rfl (e_fieldPt (b := b5) (o := 0) rfl tf57) ?_
      refine l_nil ?_
      exact f_owes_d (up_cons rfl hs9) rfl (List.Perm.refl _)
     ·rintro f M ⟨k0, -⟩ -
      have hs102 : f 102 = .pointer (some ⟨b5, 2, none⟩) := k0
      refine ob_start (L' := pt b5 (.cells #[.slice p1 (bs.length) (c2), .slice p3 (R.length) (c4), Ix (gX), Ix (gY)] 27) :: M) (by rfl) (up_cons rfl hs102) ?_
      refine l_val (v := .agg #[Ix (gX), Ix (gY)]) rfl rfl rfl (e_load tf15 (cs := [Ix (gX), Ix (gY)]) rfl (k_pt 0 (cs := #[.slice p1 (bs.length) (c2), .slice p3 (R.length) (c4), Ix (gX), Ix (gY)]) (vs := [Ix (gX), Ix (gY)]) rfl rfl) rfl) ?_
      refine l_nil ?_
      exact f_owes_d (up_cons rfl hs102) rfl (perm_front 0 rfl)
     ·rintro f M ⟨k0, k1, -⟩ -
      have hs101 : f 101 = .agg (bC x15) := k0
      have hs103 : f 103 = .agg #[Ix (gX), Ix (gY)] := k1
      refine ob_start (L' := M) (by rfl) (up_cons (up_cons rfl hs101) hs103) ?_
      refine l_call rfl rfl rfl (cl_value (fst := []) (cap := []) (vs := [.agg (bC x15), .agg #[Ix (gX), Ix (gY)]]) (all := [.agg (bC x15), .agg #[Ix (gX), Ix (gY)]]) tf141 rfl rfl rfl) ?_
      intro w hw
      obtain ⟨β1, sb, kn, hw1, back⟩ := St.frame_all hw
      refine (reach_ok β1 w hw1 x15 (gX) (gY) ok_x15 hov).mono ?_
      rintro e w' ⟨rfl, hw'⟩
      refine ⟨_, rfl, _, back _ _ hw', ?_⟩
      clear hw hw1 hw' back kn sb
      refine l_nil ?_
      exact f_owes_d (up_cons (up_cons rfl hs101) hs103) rfl (List.Perm.refl _)
     ·rintro f M - ⟨i0, -⟩
      have hs22 : f 22 = .pointer (some ⟨b50, 0, none⟩) := i0
      refine ob_start (L' := pt b50 (.cells (bC x44) 31) :: M) (by rfl) (up_cons rfl hs22) ?_
      refine l_val (v := .agg (bC x44)) rfl rfl rfl (e_load tf22 (cs := (bodyE x44)) rfl (k_pt 0 (cs := (bC x44)) (vs := (bodyE x44)) rfl rfl) rfl) ?_
      refine l_nil ?_
      exact f_owes_d (up_cons rfl hs22) rfl (perm_front 0 rfl)
     ·rintro f M - ⟨i0, -⟩
      have hs9 : f 9 = .pointer (some ⟨b5, 0, none⟩) := i0
      refine ob_start (L' := M) (by rfl) (up_cons rfl hs9) ?_
      refine l_val (v := .pointer (some ⟨b5, 2, none⟩)) rfl rfl rfl (e_fieldPt (b := b5) (o := 0) rfl tf57) ?_
      refine l_nil ?_
      exact f_owes_d (up_cons rfl hs9) rfl (List.Perm.refl _)
     ·rintro f M ⟨k0, -⟩ -
      have hs106 : f 106 = .pointer (some ⟨b5, 2, none⟩) := k0
      refine ob_start (L' := pt b5 (.cells #[.slice p1 (bs.length) (c2), .slice p3 (R.length) (c4), Ix (gX), Ix (gY)] 27) :: M) (by rfl) (up_cons rfl hs106) ?_
      refine l_val (v := .agg #[Ix (gX), Ix (gY)]) rfl rfl rfl (e_load tf15 (cs := [Ix (gX), Ix (gY)]) rfl (k_pt 0 (cs := #[.slice p1 (bs.length) (c2), .slice p3 (R.length) (c4), Ix (gX), Ix (gY)]) (vs := [Ix (gX), Ix (gY)]) rfl rfl) rfl) ?_
      refine l_nil ?_
      exact f_owes_d (up_cons rfl hs106) rfl (perm_front 0 rfl)
     ·rintro f M ⟨k0, k1, -⟩ -
      have hs105 : f 105 = .agg (bC x44) := k0
      have hs107 : f 107 = .agg #[Ix (gX), Ix (gY)] := k1
      refine ob_start (L' := M) (by rfl) (up_cons (up_cons rfl hs105) hs107) ?_
      refine l_call rfl rfl rfl (cl_value (fst := []) (cap := []) (vs := [.agg (bC x44), .agg #[Ix (gX), Ix (gY)]]) (all := [.agg (bC x44), .agg #[Ix (gX), Ix (gY)]]) tf141 rfl rfl rfl) ?_
      intro w hw
      obtain ⟨β1, sb, kn, hw1, back⟩ := St.frame_all hw
      refine (reach_ok β1 w hw1 x44 (gX) (gY) ok_x44 hov).mono ?_
      rintro e w' ⟨rfl, hw'⟩
      refine ⟨_, rfl, _, back _ _ hw', ?_⟩
      clear hw hw1 hw' back kn sb
      refine l_nil ?_
      exact f_owes_d (up_cons (up_cons rfl hs105) hs107) rfl (List.Perm.refl _)
     ·rintro f M - -
      refine ob_start (L' := M) (by rfl) rfl ?_
      refine l_mv rfl rfl rfl (m_alloc tf132) ?_
      rintro _ _ ⟨b52, rfl, rfl⟩
      refine l_nil ?_
      exact f_owes_d rfl rfl (perm_front 0 rfl)
     ·rintro f M - -
      refine ob_start (L' := M) (by rfl) rfl ?_
      refine l_mv rfl rfl rfl (m_alloc tf132) ?_
      rintro _ _ ⟨b54, rfl, rfl⟩
      refine l_nil ?_
      exact f_owes_d rfl rfl (perm_front 0 rfl)
     ·rintro f M ⟨k0, k1, -⟩ -
      have hs23 : f 23 = .pointer (some ⟨(blk (f 23)), 0, none⟩) := k0
      have hs104 : f 104 = .agg #[Ix (x15.x - x15.w + min (speedX x15 (gX) (gY)) 0), Ix (x15.y - x15.h + min (speedY x15 (gX) (gY)) 0), Ix (x15.x + x15.w + max (speedX x15 (gX) (gY)) 0), Ix (x15.y + x15.h + max (speedY x15 (gX) (gY)) 0)] := k1
      refine ob_start (L' := pt (blk (f 23)) (.cells #[.int .i64 (0), .int .i64 (0), .int .i64 (0), .int .i64 (0)] 62) :: M) (by rfl) (up_cons (up_cons rfl hs23) hs104) ?_
      refine l_mu rfl rfl (m_store 0 tf135 (b := (blk (f 23))) (o := 0) (T := 62) (cs := #[.int .i64 (0), .int .i64 (0), .int .i64 (0), .int .i64 (0)]) (cs' := #[Ix (x15.x - x15.w + min (speedX x15 (gX) (gY)) 0), Ix (x15.y - x15.h + min (speedY x15 (gX) (gY)) 0), Ix (x15.x + x15.w + max (speedX x15 (gX) (gY)) 0), Ix (x15.y + x15.h + max (speedY x15 (gX) (gY)) 0)]) (v := .agg #[Ix (x15.x - x15.w + min (speedX x15 (gX) (gY)) 0), Ix (x15.y - x15.h + min (speedY x15 (gX) (gY)) 0), Ix (x15.x + x15.w + max (speedX x15 (gX) (gY)) 0), Ix (x15.y + x15.h + max (speedY x15 (gX) (gY)) 0)]) rfl rfl rfl rfl rfl rfl rfl) ?_
      refine l_nil ?_
      exact f_owes_n (up_cons (up_cons rfl hs23) hs104) trivial (perm_front 0 rfl)
     ·rintro f M ⟨k0, k1, -⟩ -
      have hs24 : f 24 = .pointer (some ⟨(blk (f 24)), 0, none⟩) := k0
      have hs108 : f 108 = .agg #[Ix (x44.x - x44.w + min (speedX x44 (gX) (gY)) 0), Ix (x44.y - x44.h + min (speedY x44 (gX) (gY)) 0), Ix (x44.x + x44.w + max (speedX x44 (gX) (gY)) 0), Ix (x44.y + x44.h + max (speedY x44 (gX) (gY)) 0)] := k1
      refine ob_start (L' := pt (blk (f 24)) (.cells #[.int .i64 (0), .int .i64 (0), .int .i64 (0), .int .i64 (0)] 62) :: M) (by rfl) (up_cons (up_cons rfl hs24) hs108) ?_
      refine l_mu rfl rfl (m_store 0 tf135 (b := (blk (f 24))) (o := 0) (T := 62) (cs := #[.int .i64 (0), .int .i64 (0), .int .i64 (0), .int .i64 (0)]) (cs' := #[Ix (x44.x - x44.w + min (speedX x44 (gX) (gY)) 0), Ix (x44.y - x44.h + min (speedY x44 (gX) (gY)) 0), Ix (x44.x + x44.w + max (speedX x44 (gX) (gY)) 0), Ix (x44.y + x44.h + max (speedY x44 (gX) (gY)) 0)]) (v := .agg #[Ix (x44.x - x44.w + min (speedX x44 (gX) (gY)) 0), Ix (x44.y - x44.h + min (speedY x44 (gX) (gY)) 0), Ix (x44.x + x44.w + max (speedX x44 (gX) (gY)) 0), Ix (x44.y + x44.h + max (speedY x44 (gX) (gY)) 0)]) rfl rfl rfl rfl rfl rfl rfl) ?_
      refine l_nil ?_
      exact f_owes_n (up_cons (up_cons rfl hs24) hs108) trivial (perm_front 0 rfl)
     rintro fa55 ⟨-, -, -, -, -, -, -, -, k8, k9, -, -, -⟩ ⟨j0, j1, j2, j3, j4, j5, j6, j7, j8, j9, j10, j11, j12, j13, j14, j15, -⟩
     refine f_re (L' := [pt b50 (.cells (bC x44) 31), pt b33 (.cells #[.int .i64 (0), Nx (n1), Nx (n2)] 65), pt b21 (.cells (bC x15) 31), pt b12 (.cells #[.slice p6 (T.length) (c7), .slice p8 (R.length) (c9), Ix (gX), Ix (gY)] 27), pt b5 (.cells #[.slice p1 (bs.length) (c2), .slice p3 (R.length) (c4), Ix (gX), Ix (gY)] 27), pt (blk (fa32 15)) (.cells #[Ix (speedX x15 (gX) (gY)), Ix (speedY x15 (gX) (gY))] 25), pt (blk (fa32 16)) (.cells (bC x22) 31), pt (blk (fa55 23)) (.cells #[Ix (x15.x - x15.w + min (speedX x15 (gX) (gY)) 0), Ix (x15.y - x15.h + min (speedY x15 (gX) (gY)) 0), Ix (x15.x + x15.w + max (speedX x15 (gX) (gY)) 0), Ix (x15.y + x15.h + max (speedY x15 (gX) (gY)) 0)] 62), pt (blk (fa55 24)) (.cells #[Ix (x44.x - x44.w + min (speedX x44 (gX) (gY)) 0), Ix (x44.y - x44.h + min (speedY x44 (gX) (gY)) 0), Ix (x44.x + x44.w + max (speedX x44 (gX) (gY)) 0), Ix (x44.y + x44.h + max (speedY x44 (gX) (gY)) 0)] 62)]) (by rfl) ?_
     refine f_rebase (d := 9) (v := .pointer (some ⟨b5, 0, none⟩)) j0 ?_
     refine f_rebase (d := 10) (v := .pointer (some ⟨b12, 0, none⟩)) j1 ?_
     refine f_rebase (d := 11) (v := .slice p10 (S.length) (c11)) j2 ?_
     refine f_rebase (d := 13) (v := Nx (i)) j3 ?_
     refine f_rebase (d := 14) (v := .pointer (some ⟨b21, 0, none⟩)) j4 ?_
     refine f_rebase (d := 15) (v := .pointer (some ⟨(blk (fa32 15)), 0, none⟩)) j5 ?_
     refine f_rebase (d := 16) (v := .pointer (some ⟨(blk (fa32 16)), 0, none⟩)) j6 ?_
     refine f_rebase (d := 17) (v := .pointer (some ⟨b33, 0, none⟩)) j7 ?_
     refine f_rebase (d := 20) (v := .bool (al)) j8 ?_
     refine f_rebase (d := 21) (v := Nx (k)) j9 ?_
     refine f_rebase (d := 23) (v := .pointer (some ⟨(blk (fa55 23)), 0, none⟩)) k8 ?_
     refine f_rebase (d := 24) (v := .pointer (some ⟨(blk (fa55 24)), 0, none⟩)) k9 ?_
     refine f_rebase (d := 58) (v := .slice p1 (bs.length) (c2)) j10 ?_
     refine f_rebase (d := 59) (v := Nx (bs.length)) j11 ?_
     refine f_rebase (d := 60) (v := Nx (i)) j12 ?_
     refine f_rebase (d := 94) (v := .slice p1 (bs.length) (c2)) j13 ?_
     refine f_rebase (d := 95) (v := Nx (bs.length)) j14 ?_
     refine f_rebase (d := 96) (v := Nx (k)) j15 ?_
     refine f_then ?_
     refine c_seq ?_
     refine c_region ?_
     refine l_val (v := Nx (k)) rfl rfl rfl (e_move) ?_
     refine l_val (v := Nx (i)) rfl rfl rfl (e_move) ?_
     refine l_val (v := .bool (decide (((k : Nat) : Int) ≠ ((i : Nat) : Int)))) rfl rfl rfl (e_neq (a := ((k : Nat) : Int)) (b := ((i : Nat) : Int)) rfl rfl) ?_
     refine l_val (v := .bool (decide (((k : Nat) : Int) ≠ ((i : Nat) : Int)))) rfl rfl rfl (e_move) ?_
     refine l_split (s := 112) (p := ((k : Nat) : Int) ≠ ((i : Nat) : Int)) rfl (fun hg56 => ?_) (fun hg56 => ?_)
     ·
      refine g_val (v := .pointer (some ⟨(blk (fa55 23)), 0, none⟩)) rfl rfl rfl rfl rfl (e_fieldPt (b := (blk (fa55 23))) (o := 0) rfl tf145) ?_
      refine g_val (v := .pointer (some ⟨(blk (fa55 23)), 0, none⟩)) rfl rfl rfl rfl rfl (e_fieldPt (b := (blk (fa55 23))) (o := 0) rfl tf7) ?_
      refine g_val (v := Ix (x15.x - x15.w + min (speedX x15 (gX) (gY)) 0)) rfl rfl rfl rfl rfl (e_load1 tf2 (v := Ix (x15.x - x15.w + min (speedX x15 (gX) (gY)) 0)) rfl (k_pt 7 (cs := #[Ix (x15.x - x15.w + min (speedX x15 (gX) (gY)) 0), Ix (x15.y - x15.h + min (speedY x15 (gX) (gY)) 0), Ix (x15.x + x15.w + max (speedX x15 (gX) (gY)) 0), Ix (x15.y + x15.h + max (speedY x15 (gX) (gY)) 0)]) (vs := [Ix (x15.x - x15.w + min (speedX x15 (gX) (gY)) 0)]) rfl rfl)) ?_
      refine g_val (v := .pointer (some ⟨(blk (fa55 24)), 2, none⟩)) rfl rfl rfl rfl rfl (e_fieldPt (b := (blk (fa55 24))) (o := 0) rfl tf146) ?_
      refine g_val (v := .pointer (some ⟨(blk (fa55 24)), 2, none⟩)) rfl rfl rfl rfl rfl (e_fieldPt (b := (blk (fa55 24))) (o := 2) rfl tf7) ?_
      refine g_val (v := Ix (x44.x + x44.w + max (speedX x44 (gX) (gY)) 0)) rfl rfl rfl rfl rfl (e_load1 tf2 (v := Ix (x44.x + x44.w + max (speedX x44 (gX) (gY)) 0)) rfl (k_pt 8 (cs := #[Ix (x44.x - x44.w + min (speedX x44 (gX) (gY)) 0), Ix (x44.y - x44.h + min (speedY x44 (gX) (gY)) 0), Ix (x44.x + x44.w + max (speedX x44 (gX) (gY)) 0), Ix (x44.y + x44.h + max (speedY x44 (gX) (gY)) 0)]) (vs := [Ix (x44.x + x44.w + max (speedX x44 (gX) (gY)) 0)]) rfl rfl)) ?_
      refine g_val (v := .bool (decide ((x15.x - x15.w + min (speedX x15 (gX) (gY)) 0) ≤ (x44.x + x44.w + max (speedX x44 (gX) (gY)) 0)))) rfl rfl rfl rfl rfl (e_leq (a := (x15.x - x15.w + min (speedX x15 (gX) (gY)) 0)) (b := (x44.x + x44.w + max (speedX x44 (gX) (gY)) 0)) rfl rfl) ?_
      refine l_val (v := .bool (decide ((x15.x - x15.w + min (speedX x15 (gX) (gY)) 0) ≤ (x44.x + x44.w + max (speedX x44 (gX) (gY)) 0)))) rfl rfl rfl (e_pick_t rfl) ?_
      refine l_val (v := .bool (decide ((x15.x - x15.w + min (speedX x15 (gX) (gY)) 0) ≤ (x44.x + x44.w + max (speedX x44 (gX) (gY)) 0)))) rfl rfl rfl (e_move) ?_
      refine l_split (s := 121) (p := (x15.x - x15.w + min (speedX x15 (gX) (gY)) 0) ≤ (x44.x + x44.w + max (speedX x44 (gX) (gY)) 0)) rfl (fun hg57 => ?_) (fun hg57 => ?_)
      ·
       refine g_val (v := .pointer (some ⟨(blk (fa55 24)), 0, none⟩)) rfl rfl rfl rfl rfl (e_fieldPt (b := (blk (fa55 24))) (o := 0) rfl tf145) ?_
       refine g_val (v := .pointer (some ⟨(blk (fa55 24)), 0, none⟩)) rfl rfl rfl rfl rfl (e_fieldPt (b := (blk (fa55 24))) (o := 0) rfl tf7) ?_
       refine g_val (v := Ix (x44.x - x44.w + min (speedX x44 (gX) (gY)) 0)) rfl rfl rfl rfl rfl (e_load1 tf2 (v := Ix (x44.x - x44.w + min (speedX x44 (gX) (gY)) 0)) rfl (k_pt 8 (cs := #[Ix (x44.x - x44.w + min (speedX x44 (gX) (gY)) 0), Ix (x44.y - x44.h + min (speedY x44 (gX) (gY)) 0), Ix (x44.x + x44.w + max (speedX x44 (gX) (gY)) 0), Ix (x44.y + x44.h + max (speedY x44 (gX) (gY)) 0)]) (vs := [Ix (x44.x - x44.w + min (speedX x44 (gX) (gY)) 0)]) rfl rfl)) ?_
       refine g_val (v := .pointer (some ⟨(blk (fa55 23)), 2, none⟩)) rfl rfl rfl rfl rfl (e_fieldPt (b := (blk (fa55 23))) (o := 0) rfl tf146) ?_
       refine g_val (v := .pointer (some ⟨(blk (fa55 23)), 2, none⟩)) rfl rfl rfl rfl rfl (e_fieldPt (b := (blk (fa55 23))) (o := 2) rfl tf7) ?_
       refine g_val (v := Ix (x15.x + x15.w + max (speedX x15 (gX) (gY)) 0)) rfl rfl rfl rfl rfl (e_load1 tf2 (v := Ix (x15.x + x15.w + max (speedX x15 (gX) (gY)) 0)) rfl (k_pt 7 (cs := #[Ix (x15.x - x15.w + min (speedX x15 (gX) (gY)) 0), Ix (x15.y - x15.h + min (speedY x15 (gX) (gY)) 0), Ix (x15.x + x15.w + max (speedX x15 (gX) (gY)) 0), Ix (x15.y + x15.h + max (speedY x15 (gX) (gY)) 0)]) (vs := [Ix (x15.x + x15.w + max (speedX x15 (gX) (gY)) 0)]) rfl rfl)) ?_
       refine g_val (v := .bool (decide ((x44.x - x44.w + min (speedX x44 (gX) (gY)) 0) ≤ (x15.x + x15.w + max (speedX x15 (gX) (gY)) 0)))) rfl rfl rfl rfl rfl (e_leq (a := (x44.x - x44.w + min (speedX x44 (gX) (gY)) 0)) (b := (x15.x + x15.w + max (speedX x15 (gX) (gY)) 0)) rfl rfl) ?_
       refine l_val (v := .bool (decide ((x44.x - x44.w + min (speedX x44 (gX) (gY)) 0) ≤ (x15.x + x15.w + max (speedX x15 (gX) (gY)) 0)))) rfl rfl rfl (e_pick_t rfl) ?_
       refine l_val (v := .bool (decide ((x44.x - x44.w + min (speedX x44 (gX) (gY)) 0) ≤ (x15.x + x15.w + max (speedX x15 (gX) (gY)) 0)))) rfl rfl rfl (e_move) ?_
       refine l_split (s := 130) (p := (x44.x - x44.w + min (speedX x44 (gX) (gY)) 0) ≤ (x15.x + x15.w + max (speedX x15 (gX) (gY)) 0)) rfl (fun hg58 => ?_) (fun hg58 => ?_)
       ·
        refine g_val (v := .pointer (some ⟨(blk (fa55 23)), 0, none⟩)) rfl rfl rfl rfl rfl (e_fieldPt (b := (blk (fa55 23))) (o := 0) rfl tf145) ?_
        refine g_val (v := .pointer (some ⟨(blk (fa55 23)), 1, none⟩)) rfl rfl rfl rfl rfl (e_fieldPt (b := (blk (fa55 23))) (o := 0) rfl tf8) ?_
        refine g_val (v := Ix (x15.y - x15.h + min (speedY x15 (gX) (gY)) 0)) rfl rfl rfl rfl rfl (e_load1 tf2 (v := Ix (x15.y - x15.h + min (speedY x15 (gX) (gY)) 0)) rfl (k_pt 7 (cs := #[Ix (x15.x - x15.w + min (speedX x15 (gX) (gY)) 0), Ix (x15.y - x15.h + min (speedY x15 (gX) (gY)) 0), Ix (x15.x + x15.w + max (speedX x15 (gX) (gY)) 0), Ix (x15.y + x15.h + max (speedY x15 (gX) (gY)) 0)]) (vs := [Ix (x15.y - x15.h + min (speedY x15 (gX) (gY)) 0)]) rfl rfl)) ?_
        refine g_val (v := .pointer (some ⟨(blk (fa55 24)), 2, none⟩)) rfl rfl rfl rfl rfl (e_fieldPt (b := (blk (fa55 24))) (o := 0) rfl tf146) ?_
        refine g_val (v := .pointer (some ⟨(blk (fa55 24)), 3, none⟩)) rfl rfl rfl rfl rfl (e_fieldPt (b := (blk (fa55 24))) (o := 2) rfl tf8) ?_
        refine g_val (v := Ix (x44.y + x44.h + max (speedY x44 (gX) (gY)) 0)) rfl rfl rfl rfl rfl (e_load1 tf2 (v := Ix (x44.y + x44.h + max (speedY x44 (gX) (gY)) 0)) rfl (k_pt 8 (cs := #[Ix (x44.x - x44.w + min (speedX x44 (gX) (gY)) 0), Ix (x44.y - x44.h + min (speedY x44 (gX) (gY)) 0), Ix (x44.x + x44.w + max (speedX x44 (gX) (gY)) 0), Ix (x44.y + x44.h + max (speedY x44 (gX) (gY)) 0)]) (vs := [Ix (x44.y + x44.h + max (speedY x44 (gX) (gY)) 0)]) rfl rfl)) ?_
        refine g_val (v := .bool (decide ((x15.y - x15.h + min (speedY x15 (gX) (gY)) 0) ≤ (x44.y + x44.h + max (speedY x44 (gX) (gY)) 0)))) rfl rfl rfl rfl rfl (e_leq (a := (x15.y - x15.h + min (speedY x15 (gX) (gY)) 0)) (b := (x44.y + x44.h + max (speedY x44 (gX) (gY)) 0)) rfl rfl) ?_
        refine l_val (v := .bool (decide ((x15.y - x15.h + min (speedY x15 (gX) (gY)) 0) ≤ (x44.y + x44.h + max (speedY x44 (gX) (gY)) 0)))) rfl rfl rfl (e_pick_t rfl) ?_
        refine l_val (v := .bool (decide ((x15.y - x15.h + min (speedY x15 (gX) (gY)) 0) ≤ (x44.y + x44.h + max (speedY x44 (gX) (gY)) 0)))) rfl rfl rfl (e_move) ?_
        refine l_split (s := 139) (p := (x15.y - x15.h + min (speedY x15 (gX) (gY)) 0) ≤ (x44.y + x44.h + max (speedY x44 (gX) (gY)) 0)) rfl (fun hg59 => ?_) (fun hg59 => ?_)
        ·
         refine g_val (v := .pointer (some ⟨(blk (fa55 24)), 0, none⟩)) rfl rfl rfl rfl rfl (e_fieldPt (b := (blk (fa55 24))) (o := 0) rfl tf145) ?_
         refine g_val (v := .pointer (some ⟨(blk (fa55 24)), 1, none⟩)) rfl rfl rfl rfl rfl (e_fieldPt (b := (blk (fa55 24))) (o := 0) rfl tf8) ?_
         refine g_val (v := Ix (x44.y - x44.h + min (speedY x44 (gX) (gY)) 0)) rfl rfl rfl rfl rfl (e_load1 tf2 (v := Ix (x44.y - x44.h + min (speedY x44 (gX) (gY)) 0)) rfl (k_pt 8 (cs := #[Ix (x44.x - x44.w + min (speedX x44 (gX) (gY)) 0), Ix (x44.y - x44.h + min (speedY x44 (gX) (gY)) 0), Ix (x44.x + x44.w + max (speedX x44 (gX) (gY)) 0), Ix (x44.y + x44.h + max (speedY x44 (gX) (gY)) 0)]) (vs := [Ix (x44.y - x44.h + min (speedY x44 (gX) (gY)) 0)]) rfl rfl)) ?_
         refine g_val (v := .pointer (some ⟨(blk (fa55 23)), 2, none⟩)) rfl rfl rfl rfl rfl (e_fieldPt (b := (blk (fa55 23))) (o := 0) rfl tf146) ?_
         refine g_val (v := .pointer (some ⟨(blk (fa55 23)), 3, none⟩)) rfl rfl rfl rfl rfl (e_fieldPt (b := (blk (fa55 23))) (o := 2) rfl tf8) ?_
         refine g_val (v := Ix (x15.y + x15.h + max (speedY x15 (gX) (gY)) 0)) rfl rfl rfl rfl rfl (e_load1 tf2 (v := Ix (x15.y + x15.h + max (speedY x15 (gX) (gY)) 0)) rfl (k_pt 7 (cs := #[Ix (x15.x - x15.w + min (speedX x15 (gX) (gY)) 0), Ix (x15.y - x15.h + min (speedY x15 (gX) (gY)) 0), Ix (x15.x + x15.w + max (speedX x15 (gX) (gY)) 0), Ix (x15.y + x15.h + max (speedY x15 (gX) (gY)) 0)]) (vs := [Ix (x15.y + x15.h + max (speedY x15 (gX) (gY)) 0)]) rfl rfl)) ?_
         refine g_val (v := .bool (decide ((x44.y - x44.h + min (speedY x44 (gX) (gY)) 0) ≤ (x15.y + x15.h + max (speedY x15 (gX) (gY)) 0)))) rfl rfl rfl rfl rfl (e_leq (a := (x44.y - x44.h + min (speedY x44 (gX) (gY)) 0)) (b := (x15.y + x15.h + max (speedY x15 (gX) (gY)) 0)) rfl rfl) ?_
         refine l_val (v := .bool (decide ((x44.y - x44.h + min (speedY x44 (gX) (gY)) 0) ≤ (x15.y + x15.h + max (speedY x15 (gX) (gY)) 0)))) rfl rfl rfl (e_pick_t rfl) ?_
         refine l_nil ?_
         refine f_then ?_
         refine c_if ((x44.y - x44.h + min (speedY x44 (gX) (gY)) 0) ≤ (x15.y + x15.h + max (speedY x15 (gX) (gY)) 0)) rfl (fun hc60 => ?_) (fun hc60 => ?_)
         ·
          refine c_region ?_
          refine l_val (v := .bool false) rfl rfl rfl (e_assign) ?_
          refine l_nil ?_
          refine f_block ?_
          refine f_then ?_
          refine c_region ?_
          refine l_val (v := Nx (k + 1)) rfl rfl rfl (e_add (a := ((k : Nat) : Int)) (b := (1 : Int)) rfl rfl (i64n (by omega) (by omega))) ?_
          refine l_val (v := Nx (k + 1)) rfl rfl rfl (e_move) ?_
          refine l_nil ?_
          refine f_mask (L' := [pt b33 (.cells #[.int .i64 (0), Nx (n1), Nx (n2)] 65), pt b21 (.cells (bC x15) 31), pt b12 (.cells #[.slice p6 (T.length) (c7), .slice p8 (R.length) (c9), Ix (gX), Ix (gY)] 27), pt b5 (.cells #[.slice p1 (bs.length) (c2), .slice p3 (R.length) (c4), Ix (gX), Ix (gY)] 27), pt (blk (fa32 15)) (.cells #[Ix (speedX x15 (gX) (gY)), Ix (speedY x15 (gX) (gY))] 25), pt (blk (fa32 16)) (.cells (bC x22) 31)]) [false, true, true, true, true, true, true, false, false] rfl ?_
          exact f_cut ⟨(k + 1, false), ⟨⟨rfl, rfl, rfl, rfl, rfl, rfl, rfl, rfl, rfl, rfl, rfl, rfl, rfl, rfl, rfl⟩, rfl, ⟨by omega, fun h => by cases h⟩⟩, (show bs.length - (k + 1) < bs.length - k from by omega)⟩
         ·
          refine c_skip ?_
          refine f_block ?_
          refine f_then ?_
          refine c_region ?_
          refine l_val (v := Nx (k + 1)) rfl rfl rfl (e_add (a := ((k : Nat) : Int)) (b := (1 : Int)) rfl rfl (i64n (by omega) (by omega))) ?_
          refine l_val (v := Nx (k + 1)) rfl rfl rfl (e_move) ?_
          refine l_nil ?_
          refine f_mask (L' := [pt b33 (.cells #[.int .i64 (0), Nx (n1), Nx (n2)] 65), pt b21 (.cells (bC x15) 31), pt b12 (.cells #[.slice p6 (T.length) (c7), .slice p8 (R.length) (c9), Ix (gX), Ix (gY)] 27), pt b5 (.cells #[.slice p1 (bs.length) (c2), .slice p3 (R.length) (c4), Ix (gX), Ix (gY)] 27), pt (blk (fa32 15)) (.cells #[Ix (speedX x15 (gX) (gY)), Ix (speedY x15 (gX) (gY))] 25), pt (blk (fa32 16)) (.cells (bC x22) 31)]) [false, true, true, true, true, true, true, false, false] rfl ?_
          exact f_cut ⟨(k + 1, al), ⟨⟨rfl, rfl, rfl, rfl, rfl, rfl, rfl, rfl, rfl, rfl, rfl, rfl, rfl, rfl, rfl⟩, rfl, ⟨by omega, fun h => alone_next (hal h) hx45 (fun hki => by unfold meets reachB; simp only; omega)⟩⟩, (show bs.length - (k + 1) < bs.length - k from by omega)⟩
        ·
         refine l_skip rfl rfl rfl rfl rfl rfl ?_
         refine l_skip rfl rfl rfl rfl rfl rfl ?_
         refine l_skip rfl rfl rfl rfl rfl rfl ?_
         refine l_skip rfl rfl rfl rfl rfl rfl ?_
         refine l_skip rfl rfl rfl rfl rfl rfl ?_
         refine l_skip rfl rfl rfl rfl rfl rfl ?_
         refine l_skip rfl rfl rfl rfl rfl rfl ?_
         refine l_val (v := .bool false) rfl rfl rfl (e_pick_f rfl) ?_
         refine l_nil ?_
         refine f_then ?_
         refine c_no rfl ?_
         refine c_skip ?_
         refine f_block ?_
         refine f_then ?_
         refine c_region ?_
         refine l_val (v := Nx (k + 1)) rfl rfl rfl (e_add (a := ((k : Nat) : Int)) (b := (1 : Int)) rfl rfl (i64n (by omega) (by omega))) ?_
         refine l_val (v := Nx (k + 1)) rfl rfl rfl (e_move) ?_
         refine l_nil ?_
         refine f_mask (L' := [pt b33 (.cells #[.int .i64 (0), Nx (n1), Nx (n2)] 65), pt b21 (.cells (bC x15) 31), pt b12 (.cells #[.slice p6 (T.length) (c7), .slice p8 (R.length) (c9), Ix (gX), Ix (gY)] 27), pt b5 (.cells #[.slice p1 (bs.length) (c2), .slice p3 (R.length) (c4), Ix (gX), Ix (gY)] 27), pt (blk (fa32 15)) (.cells #[Ix (speedX x15 (gX) (gY)), Ix (speedY x15 (gX) (gY))] 25), pt (blk (fa32 16)) (.cells (bC x22) 31)]) [false, true, true, true, true, true, true, false, false] rfl ?_
         exact f_cut ⟨(k + 1, al), ⟨⟨rfl, rfl, rfl, rfl, rfl, rfl, rfl, rfl, rfl, rfl, rfl, rfl, rfl, rfl, rfl⟩, rfl, ⟨by omega, fun h => alone_next (hal h) hx45 (fun hki => by unfold meets reachB; simp only; omega)⟩⟩, (show bs.length - (k + 1) < bs.length - k from by omega)⟩
       ·
        refine l_skip rfl rfl rfl rfl rfl rfl ?_
        refine l_skip rfl rfl rfl rfl rfl rfl ?_
        refine l_skip rfl rfl rfl rfl rfl rfl ?_
        refine l_skip rfl rfl rfl rfl rfl rfl ?_
        refine l_skip rfl rfl rfl rfl rfl rfl ?_
        refine l_skip rfl rfl rfl rfl rfl rfl ?_
        refine l_skip rfl rfl rfl rfl rfl rfl ?_
        refine l_val (v := .bool false) rfl rfl rfl (e_pick_f rfl) ?_
        refine l_val (v := .bool false) rfl rfl rfl (e_move) ?_
        refine l_skip rfl rfl rfl rfl rfl rfl ?_
        refine l_skip rfl rfl rfl rfl rfl rfl ?_
        refine l_skip rfl rfl rfl rfl rfl rfl ?_
        refine l_skip rfl rfl rfl rfl rfl rfl ?_
        refine l_skip rfl rfl rfl rfl rfl rfl ?_
        refine l_skip rfl rfl rfl rfl rfl rfl ?_
        refine l_skip rfl rfl rfl rfl rfl rfl ?_
        refine l_val (v := .bool false) rfl rfl rfl (e_pick_f rfl) ?_
        refine l_nil ?_
        refine f_then ?_
        refine c_no rfl ?_
        refine c_skip ?_
        refine f_block ?_
        refine f_then ?_
        refine c_region ?_
        refine l_val (v := Nx (k + 1)) rfl rfl rfl (e_add (a := ((k : Nat) : Int)) (b := (1 : Int)) rfl rfl (i64n (by omega) (by omega))) ?_
        refine l_val (v := Nx (k + 1)) rfl rfl rfl (e_move) ?_
        refine l_nil ?_
        refine f_mask (L' := [pt b33 (.cells #[.int .i64 (0), Nx (n1), Nx (n2)] 65), pt b21 (.cells (bC x15) 31), pt b12 (.cells #[.slice p6 (T.length) (c7), .slice p8 (R.length) (c9), Ix (gX), Ix (gY)] 27), pt b5 (.cells #[.slice p1 (bs.length) (c2), .slice p3 (R.length) (c4), Ix (gX), Ix (gY)] 27), pt (blk (fa32 15)) (.cells #[Ix (speedX x15 (gX) (gY)), Ix (speedY x15 (gX) (gY))] 25), pt (blk (fa32 16)) (.cells (bC x22) 31)]) [false, true, true, true, true, true, true, false, false] rfl ?_
        exact f_cut ⟨(k + 1, al), ⟨⟨rfl, rfl, rfl, rfl, rfl, rfl, rfl, rfl, rfl, rfl, rfl, rfl, rfl, rfl, rfl⟩, rfl, ⟨by omega, fun h => alone_next (hal h) hx45 (fun hki => by unfold meets reachB; simp only; omega)⟩⟩, (show bs.length - (k + 1) < bs.length - k from by omega)⟩
      ·
       refine l_skip rfl rfl rfl rfl rfl rfl ?_
       refine l_skip rfl rfl rfl rfl rfl rfl ?_
       refine l_skip rfl rfl rfl rfl rfl rfl ?_
       refine l_skip rfl rfl rfl rfl rfl rfl ?_
       refine l_skip rfl rfl rfl rfl rfl rfl ?_
       refine l_skip rfl rfl rfl rfl rfl rfl ?_
       refine l_skip rfl rfl rfl rfl rfl rfl ?_
       refine l_val (v := .bool false) rfl rfl rfl (e_pick_f rfl) ?_
       refine l_val (v := .bool false) rfl rfl rfl (e_move) ?_
       refine l_skip rfl rfl rfl rfl rfl rfl ?_
       refine l_skip rfl rfl rfl rfl rfl rfl ?_
       refine l_skip rfl rfl rfl rfl rfl rfl ?_
       refine l_skip rfl rfl rfl rfl rfl rfl ?_
       refine l_skip rfl rfl rfl rfl rfl rfl ?_
       refine l_skip rfl rfl rfl rfl rfl rfl ?_
       refine l_skip rfl rfl rfl rfl rfl rfl ?_
       refine l_val (v := .bool false) rfl rfl rfl (e_pick_f rfl) ?_
       refine l_val (v := .bool false) rfl rfl rfl (e_move) ?_
       refine l_skip rfl rfl rfl rfl rfl rfl ?_
       refine l_skip rfl rfl rfl rfl rfl rfl ?_
       refine l_skip rfl rfl rfl rfl rfl rfl ?_
       refine l_skip rfl rfl rfl rfl rfl rfl ?_
       refine l_skip rfl rfl rfl rfl rfl rfl ?_
       refine l_skip rfl rfl rfl rfl rfl rfl ?_
       refine l_skip rfl rfl rfl rfl rfl rfl ?_
       refine l_val (v := .bool false) rfl rfl rfl (e_pick_f rfl) ?_
       refine l_nil ?_
       refine f_then ?_
       refine c_no rfl ?_
       refine c_skip ?_
       refine f_block ?_
       refine f_then ?_
       refine c_region ?_
       refine l_val (v := Nx (k + 1)) rfl rfl rfl (e_add (a := ((k : Nat) : Int)) (b := (1 : Int)) rfl rfl (i64n (by omega) (by omega))) ?_
       refine l_val (v := Nx (k + 1)) rfl rfl rfl (e_move) ?_
       refine l_nil ?_
       refine f_mask (L' := [pt b33 (.cells #[.int .i64 (0), Nx (n1), Nx (n2)] 65), pt b21 (.cells (bC x15) 31), pt b12 (.cells #[.slice p6 (T.length) (c7), .slice p8 (R.length) (c9), Ix (gX), Ix (gY)] 27), pt b5 (.cells #[.slice p1 (bs.length) (c2), .slice p3 (R.length) (c4), Ix (gX), Ix (gY)] 27), pt (blk (fa32 15)) (.cells #[Ix (speedX x15 (gX) (gY)), Ix (speedY x15 (gX) (gY))] 25), pt (blk (fa32 16)) (.cells (bC x22) 31)]) [false, true, true, true, true, true, true, false, false] rfl ?_
       exact f_cut ⟨(k + 1, al), ⟨⟨rfl, rfl, rfl, rfl, rfl, rfl, rfl, rfl, rfl, rfl, rfl, rfl, rfl, rfl, rfl⟩, rfl, ⟨by omega, fun h => alone_next (hal h) hx45 (fun hki => by unfold meets reachB; simp only; omega)⟩⟩, (show bs.length - (k + 1) < bs.length - k from by omega)⟩
     ·
      refine l_skip rfl rfl rfl rfl rfl rfl ?_
      refine l_skip rfl rfl rfl rfl rfl rfl ?_
      refine l_skip rfl rfl rfl rfl rfl rfl ?_
      refine l_skip rfl rfl rfl rfl rfl rfl ?_
      refine l_skip rfl rfl rfl rfl rfl rfl ?_
      refine l_skip rfl rfl rfl rfl rfl rfl ?_
      refine l_skip rfl rfl rfl rfl rfl rfl ?_
      refine l_val (v := .bool false) rfl rfl rfl (e_pick_f rfl) ?_
      refine l_val (v := .bool false) rfl rfl rfl (e_move) ?_
      refine l_skip rfl rfl rfl rfl rfl rfl ?_
      refine l_skip rfl rfl rfl rfl rfl rfl ?_
      refine l_skip rfl rfl rfl rfl rfl rfl ?_
      refine l_skip rfl rfl rfl rfl rfl rfl ?_
      refine l_skip rfl rfl rfl rfl rfl rfl ?_
      refine l_skip rfl rfl rfl rfl rfl rfl ?_
      refine l_skip rfl rfl rfl rfl rfl rfl ?_
      refine l_val (v := .bool false) rfl rfl rfl (e_pick_f rfl) ?_
      refine l_val (v := .bool false) rfl rfl rfl (e_move) ?_
      refine l_skip rfl rfl rfl rfl rfl rfl ?_
      refine l_skip rfl rfl rfl rfl rfl rfl ?_
      refine l_skip rfl rfl rfl rfl rfl rfl ?_
      refine l_skip rfl rfl rfl rfl rfl rfl ?_
      refine l_skip rfl rfl rfl rfl rfl rfl ?_
      refine l_skip rfl rfl rfl rfl rfl rfl ?_
      refine l_skip rfl rfl rfl rfl rfl rfl ?_
      refine l_val (v := .bool false) rfl rfl rfl (e_pick_f rfl) ?_
      refine l_val (v := .bool false) rfl rfl rfl (e_move) ?_
      refine l_skip rfl rfl rfl rfl rfl rfl ?_
      refine l_skip rfl rfl rfl rfl rfl rfl ?_
      refine l_skip rfl rfl rfl rfl rfl rfl ?_
      refine l_skip rfl rfl rfl rfl rfl rfl ?_
      refine l_skip rfl rfl rfl rfl rfl rfl ?_
      refine l_skip rfl rfl rfl rfl rfl rfl ?_
      refine l_skip rfl rfl rfl rfl rfl rfl ?_
      refine l_val (v := .bool false) rfl rfl rfl (e_pick_f rfl) ?_
      refine l_nil ?_
      refine f_then ?_
      refine c_no rfl ?_
      refine c_skip ?_
      refine f_block ?_
      refine f_then ?_
      refine c_region ?_
      refine l_val (v := Nx (k + 1)) rfl rfl rfl (e_add (a := ((k : Nat) : Int)) (b := (1 : Int)) rfl rfl (i64n (by omega) (by omega))) ?_
      refine l_val (v := Nx (k + 1)) rfl rfl rfl (e_move) ?_
      refine l_nil ?_
      refine f_mask (L' := [pt b33 (.cells #[.int .i64 (0), Nx (n1), Nx (n2)] 65), pt b21 (.cells (bC x15) 31), pt b12 (.cells #[.slice p6 (T.length) (c7), .slice p8 (R.length) (c9), Ix (gX), Ix (gY)] 27), pt b5 (.cells #[.slice p1 (bs.length) (c2), .slice p3 (R.length) (c4), Ix (gX), Ix (gY)] 27), pt (blk (fa32 15)) (.cells #[Ix (speedX x15 (gX) (gY)), Ix (speedY x15 (gX) (gY))] 25), pt (blk (fa32 16)) (.cells (bC x22) 31)]) [false, true, true, true, true, true, true, false, false] rfl ?_
      exact f_cut ⟨(k + 1, al), ⟨⟨rfl, rfl, rfl, rfl, rfl, rfl, rfl, rfl, rfl, rfl, rfl, rfl, rfl, rfl, rfl⟩, rfl, ⟨by omega, fun h => alone_next (hal h) hx45 (fun hki => by unfold meets reachB; simp only; omega)⟩⟩, (show bs.length - (k + 1) < bs.length - k from by omega)⟩
    ·
     refine c_exit ?_
     refine f_then_exit ?_
     refine f_then_exit ?_
     refine f_exit ?_
     refine f_then ?_
     refine c_seq ?_
     refine c_seq ?_
     refine c_region ?_
     refine l_val (v := .pointer (some ⟨b5, 1, none⟩)) rfl rfl rfl (e_fieldPt (b := b5) (o := 0) rfl tf55) ?_
     refine l_val (v := .slice p3 (R.length) (c4)) rfl rfl rfl (e_load1 tf56 (v := .slice p3 (R.length) (c4)) rfl (k_pt 3 (cs := #[.slice p1 (bs.length) (c2), .slice p3 (R.length) (c4), Ix (gX), Ix (gY)]) (vs := [.slice p3 (R.length) (c4)]) rfl rfl)) ?_
     refine l_val (v := Nx (R.length)) rfl rfl rfl (e_len (a := p3) (n := R.length) (c := c4) rfl tf45) ?_
     refine l_val (v := .int .i64 (0)) rfl rfl rfl (e_move) ?_
     refine l_nil ?_
     refine f_then ?_
     refine c_block ?_
     refine c_mask [true, true, true, true, true, true] rfl ?_
     refine c_loop (fun (x_ : Nat × Bool) (f : Fm) (L : List Res) => match x_ with | (k3, am) => (f 9 = .pointer (some ⟨b5, 0, none⟩) ∧ f 10 = .pointer (some ⟨b12, 0, none⟩) ∧ f 11 = .slice p10 (S.length) (c11) ∧ f 14 = .pointer (some ⟨b21, 0, none⟩) ∧ f 15 = .pointer (some ⟨(blk (fa32 15)), 0, none⟩) ∧ f 16 = .pointer (some ⟨(blk (fa32 16)), 0, none⟩) ∧ f 17 = .pointer (some ⟨b33, 0, none⟩) ∧ f 20 = .bool (am) ∧ f 58 = .slice p1 (bs.length) (c2) ∧ f 59 = Nx (bs.length) ∧ f 60 = Nx (i) ∧ f 150 = .slice p3 (R.length) (c4) ∧ f 151 = Nx (R.length) ∧ f 152 = Nx (k3)) ∧ L = [pt b33 (.cells #[.int .i64 (0), Nx (n1), Nx (n2)] 65), pt b21 (.cells (bC x15) 31), pt b12 (.cells #[.slice p6 (T.length) (c7), .slice p8 (R.length) (c9), Ix (gX), Ix (gY)] 27), pt b5 (.cells #[.slice p1 (bs.length) (c2), .slice p3 (R.length) (c4), Ix (gX), Ix (gY)] 27), pt (blk (fa32 15)) (.cells #[Ix (speedX x15 (gX) (gY)), Ix (speedY x15 (gX) (gY))] 25), pt (blk (fa32 16)) (.cells (bC x22) 31)] ∧ (k3 ≤ R.length ∧ (am = true → al = true ∧ ∀ r ∈ R.take k3, r.a ≠ x15.id ∧ r.b ≠ x15.id))) (fun (x_ : Nat × Bool) => match x_ with | (k3, am) => R.length - k3) (0, al) ?_ ?_
     ·exact ⟨⟨rfl, rfl, rfl, rfl, rfl, rfl, rfl, rfl, rfl, rfl, rfl, rfl, rfl, rfl⟩, rfl, ⟨by omega, fun h => ⟨h, fun r hr_ => by simp at hr_⟩⟩⟩
     rintro ⟨k3, am⟩ f0 L0 ⟨⟨hs9, hs10, hs11, hs14, hs15, hs16, hs17, hs20, hs58, hs59, hs60, hs150, hs151, hs152⟩, hL, ⟨hk3, ham⟩⟩
     subst L0
     refine rebase (d := 9) hs9 ?_
     refine rebase (d := 10) hs10 ?_
     refine rebase (d := 11) hs11 ?_
     refine rebase (d := 14) hs14 ?_
     refine rebase (d := 15) hs15 ?_
     refine rebase (d := 16) hs16 ?_
     refine rebase (d := 17) hs17 ?_
     refine rebase (d := 20) hs20 ?_
     refine rebase (d := 58) hs58 ?_
     refine rebase (d := 59) hs59 ?_
     refine rebase (d := 60) hs60 ?_
     refine rebase (d := 150) hs150 ?_
     refine rebase (d := 151) hs151 ?_
     refine rebase (d := 152) hs152 ?_
     clear hs9 hs10 hs11 hs14 hs15 hs16 hs17 hs20 hs58 hs59 hs60 hs150 hs151 hs152
     refine c_seq ?_
     refine c_region ?_
     refine l_val (v := .bool (decide (((k3 : Nat) : Int) < ((R.length : Nat) : Int)))) rfl rfl rfl (e_lss (a := ((k3 : Nat) : Int)) (b := ((R.length : Nat) : Int)) rfl rfl) ?_
     refine l_nil ?_
     refine f_then ?_
     refine c_seq ?_
     refine c_if (((k3 : Nat) : Int) < ((R.length : Nat) : Int)) rfl (fun hc61 => ?_) (fun hc61 => ?_)
     ·
      refine c_skip ?_
      refine f_then ?_
      refine c_seq ?_
      refine c_block ?_
      refine c_seq ?_
      refine c_region ?_
      obtain ⟨x62, hx63⟩ : ∃ x_, (R)[k3]? = some x_ := ⟨_, List.getElem?_eq_getElem (by omega)⟩
      obtain ⟨ha64, cs65, hc66, rfl⟩ := he4 _ _ hx63
      refine l_val (v := .pointer (some ((ba p3).add (k3 * 3)))) rfl rfl rfl (e_indexAddr (k := k3) (len := R.length) (cap := c4) (a := p3) rfl rfl tf46 (by omega) ha64) ?_
      refine l_val (v := .agg #[Ix (x62.a), Ix (x62.b), Ix (x62.len)]) rfl rfl rfl (e_load tf47 (cs := [Ix (x62.a), Ix (x62.b), Ix (x62.len)]) rfl (Knows.of_base (Cs.mono _ _) hc66) rfl) ?_
      refine l_mv rfl rfl rfl (m_alloc tf77) ?_
      rintro _ _ ⟨b68, rfl, rfl⟩
      refine l_mu rfl rfl (m_store 0 tf47 (b := b68) (o := 0) (T := 35) (cs := #[.int .i64 (0), .int .i64 (0), .int .i64 (0)]) (cs' := #[Ix (x62.a), Ix (x62.b), Ix (x62.len)]) (v := .agg #[Ix (x62.a), Ix (x62.b), Ix (x62.len)]) rfl rfl rfl rfl rfl rfl rfl) ?_
      refine l_nil ?_
      refine f_then ?_
      refine c_region ?_
      refine l_val (v := .bool (am)) rfl rfl rfl (e_move) ?_
      refine l_val (v := .bool (am)) rfl rfl rfl (e_move) ?_
      refine l_splitb (s := 157) (b := am) rfl (fun hg69 => ?_) (fun hg69 => ?_)
      ·
       refine g_val (v := .pointer (some ⟨b68, 0, none⟩)) rfl rfl rfl rfl rfl (e_fieldPt (b := b68) (o := 0) rfl tf51) ?_
       refine g_val (v := Ix (x62.a)) rfl rfl rfl rfl rfl (e_load1 tf2 (v := Ix (x62.a)) rfl (k_pt 0 (cs := #[Ix (x62.a), Ix (x62.b), Ix (x62.len)]) (vs := [Ix (x62.a)]) rfl rfl)) ?_
       refine g_val (v := .pointer (some ⟨b21, 0, none⟩)) rfl rfl rfl rfl rfl (e_fieldPt (b := b21) (o := 0) rfl tf3) ?_
       refine g_val (v := Ix (x15.id)) rfl rfl rfl rfl rfl (e_load1 tf2 (v := Ix (x15.id)) rfl (k_pt 2 (cs := (bC x15)) (vs := [Ix (x15.id)]) rfl rfl)) ?_
       refine g_val (v := .bool (decide ((x62.a) ≠ (x15.id)))) rfl rfl rfl rfl rfl (e_neq (a := (x62.a)) (b := (x15.id)) rfl rfl) ?_
       refine l_val (v := .bool (decide ((x62.a) ≠ (x15.id)))) rfl rfl rfl (e_pick_t rfl) ?_
       refine l_val (v := .bool (decide ((x62.a) ≠ (x15.id)))) rfl rfl rfl (e_move) ?_
       refine l_split (s := 164) (p := (x62.a) ≠ (x15.id)) rfl (fun hg70 => ?_) (fun hg70 => ?_)
       ·
        refine g_val (v := .pointer (some ⟨b68, 1, none⟩)) rfl rfl rfl rfl rfl (e_fieldPt (b := b68) (o := 0) rfl tf53) ?_
        refine g_val (v := Ix (x62.b)) rfl rfl rfl rfl rfl (e_load1 tf2 (v := Ix (x62.b)) rfl (k_pt 0 (cs := #[Ix (x62.a), Ix (x62.b), Ix (x62.len)]) (vs := [Ix (x62.b)]) rfl rfl)) ?_
        refine g_val (v := .pointer (some ⟨b21, 0, none⟩)) rfl rfl rfl rfl rfl (e_fieldPt (b := b21) (o := 0) rfl tf3) ?_
        refine g_val (v := Ix (x15.id)) rfl rfl rfl rfl rfl (e_load1 tf2 (v := Ix (x15.id)) rfl (k_pt 2 (cs := (bC x15)) (vs := [Ix (x15.id)]) rfl rfl)) ?_
        refine g_val (v := .bool (decide ((x62.b) ≠ (x15.id)))) rfl rfl rfl rfl rfl (e_neq (a := (x62.b)) (b := (x15.id)) rfl rfl) ?_
        refine l_val (v := .bool (decide ((x62.b) ≠ (x15.id)))) rfl rfl rfl (e_pick_t rfl) ?_
        refine l_val (v := .bool (decide ((x62.b) ≠ (x15.id)))) rfl rfl rfl (e_assign) ?_
        refine l_nil ?_
        refine f_block ?_
        refine f_then ?_
        refine c_region ?_
        refine l_val (v := Nx (k3 + 1)) rfl rfl rfl (e_add (a := ((k3 : Nat) : Int)) (b := (1 : Int)) rfl rfl (i64n (by omega) (by omega))) ?_
        refine l_val (v := Nx (k3 + 1)) rfl rfl rfl (e_move) ?_
        refine l_nil ?_
        refine f_mask (L' := [pt b33 (.cells #[.int .i64 (0), Nx (n1), Nx (n2)] 65), pt b21 (.cells (bC x15) 31), pt b12 (.cells #[.slice p6 (T.length) (c7), .slice p8 (R.length) (c9), Ix (gX), Ix (gY)] 27), pt b5 (.cells #[.slice p1 (bs.length) (c2), .slice p3 (R.length) (c4), Ix (gX), Ix (gY)] 27), pt (blk (fa32 15)) (.cells #[Ix (speedX x15 (gX) (gY)), Ix (speedY x15 (gX) (gY))] 25), pt (blk (fa32 16)) (.cells (bC x22) 31)]) [false, true, true, true, true, true, true] rfl ?_
        exact f_cut ⟨(k3 + 1, (decide ((x62.b) ≠ (x15.id)))), ⟨⟨rfl, rfl, rfl, rfl, rfl, rfl, rfl, rfl, rfl, rfl, rfl, rfl, rfl, rfl⟩, rfl, ⟨by omega, fun h => ⟨(ham hg69).1, rope_next (ham hg69).2 hx63 hg70 (of_decide_eq_true h)⟩⟩⟩, (show R.length - (k3 + 1) < R.length - k3 from by omega)⟩
       ·
        refine l_skip rfl rfl rfl rfl rfl rfl ?_
        refine l_skip rfl rfl rfl rfl rfl rfl ?_
        refine l_skip rfl rfl rfl rfl rfl rfl ?_
        refine l_skip rfl rfl rfl rfl rfl rfl ?_
        refine l_skip rfl rfl rfl rfl rfl rfl ?_
        refine l_val (v := .bool false) rfl rfl rfl (e_pick_f rfl) ?_
        refine l_val (v := .bool false) rfl rfl rfl (e_assign) ?_
        refine l_nil ?_
        refine f_block ?_
        refine f_then ?_
        refine c_region ?_
        refine l_val (v := Nx (k3 + 1)) rfl rfl rfl (e_add (a := ((k3 : Nat) : Int)) (b := (1 : Int)) rfl rfl (i64n (by omega) (by omega))) ?_
        refine l_val (v := Nx (k3 + 1)) rfl rfl rfl (e_move) ?_
        refine l_nil ?_
        refine f_mask (L' := [pt b33 (.cells #[.int .i64 (0), Nx (n1), Nx (n2)] 65), pt b21 (.cells (bC x15) 31), pt b12 (.cells #[.slice p6 (T.length) (c7), .slice p8 (R.length) (c9), Ix (gX), Ix (gY)] 27), pt b5 (.cells #[.slice p1 (bs.length) (c2), .slice p3 (R.length) (c4), Ix (gX), Ix (gY)] 27), pt (blk (fa32 15)) (.cells #[Ix (speedX x15 (gX) (gY)), Ix (speedY x15 (gX) (gY))] 25), pt (blk (fa32 16)) (.cells (bC x22) 31)]) [false, true, true, true, true, true, true] rfl ?_
        exact f_cut ⟨(k3 + 1, false), ⟨⟨rfl, rfl, rfl, rfl, rfl, rfl, rfl, rfl, rfl, rfl, rfl, rfl, rfl, rfl⟩, rfl, ⟨by omega, fun h => by cases h⟩⟩, (show R.length - (k3 + 1) < R.length - k3 from by omega)⟩
      ·
       refine l_skip rfl rfl rfl rfl rfl rfl ?_
       refine l_skip rfl rfl rfl rfl rfl rfl ?_
       refine l_skip rfl rfl rfl rfl rfl rfl ?_
       refine l_skip rfl rfl rfl rfl rfl rfl ?_
       refine l_skip rfl rfl rfl rfl rfl rfl ?_
       refine l_val (v := .bool false) rfl rfl rfl (e_pick_f rfl) ?_
       refine l_val (v := .bool false) rfl rfl rfl (e_move) ?_
       refine l_skip rfl rfl rfl rfl rfl rfl ?_
       refine l_skip rfl rfl rfl rfl rfl rfl ?_
       refine l_skip rfl rfl rfl rfl rfl rfl ?_
       refine l_skip rfl rfl rfl rfl rfl rfl ?_
       refine l_skip rfl rfl rfl rfl rfl rfl ?_
       refine l_val (v := .bool false) rfl rfl rfl (e_pick_f rfl) ?_
       refine l_val (v := .bool false) rfl rfl rfl (e_assign) ?_
       refine l_nil ?_
       refine f_block ?_
       refine f_then ?_
       refine c_region ?_
       refine l_val (v := Nx (k3 + 1)) rfl rfl rfl (e_add (a := ((k3 : Nat) : Int)) (b := (1 : Int)) rfl rfl (i64n (by omega) (by omega))) ?_
       refine l_val (v := Nx (k3 + 1)) rfl rfl rfl (e_move) ?_
       refine l_nil ?_
       refine f_mask (L' := [pt b33 (.cells #[.int .i64 (0), Nx (n1), Nx (n2)] 65), pt b21 (.cells (bC x15) 31), pt b12 (.cells #[.slice p6 (T.length) (c7), .slice p8 (R.length) (c9), Ix (gX), Ix (gY)] 27), pt b5 (.cells #[.slice p1 (bs.length) (c2), .slice p3 (R.length) (c4), Ix (gX), Ix (gY)] 27), pt (blk (fa32 15)) (.cells #[Ix (speedX x15 (gX) (gY)), Ix (speedY x15 (gX) (gY))] 25), pt (blk (fa32 16)) (.cells (bC x22) 31)]) [false, true, true, true, true, true, true] rfl ?_
       exact f_cut ⟨(k3 + 1, false), ⟨⟨rfl, rfl, rfl, rfl, rfl, rfl, rfl, rfl, rfl, rfl, rfl, rfl, rfl, rfl⟩, rfl, ⟨by omega, fun h => by cases h⟩⟩, (show R.length - (k3 + 1) < R.length - k3 from by omega)⟩
     ·
      refine c_exit ?_
      refine f_then_exit ?_
      refine f_then_exit ?_
      refine f_exit ?_
      refine f_then ?_
      refine c_seq_cut (fun (f : Fm) (L : List Res) => ∃ (dm : Unit), (f 9 = .pointer (some ⟨b5, 0, none⟩) ∧ f 10 = .pointer (some ⟨b12, 0, none⟩) ∧ f 11 = .slice p10 (S.length) (c11) ∧ f 14 = .pointer (some ⟨b21, 0, none⟩) ∧ f 15 = .pointer (some ⟨(blk (fa32 15)), 0, none⟩) ∧ f 16 = .pointer (some ⟨(blk (fa32 16)), 0, none⟩) ∧ f 17 = .pointer (some ⟨b33, 0, none⟩) ∧ f 58 = .slice p1 (bs.length) (c2) ∧ f 59 = Nx (bs.length) ∧ f 60 = Nx (i)) ∧ L = [pt b33 (.cells #[.int .i64 (0), Nx (n1), Nx (n2)] 65), pt b21 (.cells (bC x15) 31), pt b12 (.cells #[.slice p6 (T.length) (c7), .slice p8 (R.length) (c9), Ix (gX), Ix (gY)] 27), pt b5 (.cells #[.slice p1 (bs.length) (c2), .slice p3 (R.length) (c4), Ix (gX), Ix (gY)] 27), pt (blk (fa32 15)) (.cells #[Ix (speedX x15 (gX) (gY)), Ix (speedY x15 (gX) (gY))] 25), pt (blk (fa32 16)) (.cells (bC x22) 31)] ∧ (True)) ?_ ?_
      ·
       refine c_seq ?_
       have hz0 : am = true → n1 = 0 ∧ n2 = 0 := fun h => by rw [hc1, hc2]; exact hF.alone ⟨fun k' o hk' ho => hal (ham h).1 k' o (by have := (List.getElem?_eq_some_iff.1 ho).1; omega) hk' ho, by have q := (ham h).2; rwa [List.take_of_length_le (by omega)] at q⟩
       refine c_region ?_
       refine l_val (v := .bool (am)) rfl rfl rfl (e_move) ?_
       refine l_val (v := .bool (am)) rfl rfl rfl (e_move) ?_
       refine l_splitb (s := 173) (b := am) rfl (fun hg71 => ?_) (fun hg71 => ?_)
       ·
        refine g_val (v := .agg #[.int .i64 (0), Nx (n1), Nx (n2)]) rfl rfl rfl rfl rfl (e_load tf151 (cs := [.int .i64 (0), Nx (n1), Nx (n2)]) rfl (k_pt 0 (cs := #[.int .i64 (0), Nx (n1), Nx (n2)]) (vs := [.int .i64 (0), Nx (n1), Nx (n2)]) rfl rfl) rfl) ?_
        refine g_val (v := .agg #[.int .i64 (0), .int .i64 (0), .int .i64 (0)]) rfl rfl rfl rfl rfl (e_build_a tf147 tf150 (vs := []) (cells := #[.int .i64 (0), .int .i64 (0), .int .i64 (0)]) rfl rfl) ?_
        refine g_val (v := .bool (decide (¬ ((0 : Int) = (0 : Int) ∧ ((n1 : Nat) : Int) = (0 : Int) ∧ ((n2 : Nat) : Int) = (0 : Int))))) rfl rfl rfl rfl rfl (e_neq_t (xs := [.int .i64 (0), Nx (n1), Nx (n2)]) (ys := [.int .i64 (0), .int .i64 (0), .int .i64 (0)]) tf152 tf153 tf154 rfl rfl rfl rfl (not_congr arr3_eq)) ?_
        refine l_val (v := .bool (decide (¬ ((0 : Int) = (0 : Int) ∧ ((n1 : Nat) : Int) = (0 : Int) ∧ ((n2 : Nat) : Int) = (0 : Int))))) rfl rfl rfl (e_pick_t rfl) ?_
        refine l_val (v := .bool (decide (¬ ((0 : Int) = (0 : Int) ∧ ((n1 : Nat) : Int) = (0 : Int) ∧ ((n2 : Nat) : Int) = (0 : Int))))) rfl rfl rfl (e_move) ?_
        refine l_split (s := 178) (p := ¬ ((0 : Int) = (0 : Int) ∧ ((n1 : Nat) : Int) = (0 : Int) ∧ ((n2 : Nat) : Int) = (0 : Int))) rfl (fun h => ?_) (fun h => ?_)
        exact absurd h (fun h => h (by have q := hz0 hg71; omega))
        refine g_val (v := .pointer (some ⟨b33, 0, none⟩)) rfl rfl rfl rfl rfl (e_indexArrK (b := b33) (o := 0) (k := 0) rfl rfl tf150 (by decide)) ?_
        refine g_val (v := .int .i64 (0)) rfl rfl rfl rfl rfl (e_load1 tf2 (v := .int .i64 (0)) rfl (k_pt 0 (cs := #[.int .i64 (0), Nx (n1), Nx (n2)]) (vs := [.int .i64 (0)]) rfl rfl)) ?_
        refine g_val (v := .bool false) rfl rfl rfl rfl rfl (e_neq (a := (0 : Int)) (b := (0 : Int)) rfl rfl) ?_
        refine l_val (v := .bool false) rfl rfl rfl (e_pick_f rfl) ?_
        refine l_nil ?_
        refine f_then ?_
        refine c_no rfl ?_
        refine c_skip ?_
        exact f_cut ⟨(), ⟨rfl, rfl, rfl, rfl, rfl, rfl, rfl, rfl, rfl, rfl⟩, rfl, trivial⟩
       ·
        refine l_skip rfl rfl rfl rfl rfl rfl ?_
        refine l_skip rfl rfl rfl rfl rfl rfl ?_
        refine l_skip rfl rfl rfl rfl rfl rfl ?_
        refine l_val (v := .bool false) rfl rfl rfl (e_pick_f rfl) ?_
        refine l_val (v := .bool false) rfl rfl rfl (e_move) ?_
        refine g_val (v := .pointer (some ⟨b33, 0, none⟩)) rfl rfl rfl rfl rfl (e_indexArrK (b := b33) (o := 0) (k := 0) rfl rfl tf150 (by decide)) ?_
        refine g_val (v := .int .i64 (0)) rfl rfl rfl rfl rfl (e_load1 tf2 (v := .int .i64 (0)) rfl (k_pt 0 (cs := #[.int .i64 (0), Nx (n1), Nx (n2)]) (vs := [.int .i64 (0)]) rfl rfl)) ?_
        refine g_val (v := .bool false) rfl rfl rfl rfl rfl (e_neq (a := (0 : Int)) (b := (0 : Int)) rfl rfl) ?_
        refine l_val (v := .bool false) rfl rfl rfl (e_pick_f rfl) ?_
        refine l_nil ?_
        refine f_then ?_
        refine c_no rfl ?_
        refine c_skip ?_
        exact f_cut ⟨(), ⟨rfl, rfl, rfl, rfl, rfl, rfl, rfl, rfl, rfl, rfl⟩, rfl, trivial⟩
      rintro f0 L0 ⟨dm, ⟨hs9, hs10, hs11, hs14, hs15, hs16, hs17, hs58, hs59, hs60⟩, hL, -⟩
      subst L0
      refine rebase (d := 9) hs9 ?_
      refine rebase (d := 10) hs10 ?_
      refine rebase (d := 11) hs11 ?_
      refine rebase (d := 14) hs14 ?_
      refine rebase (d := 15) hs15 ?_
      refine rebase (d := 16) hs16 ?_
      refine rebase (d := 17) hs17 ?_
      refine rebase (d := 58) hs58 ?_
      refine rebase (d := 59) hs59 ?_
      refine rebase (d := 60) hs60 ?_
      clear hs9 hs10 hs11 hs14 hs15 hs16 hs17 hs58 hs59 hs60
      refine c_seq ?_
      refine c_seq ?_
      refine c_region ?_
      refine l_val (v := .pointer (some ⟨b21, 8, none⟩)) rfl rfl rfl (e_fieldPt (b := b21) (o := 0) rfl tf14) ?_
      refine l_val (v := .bool (x15.fixed)) rfl rfl rfl (e_load1 tf13 (v := .bool (x15.fixed)) rfl (k_pt 1 (cs := (bC x15)) (vs := [.bool (x15.fixed)]) rfl rfl)) ?_
      refine l_nil ?_
      refine f_then ?_
      refine c_ifb (x15.fixed) rfl (fun hc72 => ?_) (fun hc72 => ?_)
      ·
       refine c_exit ?_
       refine f_then_exit ?_
       refine f_exit ?_
       refine f_then ?_
       refine c_region ?_
       refine l_val (v := Nx (i + 1)) rfl rfl rfl (e_add (a := ((i : Nat) : Int)) (b := (1 : Int)) rfl rfl (i64n (by omega) (by omega))) ?_
       refine l_val (v := Nx (i + 1)) rfl rfl rfl (e_move) ?_
       refine l_nil ?_
       refine f_mask (L' := [pt b12 (.cells #[.slice p6 (T.length) (c7), .slice p8 (R.length) (c9), Ix (gX), Ix (gY)] 27), pt b5 (.cells #[.slice p1 (bs.length) (c2), .slice p3 (R.length) (c4), Ix (gX), Ix (gY)] 27)]) [false, false, true, true, false, false] rfl ?_
       exact f_cut ⟨i + 1, ⟨⟨rfl, rfl, rfl, rfl, rfl, rfl⟩, rfl, (by omega)⟩, (show bs.length - (i + 1) < bs.length - i from by omega)⟩
      ·
       refine c_skip ?_
       refine f_then ?_
       refine c_seq ?_
       refine c_region ?_
       refine l_val (v := .pointer (some ⟨(blk (fa32 16)), 1, none⟩)) rfl rfl rfl (e_fieldPt (b := (blk (fa32 16))) (o := 0) rfl tf6) ?_
       refine l_val (v := .pointer (some ⟨(blk (fa32 16)), 1, none⟩)) rfl rfl rfl (e_fieldPt (b := (blk (fa32 16))) (o := 1) rfl tf7) ?_
       refine l_val (v := Ix (x22.x)) rfl rfl rfl (e_load1 tf2 (v := Ix (x22.x)) rfl (k_pt 5 (cs := (bC x22)) (vs := [Ix (x22.x)]) rfl rfl)) ?_
       refine l_val (v := .pointer (some ⟨b21, 1, none⟩)) rfl rfl rfl (e_fieldPt (b := b21) (o := 0) rfl tf6) ?_
       refine l_val (v := .pointer (some ⟨b21, 1, none⟩)) rfl rfl rfl (e_fieldPt (b := b21) (o := 1) rfl tf7) ?_
       refine l_val (v := Ix (x15.x)) rfl rfl rfl (e_load1 tf2 (v := Ix (x15.x)) rfl (k_pt 1 (cs := (bC x15)) (vs := [Ix (x15.x)]) rfl rfl)) ?_
       refine l_val (v := Ix ((x22.x) - (x15.x))) rfl rfl rfl (e_sub (a := (x22.x)) (b := (x15.x)) rfl rfl (i64w (by omega))) ?_
       refine l_val (v := .pointer (some ⟨(blk (fa32 15)), 0, none⟩)) rfl rfl rfl (e_fieldPt (b := (blk (fa32 15))) (o := 0) rfl tf7) ?_
       refine l_val (v := Ix (speedX x15 (gX) (gY))) rfl rfl rfl (e_load1 tf2 (v := Ix (speedX x15 (gX) (gY))) rfl (k_pt 4 (cs := #[Ix (speedX x15 (gX) (gY)), Ix (speedY x15 (gX) (gY))]) (vs := [Ix (speedX x15 (gX) (gY))]) rfl rfl)) ?_
       refine l_val (v := .pointer (some ⟨(blk (fa32 16)), 3, none⟩)) rfl rfl rfl (e_fieldPt (b := (blk (fa32 16))) (o := 0) rfl tf9) ?_
       refine l_val (v := .pointer (some ⟨(blk (fa32 16)), 3, none⟩)) rfl rfl rfl (e_fieldPt (b := (blk (fa32 16))) (o := 3) rfl tf7) ?_
       refine l_val (v := Ix (x22.vx)) rfl rfl rfl (e_load1 tf2 (v := Ix (x22.vx)) rfl (k_pt 5 (cs := (bC x22)) (vs := [Ix (x22.vx)]) rfl rfl)) ?_
       refine l_val (v := .pointer (some ⟨b33, 1, none⟩)) rfl rfl rfl (e_indexArrK (b := b33) (o := 0) (k := 1) rfl rfl tf150 (by decide)) ?_
       refine l_val (v := Nx (n1)) rfl rfl rfl (e_load1 tf2 (v := Nx (n1)) rfl (k_pt 0 (cs := #[.int .i64 (0), Nx (n1), Nx (n2)]) (vs := [Nx (n1)]) rfl rfl)) ?_
       refine l_val (v := .agg #[Ix ((x22.x) - (x15.x)), Ix (speedX x15 (gX) (gY)), Ix (x22.vx), Nx (n1)]) rfl rfl rfl (e_build_a tf156 tf155 (vs := [(0, Ix ((x22.x) - (x15.x))), (1, Ix (speedX x15 (gX) (gY))), (2, Ix (x22.vx)), (3, Nx (n1))]) (cells := #[Ix ((x22.x) - (x15.x)), Ix (speedX x15 (gX) (gY)), Ix (x22.vx), Nx (n1)]) rfl rfl) ?_
       refine l_val (v := .pointer (some ⟨(blk (fa32 16)), 1, none⟩)) rfl rfl rfl (e_fieldPt (b := (blk (fa32 16))) (o := 0) rfl tf6) ?_
       refine l_val (v := .pointer (some ⟨(blk (fa32 16)), 2, none⟩)) rfl rfl rfl (e_fieldPt (b := (blk (fa32 16))) (o := 1) rfl tf8) ?_
       refine l_val (v := Ix (x22.y)) rfl rfl rfl (e_load1 tf2 (v := Ix (x22.y)) rfl (k_pt 5 (cs := (bC x22)) (vs := [Ix (x22.y)]) rfl rfl)) ?_
       refine l_val (v := .pointer (some ⟨b21, 1, none⟩)) rfl rfl rfl (e_fieldPt (b := b21) (o := 0) rfl tf6) ?_
       refine l_val (v := .pointer (some ⟨b21, 2, none⟩)) rfl rfl rfl (e_fieldPt (b := b21) (o := 1) rfl tf8) ?_
       refine l_val (v := Ix (x15.y)) rfl rfl rfl (e_load1 tf2 (v := Ix (x15.y)) rfl (k_pt 1 (cs := (bC x15)) (vs := [Ix (x15.y)]) rfl rfl)) ?_
       refine l_val (v := Ix ((x22.y) - (x15.y))) rfl rfl rfl (e_sub (a := (x22.y)) (b := (x15.y)) rfl rfl (i64w (by omega))) ?_
       refine l_val (v := .pointer (some ⟨(blk (fa32 15)), 1, none⟩)) rfl rfl rfl (e_fieldPt (b := (blk (fa32 15))) (o := 0) rfl tf8) ?_
       refine l_val (v := Ix (speedY x15 (gX) (gY))) rfl rfl rfl (e_load1 tf2 (v := Ix (speedY x15 (gX) (gY))) rfl (k_pt 4 (cs := #[Ix (speedX x15 (gX) (gY)), Ix (speedY x15 (gX) (gY))]) (vs := [Ix (speedY x15 (gX) (gY))]) rfl rfl)) ?_
       refine l_val (v := .pointer (some ⟨(blk (fa32 16)), 3, none⟩)) rfl rfl rfl (e_fieldPt (b := (blk (fa32 16))) (o := 0) rfl tf9) ?_
       refine l_val (v := .pointer (some ⟨(blk (fa32 16)), 4, none⟩)) rfl rfl rfl (e_fieldPt (b := (blk (fa32 16))) (o := 3) rfl tf8) ?_
       refine l_val (v := Ix (x22.vy)) rfl rfl rfl (e_load1 tf2 (v := Ix (x22.vy)) rfl (k_pt 5 (cs := (bC x22)) (vs := [Ix (x22.vy)]) rfl rfl)) ?_
       refine l_val (v := .pointer (some ⟨b33, 2, none⟩)) rfl rfl rfl (e_indexArrK (b := b33) (o := 0) (k := 2) rfl rfl tf150 (by decide)) ?_
       refine l_val (v := Nx (n2)) rfl rfl rfl (e_load1 tf2 (v := Nx (n2)) rfl (k_pt 0 (cs := #[.int .i64 (0), Nx (n1), Nx (n2)]) (vs := [Nx (n2)]) rfl rfl)) ?_
       refine l_val (v := .agg #[Ix ((x22.y) - (x15.y)), Ix (speedY x15 (gX) (gY)), Ix (x22.vy), Nx (n2)]) rfl rfl rfl (e_build_a tf156 tf155 (vs := [(0, Ix ((x22.y) - (x15.y))), (1, Ix (speedY x15 (gX) (gY))), (2, Ix (x22.vy)), (3, Nx (n2))]) (cells := #[Ix ((x22.y) - (x15.y)), Ix (speedY x15 (gX) (gY)), Ix (x22.vy), Nx (n2)]) rfl rfl) ?_
       refine l_mv rfl rfl rfl (m_slices tf157 tf156 (vs := [(0, .agg #[Ix ((x22.x) - (x15.x)), Ix (speedX x15 (gX) (gY)), Ix (x22.vx), Nx (n1)]), (1, .agg #[Ix ((x22.y) - (x15.y)), Ix (speedY x15 (gX) (gY)), Ix (x22.vy), Nx (n2)])]) (cells := #[Ix ((x22.x) - (x15.x)), Ix (speedX x15 (gX) (gY)), Ix (x22.vx), Nx (n1), Ix ((x22.y) - (x15.y)), Ix (speedY x15 (gX) (gY)), Ix (x22.vy), Nx (n2)]) rfl rfl rfl rfl) ?_
       rintro _ _ ⟨b73, rfl, rfl⟩
       refine l_val (v := .int .i64 (2)) rfl rfl rfl (e_len (n := 2) rfl tf158) ?_
       refine l_val (v := .int .i64 (0)) rfl rfl rfl (e_move) ?_
       refine l_nil ?_
       refine f_then ?_
       refine c_block ?_
       refine c_conseq 0 (r' := rowF QuadF 66 (some ⟨b73, 0, none⟩) 2 [(⟨(x22.x) - (x15.x), speedX x15 (gX) (gY), x22.vx, n1⟩ : KQ), (⟨(x22.y) - (x15.y), speedY x15 (gX) (gY), x22.vy, n2⟩ : KQ)]) rfl (pt_rowF (F := QuadF) (xs := [(⟨(x22.x) - (x15.x), speedX x15 (gX) (gY), x22.vx, n1⟩ : KQ), (⟨(x22.y) - (x15.y), speedY x15 (gX) (gY), x22.vy, n2⟩ : KQ)]) rfl (by simp)) ?_
       obtain ⟨qs, hqs⟩ : ∃ z, z = [(⟨(x22.x) - (x15.x), speedX x15 (gX) (gY), x22.vx, n1⟩ : KQ), (⟨(x22.y) - (x15.y), speedY x15 (gX) (gY), x22.vy, n2⟩ : KQ)] := ⟨_, rfl⟩
       have hql : qs.length = 2 := by rw [hqs]; rfl
       have hqf : ∀ q ∈ qs, fair q.m q.s q.v q.n := fun q hq => by rw [hqs] at hq; rcases List.mem_cons.1 hq with rfl | hq; (· show fair _ _ _ n1; rw [hc1]; exact hF.fairX hc72); (· rw [List.mem_singleton.1 hq]; show fair _ _ _ n2; rw [hc2]; exact hF.fairY hc72)
       rw [← hqs]
       refine c_mask [true, false, false, true, true, false, false] rfl ?_
       refine c_loop (fun (m : Nat) (f : Fm) (L : List Res) => (f 9 = .pointer (some ⟨b5, 0, none⟩) ∧ f 10 = .pointer (some ⟨b12, 0, none⟩) ∧ f 11 = .slice p10 (S.length) (c11) ∧ f 58 = .slice p1 (bs.length) (c2) ∧ f 59 = Nx (bs.length) ∧ f 60 = Nx (i) ∧ f 215 = .slice (some ⟨b73, 0, none⟩) (2) 2 ∧ f 216 = .int .i64 (2) ∧ f 217 = Nx (m)) ∧ L = [rowF QuadF 66 (some ⟨b73, 0, none⟩) 2 qs, pt b12 (.cells #[.slice p6 (T.length) (c7), .slice p8 (R.length) (c9), Ix (gX), Ix (gY)] 27), pt b5 (.cells #[.slice p1 (bs.length) (c2), .slice p3 (R.length) (c4), Ix (gX), Ix (gY)] 27)] ∧ (m ≤ 2)) (fun (m : Nat) => 2 - m) 0 ?_ ?_
       ·exact ⟨⟨rfl, rfl, rfl, rfl, rfl, rfl, rfl, rfl, rfl⟩, rfl, (by omega)⟩
       rintro m f0 L0 ⟨⟨hs9, hs10, hs11, hs58, hs59, hs60, hs215, hs216, hs217⟩, hL, hm⟩
       subst L0
       refine rebase (d := 9) hs9 ?_
       refine rebase (d := 10) hs10 ?_
       refine rebase (d := 11) hs11 ?_
       refine rebase (d := 58) hs58 ?_
       refine rebase (d := 59) hs59 ?_
       refine rebase (d := 60) hs60 ?_
       refine rebase (d := 215) hs215 ?_
       refine rebase (d := 216) hs216 ?_
       refine rebase (d := 217) hs217 ?_
       clear hs9 hs10 hs11 hs58 hs59 hs60 hs215 hs216 hs217
       refine c_seq ?_
       refine c_region ?_
       refine l_val (v := .bool (decide (((m : Nat) : Int) < (2 : Int)))) rfl rfl rfl (e_lss (a := ((m : Nat) : Int)) (b := (2 : Int)) rfl rfl) ?_
       refine l_nil ?_
       refine f_then ?_
       refine c_seq ?_
       refine c_if (((m : Nat) : Int) < (2 : Int)) rfl (fun hc74 => ?_) (fun hc74 => ?_)
       ·
        refine c_skip ?_
        refine f_then ?_
        refine c_seq ?_
        refine c_block ?_
        refine c_seq ?_
        refine c_region ?_
        refine l_val (v := .pointer (some ((ba (some ⟨b73, 0, none⟩)).add (m * 4)))) rfl rfl rfl (e_indexFlN 0 (F := QuadF) (j := m) (m := 2) (xs := qs) rfl (by omega) rfl tf157 (by omega) rfl) ?_
        obtain ⟨q, hq⟩ : ∃ x_, qs[m]? = some x_ := ⟨_, List.getElem?_eq_getElem (by omega)⟩
        refine l_val (v := .agg #[Ix (q.m), Ix (q.s), Ix (q.v), Nx (q.n)]) rfl rfl rfl (e_load tf159 (cs := [Ix (q.m), Ix (q.s), Ix (q.v), Nx (q.n)]) rfl (k_flAt 0 (F := QuadF) rfl hq) rfl) ?_
        refine l_mv rfl rfl rfl (m_alloc tf156) ?_
        rintro _ _ ⟨b75, rfl, rfl⟩
        refine l_mu rfl rfl (m_store 0 tf159 (b := b75) (o := 0) (T := 66) (cs := #[.int .i64 (0), .int .i64 (0), .int .i64 (0), .int .i64 (0)]) (cs' := #[Ix (q.m), Ix (q.s), Ix (q.v), Nx (q.n)]) (v := .agg #[Ix (q.m), Ix (q.s), Ix (q.v), Nx (q.n)]) rfl rfl rfl rfl rfl rfl rfl) ?_
        refine l_nil ?_
        refine f_then ?_
        refine c_seq ?_
        refine c_quiet (by kernel_rfl) (by kernel_rfl) ?_
        refine q_val (v := .pointer (some ⟨b75, 0, none⟩)) rfl rfl rfl (e_indexArrK (b := b75) (o := 0) (k := 0) rfl rfl tf155 (by decide)) ?_
        refine q_val (v := Ix (q.m)) rfl rfl rfl (e_load1 tf2 (v := Ix (q.m)) rfl (k_pt 0 (cs := #[Ix (q.m), Ix (q.s), Ix (q.v), Nx (q.n)]) (vs := [Ix (q.m)]) rfl rfl)) ?_
        refine q_val (v := .pointer (some ⟨b75, 1, none⟩)) rfl rfl rfl (e_indexArrK (b := b75) (o := 0) (k := 1) rfl rfl tf155 (by decide)) ?_
        refine q_val (v := Ix (q.s)) rfl rfl rfl (e_load1 tf2 (v := Ix (q.s)) rfl (k_pt 0 (cs := #[Ix (q.m), Ix (q.s), Ix (q.v), Nx (q.n)]) (vs := [Ix (q.s)]) rfl rfl)) ?_
        refine q_val (v := .pointer (some ⟨b75, 2, none⟩)) rfl rfl rfl (e_indexArrK (b := b75) (o := 0) (k := 2) rfl rfl tf155 (by decide)) ?_
        refine q_val (v := Ix (q.v)) rfl rfl rfl (e_load1 tf2 (v := Ix (q.v)) rfl (k_pt 0 (cs := #[Ix (q.m), Ix (q.s), Ix (q.v), Nx (q.n)]) (vs := [Ix (q.v)]) rfl rfl)) ?_
        refine q_val (v := .pointer (some ⟨b75, 3, none⟩)) rfl rfl rfl (e_indexArrK (b := b75) (o := 0) (k := 3) rfl rfl tf155 (by decide)) ?_
        refine q_val (v := Nx (q.n)) rfl rfl rfl (e_load1 tf2 (v := Nx (q.n)) rfl (k_pt 0 (cs := #[Ix (q.m), Ix (q.s), Ix (q.v), Nx (q.n)]) (vs := [Nx (q.n)]) rfl rfl)) ?_
        refine q_val (v := Ix (q.m)) rfl rfl rfl (e_assign) ?_
        refine q_val (v := Ix (q.s)) rfl rfl rfl (e_assign) ?_
        refine q_val (v := Ix (q.v)) rfl rfl rfl (e_assign) ?_
        refine q_val (v := Nx (q.n)) rfl rfl rfl (e_assign) ?_
        refine q_nil ?_
        refine f_then ?_
        refine c_seq ?_
        refine c_seq ?_
        obtain ⟨f1, f2, f3, f4, f5⟩ := hqf q (List.mem_of_getElem? hq)
        refine c_region ?_
        refine l_val (v := Nx (q.n)) rfl rfl rfl (e_move) ?_
        refine l_val (v := .bool (decide ((1 : Int) < ((q.n : Nat) : Int)))) rfl rfl rfl (e_gtr (a := ((q.n : Nat) : Int)) (b := (1 : Int)) rfl rfl) ?_
        refine l_val (v := .bool (decide ((1 : Int) < ((q.n : Nat) : Int)))) rfl rfl rfl (e_move) ?_
        refine l_split (s := 231) (p := (1 : Int) < ((q.n : Nat) : Int)) rfl (fun h => ?_) (fun h => ?_)
        exact absurd h (by omega)
        refine g_val (v := Nx (q.n)) rfl rfl rfl rfl rfl (e_move) ?_
        refine g_val (v := .bool (decide (((q.n : Nat) : Int) = (0 : Int)))) rfl rfl rfl rfl rfl (e_eql (a := ((q.n : Nat) : Int)) (b := (0 : Int)) rfl rfl) ?_
        refine g_val (v := .bool (decide (((q.n : Nat) : Int) = (0 : Int)))) rfl rfl rfl rfl rfl (e_move) ?_
        refine l_split (s := 234) (p := ((q.n : Nat) : Int) = (0 : Int)) rfl (fun hg76 => ?_) (fun hg76 => ?_)
        ·
         refine g_val (v := Ix (q.m)) rfl rfl rfl rfl rfl (e_move) ?_
         refine g_val (v := Ix (q.s)) rfl rfl rfl rfl rfl (e_move) ?_
         refine g_val (v := .bool (decide ((q.m) ≠ (q.s)))) rfl rfl rfl rfl rfl (e_neq (a := (q.m)) (b := (q.s)) rfl rfl) ?_
         refine g_val (v := .bool (decide ((q.m) ≠ (q.s)))) rfl rfl rfl rfl rfl (e_move) ?_
         refine l_split (s := 238) (p := (q.m) ≠ (q.s)) rfl (fun h => ?_) (fun h => ?_)
         exact absurd h (by omega)
         refine g_val (v := Ix (q.v)) rfl rfl rfl rfl rfl (e_move) ?_
         refine g_val (v := Ix (q.s)) rfl rfl rfl rfl rfl (e_move) ?_
         refine g_val (v := .bool (decide ((q.v) ≠ (q.s)))) rfl rfl rfl rfl rfl (e_neq (a := (q.v)) (b := (q.s)) rfl rfl) ?_
         refine g_val (v := .bool (decide ((q.v) ≠ (q.s)))) rfl rfl rfl rfl rfl (e_pick_f rfl) ?_
         refine g_val (v := .bool (decide ((q.v) ≠ (q.s)))) rfl rfl rfl rfl rfl (e_pick_t rfl) ?_
         refine l_val (v := .bool (decide ((q.v) ≠ (q.s)))) rfl rfl rfl (e_pick_f rfl) ?_
         refine l_val (v := .bool (decide ((q.v) ≠ (q.s)))) rfl rfl rfl (e_move) ?_
         refine l_split (s := 245) (p := (q.v) ≠ (q.s)) rfl (fun h => ?_) (fun h => ?_)
         exact absurd h (by omega)
         refine g_val (v := Nx (q.n)) rfl rfl rfl rfl rfl (e_move) ?_
         refine g_val (v := .bool (decide (((q.n : Nat) : Int) = (1 : Int)))) rfl rfl rfl rfl rfl (e_eql (a := ((q.n : Nat) : Int)) (b := (1 : Int)) rfl rfl) ?_
         refine g_val (v := .bool (decide (((q.n : Nat) : Int) = (1 : Int)))) rfl rfl rfl rfl rfl (e_move) ?_
         refine l_split (s := 248) (p := ((q.n : Nat) : Int) = (1 : Int)) rfl (fun h => ?_) (fun h => ?_)
         exact absurd h (by omega)
         refine l_skip rfl rfl rfl rfl rfl rfl ?_
         refine l_skip rfl rfl rfl rfl rfl rfl ?_
         refine l_skip rfl rfl rfl rfl rfl rfl ?_
         refine l_skip_u rfl rfl rfl rfl rfl ?_
         refine l_skip_u rfl rfl rfl rfl rfl ?_
         refine l_skip_u rfl rfl rfl rfl rfl ?_
         refine l_skip rfl rfl rfl rfl rfl rfl ?_
         refine g_val (v := .bool false) rfl rfl rfl rfl rfl (e_pick_f rfl) ?_
         refine l_val (v := .bool false) rfl rfl rfl (e_pick_f rfl) ?_
         refine l_nil ?_
         refine f_then ?_
         refine c_no rfl ?_
         refine c_skip ?_
         refine f_then ?_
         refine c_seq ?_
         refine c_region ?_
         refine l_val (v := Ix (q.s)) rfl rfl rfl (e_move) ?_
         refine l_val (v := .bool (decide ((0 : Int) ≤ (q.s)))) rfl rfl rfl (e_geq (a := (q.s)) (b := (0 : Int)) rfl rfl) ?_
         refine l_val (v := .bool (decide ((0 : Int) ≤ (q.s)))) rfl rfl rfl (e_move) ?_
         refine l_split (s := 260) (p := (0 : Int) ≤ (q.s)) rfl (fun hg77 => ?_) (fun hg77 => ?_)
         ·
          refine g_val (v := Ix (q.m)) rfl rfl rfl rfl rfl (e_move) ?_
          refine g_val (v := .bool (decide ((q.m) < (0 : Int)))) rfl rfl rfl rfl rfl (e_lss (a := (q.m)) (b := (0 : Int)) rfl rfl) ?_
          refine g_val (v := .bool (decide ((q.m) < (0 : Int)))) rfl rfl rfl rfl rfl (e_move) ?_
          refine l_split (s := 263) (p := (q.m) < (0 : Int)) rfl (fun h => ?_) (fun h => ?_)
          exact absurd h (by omega)
          refine g_val (v := Ix (q.m)) rfl rfl rfl rfl rfl (e_move) ?_
          refine g_val (v := Ix (q.s)) rfl rfl rfl rfl rfl (e_move) ?_
          refine g_val (v := .bool (decide ((q.s) < (q.m)))) rfl rfl rfl rfl rfl (e_gtr (a := (q.m)) (b := (q.s)) rfl rfl) ?_
          refine g_val (v := .bool (decide ((q.s) < (q.m)))) rfl rfl rfl rfl rfl (e_pick_f rfl) ?_
          refine l_val (v := .bool (decide ((q.s) < (q.m)))) rfl rfl rfl (e_pick_t rfl) ?_
          refine l_val (v := .bool (decide ((q.s) < (q.m)))) rfl rfl rfl (e_move) ?_
          refine l_split (s := 269) (p := (q.s) < (q.m)) rfl (fun h => ?_) (fun h => ?_)
          exact absurd h (by omega)
          refine g_val (v := Ix (q.s)) rfl rfl rfl rfl rfl (e_move) ?_
          refine g_val (v := .bool (decide ((q.s) ≤ (0 : Int)))) rfl rfl rfl rfl rfl (e_leq (a := (q.s)) (b := (0 : Int)) rfl rfl) ?_
          refine g_val (v := .bool (decide ((q.s) ≤ (0 : Int)))) rfl rfl rfl rfl rfl (e_move) ?_
          refine l_split (s := 272) (p := (q.s) ≤ (0 : Int)) rfl (fun hg78 => ?_) (fun hg78 => ?_)
          ·
           refine g_val (v := Ix (q.m)) rfl rfl rfl rfl rfl (e_move) ?_
           refine g_val (v := .bool (decide ((0 : Int) < (q.m)))) rfl rfl rfl rfl rfl (e_gtr (a := (q.m)) (b := (0 : Int)) rfl rfl) ?_
           refine g_val (v := .bool (decide ((0 : Int) < (q.m)))) rfl rfl rfl rfl rfl (e_move) ?_
           refine l_split (s := 275) (p := (0 : Int) < (q.m)) rfl (fun h => ?_) (fun h => ?_)
           exact absurd h (by omega)
           refine g_val (v := Ix (q.m)) rfl rfl rfl rfl rfl (e_move) ?_
           refine g_val (v := Ix (q.s)) rfl rfl rfl rfl rfl (e_move) ?_
           refine g_val (v := .bool (decide ((q.m) < (q.s)))) rfl rfl rfl rfl rfl (e_lss (a := (q.m)) (b := (q.s)) rfl rfl) ?_
           refine g_val (v := .bool (decide ((q.m) < (q.s)))) rfl rfl rfl rfl rfl (e_pick_f rfl) ?_
           refine g_val (v := .bool (decide ((q.m) < (q.s)))) rfl rfl rfl rfl rfl (e_pick_t rfl) ?_
           refine l_val (v := .bool (decide ((q.m) < (q.s)))) rfl rfl rfl (e_pick_f rfl) ?_
           refine l_nil ?_
           refine f_then ?_
           refine c_if ((q.m) < (q.s)) rfl (fun hc79 => ?_) (fun hc79 => ?_)
           ·
            exact absurd hc79 (by omega)
           ·
            refine c_skip ?_
            refine f_block ?_
            refine f_then ?_
            refine c_region ?_
            refine l_val (v := Nx (m + 1)) rfl rfl rfl (e_add (a := ((m : Nat) : Int)) (b := (1 : Int)) rfl rfl (i64n (by omega) (by omega))) ?_
            refine l_val (v := Nx (m + 1)) rfl rfl rfl (e_move) ?_
            refine l_nil ?_
            refine f_mask (L' := [rowF QuadF 66 (some ⟨b73, 0, none⟩) 2 qs, pt b12 (.cells #[.slice p6 (T.length) (c7), .slice p8 (R.length) (c9), Ix (gX), Ix (gY)] 27), pt b5 (.cells #[.slice p1 (bs.length) (c2), .slice p3 (R.length) (c4), Ix (gX), Ix (gY)] 27)]) [false, true, true, true] rfl ?_
            exact f_cut ⟨m + 1, ⟨⟨rfl, rfl, rfl, rfl, rfl, rfl, rfl, rfl, rfl⟩, rfl, (by omega)⟩, (show 2 - (m + 1) < 2 - m from by omega)⟩
          ·
           refine l_skip rfl rfl rfl rfl rfl rfl ?_
           refine l_skip rfl rfl rfl rfl rfl rfl ?_
           refine l_skip rfl rfl rfl rfl rfl rfl ?_
           refine l_skip_u rfl rfl rfl rfl rfl ?_
           refine l_skip_u rfl rfl rfl rfl rfl ?_
           refine l_skip_u rfl rfl rfl rfl rfl ?_
           refine l_skip rfl rfl rfl rfl rfl rfl ?_
           refine g_val (v := .bool false) rfl rfl rfl rfl rfl (e_pick_f rfl) ?_
           refine l_val (v := .bool false) rfl rfl rfl (e_pick_f rfl) ?_
           refine l_nil ?_
           refine f_then ?_
           refine c_no rfl ?_
           refine c_skip ?_
           refine f_block ?_
           refine f_then ?_
           refine c_region ?_
           refine l_val (v := Nx (m + 1)) rfl rfl rfl (e_add (a := ((m : Nat) : Int)) (b := (1 : Int)) rfl rfl (i64n (by omega) (by omega))) ?_
           refine l_val (v := Nx (m + 1)) rfl rfl rfl (e_move) ?_
           refine l_nil ?_
           refine f_mask (L' := [rowF QuadF 66 (some ⟨b73, 0, none⟩) 2 qs, pt b12 (.cells #[.slice p6 (T.length) (c7), .slice p8 (R.length) (c9), Ix (gX), Ix (gY)] 27), pt b5 (.cells #[.slice p1 (bs.length) (c2), .slice p3 (R.length) (c4), Ix (gX), Ix (gY)] 27)]) [false, true, true, true] rfl ?_
           exact f_cut ⟨m + 1, ⟨⟨rfl, rfl, rfl, rfl, rfl, rfl, rfl, rfl, rfl⟩, rfl, (by omega)⟩, (show 2 - (m + 1) < 2 - m from by omega)⟩
         ·
          refine l_skip rfl rfl rfl rfl rfl rfl ?_
          refine l_skip rfl rfl rfl rfl rfl rfl ?_
          refine l_skip rfl rfl rfl rfl rfl rfl ?_
          refine l_skip_u rfl rfl rfl rfl rfl ?_
          refine l_skip_u rfl rfl rfl rfl rfl ?_
          refine l_skip_u rfl rfl rfl rfl rfl ?_
          refine l_skip rfl rfl rfl rfl rfl rfl ?_
          refine l_val (v := .bool false) rfl rfl rfl (e_pick_f rfl) ?_
          refine l_val (v := .bool false) rfl rfl rfl (e_move) ?_
          refine g_val (v := Ix (q.s)) rfl rfl rfl rfl rfl (e_move) ?_
          refine g_val (v := .bool (decide ((q.s) ≤ (0 : Int)))) rfl rfl rfl rfl rfl (e_leq (a := (q.s)) (b := (0 : Int)) rfl rfl) ?_
          refine g_val (v := .bool (decide ((q.s) ≤ (0 : Int)))) rfl rfl rfl rfl rfl (e_move) ?_
          refine l_split (s := 272) (p := (q.s) ≤ (0 : Int)) rfl (fun hg80 => ?_) (fun hg80 => ?_)
          ·
           refine g_val (v := Ix (q.m)) rfl rfl rfl rfl rfl (e_move) ?_
           refine g_val (v := .bool (decide ((0 : Int) < (q.m)))) rfl rfl rfl rfl rfl (e_gtr (a := (q.m)) (b := (0 : Int)) rfl rfl) ?_
           refine g_val (v := .bool (decide ((0 : Int) < (q.m)))) rfl rfl rfl rfl rfl (e_move) ?_
           refine l_split (s := 275) (p := (0 : Int) < (q.m)) rfl (fun h => ?_) (fun h => ?_)
           exact absurd h (by omega)
           refine g_val (v := Ix (q.m)) rfl rfl rfl rfl rfl (e_move) ?_
           refine g_val (v := Ix (q.s)) rfl rfl rfl rfl rfl (e_move) ?_
           refine g_val (v := .bool (decide ((q.m) < (q.s)))) rfl rfl rfl rfl rfl (e_lss (a := (q.m)) (b := (q.s)) rfl rfl) ?_
           refine g_val (v := .bool (decide ((q.m) < (q.s)))) rfl rfl rfl rfl rfl (e_pick_f rfl) ?_
           refine g_val (v := .bool (decide ((q.m) < (q.s)))) rfl rfl rfl rfl rfl (e_pick_t rfl) ?_
           refine l_val (v := .bool (decide ((q.m) < (q.s)))) rfl rfl rfl (e_pick_f rfl) ?_
           refine l_nil ?_
           refine f_then ?_
           refine c_if ((q.m) < (q.s)) rfl (fun hc81 => ?_) (fun hc81 => ?_)
           ·
            exact absurd hc81 (by omega)
           ·
            refine c_skip ?_
            refine f_block ?_
            refine f_then ?_
            refine c_region ?_
            refine l_val (v := Nx (m + 1)) rfl rfl rfl (e_add (a := ((m : Nat) : Int)) (b := (1 : Int)) rfl rfl (i64n (by omega) (by omega))) ?_
            refine l_val (v := Nx (m + 1)) rfl rfl rfl (e_move) ?_
            refine l_nil ?_
            refine f_mask (L' := [rowF QuadF 66 (some ⟨b73, 0, none⟩) 2 qs, pt b12 (.cells #[.slice p6 (T.length) (c7), .slice p8 (R.length) (c9), Ix (gX), Ix (gY)] 27), pt b5 (.cells #[.slice p1 (bs.length) (c2), .slice p3 (R.length) (c4), Ix (gX), Ix (gY)] 27)]) [false, true, true, true] rfl ?_
            exact f_cut ⟨m + 1, ⟨⟨rfl, rfl, rfl, rfl, rfl, rfl, rfl, rfl, rfl⟩, rfl, (by omega)⟩, (show 2 - (m + 1) < 2 - m from by omega)⟩
          ·
           refine l_skip rfl rfl rfl rfl rfl rfl ?_
           refine l_skip rfl rfl rfl rfl rfl rfl ?_
           refine l_skip rfl rfl rfl rfl rfl rfl ?_
           refine l_skip_u rfl rfl rfl rfl rfl ?_
           refine l_skip_u rfl rfl rfl rfl rfl ?_
           refine l_skip_u rfl rfl rfl rfl rfl ?_
           refine l_skip rfl rfl rfl rfl rfl rfl ?_
           refine g_val (v := .bool false) rfl rfl rfl rfl rfl (e_pick_f rfl) ?_
           refine l_val (v := .bool false) rfl rfl rfl (e_pick_f rfl) ?_
           refine l_nil ?_
           refine f_then ?_
           refine c_no rfl ?_
           refine c_skip ?_
           refine f_block ?_
           refine f_then ?_
           refine c_region ?_
           refine l_val (v := Nx (m + 1)) rfl rfl rfl (e_add (a := ((m : Nat) : Int)) (b := (1 : Int)) rfl rfl (i64n (by omega) (by omega))) ?_
           refine l_val (v := Nx (m + 1)) rfl rfl rfl (e_move) ?_
           refine l_nil ?_
           refine f_mask (L' := [rowF QuadF 66 (some ⟨b73, 0, none⟩) 2 qs, pt b12 (.cells #[.slice p6 (T.length) (c7), .slice p8 (R.length) (c9), Ix (gX), Ix (gY)] 27), pt b5 (.cells #[.slice p1 (bs.length) (c2), .slice p3 (R.length) (c4), Ix (gX), Ix (gY)] 27)]) [false, true, true, true] rfl ?_
           exact f_cut ⟨m + 1, ⟨⟨rfl, rfl, rfl, rfl, rfl, rfl, rfl, rfl, rfl⟩, rfl, (by omega)⟩, (show 2 - (m + 1) < 2 - m from by omega)⟩
        ·
         refine l_skip rfl rfl rfl rfl rfl rfl ?_
         refine l_skip rfl rfl rfl rfl rfl rfl ?_
         refine l_skip rfl rfl rfl rfl rfl rfl ?_
         refine l_skip rfl rfl rfl rfl rfl rfl ?_
         refine l_skip_u rfl rfl rfl rfl rfl ?_
         refine l_skip_u rfl rfl rfl rfl rfl ?_
         refine l_skip_u rfl rfl rfl rfl rfl ?_
         refine l_skip rfl rfl rfl rfl rfl rfl ?_
         refine g_val (v := .bool false) rfl rfl rfl rfl rfl (e_pick_f rfl) ?_
         refine l_val (v := .bool false) rfl rfl rfl (e_pick_f rfl) ?_
         refine l_val (v := .bool false) rfl rfl rfl (e_move) ?_
         refine g_val (v := Nx (q.n)) rfl rfl rfl rfl rfl (e_move) ?_
         refine g_val (v := .bool (decide (((q.n : Nat) : Int) = (1 : Int)))) rfl rfl rfl rfl rfl (e_eql (a := ((q.n : Nat) : Int)) (b := (1 : Int)) rfl rfl) ?_
         refine g_val (v := .bool (decide (((q.n : Nat) : Int) = (1 : Int)))) rfl rfl rfl rfl rfl (e_move) ?_
         refine l_split (s := 248) (p := ((q.n : Nat) : Int) = (1 : Int)) rfl (fun h => ?_) (fun h => ?_)
         rotate_left; exact absurd (by omega) h
         refine g_val (v := Ix (q.v)) rfl rfl rfl rfl rfl (e_move) ?_
         refine g_val (v := .bool (decide ((q.v) ≠ (0 : Int)))) rfl rfl rfl rfl rfl (e_neq (a := (q.v)) (b := (0 : Int)) rfl rfl) ?_
         refine g_val (v := .bool (decide ((q.v) ≠ (0 : Int)))) rfl rfl rfl rfl rfl (e_move) ?_
         refine l_split (s := 251) (p := (q.v) ≠ (0 : Int)) rfl (fun h => ?_) (fun h => ?_)
         exact absurd h (by omega)
         refine g_val (v := Ix (q.m)) rfl rfl rfl rfl rfl (e_move) ?_
         refine g_val (v := Ix (q.s)) rfl rfl rfl rfl rfl (e_move) ?_
         refine g_val (v := .bool (decide ((q.m) = (q.s)))) rfl rfl rfl rfl rfl (e_eql (a := (q.m)) (b := (q.s)) rfl rfl) ?_
         refine g_val (v := .bool (decide ((q.m) = (q.s)))) rfl rfl rfl rfl rfl (e_pick_f rfl) ?_
         refine g_val (v := .bool (decide ((q.m) = (q.s)))) rfl rfl rfl rfl rfl (e_pick_t rfl) ?_
         refine l_val (v := .bool (decide ((q.m) = (q.s)))) rfl rfl rfl (e_pick_f rfl) ?_
         refine l_nil ?_
         refine f_then ?_
         refine c_if ((q.m) = (q.s)) rfl (fun hc82 => ?_) (fun hc82 => ?_)
         ·
          exact absurd hc82 (by omega)
         ·
          refine c_skip ?_
          refine f_then ?_
          refine c_seq ?_
          refine c_region ?_
          refine l_val (v := Ix (q.s)) rfl rfl rfl (e_move) ?_
          refine l_val (v := .bool (decide ((0 : Int) ≤ (q.s)))) rfl rfl rfl (e_geq (a := (q.s)) (b := (0 : Int)) rfl rfl) ?_
          refine l_val (v := .bool (decide ((0 : Int) ≤ (q.s)))) rfl rfl rfl (e_move) ?_
          refine l_split (s := 260) (p := (0 : Int) ≤ (q.s)) rfl (fun hg83 => ?_) (fun hg83 => ?_)
          ·
           refine g_val (v := Ix (q.m)) rfl rfl rfl rfl rfl (e_move) ?_
           refine g_val (v := .bool (decide ((q.m) < (0 : Int)))) rfl rfl rfl rfl rfl (e_lss (a := (q.m)) (b := (0 : Int)) rfl rfl) ?_
           refine g_val (v := .bool (decide ((q.m) < (0 : Int)))) rfl rfl rfl rfl rfl (e_move) ?_
           refine l_split (s := 263) (p := (q.m) < (0 : Int)) rfl (fun h => ?_) (fun h => ?_)
           exact absurd h (by omega)
           refine g_val (v := Ix (q.m)) rfl rfl rfl rfl rfl (e_move) ?_
           refine g_val (v := Ix (q.s)) rfl rfl rfl rfl rfl (e_move) ?_
           refine g_val (v := .bool (decide ((q.s) < (q.m)))) rfl rfl rfl rfl rfl (e_gtr (a := (q.m)) (b := (q.s)) rfl rfl) ?_
           refine g_val (v := .bool (decide ((q.s) < (q.m)))) rfl rfl rfl rfl rfl (e_pick_f rfl) ?_
           refine l_val (v := .bool (decide ((q.s) < (q.m)))) rfl rfl rfl (e_pick_t rfl) ?_
           refine l_val (v := .bool (decide ((q.s) < (q.m)))) rfl rfl rfl (e_move) ?_
           refine l_split (s := 269) (p := (q.s) < (q.m)) rfl (fun h => ?_) (fun h => ?_)
           exact absurd h (by omega)
           refine g_val (v := Ix (q.s)) rfl rfl rfl rfl rfl (e_move) ?_
           refine g_val (v := .bool (decide ((q.s) ≤ (0 : Int)))) rfl rfl rfl rfl rfl (e_leq (a := (q.s)) (b := (0 : Int)) rfl rfl) ?_
           refine g_val (v := .bool (decide ((q.s) ≤ (0 : Int)))) rfl rfl rfl rfl rfl (e_move) ?_
           refine l_split (s := 272) (p := (q.s) ≤ (0 : Int)) rfl (fun hg84 => ?_) (fun hg84 => ?_)
           ·
            refine g_val (v := Ix (q.m)) rfl rfl rfl rfl rfl (e_move) ?_
            refine g_val (v := .bool (decide ((0 : Int) < (q.m)))) rfl rfl rfl rfl rfl (e_gtr (a := (q.m)) (b := (0 : Int)) rfl rfl) ?_
            refine g_val (v := .bool (decide ((0 : Int) < (q.m)))) rfl rfl rfl rfl rfl (e_move) ?_
            refine l_split (s := 275) (p := (0 : Int) < (q.m)) rfl (fun h => ?_) (fun h => ?_)
            exact absurd h (by omega)
            refine g_val (v := Ix (q.m)) rfl rfl rfl rfl rfl (e_move) ?_
            refine g_val (v := Ix (q.s)) rfl rfl rfl rfl rfl (e_move) ?_
            refine g_val (v := .bool (decide ((q.m) < (q.s)))) rfl rfl rfl rfl rfl (e_lss (a := (q.m)) (b := (q.s)) rfl rfl) ?_
            refine g_val (v := .bool (decide ((q.m) < (q.s)))) rfl rfl rfl rfl rfl (e_pick_f rfl) ?_
            refine g_val (v := .bool (decide ((q.m) < (q.s)))) rfl rfl rfl rfl rfl (e_pick_t rfl) ?_
            refine l_val (v := .bool (decide ((q.m) < (q.s)))) rfl rfl rfl (e_pick_f rfl) ?_
            refine l_nil ?_
            refine f_then ?_
            refine c_if ((q.m) < (q.s)) rfl (fun hc85 => ?_) (fun hc85 => ?_)
            ·
             exact absurd hc85 (by omega)
            ·
             refine c_skip ?_
             refine f_block ?_
             refine f_then ?_
             refine c_region ?_
             refine l_val (v := Nx (m + 1)) rfl rfl rfl (e_add (a := ((m : Nat) : Int)) (b := (1 : Int)) rfl rfl (i64n (by omega) (by omega))) ?_
             refine l_val (v := Nx (m + 1)) rfl rfl rfl (e_move) ?_
             refine l_nil ?_
             refine f_mask (L' := [rowF QuadF 66 (some ⟨b73, 0, none⟩) 2 qs, pt b12 (.cells #[.slice p6 (T.length) (c7), .slice p8 (R.length) (c9), Ix (gX), Ix (gY)] 27), pt b5 (.cells #[.slice p1 (bs.length) (c2), .slice p3 (R.length) (c4), Ix (gX), Ix (gY)] 27)]) [false, true, true, true] rfl ?_
             exact f_cut ⟨m + 1, ⟨⟨rfl, rfl, rfl, rfl, rfl, rfl, rfl, rfl, rfl⟩, rfl, (by omega)⟩, (show 2 - (m + 1) < 2 - m from by omega)⟩
           ·
            refine l_skip rfl rfl rfl rfl rfl rfl ?_
            refine l_skip rfl rfl rfl rfl rfl rfl ?_
            refine l_skip rfl rfl rfl rfl rfl rfl ?_
            refine l_skip_u rfl rfl rfl rfl rfl ?_
            refine l_skip_u rfl rfl rfl rfl rfl ?_
            refine l_skip_u rfl rfl rfl rfl rfl ?_
            refine l_skip rfl rfl rfl rfl rfl rfl ?_
            refine g_val (v := .bool false) rfl rfl rfl rfl rfl (e_pick_f rfl) ?_
            refine l_val (v := .bool false) rfl rfl rfl (e_pick_f rfl) ?_
            refine l_nil ?_
            refine f_then ?_
            refine c_no rfl ?_
            refine c_skip ?_
            refine f_block ?_
            refine f_then ?_
            refine c_region ?_
            refine l_val (v := Nx (m + 1)) rfl rfl rfl (e_add (a := ((m : Nat) : Int)) (b := (1 : Int)) rfl rfl (i64n (by omega) (by omega))) ?_
            refine l_val (v := Nx (m + 1)) rfl rfl rfl (e_move) ?_
            refine l_nil ?_
            refine f_mask (L' := [rowF QuadF 66 (some ⟨b73, 0, none⟩) 2 qs, pt b12 (.cells #[.slice p6 (T.length) (c7), .slice p8 (R.length) (c9), Ix (gX), Ix (gY)] 27), pt b5 (.cells #[.slice p1 (bs.length) (c2), .slice p3 (R.length) (c4), Ix (gX), Ix (gY)] 27)]) [false, true, true, true] rfl ?_
            exact f_cut ⟨m + 1, ⟨⟨rfl, rfl, rfl, rfl, rfl, rfl, rfl, rfl, rfl⟩, rfl, (by omega)⟩, (show 2 - (m + 1) < 2 - m from by omega)⟩
          ·
           refine l_skip rfl rfl rfl rfl rfl rfl ?_
           refine l_skip rfl rfl rfl rfl rfl rfl ?_
           refine l_skip rfl rfl rfl rfl rfl rfl ?_
           refine l_skip_u rfl rfl rfl rfl rfl ?_
           refine l_skip_u rfl rfl rfl rfl rfl ?_
           refine l_skip_u rfl rfl rfl rfl rfl ?_
           refine l_skip rfl rfl rfl rfl rfl rfl ?_
           refine l_val (v := .bool false) rfl rfl rfl (e_pick_f rfl) ?_
           refine l_val (v := .bool false) rfl rfl rfl (e_move) ?_
           refine g_val (v := Ix (q.s)) rfl rfl rfl rfl rfl (e_move) ?_
           refine g_val (v := .bool (decide ((q.s) ≤ (0 : Int)))) rfl rfl rfl rfl rfl (e_leq (a := (q.s)) (b := (0 : Int)) rfl rfl) ?_
           refine g_val (v := .bool (decide ((q.s) ≤ (0 : Int)))) rfl rfl rfl rfl rfl (e_move) ?_
           refine l_split (s := 272) (p := (q.s) ≤ (0 : Int)) rfl (fun hg86 => ?_) (fun hg86 => ?_)
           ·
            refine g_val (v := Ix (q.m)) rfl rfl rfl rfl rfl (e_move) ?_
            refine g_val (v := .bool (decide ((0 : Int) < (q.m)))) rfl rfl rfl rfl rfl (e_gtr (a := (q.m)) (b := (0 : Int)) rfl rfl) ?_
            refine g_val (v := .bool (decide ((0 : Int) < (q.m)))) rfl rfl rfl rfl rfl (e_move) ?_
            refine l_split (s := 275) (p := (0 : Int) < (q.m)) rfl (fun h => ?_) (fun h => ?_)
            exact absurd h (by omega)
            refine g_val (v := Ix (q.m)) rfl rfl rfl rfl rfl (e_move) ?_
            refine g_val (v := Ix (q.s)) rfl rfl rfl rfl rfl (e_move) ?_
            refine g_val (v := .bool (decide ((q.m) < (q.s)))) rfl rfl rfl rfl rfl (e_lss (a := (q.m)) (b := (q.s)) rfl rfl) ?_
            refine g_val (v := .bool (decide ((q.m) < (q.s)))) rfl rfl rfl rfl rfl (e_pick_f rfl) ?_
            refine g_val (v := .bool (decide ((q.m) < (q.s)))) rfl rfl rfl rfl rfl (e_pick_t rfl) ?_
            refine l_val (v := .bool (decide ((q.m) < (q.s)))) rfl rfl rfl (e_pick_f rfl) ?_
            refine l_nil ?_
            refine f_then ?_
            refine c_if ((q.m) < (q.s)) rfl (fun hc87 => ?_) (fun hc87 => ?_)
            ·
             exact absurd hc87 (by omega)
            ·
             refine c_skip ?_
             refine f_block ?_
             refine f_then ?_
             refine c_region ?_
             refine l_val (v := Nx (m + 1)) rfl rfl rfl (e_add (a := ((m : Nat) : Int)) (b := (1 : Int)) rfl rfl (i64n (by omega) (by omega))) ?_
             refine l_val (v := Nx (m + 1)) rfl rfl rfl (e_move) ?_
             refine l_nil ?_
             refine f_mask (L' := [rowF QuadF 66 (some ⟨b73, 0, none⟩) 2 qs, pt b12 (.cells #[.slice p6 (T.length) (c7), .slice p8 (R.length) (c9), Ix (gX), Ix (gY)] 27), pt b5 (.cells #[.slice p1 (bs.length) (c2), .slice p3 (R.length) (c4), Ix (gX), Ix (gY)] 27)]) [false, true, true, true] rfl ?_
             exact f_cut ⟨m + 1, ⟨⟨rfl, rfl, rfl, rfl, rfl, rfl, rfl, rfl, rfl⟩, rfl, (by omega)⟩, (show 2 - (m + 1) < 2 - m from by omega)⟩
           ·
            refine l_skip rfl rfl rfl rfl rfl rfl ?_
            refine l_skip rfl rfl rfl rfl rfl rfl ?_
            refine l_skip rfl rfl rfl rfl rfl rfl ?_
            refine l_skip_u rfl rfl rfl rfl rfl ?_
            refine l_skip_u rfl rfl rfl rfl rfl ?_
            refine l_skip_u rfl rfl rfl rfl rfl ?_
            refine l_skip rfl rfl rfl rfl rfl rfl ?_
            refine g_val (v := .bool false) rfl rfl rfl rfl rfl (e_pick_f rfl) ?_
            refine l_val (v := .bool false) rfl rfl rfl (e_pick_f rfl) ?_
            refine l_nil ?_
            refine f_then ?_
            refine c_no rfl ?_
            refine c_skip ?_
            refine f_block ?_
            refine f_then ?_
            refine c_region ?_
            refine l_val (v := Nx (m + 1)) rfl rfl rfl (e_add (a := ((m : Nat) : Int)) (b := (1 : Int)) rfl rfl (i64n (by omega) (by omega))) ?_
            refine l_val (v := Nx (m + 1)) rfl rfl rfl (e_move) ?_
            refine l_nil ?_
            refine f_mask (L' := [rowF QuadF 66 (some ⟨b73, 0, none⟩) 2 qs, pt b12 (.cells #[.slice p6 (T.length) (c7), .slice p8 (R.length) (c9), Ix (gX), Ix (gY)] 27), pt b5 (.cells #[.slice p1 (bs.length) (c2), .slice p3 (R.length) (c4), Ix (gX), Ix (gY)] 27)]) [false, true, true, true] rfl ?_
            exact f_cut ⟨m + 1, ⟨⟨rfl, rfl, rfl, rfl, rfl, rfl, rfl, rfl, rfl⟩, rfl, (by omega)⟩, (show 2 - (m + 1) < 2 - m from by omega)⟩
       ·
        refine c_exit ?_
        refine f_then_exit ?_
        refine f_then_exit ?_
        refine f_exit ?_
        refine f_block ?_
        refine f_then ?_
        refine c_region ?_
        refine l_val (v := Nx (i + 1)) rfl rfl rfl (e_add (a := ((i : Nat) : Int)) (b := (1 : Int)) rfl rfl (i64n (by omega) (by omega))) ?_
        refine l_val (v := Nx (i + 1)) rfl rfl rfl (e_move) ?_
        refine l_nil ?_
        refine f_mask (L' := [pt b12 (.cells #[.slice p6 (T.length) (c7), .slice p8 (R.length) (c9), Ix (gX), Ix (gY)] 27), pt b5 (.cells #[.slice p1 (bs.length) (c2), .slice p3 (R.length) (c4), Ix (gX), Ix (gY)] 27)]) [false, true, true] rfl ?_
        exact f_cut ⟨i + 1, ⟨⟨rfl, rfl, rfl, rfl, rfl, rfl⟩, rfl, (by omega)⟩, (show bs.length - (i + 1) < bs.length - i from by omega)⟩
  ·
   refine c_exit ?_
   refine f_then_exit ?_
   refine f_then_exit ?_
   refine f_exit ?_
   refine f_then ?_
   refine c_seq ?_
   refine c_region ?_
   refine l_val (v := .bool true) rfl rfl rfl (e_assign) ?_
   refine l_nil ?_
   refine f_then ?_
   refine c_ret ?_
   refine ret1 Tryd.results9 (v := .bool true) rfl ?_
   intro w hw
   exact ⟨rfl, st_mask [false, false, false, false, false, false, false] rfl (bk1 _ _ hw)⟩
end Go.Proofs
