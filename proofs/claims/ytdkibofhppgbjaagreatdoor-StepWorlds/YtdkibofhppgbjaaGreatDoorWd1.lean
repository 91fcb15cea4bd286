/-
 The reference's walks over worlds. Printed by a program of my own.
-/
import Derived.Test.YtdkibofhppgbjaaGreatDoorSt24
import Derived.Test.YtdkibofhppgbjaaGreatDoorWdLent
import Derived.Test.YtdkibofhppgbjaaGreatDoorSt18
namespace Go.Stp
open Go.Sl
theorem first_no {cm : List KComp} {k : Nat} {x : KComp} {kd : UInt8} (hx : cm[k]? = some x) (h : ∀ z ∈ cm.take k, decide (z.kind = kd) = false) (hn : x.kind ≠ kd) : ∀ z ∈ cm.take (k + 1), decide (z.kind = kd) = false := fun z hz => by
 rw [List.take_add_one, hx] at hz
 rcases List.mem_append.1 hz with hz | hz
 ·exact h z hz
 ·simp at hz; rw [hz]; exact decide_eq_false hn
theorem has_yes {bs : List KB} {i : Int} (h : 0 ≤ idxI (fun y : KB => decide (y.id = i)) bs) : hasB bs i = true := by unfold hasB; rw [← idx_any]; exact decide_eq_true h
theorem has_no {bs : List KB} {i : Int} (h : ¬ 0 ≤ idxI (fun y : KB => decide (y.id = i)) bs) : hasB bs i = false := by unfold hasB; rw [← idx_any]; exact decide_eq_false h
theorem idxK_cases (cm : List KComp) (kd : UInt8) : idxI (fun c : KComp => decide (c.kind = kd)) cm < 0 ∧ firstC cm kd = none ∨ ∃ (i : Nat) (c : KComp), idxI (fun c : KComp => decide (c.kind = kd)) cm = (i : Int) ∧ cm[i]? = some c ∧ firstC cm kd = some c ∧ i < cm.length := by
 rcases idxI_cases (fun c : KComp => decide (c.kind = kd)) cm with ⟨h1, h2⟩ | ⟨i, h1, h2, h3⟩
 ·refine .inl ⟨h1, ?_⟩
  rw [List.findIdx?_eq_none_iff] at h2
  exact List.find?_eq_none.2 fun c hc => by simpa using h2 c hc
 ·obtain ⟨c, g1, g2, g3⟩ := find_idx h2
  exact .inr ⟨i, c, h1, g1, g3, h3⟩
end Go.Stp
namespace Go.Proofs
open Go Go.Sl Go.Stp
section
variable {P : Program} {ro : Option Nat} {n : Nat} {ds : List Deferred} {β : Base} {Q : Exit → Act → World → Prop} {f : Fm} {L : List Res} {ops : Array Oper} {rest : List Oper}
variable {d : Option Tmp} {ty : TypeId} {ps : String} {af : Array Edge} {g : Option (Nat × Bool)}
theorem e_indexArrK {x y : Operand} {t len e n k b o : Nat} {ik : IntKind} (hx : ev f x = .pointer (some ⟨b, o, none⟩)) (hy : ev f y = .int ik (k : Int)) (ht : arB P t len e n = true) (hk : k < len) :
  EV P β L f ⟨d, .indexAddr t x y, ty, ps, af, g⟩ (.pointer (some ⟨b, o + k * n, none⟩)) := fun w _ => by
 have e0 : (⟨b, o, none⟩ : Addr).add (k * n) = ⟨b, o + k * n, none⟩ := by unfold Addr.add; split <;> simp_all
 rw [← e0]
 unfold arB at ht
 simp only [Bool.and_eq_true] at ht
 obtain ⟨h1, h2⟩ := ht
 cases hu : P.underlying t with
 | none => rw [hu] at h1; cases h1
 | some dd =>
  rw [hu] at h1
  cases dd <;> simp only [] at h1 <;> try (cases h1)
  rename_i l' e'
  have he : l' = len ∧ e' = e := by simpa using h1
  obtain ⟨rfl, rfl⟩ := he
  cases hi : P.info? e' with
  | none => rw [hi] at h2; cases h2
  | some i =>
   rw [hi] at h2
   have hn : i.size = n := by simpa using h2
   simp only [execOp, hx, hy, Instr.indexAt, Instr.sureAddr, asIntOf, Sem.run_bind, run_underlying hu, Sem.run_pure, Result.andThen_ok]
   simp [hk, sizeOf, typeInfo, hi, hn]
end
theorem tw0 : fldB Tryz.prog 59 1 1 1 false = true := by kernel_rfl
theorem tw1 : tyB Tryz.prog 57 false 1 = true := by kernel_rfl
theorem tw2 : Tryz.prog.underlying 57 = some (.slice 120) := by kernel_rfl
theorem tw3 : slB Tryz.prog 57 120 5 = true := by kernel_rfl
theorem tw4 : fldB Tryz.prog 120 0 0 1 false = true := by kernel_rfl
theorem tw5 : tyB Tryz.prog 5 false 1 = true := by kernel_rfl
theorem tw6 : (Tryz.prog.info? 52).bind (·.zero) = some (.agg #[.int .i64 (0), .int .i64 (0), .int .i64 (0), .int .i64 (0), .int .i64 (0), .int .i64 (0), .int .i64 (0), .bool false, .bool false]) := by kernel_rfl
theorem tw7 : tyB Tryz.prog 59 true 2 = true := by kernel_rfl
theorem tw8 : cfB Tryz.prog 72 = true := by kernel_rfl
theorem tw9 : stB Tryz.prog 52 [(0, 1), (1, 2), (3, 2), (5, 1), (6, 1), (7, 1), (8, 1)] = true := by kernel_rfl
theorem tw10 : tyB Tryz.prog 52 true 9 = true := by kernel_rfl
theorem tw11 : fldB Tryz.prog 120 1 1 4 true = true := by kernel_rfl
theorem tw12 : tyB Tryz.prog 118 true 4 = true := by kernel_rfl
theorem tw13 : (Tryz.prog.info? 118).bind (·.zero) = some (.agg #[.int .i64 (0), .int .i64 (0), .int .i64 (0), .int .i64 (0)]) := by kernel_rfl
theorem tw14 : fldB Tryz.prog 59 0 0 1 false = true := by kernel_rfl
theorem tw15 : tyB Tryz.prog 3 false 1 = true := by kernel_rfl
theorem tw16 : arB Tryz.prog 118 4 3 1 = true := by kernel_rfl
theorem tw17 : stB Tryz.prog 28 [(0, 1), (1, 1)] = true := by kernel_rfl
theorem tw18 : (Tryz.prog.info? 28).bind (·.zero) = some (.agg #[.int .i64 (0), .int .i64 (0)]) := by kernel_rfl
theorem tw19 : fldB Tryz.prog 52 6 8 1 false = true := by kernel_rfl
theorem tw20 : tyB Tryz.prog 4 false 1 = true := by kernel_rfl
theorem tw21 : fldB Tryz.prog 52 2 3 2 true = true := by kernel_rfl
theorem tw22 : tyB Tryz.prog 28 true 2 = true := by kernel_rfl
theorem tw23 : (Tryz.prog.info? 30).bind (·.zero) = some (.agg #[.slice none 0 0, .slice none 0 0, .int .i64 (0), .int .i64 (0)]) := by kernel_rfl
theorem tw24 : stB Tryz.prog 30 [(0, 1), (1, 1), (2, 2)] = true := by kernel_rfl
theorem tw25 : tyB Tryz.prog 30 true 4 = true := by kernel_rfl
theorem tw26 : fldB Tryz.prog 24 1 1 1 false = true := by kernel_rfl
theorem tw27 : tyB Tryz.prog 22 false 1 = true := by kernel_rfl
theorem tw28 : Tryz.prog.underlying 22 = some (.slice 59) := by kernel_rfl
theorem tw29 : slB Tryz.prog 22 59 2 = true := by kernel_rfl
theorem tw30 : cfB Tryz.prog 69 = true := by kernel_rfl
theorem tw31 : fldB Tryz.prog 30 0 0 1 false = true := by kernel_rfl
theorem tw32 : tyB Tryz.prog 25 false 1 = true := by kernel_rfl
theorem tw33 : slB Tryz.prog 25 52 9 = true := by kernel_rfl
theorem tw34 : elB Tryz.prog 52 9 64 = true := by kernel_rfl
theorem tw35 : Tryz.prog.underlying 26 = some (.slice 78) := by kernel_rfl
theorem tw36 : slB Tryz.prog 26 78 3 = true := by kernel_rfl
theorem tw37 : fldB Tryz.prog 78 0 0 1 false = true := by kernel_rfl
theorem tw38 : cfB Tryz.prog 70 = true := by kernel_rfl
theorem tw39 : fldB Tryz.prog 78 1 1 1 false = true := by kernel_rfl
theorem tw40 : fldB Tryz.prog 30 1 1 1 false = true := by kernel_rfl
theorem tw41 : tyB Tryz.prog 26 false 1 = true := by kernel_rfl
theorem tw42 : tyB Tryz.prog 78 true 3 = true := by kernel_rfl
theorem tw43 : (Tryz.prog.info? 78).bind (·.zero) = some (.agg #[.int .i64 (0), .int .i64 (0), .int .i64 (0)]) := by kernel_rfl
theorem tw44 : elB Tryz.prog 78 3 24 = true := by kernel_rfl
set_option maxHeartbeats 4000000 in
theorem rfirst_ok (β : Base) (w : World) (hw : St β [] w) (id : Int) (va : Option Addr) (vc : Nat) (cm : List KComp) (hs : Sl CompR β.heap (.slice va cm.length vc) cm) (kd : UInt8) : Calls Tryz.prog 72 #[.agg #[Ix id, .slice va cm.length vc], Bx kd] w fun r w' => r = .returned (Ix (idxI (fun c : KComp => decide (c.kind = kd)) cm)) ∧ St β [] w' := by
 obtain ⟨-, vl, vm, ve⟩ := Sl.parts hs
 refine enter (n := 22) Tryz.func72 rfl Tryz.ntmps72 rfl ?_ hw
 refine c_seq ?_
 refine c_region ?_
 refine l_mv rfl rfl rfl (m_box (v := .agg #[Ix (id), .slice va (cm.length) (vc)]) rfl) ?_
 rintro _ _ ⟨b1, rfl, rfl⟩
 refine l_val (v := .int .i64 (0)) rfl rfl rfl (e_assign) ?_
 refine l_nil ?_
 refine f_then ?_
 refine c_seq ?_
 refine c_seq ?_
 refine c_region ?_
 refine l_val (v := .int .i64 (0)) rfl rfl rfl (e_assign) ?_
 refine l_nil ?_
 refine f_then ?_
 refine c_block ?_
 refine c_loop (fun (k : Nat) (f : Fm) (L : List Res) => (f 1 = Bx (kd) ∧ f 2 = .pointer (some ⟨b1, 0, none⟩) ∧ f 5 = Nx (k)) ∧ L = [pt b1 (.cells #[Ix (id), .slice va (cm.length) (vc)] 59)] ∧ (k ≤ cm.length ∧ ∀ z ∈ cm.take k, decide (z.kind = kd) = false)) (fun (k : Nat) => cm.length - k) 0 ?_ ?_
 ·exact ⟨⟨rfl, rfl, rfl⟩, rfl, ⟨by omega, by simp⟩⟩
 rintro k f0 L0 ⟨⟨hs1, hs2, hs5⟩, hL, ⟨hk, hno⟩⟩
 subst L0
 refine rebase (d := 1) hs1 ?_
 refine rebase (d := 2) hs2 ?_
 refine rebase (d := 5) hs5 ?_
 clear hs1 hs2 hs5
 refine c_seq ?_
 refine c_seq ?_
 refine c_region ?_
 refine l_val (v := Nx (k)) rfl rfl rfl (e_move) ?_
 refine l_val (v := .pointer (some ⟨b1, 1, none⟩)) rfl rfl rfl (e_fieldPt (b := b1) (o := 0) rfl tw0) ?_
 refine l_val (v := .slice va (cm.length) (vc)) rfl rfl rfl (e_load1 tw1 (v := .slice va (cm.length) (vc)) rfl (k_pt 0 (cs := #[Ix (id), .slice va (cm.length) (vc)]) (vs := [.slice va (cm.length) (vc)]) rfl rfl)) ?_
 refine l_val (v := Nx (cm.length)) rfl rfl rfl (e_len (a := va) (n := cm.length) (c := vc) rfl tw2) ?_
 refine l_val (v := .bool (decide (((k : Nat) : Int) < ((cm.length : Nat) : Int)))) rfl rfl rfl (e_lss (a := ((k : Nat) : Int)) (b := ((cm.length : Nat) : Int)) rfl rfl) ?_
 refine l_nil ?_
 refine f_then ?_
 refine c_if (((k : Nat) : Int) < ((cm.length : Nat) : Int)) rfl (fun hc2 => ?_) (fun hc2 => ?_)
 ·
  refine c_skip ?_
  refine f_then ?_
  refine c_seq ?_
  refine c_block ?_
  refine c_seq ?_
  refine c_region ?_
  refine l_val (v := .pointer (some ⟨b1, 1, none⟩)) rfl rfl rfl (e_fieldPt (b := b1) (o := 0) rfl tw0) ?_
  refine l_val (v := .slice va (cm.length) (vc)) rfl rfl rfl (e_load1 tw1 (v := .slice va (cm.length) (vc)) rfl (k_pt 0 (cs := #[Ix (id), .slice va (cm.length) (vc)]) (vs := [.slice va (cm.length) (vc)]) rfl rfl)) ?_
  refine l_val (v := Nx (k)) rfl rfl rfl (e_move) ?_
  obtain ⟨x3, hx4⟩ : ∃ x_, (cm)[k]? = some x_ := ⟨_, List.getElem?_eq_getElem (by omega)⟩
  obtain ⟨ha5, cs6, hc7, rfl⟩ := ve _ _ hx4
  refine l_val (v := .pointer (some ((ba va).add (k * 5)))) rfl rfl rfl (e_indexAddr (k := k) (len := cm.length) (cap := vc) (a := va) rfl rfl tw3 (by omega) ha5) ?_
  refine l_val (v := .pointer (some (((ba va).add (k * 5) : Addr).add 0))) rfl rfl rfl (e_fieldAddr (a := (ba va).add (k * 5)) rfl tw4) ?_
  refine l_val (v := Bx (x3.kind)) rfl rfl rfl (e_load1 tw5 (v := Bx (x3.kind)) rfl (Knows.imp (Knows.of_base (Cs.mono _ _) hc7) (fun _ h => Cs.sub (vs := [Bx (x3.kind)]) 0 h rfl))) ?_
  refine l_val (v := Bx (kd)) rfl rfl rfl (e_move) ?_
  refine l_val (v := .bool (decide (((x3.kind).toNat : Int) = ((kd).toNat : Int)))) rfl rfl rfl (e_eql (a := ((x3.kind).toNat : Int)) (b := ((kd).toNat : Int)) rfl rfl) ?_
  refine l_nil ?_
  refine f_then ?_
  refine c_if (((x3.kind).toNat : Int) = ((kd).toNat : Int)) rfl (fun hc9 => ?_) (fun hc9 => ?_)
  ·
   refine c_seq ?_
   refine c_region ?_
   refine l_val (v := Nx (k)) rfl rfl rfl (e_move) ?_
   refine l_val (v := Nx (k)) rfl rfl rfl (e_assign) ?_
   refine l_nil ?_
   refine f_then ?_
   refine c_ret ?_
   refine f_block_ret ?_
   refine f_then_ret ?_
   refine f_then_ret ?_
   refine f_block_ret ?_
   refine f_then_ret ?_
   refine ret1 Tryz.results72 (v := Nx (k)) rfl ?_
   intro w hw
   exact ⟨congrArg (fun z : Int => Ending.returned (Ix z)) (idx_found hx4 (decide_eq_true (UInt8.toNat_inj.1 (by omega))) hno).symm, st_mask [false] rfl hw⟩
  ·
   refine c_skip ?_
   refine f_block ?_
   refine f_then ?_
   refine c_region ?_
   refine l_val (v := Nx (k)) rfl rfl rfl (e_move) ?_
   refine l_val (v := Nx (k + 1)) rfl rfl rfl (e_add (a := ((k : Nat) : Int)) (b := (1 : Int)) rfl rfl (i64n (by omega) (by omega))) ?_
   refine l_val (v := Nx (k + 1)) rfl rfl rfl (e_assign) ?_
   refine l_nil ?_
   exact f_cut ⟨k + 1, ⟨⟨rfl, rfl, rfl⟩, rfl, ⟨by omega, first_no hx4 hno (fun q => hc9 (by rw [q]))⟩⟩, (show cm.length - (k + 1) < cm.length - k from by omega)⟩
 ·
  refine c_exit ?_
  refine f_then_exit ?_
  refine f_then_exit ?_
  refine f_exit ?_
  refine f_then ?_
  refine c_seq ?_
  refine c_region ?_
  refine l_val (v := .int .i64 (-1)) rfl rfl rfl (e_assign) ?_
  refine l_nil ?_
  refine f_then ?_
  refine c_ret ?_
  refine ret1 Tryz.results72 (v := .int .i64 (-1)) rfl ?_
  intro w hw
  exact ⟨congrArg (fun z : Int => Ending.returned (Ix z)) (idx_none (k := k) (by omega) hno).symm, st_mask [false] rfl hw⟩
set_option maxHeartbeats 4000000 in
theorem rbody_ok (β : Base) (w : World) (hw : St β [] w) (id : Int) (va : Option Addr) (vc : Nat) (cm : List KComp) (hs : Sl CompR β.heap (.slice va cm.length vc) cm) : Calls Tryz.prog 69 #[.agg #[Ix id, .slice va cm.length vc]] w fun r w' => r = .returned (.tuple #[.agg (bC (bodyD id cm)), .bool (bodyOf id cm).isSome]) ∧ St β [] w' := by
 obtain ⟨-, vl, vm, ve⟩ := Sl.parts hs
 refine enter (n := 77) Tryz.func69 rfl Tryz.ntmps69 rfl ?_ hw
 refine c_seq ?_
 refine c_region ?_
 refine l_mv rfl rfl rfl (m_box (v := .agg #[Ix (id), .slice va (cm.length) (vc)]) rfl) ?_
 rintro _ _ ⟨b1, rfl, rfl⟩
 refine l_mv rfl rfl rfl (m_alloc tw6) ?_
 rintro _ _ ⟨b2, rfl, rfl⟩
 refine l_val (v := .bool false) rfl rfl rfl (e_assign) ?_
 refine l_nil ?_
 refine f_then ?_
 refine c_seq ?_
 refine c_quiet (by kernel_rfl) (by kernel_rfl) ?_
 refine q_val (v := .agg #[Ix (id), .slice va (cm.length) (vc)]) rfl rfl rfl (e_load tw7 (cs := [Ix (id), .slice va (cm.length) (vc)]) rfl (k_pt 1 (cs := #[Ix (id), .slice va (cm.length) (vc)]) (vs := [Ix (id), .slice va (cm.length) (vc)]) rfl rfl) rfl) ?_
 refine q_call (v := Ix ((idxI (fun c : KComp => decide (c.kind = 1)) cm))) rfl rfl rfl (cl_value (fst := []) (cap := []) (vs := [.agg #[Ix (id), .slice va (cm.length) (vc)], .int .u8 (1)]) (all := [.agg #[Ix (id), .slice va (cm.length) (vc)], .int .u8 (1)]) tw8 rfl rfl rfl) (fun w hw => ?_) ?_
 ·obtain ⟨β1, sb, kn, hw1, back⟩ := St.frame_all hw
  exact (rfirst_ok β1 w hw1 (id) va vc cm (Sl.mono _ _ _ _ _ sb hs) 1).mono (fun e w' ⟨he, hw'⟩ => ⟨he, st_mask [true, true] rfl (back _ _ hw')⟩)
 refine q_val (v := .agg #[Ix (id), .slice va (cm.length) (vc)]) rfl rfl rfl (e_load tw7 (cs := [Ix (id), .slice va (cm.length) (vc)]) rfl (k_pt 1 (cs := #[Ix (id), .slice va (cm.length) (vc)]) (vs := [Ix (id), .slice va (cm.length) (vc)]) rfl rfl) rfl) ?_
 refine q_call (v := Ix ((idxI (fun c : KComp => decide (c.kind = 3)) cm))) rfl rfl rfl (cl_value (fst := []) (cap := []) (vs := [.agg #[Ix (id), .slice va (cm.length) (vc)], .int .u8 (3)]) (all := [.agg #[Ix (id), .slice va (cm.length) (vc)], .int .u8 (3)]) tw8 rfl rfl rfl) (fun w hw => ?_) ?_
 ·obtain ⟨β1, sb, kn, hw1, back⟩ := St.frame_all hw
  exact (rfirst_ok β1 w hw1 (id) va vc cm (Sl.mono _ _ _ _ _ sb hs) 3).mono (fun e w' ⟨he, hw'⟩ => ⟨he, st_mask [true, true] rfl (back _ _ hw')⟩)
 refine q_val (v := .agg #[Ix (id), .slice va (cm.length) (vc)]) rfl rfl rfl (e_load tw7 (cs := [Ix (id), .slice va (cm.length) (vc)]) rfl (k_pt 1 (cs := #[Ix (id), .slice va (cm.length) (vc)]) (vs := [Ix (id), .slice va (cm.length) (vc)]) rfl rfl) rfl) ?_
 refine q_call (v := Ix ((idxI (fun c : KComp => decide (c.kind = 2)) cm))) rfl rfl rfl (cl_value (fst := []) (cap := []) (vs := [.agg #[Ix (id), .slice va (cm.length) (vc)], .int .u8 (2)]) (all := [.agg #[Ix (id), .slice va (cm.length) (vc)], .int .u8 (2)]) tw8 rfl rfl rfl) (fun w hw => ?_) ?_
 ·obtain ⟨β1, sb, kn, hw1, back⟩ := St.frame_all hw
  exact (rfirst_ok β1 w hw1 (id) va vc cm (Sl.mono _ _ _ _ _ sb hs) 2).mono (fun e w' ⟨he, hw'⟩ => ⟨he, st_mask [true, true] rfl (back _ _ hw')⟩)
 refine q_val (v := Ix ((idxI (fun c : KComp => decide (c.kind = 1)) cm))) rfl rfl rfl (e_assign) ?_
 refine q_val (v := Ix ((idxI (fun c : KComp => decide (c.kind = 3)) cm))) rfl rfl rfl (e_assign) ?_
 refine q_val (v := Ix ((idxI (fun c : KComp => decide (c.kind = 2)) cm))) rfl rfl rfl (e_assign) ?_
 refine q_nil ?_
 refine f_then ?_
 refine c_seq ?_
 refine c_seq ?_
 rcases idxK_cases cm 1 with ⟨hn1, hf1⟩ | ⟨i1, c1, hi1, hx1, hf1, hl1⟩
 ·
  refine c_region ?_
  refine l_val (v := Ix ((idxI (fun c : KComp => decide (c.kind = 1)) cm))) rfl rfl rfl (e_move) ?_
  refine l_val (v := .bool (decide (((idxI (fun c : KComp => decide (c.kind = 1)) cm)) < (0 : Int)))) rfl rfl rfl (e_lss (a := ((idxI (fun c : KComp => decide (c.kind = 1)) cm))) (b := (0 : Int)) rfl rfl) ?_
  refine l_val (v := .bool (decide (((idxI (fun c : KComp => decide (c.kind = 1)) cm)) < (0 : Int)))) rfl rfl rfl (e_move) ?_
  refine l_split (s := 18) (p := ((idxI (fun c : KComp => decide (c.kind = 1)) cm)) < (0 : Int)) rfl (fun h => ?_) (fun h => ?_)
  rotate_left; exact absurd hn1 h
  refine l_skip rfl rfl rfl rfl rfl rfl ?_
  refine l_skip rfl rfl rfl rfl rfl rfl ?_
  refine l_val (v := .bool true) rfl rfl rfl (e_pick_t rfl) ?_
  refine l_nil ?_
  refine f_then ?_
  refine c_yes rfl ?_
  refine c_seq ?_
  refine c_region ?_
  refine l_val (v := .agg #[.int .i64 (0), .int .i64 (0), .int .i64 (0), .int .i64 (0), .int .i64 (0), .int .i64 (0), .int .i64 (0), .bool false, .bool false]) rfl rfl rfl (e_build tw6 tw9 (vs := []) (cells := #[.int .i64 (0), .int .i64 (0), .int .i64 (0), .int .i64 (0), .int .i64 (0), .int .i64 (0), .int .i64 (0), .bool false, .bool false]) rfl (by kernel_rfl)) ?_
  refine l_mu rfl rfl (m_store 0 tw10 (b := b2) (o := 0) (T := 52) (cs := #[.int .i64 (0), .int .i64 (0), .int .i64 (0), .int .i64 (0), .int .i64 (0), .int .i64 (0), .int .i64 (0), .bool false, .bool false]) (cs' := #[.int .i64 (0), .int .i64 (0), .int .i64 (0), .int .i64 (0), .int .i64 (0), .int .i64 (0), .int .i64 (0), .bool false, .bool false]) (v := .agg #[.int .i64 (0), .int .i64 (0), .int .i64 (0), .int .i64 (0), .int .i64 (0), .int .i64 (0), .int .i64 (0), .bool false, .bool false]) rfl rfl rfl rfl rfl rfl rfl) ?_
  refine l_val (v := .bool false) rfl rfl rfl (e_assign) ?_
  refine l_nil ?_
  refine f_then ?_
  refine c_ret ?_
  refine f_then_ret ?_
  refine retG (l := [.cell 2 52, .tmp 3]) (m := [.agg #[.int .i64 (0), .int .i64 (0), .int .i64 (0), .int .i64 (0), .int .i64 (0), .int .i64 (0), .int .i64 (0), .bool false, .bool false], .bool false]) (v := .tuple #[.agg #[.int .i64 (0), .int .i64 (0), .int .i64 (0), .int .i64 (0), .int .i64 (0), .int .i64 (0), .int .i64 (0), .bool false, .bool false], .bool false]) Tryz.results69 ⟨rd_cell tw10 (cs := [.int .i64 (0), .int .i64 (0), .int .i64 (0), .int .i64 (0), .int .i64 (0), .int .i64 (0), .int .i64 (0), .bool false, .bool false]) rfl (k_pt 0 (cs := #[.int .i64 (0), .int .i64 (0), .int .i64 (0), .int .i64 (0), .int .i64 (0), .int .i64 (0), .int .i64 (0), .bool false, .bool false]) (vs := [.int .i64 (0), .int .i64 (0), .int .i64 (0), .int .i64 (0), .int .i64 (0), .int .i64 (0), .int .i64 (0), .bool false, .bool false]) rfl rfl) rfl, rd_tmp (v := .bool false) rfl, trivial⟩ rfl ?_
  intro w hw
  exact ⟨body_ret_none (body_no1 hf1), st_mask [false, false] rfl hw⟩
 ·
  rw [hi1]
  obtain ⟨ha1, cs1, hc1, rfl⟩ := ve _ _ hx1
  rcases idxK_cases cm 3 with ⟨hn3, hf3⟩ | ⟨i3, c3, hi3, hx3, hf3, hl3⟩
  ·
   refine c_region ?_
   refine l_val (v := Nx (i1)) rfl rfl rfl (e_move) ?_
   refine l_val (v := .bool (decide (((i1 : Nat) : Int) < (0 : Int)))) rfl rfl rfl (e_lss (a := ((i1 : Nat) : Int)) (b := (0 : Int)) rfl rfl) ?_
   refine l_val (v := .bool (decide (((i1 : Nat) : Int) < (0 : Int)))) rfl rfl rfl (e_move) ?_
   refine l_split (s := 18) (p := ((i1 : Nat) : Int) < (0 : Int)) rfl (fun h => ?_) (fun h => ?_)
   exact absurd h (by omega)
   refine g_val (v := Ix ((idxI (fun c : KComp => decide (c.kind = 3)) cm))) rfl rfl rfl rfl rfl (e_move) ?_
   refine g_val (v := .bool (decide (((idxI (fun c : KComp => decide (c.kind = 3)) cm)) < (0 : Int)))) rfl rfl rfl rfl rfl (e_lss (a := ((idxI (fun c : KComp => decide (c.kind = 3)) cm))) (b := (0 : Int)) rfl rfl) ?_
   refine l_val (v := .bool (decide (((idxI (fun c : KComp => decide (c.kind = 3)) cm)) < (0 : Int)))) rfl rfl rfl (e_pick_f rfl) ?_
   refine l_nil ?_
   refine f_then ?_
   refine c_if (((idxI (fun c : KComp => decide (c.kind = 3)) cm)) < (0 : Int)) rfl (fun hc3 => ?_) (fun hc3 => ?_)
   ·
    refine c_seq ?_
    refine c_region ?_
    refine l_val (v := .agg #[.int .i64 (0), .int .i64 (0), .int .i64 (0), .int .i64 (0), .int .i64 (0), .int .i64 (0), .int .i64 (0), .bool false, .bool false]) rfl rfl rfl (e_build tw6 tw9 (vs := []) (cells := #[.int .i64 (0), .int .i64 (0), .int .i64 (0), .int .i64 (0), .int .i64 (0), .int .i64 (0), .int .i64 (0), .bool false, .bool false]) rfl (by kernel_rfl)) ?_
    refine l_mu rfl rfl (m_store 0 tw10 (b := b2) (o := 0) (T := 52) (cs := #[.int .i64 (0), .int .i64 (0), .int .i64 (0), .int .i64 (0), .int .i64 (0), .int .i64 (0), .int .i64 (0), .bool false, .bool false]) (cs' := #[.int .i64 (0), .int .i64 (0), .int .i64 (0), .int .i64 (0), .int .i64 (0), .int .i64 (0), .int .i64 (0), .bool false, .bool false]) (v := .agg #[.int .i64 (0), .int .i64 (0), .int .i64 (0), .int .i64 (0), .int .i64 (0), .int .i64 (0), .int .i64 (0), .bool false, .bool false]) rfl rfl rfl rfl rfl rfl rfl) ?_
    refine l_val (v := .bool false) rfl rfl rfl (e_assign) ?_
    refine l_nil ?_
    refine f_then ?_
    refine c_ret ?_
    refine f_then_ret ?_
    refine retG (l := [.cell 2 52, .tmp 3]) (m := [.agg #[.int .i64 (0), .int .i64 (0), .int .i64 (0), .int .i64 (0), .int .i64 (0), .int .i64 (0), .int .i64 (0), .bool false, .bool false], .bool false]) (v := .tuple #[.agg #[.int .i64 (0), .int .i64 (0), .int .i64 (0), .int .i64 (0), .int .i64 (0), .int .i64 (0), .int .i64 (0), .bool false, .bool false], .bool false]) Tryz.results69 ⟨rd_cell tw10 (cs := [.int .i64 (0), .int .i64 (0), .int .i64 (0), .int .i64 (0), .int .i64 (0), .int .i64 (0), .int .i64 (0), .bool false, .bool false]) rfl (k_pt 0 (cs := #[.int .i64 (0), .int .i64 (0), .int .i64 (0), .int .i64 (0), .int .i64 (0), .int .i64 (0), .int .i64 (0), .bool false, .bool false]) (vs := [.int .i64 (0), .int .i64 (0), .int .i64 (0), .int .i64 (0), .int .i64 (0), .int .i64 (0), .int .i64 (0), .bool false, .bool false]) rfl rfl) rfl, rd_tmp (v := .bool false) rfl, trivial⟩ rfl ?_
    intro w hw
    exact ⟨body_ret_none (body_no3 hf3), st_mask [false, false] rfl hw⟩
   ·
    exact absurd hn3 hc3
  ·
   rw [hi3]
   obtain ⟨ha3, cs3, hc3, rfl⟩ := ve _ _ hx3
   rcases idxK_cases cm 2 with ⟨hn2, hf2⟩ | ⟨i2, c2, hi2, hx2, hf2, hl2⟩
   ·
    refine c_region ?_
    refine l_val (v := Nx (i1)) rfl rfl rfl (e_move) ?_
    refine l_val (v := .bool (decide (((i1 : Nat) : Int) < (0 : Int)))) rfl rfl rfl (e_lss (a := ((i1 : Nat) : Int)) (b := (0 : Int)) rfl rfl) ?_
    refine l_val (v := .bool (decide (((i1 : Nat) : Int) < (0 : Int)))) rfl rfl rfl (e_move) ?_
    refine l_split (s := 18) (p := ((i1 : Nat) : Int) < (0 : Int)) rfl (fun h => ?_) (fun h => ?_)
    exact absurd h (by omega)
    refine g_val (v := Nx (i3)) rfl rfl rfl rfl rfl (e_move) ?_
    refine g_val (v := .bool (decide (((i3 : Nat) : Int) < (0 : Int)))) rfl rfl rfl rfl rfl (e_lss (a := ((i3 : Nat) : Int)) (b := (0 : Int)) rfl rfl) ?_
    refine l_val (v := .bool (decide (((i3 : Nat) : Int) < (0 : Int)))) rfl rfl rfl (e_pick_f rfl) ?_
    refine l_nil ?_
    refine f_then ?_
    refine c_if (((i3 : Nat) : Int) < (0 : Int)) rfl (fun hc4 => ?_) (fun hc4 => ?_)
    ·
     exact absurd hc4 (by omega)
    ·
     refine c_skip ?_
     refine f_then ?_
     refine c_seq ?_
     rcases Decidable.em (c3.v3 = 1) with hfx | hfx
     ·
      refine c_any [⟨[], [], [0], [23], fun f => f 23 = .pointer (some ⟨b1, 1, none⟩)⟩, ⟨[0], [0], [], [24], fun f => f 24 = .slice va (cm.length) (vc)⟩, ⟨[], [], [1], [25], fun f => f 25 = Nx (i1)⟩, ⟨[0, 1, 2], [1, 2], [], [26], fun f => f 26 = .pointer (some ((ba va).add (i1 * 5)))⟩, ⟨[0, 1, 2, 3], [3], [], [27], fun f => f 27 = .pointer (some (((ba va).add (i1 * 5) : Addr).add 1))⟩, ⟨[0, 1, 2, 3, 4], [4], [], [28], fun f => f 28 = .agg #[Ix (c1.v0), Ix (c1.v1), Ix (c1.v2), Ix (c1.v3)]⟩, ⟨[], [], [0], [29], fun f => f 29 = .pointer (some ⟨b1, 1, none⟩)⟩, ⟨[6], [6], [], [30], fun f => f 30 = .slice va (cm.length) (vc)⟩, ⟨[], [], [2], [31], fun f => f 31 = Nx (i3)⟩, ⟨[6, 7, 8], [7, 8], [], [32], fun f => f 32 = .pointer (some ((ba va).add (i3 * 5)))⟩, ⟨[6, 7, 8, 9], [9], [], [33], fun f => f 33 = .pointer (some (((ba va).add (i3 * 5) : Addr).add 1))⟩, ⟨[6, 7, 8, 9, 10], [10], [], [34], fun f => f 34 = .agg #[Ix (c3.v0), Ix (c3.v1), Ix (c3.v2), Ix (c3.v3)]⟩, ⟨[], [], [], [7], fun f => f 7 = .pointer (some ⟨(blk (f 7)), 0, none⟩)⟩, ⟨[], [], [], [8], fun f => f 8 = .pointer (some ⟨(blk (f 8)), 0, none⟩)⟩, ⟨[0, 1, 2, 3, 4, 5, 12, 13], [12, 5], [], [], fun _ => True⟩, ⟨[0, 1, 2, 3, 4, 5, 6, 7, 8, 9, 10, 11, 12, 13, 14], [13, 11], [], [], fun _ => True⟩] [⟨none, none, [], [], fun _ => pt b2 (.cells #[.int .i64 (0), .int .i64 (0), .int .i64 (0), .int .i64 (0), .int .i64 (0), .int .i64 (0), .int .i64 (0), .bool false, .bool false] 52)⟩, ⟨none, none, [1, 7], [], fun _ => pt b1 (.cells #[Ix (id), .slice va (cm.length) (vc)] 59)⟩, ⟨(some 12), (some 14), [14], [7], fun f => pt (blk (f 7)) (.cells #[.int .i64 (0), .int .i64 (0), .int .i64 (0), .int .i64 (0)] 118)⟩, ⟨(some 13), (some 15), [15], [8], fun f => pt (blk (f 8)) (.cells #[.int .i64 (0), .int .i64 (0), .int .i64 (0), .int .i64 (0)] 118)⟩, ⟨(some 14), none, [], [7], fun f => pt (blk (f 7)) (.cells #[Ix (c1.v0), Ix (c1.v1), Ix (c1.v2), Ix (c1.v3)] 118)⟩, ⟨(some 15), none, [], [8], fun f => pt (blk (f 8)) (.cells #[Ix (c3.v0), Ix (c3.v1), Ix (c3.v2), Ix (c3.v3)] 118)⟩] [(1, .pointer (some ⟨b1, 0, none⟩)), (4, Nx (i1)), (5, Nx (i3)), (2, .pointer (some ⟨b2, 0, none⟩)), (6, Ix ((idxI (fun c : KComp => decide (c.kind = 2)) cm)))] [0, 3, 4] [] (by kernel_rfl) (by kernel_rfl) (by kernel_rfl) (by kernel_rfl) rfl ⟨rfl, rfl, rfl, rfl, rfl, trivial⟩ ⟨?_, ?_, ?_, ?_, ?_, ?_, ?_, ?_, ?_, ?_, ?_, ?_, ?_, ?_, ?_, ?_, trivial⟩ ?_
      ·rintro f M - ⟨i0, -⟩
       have hs1 : f 1 = .pointer (some ⟨b1, 0, none⟩) := i0
       refine ob_start (L' := M) (by rfl) (up_cons rfl hs1) ?_
       refine l_val (v := .pointer (some ⟨b1, 1, none⟩)) rfl rfl rfl (e_fieldPt (b := b1) (o := 0) rfl tw0) ?_
       refine l_nil ?_
       exact f_owes_d (up_cons rfl hs1) rfl (List.Perm.refl _)
      ·rintro f M ⟨k0, -⟩ -
       have hs23 : f 23 = .pointer (some ⟨b1, 1, none⟩) := k0
       refine ob_start (L' := pt b1 (.cells #[Ix (id), .slice va (cm.length) (vc)] 59) :: M) (by rfl) (up_cons rfl hs23) ?_
       refine l_val (v := .slice va (cm.length) (vc)) rfl rfl rfl (e_load1 tw1 (v := .slice va (cm.length) (vc)) rfl (k_pt 0 (cs := #[Ix (id), .slice va (cm.length) (vc)]) (vs := [.slice va (cm.length) (vc)]) rfl rfl)) ?_
       refine l_nil ?_
       exact f_owes_d (up_cons rfl hs23) rfl (perm_front 0 rfl)
      ·rintro f M - ⟨i0, -⟩
       have hs4 : f 4 = Nx (i1) := i0
       refine ob_start (L' := M) (by rfl) (up_cons rfl hs4) ?_
       refine l_val (v := Nx (i1)) rfl rfl rfl (e_move) ?_
       refine l_nil ?_
       exact f_owes_d (up_cons rfl hs4) rfl (List.Perm.refl _)
      ·rintro f M ⟨k0, k1, -⟩ -
       have hs24 : f 24 = .slice va (cm.length) (vc) := k0
       have hs25 : f 25 = Nx (i1) := k1
       refine ob_start (L' := M) (by rfl) (up_cons (up_cons rfl hs24) hs25) ?_
       refine l_val (v := .pointer (some ((ba va).add (i1 * 5)))) rfl rfl rfl (e_indexAddr (k := i1) (len := cm.length) (cap := vc) (a := va) rfl rfl tw3 (by omega) ha1) ?_
       refine l_nil ?_
       exact f_owes_d (up_cons (up_cons rfl hs24) hs25) rfl (List.Perm.refl _)
      ·rintro f M ⟨k0, -⟩ -
       have hs26 : f 26 = .pointer (some ((ba va).add (i1 * 5))) := k0
       refine ob_start (L' := M) (by rfl) (up_cons rfl hs26) ?_
       refine l_val (v := .pointer (some (((ba va).add (i1 * 5) : Addr).add 1))) rfl rfl rfl (e_fieldAddr (a := (ba va).add (i1 * 5)) rfl tw11) ?_
       refine l_nil ?_
       exact f_owes_d (up_cons rfl hs26) rfl (List.Perm.refl _)
      ·rintro f M ⟨k0, -⟩ -
       have hs27 : f 27 = .pointer (some (((ba va).add (i1 * 5) : Addr).add 1)) := k0
       refine ob_start (L' := M) (by rfl) (up_cons rfl hs27) ?_
       refine l_val (v := .agg #[Ix (c1.v0), Ix (c1.v1), Ix (c1.v2), Ix (c1.v3)]) rfl rfl rfl (e_load tw12 (cs := [Ix (c1.v0), Ix (c1.v1), Ix (c1.v2), Ix (c1.v3)]) rfl (Knows.imp (Knows.of_base (Cs.mono _ _) hc1) (fun _ h => Cs.sub (vs := [Ix (c1.v0), Ix (c1.v1), Ix (c1.v2), Ix (c1.v3)]) 1 h rfl)) rfl) ?_
       refine l_nil ?_
       exact f_owes_d (up_cons rfl hs27) rfl (List.Perm.refl _)
      ·rintro f M - ⟨i0, -⟩
       have hs1 : f 1 = .pointer (some ⟨b1, 0, none⟩) := i0
       refine ob_start (L' := M) (by rfl) (up_cons rfl hs1) ?_
       refine l_val (v := .pointer (some ⟨b1, 1, none⟩)) rfl rfl rfl (e_fieldPt (b := b1) (o := 0) rfl tw0) ?_
       refine l_nil ?_
       exact f_owes_d (up_cons rfl hs1) rfl (List.Perm.refl _)
      ·rintro f M ⟨k0, -⟩ -
       have hs29 : f 29 = .pointer (some ⟨b1, 1, none⟩) := k0
       refine ob_start (L' := pt b1 (.cells #[Ix (id), .slice va (cm.length) (vc)] 59) :: M) (by rfl) (up_cons rfl hs29) ?_
       refine l_val (v := .slice va (cm.length) (vc)) rfl rfl rfl (e_load1 tw1 (v := .slice va (cm.length) (vc)) rfl (k_pt 0 (cs := #[Ix (id), .slice va (cm.length) (vc)]) (vs := [.slice va (cm.length) (vc)]) rfl rfl)) ?_
       refine l_nil ?_
       exact f_owes_d (up_cons rfl hs29) rfl (perm_front 0 rfl)
      ·rintro f M - ⟨i0, -⟩
       have hs5 : f 5 = Nx (i3) := i0
       refine ob_start (L' := M) (by rfl) (up_cons rfl hs5) ?_
       refine l_val (v := Nx (i3)) rfl rfl rfl (e_move) ?_
       refine l_nil ?_
       exact f_owes_d (up_cons rfl hs5) rfl (List.Perm.refl _)
      ·rintro f M ⟨k0, k1, -⟩ -
       have hs30 : f 30 = .slice va (cm.length) (vc) := k0
       have hs31 : f 31 = Nx (i3) := k1
       refine ob_start (L' := M) (by rfl) (up_cons (up_cons rfl hs30) hs31) ?_
       refine l_val (v := .pointer (some ((ba va).add (i3 * 5)))) rfl rfl rfl (e_indexAddr (k := i3) (len := cm.length) (cap := vc) (a := va) rfl rfl tw3 (by omega) ha3) ?_
       refine l_nil ?_
       exact f_owes_d (up_cons (up_cons rfl hs30) hs31) rfl (List.Perm.refl _)
      ·rintro f M ⟨k0, -⟩ -
       have hs32 : f 32 = .pointer (some ((ba va).add (i3 * 5))) := k0
       refine ob_start (L' := M) (by rfl) (up_cons rfl hs32) ?_
       refine l_val (v := .pointer (some (((ba va).add (i3 * 5) : Addr).add 1))) rfl rfl rfl (e_fieldAddr (a := (ba va).add (i3 * 5)) rfl tw11) ?_
       refine l_nil ?_
       exact f_owes_d (up_cons rfl hs32) rfl (List.Perm.refl _)
      ·rintro f M ⟨k0, -⟩ -
       have hs33 : f 33 = .pointer (some (((ba va).add (i3 * 5) : Addr).add 1)) := k0
       refine ob_start (L' := M) (by rfl) (up_cons rfl hs33) ?_
       refine l_val (v := .agg #[Ix (c3.v0), Ix (c3.v1), Ix (c3.v2), Ix (c3.v3)]) rfl rfl rfl (e_load tw12 (cs := [Ix (c3.v0), Ix (c3.v1), Ix (c3.v2), Ix (c3.v3)]) rfl (Knows.imp (Knows.of_base (Cs.mono _ _) hc3) (fun _ h => Cs.sub (vs := [Ix (c3.v0), Ix (c3.v1), Ix (c3.v2), Ix (c3.v3)]) 1 h rfl)) rfl) ?_
       refine l_nil ?_
       exact f_owes_d (up_cons rfl hs33) rfl (List.Perm.refl _)
      ·rintro f M - -
       refine ob_start (L' := M) (by rfl) rfl ?_
       refine l_mv rfl rfl rfl (m_alloc tw13) ?_
       rintro _ _ ⟨b6, rfl, rfl⟩
       refine l_nil ?_
       exact f_owes_d rfl rfl (perm_front 0 rfl)
      ·rintro f M - -
       refine ob_start (L' := M) (by rfl) rfl ?_
       refine l_mv rfl rfl rfl (m_alloc tw13) ?_
       rintro _ _ ⟨b8, rfl, rfl⟩
       refine l_nil ?_
       exact f_owes_d rfl rfl (perm_front 0 rfl)
      ·rintro f M ⟨k0, k1, -⟩ -
       have hs7 : f 7 = .pointer (some ⟨(blk (f 7)), 0, none⟩) := k0
       have hs28 : f 28 = .agg #[Ix (c1.v0), Ix (c1.v1), Ix (c1.v2), Ix (c1.v3)] := k1
       refine ob_start (L' := pt (blk (f 7)) (.cells #[.int .i64 (0), .int .i64 (0), .int .i64 (0), .int .i64 (0)] 118) :: M) (by rfl) (up_cons (up_cons rfl hs7) hs28) ?_
       refine l_mu rfl rfl (m_store 0 tw12 (b := (blk (f 7))) (o := 0) (T := 118) (cs := #[.int .i64 (0), .int .i64 (0), .int .i64 (0), .int .i64 (0)]) (cs' := #[Ix (c1.v0), Ix (c1.v1), Ix (c1.v2), Ix (c1.v3)]) (v := .agg #[Ix (c1.v0), Ix (c1.v1), Ix (c1.v2), Ix (c1.v3)]) rfl rfl rfl rfl rfl rfl rfl) ?_
       refine l_nil ?_
       exact f_owes_n (up_cons (up_cons rfl hs7) hs28) trivial (perm_front 0 rfl)
      ·rintro f M ⟨k0, k1, -⟩ -
       have hs8 : f 8 = .pointer (some ⟨(blk (f 8)), 0, none⟩) := k0
       have hs34 : f 34 = .agg #[Ix (c3.v0), Ix (c3.v1), Ix (c3.v2), Ix (c3.v3)] := k1
       refine ob_start (L' := pt (blk (f 8)) (.cells #[.int .i64 (0), .int .i64 (0), .int .i64 (0), .int .i64 (0)] 118) :: M) (by rfl) (up_cons (up_cons rfl hs8) hs34) ?_
       refine l_mu rfl rfl (m_store 0 tw12 (b := (blk (f 8))) (o := 0) (T := 118) (cs := #[.int .i64 (0), .int .i64 (0), .int .i64 (0), .int .i64 (0)]) (cs' := #[Ix (c3.v0), Ix (c3.v1), Ix (c3.v2), Ix (c3.v3)]) (v := .agg #[Ix (c3.v0), Ix (c3.v1), Ix (c3.v2), Ix (c3.v3)]) rfl rfl rfl rfl rfl rfl rfl) ?_
       refine l_nil ?_
       exact f_owes_n (up_cons (up_cons rfl hs8) hs34) trivial (perm_front 0 rfl)
      rintro fa9 ⟨-, -, -, -, -, -, -, -, -, -, -, -, k12, k13, -, -, -⟩ ⟨j0, j1, j2, -⟩
      refine f_re (L' := [pt b2 (.cells #[.int .i64 (0), .int .i64 (0), .int .i64 (0), .int .i64 (0), .int .i64 (0), .int .i64 (0), .int .i64 (0), .bool false, .bool false] 52), pt b1 (.cells #[Ix (id), .slice va (cm.length) (vc)] 59), pt (blk (fa9 7)) (.cells #[Ix (c1.v0), Ix (c1.v1), Ix (c1.v2), Ix (c1.v3)] 118), pt (blk (fa9 8)) (.cells #[Ix (c3.v0), Ix (c3.v1), Ix (c3.v2), Ix (c3.v3)] 118)]) (by rfl) ?_
      refine f_rebase (d := 1) (v := .pointer (some ⟨b1, 0, none⟩)) j0 ?_
      refine f_rebase (d := 2) (v := .pointer (some ⟨b2, 0, none⟩)) j1 ?_
      refine f_rebase (d := 6) (v := Ix ((idxI (fun c : KComp => decide (c.kind = 2)) cm))) j2 ?_
      refine f_rebase (d := 7) (v := .pointer (some ⟨(blk (fa9 7)), 0, none⟩)) k12 ?_
      refine f_rebase (d := 8) (v := .pointer (some ⟨(blk (fa9 8)), 0, none⟩)) k13 ?_
      refine f_then ?_
      refine c_seq ?_
      refine c_region ?_
      refine l_val (v := .pointer (some ⟨b1, 0, none⟩)) rfl rfl rfl (e_fieldPt (b := b1) (o := 0) rfl tw14) ?_
      refine l_val (v := Ix (id)) rfl rfl rfl (e_load1 tw15 (v := Ix (id)) rfl (k_pt 1 (cs := #[Ix (id), .slice va (cm.length) (vc)]) (vs := [Ix (id)]) rfl rfl)) ?_
      refine l_val (v := .pointer (some ⟨(blk (fa9 7)), 0, none⟩)) rfl rfl rfl (e_indexArrK (b := (blk (fa9 7))) (o := 0) (k := 0) rfl rfl tw16 (by decide)) ?_
      refine l_val (v := Ix (c1.v0)) rfl rfl rfl (e_load1 tw15 (v := Ix (c1.v0)) rfl (k_pt 2 (cs := #[Ix (c1.v0), Ix (c1.v1), Ix (c1.v2), Ix (c1.v3)]) (vs := [Ix (c1.v0)]) rfl rfl)) ?_
      refine l_val (v := .pointer (some ⟨(blk (fa9 7)), 1, none⟩)) rfl rfl rfl (e_indexArrK (b := (blk (fa9 7))) (o := 0) (k := 1) rfl rfl tw16 (by decide)) ?_
      refine l_val (v := Ix (c1.v1)) rfl rfl rfl (e_load1 tw15 (v := Ix (c1.v1)) rfl (k_pt 2 (cs := #[Ix (c1.v0), Ix (c1.v1), Ix (c1.v2), Ix (c1.v3)]) (vs := [Ix (c1.v1)]) rfl rfl)) ?_
      refine l_val (v := .agg #[Ix (c1.v0), Ix (c1.v1)]) rfl rfl rfl (e_build tw18 tw17 (vs := [(0, Ix (c1.v0)), (1, Ix (c1.v1))]) (cells := #[Ix (c1.v0), Ix (c1.v1)]) rfl rfl) ?_
      refine l_val (v := .pointer (some ⟨(blk (fa9 8)), 0, none⟩)) rfl rfl rfl (e_indexArrK (b := (blk (fa9 8))) (o := 0) (k := 0) rfl rfl tw16 (by decide)) ?_
      refine l_val (v := Ix (c3.v0)) rfl rfl rfl (e_load1 tw15 (v := Ix (c3.v0)) rfl (k_pt 3 (cs := #[Ix (c3.v0), Ix (c3.v1), Ix (c3.v2), Ix (c3.v3)]) (vs := [Ix (c3.v0)]) rfl rfl)) ?_
      refine l_val (v := .pointer (some ⟨(blk (fa9 8)), 1, none⟩)) rfl rfl rfl (e_indexArrK (b := (blk (fa9 8))) (o := 0) (k := 1) rfl rfl tw16 (by decide)) ?_
      refine l_val (v := Ix (c3.v1)) rfl rfl rfl (e_load1 tw15 (v := Ix (c3.v1)) rfl (k_pt 3 (cs := #[Ix (c3.v0), Ix (c3.v1), Ix (c3.v2), Ix (c3.v3)]) (vs := [Ix (c3.v1)]) rfl rfl)) ?_
      refine l_val (v := .pointer (some ⟨(blk (fa9 8)), 2, none⟩)) rfl rfl rfl (e_indexArrK (b := (blk (fa9 8))) (o := 0) (k := 2) rfl rfl tw16 (by decide)) ?_
      refine l_val (v := Ix (c3.v2)) rfl rfl rfl (e_load1 tw15 (v := Ix (c3.v2)) rfl (k_pt 3 (cs := #[Ix (c3.v0), Ix (c3.v1), Ix (c3.v2), Ix (c3.v3)]) (vs := [Ix (c3.v2)]) rfl rfl)) ?_
      refine l_val (v := .bool (decide ((c3.v2) = (1 : Int)))) rfl rfl rfl (e_eql (a := (c3.v2)) (b := (1 : Int)) rfl rfl) ?_
      refine l_val (v := .pointer (some ⟨(blk (fa9 8)), 3, none⟩)) rfl rfl rfl (e_indexArrK (b := (blk (fa9 8))) (o := 0) (k := 3) rfl rfl tw16 (by decide)) ?_
      refine l_val (v := Ix (c3.v3)) rfl rfl rfl (e_load1 tw15 (v := Ix (c3.v3)) rfl (k_pt 3 (cs := #[Ix (c3.v0), Ix (c3.v1), Ix (c3.v2), Ix (c3.v3)]) (vs := [Ix (c3.v3)]) rfl rfl)) ?_
      refine l_val (v := .bool (decide ((c3.v3) = (1 : Int)))) rfl rfl rfl (e_eql (a := (c3.v3)) (b := (1 : Int)) rfl rfl) ?_
      refine l_val (v := .bool (decide ((c3.v3) = (1 : Int)))) rfl rfl rfl (e_move) ?_
      refine l_split (s := 52) (p := (c3.v3) = (1 : Int)) rfl (fun h => ?_) (fun h => ?_)
      rotate_left; exact absurd hfx h
      refine l_skip rfl rfl rfl rfl rfl rfl ?_
      refine l_skip rfl rfl rfl rfl rfl rfl ?_
      refine l_val (v := .bool true) rfl rfl rfl (e_pick_t rfl) ?_
      refine l_val (v := .agg #[Ix (id), Ix (c1.v0), Ix (c1.v1), .int .i64 (0), .int .i64 (0), Ix (c3.v0), Ix (c3.v1), .bool (decide ((c3.v2) = (1 : Int))), .bool true]) rfl rfl rfl (e_build tw6 tw9 (vs := [(0, Ix (id)), (1, .agg #[Ix (c1.v0), Ix (c1.v1)]), (3, Ix (c3.v0)), (4, Ix (c3.v1)), (5, .bool (decide ((c3.v2) = (1 : Int)))), (6, .bool true)]) (cells := #[Ix (id), Ix (c1.v0), Ix (c1.v1), .int .i64 (0), .int .i64 (0), Ix (c3.v0), Ix (c3.v1), .bool (decide ((c3.v2) = (1 : Int))), .bool true]) rfl (by kernel_rfl)) ?_
      refine l_mv rfl rfl rfl (m_alloc tw6) ?_
      rintro _ _ ⟨b10, rfl, rfl⟩
      refine l_mu rfl rfl (m_store 0 tw10 (b := b10) (o := 0) (T := 52) (cs := #[.int .i64 (0), .int .i64 (0), .int .i64 (0), .int .i64 (0), .int .i64 (0), .int .i64 (0), .int .i64 (0), .bool false, .bool false]) (cs' := #[Ix (id), Ix (c1.v0), Ix (c1.v1), .int .i64 (0), .int .i64 (0), Ix (c3.v0), Ix (c3.v1), .bool (decide ((c3.v2) = (1 : Int))), .bool true]) (v := .agg #[Ix (id), Ix (c1.v0), Ix (c1.v1), .int .i64 (0), .int .i64 (0), Ix (c3.v0), Ix (c3.v1), .bool (decide ((c3.v2) = (1 : Int))), .bool true]) rfl rfl rfl rfl rfl rfl rfl) ?_
      refine l_nil ?_
      refine f_then ?_
      refine c_seq ?_
      refine c_seq ?_
      refine c_region ?_
      refine l_val (v := .pointer (some ⟨b10, 8, none⟩)) rfl rfl rfl (e_fieldPt (b := b10) (o := 0) rfl tw19) ?_
      refine l_val (v := .bool true) rfl rfl rfl (e_load1 tw20 (v := .bool true) rfl (k_pt 0 (cs := #[Ix (id), Ix (c1.v0), Ix (c1.v1), .int .i64 (0), .int .i64 (0), Ix (c3.v0), Ix (c3.v1), .bool (decide ((c3.v2) = (1 : Int))), .bool true]) (vs := [.bool true]) rfl rfl)) ?_
      refine l_val (v := .bool false) rfl rfl rfl (e_not (a := true) rfl) ?_
      refine l_nil ?_
      refine f_then ?_
      refine c_no rfl ?_
      refine c_skip ?_
      refine f_then ?_
      refine c_seq ?_
      refine c_region ?_
      refine l_val (v := .agg #[Ix (id), Ix (c1.v0), Ix (c1.v1), .int .i64 (0), .int .i64 (0), Ix (c3.v0), Ix (c3.v1), .bool (decide ((c3.v2) = (1 : Int))), .bool true]) rfl rfl rfl (e_load tw10 (cs := [Ix (id), Ix (c1.v0), Ix (c1.v1), .int .i64 (0), .int .i64 (0), Ix (c3.v0), Ix (c3.v1), .bool (decide ((c3.v2) = (1 : Int))), .bool true]) rfl (k_pt 0 (cs := #[Ix (id), Ix (c1.v0), Ix (c1.v1), .int .i64 (0), .int .i64 (0), Ix (c3.v0), Ix (c3.v1), .bool (decide ((c3.v2) = (1 : Int))), .bool true]) (vs := [Ix (id), Ix (c1.v0), Ix (c1.v1), .int .i64 (0), .int .i64 (0), Ix (c3.v0), Ix (c3.v1), .bool (decide ((c3.v2) = (1 : Int))), .bool true]) rfl rfl) rfl) ?_
      refine l_mu rfl rfl (m_store 1 tw10 (b := b2) (o := 0) (T := 52) (cs := #[.int .i64 (0), .int .i64 (0), .int .i64 (0), .int .i64 (0), .int .i64 (0), .int .i64 (0), .int .i64 (0), .bool false, .bool false]) (cs' := #[Ix (id), Ix (c1.v0), Ix (c1.v1), .int .i64 (0), .int .i64 (0), Ix (c3.v0), Ix (c3.v1), .bool (decide ((c3.v2) = (1 : Int))), .bool true]) (v := .agg #[Ix (id), Ix (c1.v0), Ix (c1.v1), .int .i64 (0), .int .i64 (0), Ix (c3.v0), Ix (c3.v1), .bool (decide ((c3.v2) = (1 : Int))), .bool true]) rfl rfl rfl rfl rfl rfl rfl) ?_
      refine l_val (v := .bool true) rfl rfl rfl (e_assign) ?_
      refine l_nil ?_
      refine f_then ?_
      refine c_ret ?_
      refine retG (l := [.cell 2 52, .tmp 3]) (m := [.agg #[Ix (id), Ix (c1.v0), Ix (c1.v1), .int .i64 (0), .int .i64 (0), Ix (c3.v0), Ix (c3.v1), .bool (decide ((c3.v2) = (1 : Int))), .bool true], .bool true]) (v := .tuple #[.agg #[Ix (id), Ix (c1.v0), Ix (c1.v1), .int .i64 (0), .int .i64 (0), Ix (c3.v0), Ix (c3.v1), .bool (decide ((c3.v2) = (1 : Int))), .bool true], .bool true]) Tryz.results69 ⟨rd_cell tw10 (cs := [Ix (id), Ix (c1.v0), Ix (c1.v1), .int .i64 (0), .int .i64 (0), Ix (c3.v0), Ix (c3.v1), .bool (decide ((c3.v2) = (1 : Int))), .bool true]) rfl (k_pt 1 (cs := #[Ix (id), Ix (c1.v0), Ix (c1.v1), .int .i64 (0), .int .i64 (0), Ix (c3.v0), Ix (c3.v1), .bool (decide ((c3.v2) = (1 : Int))), .bool true]) (vs := [Ix (id), Ix (c1.v0), Ix (c1.v1), .int .i64 (0), .int .i64 (0), Ix (c3.v0), Ix (c3.v1), .bool (decide ((c3.v2) = (1 : Int))), .bool true]) rfl rfl) rfl, rd_tmp (v := .bool true) rfl, trivial⟩ rfl ?_
      intro w hw
      exact ⟨body_ret_some (body_fix hf1 hf3 (.inl hfx)), st_mask [false, false, false, false, false] rfl hw⟩
     ·
      refine c_any [⟨[], [], [0], [23], fun f => f 23 = .pointer (some ⟨b1, 1, none⟩)⟩, ⟨[0], [0], [], [24], fun f => f 24 = .slice va (cm.length) (vc)⟩, ⟨[], [], [1], [25], fun f => f 25 = Nx (i1)⟩, ⟨[0, 1, 2], [1, 2], [], [26], fun f => f 26 = .pointer (some ((ba va).add (i1 * 5)))⟩, ⟨[0, 1, 2, 3], [3], [], [27], fun f => f 27 = .pointer (some (((ba va).add (i1 * 5) : Addr).add 1))⟩, ⟨[0, 1, 2, 3, 4], [4], [], [28], fun f => f 28 = .agg #[Ix (c1.v0), Ix (c1.v1), Ix (c1.v2), Ix (c1.v3)]⟩, ⟨[], [], [0], [29], fun f => f 29 = .pointer (some ⟨b1, 1, none⟩)⟩, ⟨[6], [6], [], [30], fun f => f 30 = .slice va (cm.length) (vc)⟩, ⟨[], [], [2], [31], fun f => f 31 = Nx (i3)⟩, ⟨[6, 7, 8], [7, 8], [], [32], fun f => f 32 = .pointer (some ((ba va).add (i3 * 5)))⟩, ⟨[6, 7, 8, 9], [9], [], [33], fun f => f 33 = .pointer (some (((ba va).add (i3 * 5) : Addr).add 1))⟩, ⟨[6, 7, 8, 9, 10], [10], [], [34], fun f => f 34 = .agg #[Ix (c3.v0), Ix (c3.v1), Ix (c3.v2), Ix (c3.v3)]⟩, ⟨[], [], [], [7], fun f => f 7 = .pointer (some ⟨(blk (f 7)), 0, none⟩)⟩, ⟨[], [], [], [8], fun f => f 8 = .pointer (some ⟨(blk (f 8)), 0, none⟩)⟩, ⟨[0, 1, 2, 3, 4, 5, 12, 13], [12, 5], [], [], fun _ => True⟩, ⟨[0, 1, 2, 3, 4, 5, 6, 7, 8, 9, 10, 11, 12, 13, 14], [13, 11], [], [], fun _ => True⟩] [⟨none, none, [], [], fun _ => pt b2 (.cells #[.int .i64 (0), .int .i64 (0), .int .i64 (0), .int .i64 (0), .int .i64 (0), .int .i64 (0), .int .i64 (0), .bool false, .bool false] 52)⟩, ⟨none, none, [1, 7], [], fun _ => pt b1 (.cells #[Ix (id), .slice va (cm.length) (vc)] 59)⟩, ⟨(some 12), (some 14), [14], [7], fun f => pt (blk (f 7)) (.cells #[.int .i64 (0), .int .i64 (0), .int .i64 (0), .int .i64 (0)] 118)⟩, ⟨(some 13), (some 15), [15], [8], fun f => pt (blk (f 8)) (.cells #[.int .i64 (0), .int .i64 (0), .int .i64 (0), .int .i64 (0)] 118)⟩, ⟨(some 14), none, [], [7], fun f => pt (blk (f 7)) (.cells #[Ix (c1.v0), Ix (c1.v1), Ix (c1.v2), Ix (c1.v3)] 118)⟩, ⟨(some 15), none, [], [8], fun f => pt (blk (f 8)) (.cells #[Ix (c3.v0), Ix (c3.v1), Ix (c3.v2), Ix (c3.v3)] 118)⟩] [(1, .pointer (some ⟨b1, 0, none⟩)), (4, Nx (i1)), (5, Nx (i3)), (2, .pointer (some ⟨b2, 0, none⟩)), (6, Ix ((idxI (fun c : KComp => decide (c.kind = 2)) cm)))] [0, 3, 4] [] (by kernel_rfl) (by kernel_rfl) (by kernel_rfl) (by kernel_rfl) rfl ⟨rfl, rfl, rfl, rfl, rfl, trivial⟩ ⟨?_, ?_, ?_, ?_, ?_, ?_, ?_, ?_, ?_, ?_, ?_, ?_, ?_, ?_, ?_, ?_, trivial⟩ ?_
      ·rintro f M - ⟨i0, -⟩
       have hs1 : f 1 = .pointer (some ⟨b1, 0, none⟩) := i0
       refine ob_start (L' := M) (by rfl) (up_cons rfl hs1) ?_
       refine l_val (v := .pointer (some ⟨b1, 1, none⟩)) rfl rfl rfl (e_fieldPt (b := b1) (o := 0) rfl tw0) ?_
       refine l_nil ?_
       exact f_owes_d (up_cons rfl hs1) rfl (List.Perm.refl _)
      ·rintro f M ⟨k0, -⟩ -
       have hs23 : f 23 = .pointer (some ⟨b1, 1, none⟩) := k0
       refine ob_start (L' := pt b1 (.cells #[Ix (id), .slice va (cm.length) (vc)] 59) :: M) (by rfl) (up_cons rfl hs23) ?_
       refine l_val (v := .slice va (cm.length) (vc)) rfl rfl rfl (e_load1 tw1 (v := .slice va (cm.length) (vc)) rfl (k_pt 0 (cs := #[Ix (id), .slice va (cm.length) (vc)]) (vs := [.slice va (cm.length) (vc)]) rfl rfl)) ?_
       refine l_nil ?_
       exact f_owes_d (up_cons rfl hs23) rfl (perm_front 0 rfl)
      ·rintro f M - ⟨i0, -⟩
       have hs4 : f 4 = Nx (i1) := i0
       refine ob_start (L' := M) (by rfl) (up_cons rfl hs4) ?_
       refine l_val (v := Nx (i1)) rfl rfl rfl (e_move) ?_
       refine l_nil ?_
       exact f_owes_d (up_cons rfl hs4) rfl (List.Perm.refl _)
      ·rintro f M ⟨k0, k1, -⟩ -
       have hs24 : f 24 = .slice va (cm.length) (vc) := k0
       have hs25 : f 25 = Nx (i1) := k1
       refine ob_start (L' := M) (by rfl) (up_cons (up_cons rfl hs24) hs25) ?_
       refine l_val (v := .pointer (some ((ba va).add (i1 * 5)))) rfl rfl rfl (e_indexAddr (k := i1) (len := cm.length) (cap := vc) (a := va) rfl rfl tw3 (by omega) ha1) ?_
       refine l_nil ?_
       exact f_owes_d (up_cons (up_cons rfl hs24) hs25) rfl (List.Perm.refl _)
      ·rintro f M ⟨k0, -⟩ -
       have hs26 : f 26 = .pointer (some ((ba va).add (i1 * 5))) := k0
       refine ob_start (L' := M) (by rfl) (up_cons rfl hs26) ?_
       refine l_val (v := .pointer (some (((ba va).add (i1 * 5) : Addr).add 1))) rfl rfl rfl (e_fieldAddr (a := (ba va).add (i1 * 5)) rfl tw11) ?_
       refine l_nil ?_
       exact f_owes_d (up_cons rfl hs26) rfl (List.Perm.refl _)
      ·rintro f M ⟨k0, -⟩ -
       have hs27 : f 27 = .pointer (some (((ba va).add (i1 * 5) : Addr).add 1)) := k0
       refine ob_start (L' := M) (by rfl) (up_cons rfl hs27) ?_
       refine l_val (v := .agg #[Ix (c1.v0), Ix (c1.v1), Ix (c1.v2), Ix (c1.v3)]) rfl rfl rfl (e_load tw12 (cs := [Ix (c1.v0), Ix (c1.v1), Ix (c1.v2), Ix (c1.v3)]) rfl (Knows.imp (Knows.of_base (Cs.mono _ _) hc1) (fun _ h => Cs.sub (vs := [Ix (c1.v0), Ix (c1.v1), Ix (c1.v2), Ix (c1.v3)]) 1 h rfl)) rfl) ?_
       refine l_nil ?_
       exact f_owes_d (up_cons rfl hs27) rfl (List.Perm.refl _)
      ·rintro f M - ⟨i0, -⟩
       have hs1 : f 1 = .pointer (some ⟨b1, 0, none⟩) := i0
       refine ob_start (L' := M) (by rfl) (up_cons rfl hs1) ?_
       refine l_val (v := .pointer (some ⟨b1, 1, none⟩)) rfl rfl rfl (e_fieldPt (b := b1) (o := 0) rfl tw0) ?_
       refine l_nil ?_
       exact f_owes_d (up_cons rfl hs1) rfl (List.Perm.refl _)
      ·rintro f M ⟨k0, -⟩ -
       have hs29 : f 29 = .pointer (some ⟨b1, 1, none⟩) := k0
       refine ob_start (L' := pt b1 (.cells #[Ix (id), .slice va (cm.length) (vc)] 59) :: M) (by rfl) (up_cons rfl hs29) ?_
       refine l_val (v := .slice va (cm.length) (vc)) rfl rfl rfl (e_load1 tw1 (v := .slice va (cm.length) (vc)) rfl (k_pt 0 (cs := #[Ix (id), .slice va (cm.length) (vc)]) (vs := [.slice va (cm.length) (vc)]) rfl rfl)) ?_
       refine l_nil ?_
       exact f_owes_d (up_cons rfl hs29) rfl (perm_front 0 rfl)
      ·rintro f M - ⟨i0, -⟩
       have hs5 : f 5 = Nx (i3) := i0
       refine ob_start (L' := M) (by rfl) (up_cons rfl hs5) ?_
       refine l_val (v := Nx (i3)) rfl rfl rfl (e_move) ?_
       refine l_nil ?_
       exact f_owes_d (up_cons rfl hs5) rfl (List.Perm.refl _)
      ·rintro f M ⟨k0, k1, -⟩ -
       have hs30 : f 30 = .slice va (cm.length) (vc) := k0
       have hs31 : f 31 = Nx (i3) := k1
       refine ob_start (L' := M) (by rfl) (up_cons (up_cons rfl hs30) hs31) ?_
       refine l_val (v := .pointer (some ((ba va).add (i3 * 5)))) rfl rfl rfl (e_indexAddr (k := i3) (len := cm.length) (cap := vc) (a := va) rfl rfl tw3 (by omega) ha3) ?_
       refine l_nil ?_
       exact f_owes_d (up_cons (up_cons rfl hs30) hs31) rfl (List.Perm.refl _)
      ·rintro f M ⟨k0, -⟩ -
       have hs32 : f 32 = .pointer (some ((ba va).add (i3 * 5))) := k0
       refine ob_start (L' := M) (by rfl) (up_cons rfl hs32) ?_
       refine l_val (v := .pointer (some (((ba va).add (i3 * 5) : Addr).add 1))) rfl rfl rfl (e_fieldAddr (a := (ba va).add (i3 * 5)) rfl tw11) ?_
       refine l_nil ?_
       exact f_owes_d (up_cons rfl hs32) rfl (List.Perm.refl _)
      ·rintro f M ⟨k0, -⟩ -
       have hs33 : f 33 = .pointer (some (((ba va).add (i3 * 5) : Addr).add 1)) := k0
       refine ob_start (L' := M) (by rfl) (up_cons rfl hs33) ?_
       refine l_val (v := .agg #[Ix (c3.v0), Ix (c3.v1), Ix (c3.v2), Ix (c3.v3)]) rfl rfl rfl (e_load tw12 (cs := [Ix (c3.v0), Ix (c3.v1), Ix (c3.v2), Ix (c3.v3)]) rfl (Knows.imp (Knows.of_base (Cs.mono _ _) hc3) (fun _ h => Cs.sub (vs := [Ix (c3.v0), Ix (c3.v1), Ix (c3.v2), Ix (c3.v3)]) 1 h rfl)) rfl) ?_
       refine l_nil ?_
       exact f_owes_d (up_cons rfl hs33) rfl (List.Perm.refl _)
      ·rintro f M - -
       refine ob_start (L' := M) (by rfl) rfl ?_
       refine l_mv rfl rfl rfl (m_alloc tw13) ?_
       rintro _ _ ⟨b12, rfl, rfl⟩
       refine l_nil ?_
       exact f_owes_d rfl rfl (perm_front 0 rfl)
      ·rintro f M - -
       refine ob_start (L' := M) (by rfl) rfl ?_
       refine l_mv rfl rfl rfl (m_alloc tw13) ?_
       rintro _ _ ⟨b14, rfl, rfl⟩
       refine l_nil ?_
       exact f_owes_d rfl rfl (perm_front 0 rfl)
      ·rintro f M ⟨k0, k1, -⟩ -
       have hs7 : f 7 = .pointer (some ⟨(blk (f 7)), 0, none⟩) := k0
       have hs28 : f 28 = .agg #[Ix (c1.v0), Ix (c1.v1), Ix (c1.v2), Ix (c1.v3)] := k1
       refine ob_start (L' := pt (blk (f 7)) (.cells #[.int .i64 (0), .int .i64 (0), .int .i64 (0), .int .i64 (0)] 118) :: M) (by rfl) (up_cons (up_cons rfl hs7) hs28) ?_
       refine l_mu rfl rfl (m_store 0 tw12 (b := (blk (f 7))) (o := 0) (T := 118) (cs := #[.int .i64 (0), .int .i64 (0), .int .i64 (0), .int .i64 (0)]) (cs' := #[Ix (c1.v0), Ix (c1.v1), Ix (c1.v2), Ix (c1.v3)]) (v := .agg #[Ix (c1.v0), Ix (c1.v1), Ix (c1.v2), Ix (c1.v3)]) rfl rfl rfl rfl rfl rfl rfl) ?_
       refine l_nil ?_
       exact f_owes_n (up_cons (up_cons rfl hs7) hs28) trivial (perm_front 0 rfl)
      ·rintro f M ⟨k0, k1, -⟩ -
       have hs8 : f 8 = .pointer (some ⟨(blk (f 8)), 0, none⟩) := k0
       have hs34 : f 34 = .agg #[Ix (c3.v0), Ix (c3.v1), Ix (c3.v2), Ix (c3.v3)] := k1
       refine ob_start (L' := pt (blk (f 8)) (.cells #[.int .i64 (0), .int .i64 (0), .int .i64 (0), .int .i64 (0)] 118) :: M) (by rfl) (up_cons (up_cons rfl hs8) hs34) ?_
       refine l_mu rfl rfl (m_store 0 tw12 (b := (blk (f 8))) (o := 0) (T := 118) (cs := #[.int .i64 (0), .int .i64 (0), .int .i64 (0), .int .i64 (0)]) (cs' := #[Ix (c3.v0), Ix (c3.v1), Ix (c3.v2), Ix (c3.v3)]) (v := .agg #[Ix (c3.v0), Ix (c3.v1), Ix (c3.v2), Ix (c3.v3)]) rfl rfl rfl rfl rfl rfl rfl) ?_
       refine l_nil ?_
       exact f_owes_n (up_cons (up_cons rfl hs8) hs34) trivial (perm_front 0 rfl)
      rintro fa15 ⟨-, -, -, -, -, -, -, -, -, -, -, -, k12, k13, -, -, -⟩ ⟨j0, j1, j2, -⟩
      refine f_re (L' := [pt b2 (.cells #[.int .i64 (0), .int .i64 (0), .int .i64 (0), .int .i64 (0), .int .i64 (0), .int .i64 (0), .int .i64 (0), .bool false, .bool false] 52), pt b1 (.cells #[Ix (id), .slice va (cm.length) (vc)] 59), pt (blk (fa15 7)) (.cells #[Ix (c1.v0), Ix (c1.v1), Ix (c1.v2), Ix (c1.v3)] 118), pt (blk (fa15 8)) (.cells #[Ix (c3.v0), Ix (c3.v1), Ix (c3.v2), Ix (c3.v3)] 118)]) (by rfl) ?_
      refine f_rebase (d := 1) (v := .pointer (some ⟨b1, 0, none⟩)) j0 ?_
      refine f_rebase (d := 2) (v := .pointer (some ⟨b2, 0, none⟩)) j1 ?_
      refine f_rebase (d := 6) (v := Ix ((idxI (fun c : KComp => decide (c.kind = 2)) cm))) j2 ?_
      refine f_rebase (d := 7) (v := .pointer (some ⟨(blk (fa15 7)), 0, none⟩)) k12 ?_
      refine f_rebase (d := 8) (v := .pointer (some ⟨(blk (fa15 8)), 0, none⟩)) k13 ?_
      refine f_then ?_
      refine c_seq ?_
      refine c_region ?_
      refine l_val (v := .pointer (some ⟨b1, 0, none⟩)) rfl rfl rfl (e_fieldPt (b := b1) (o := 0) rfl tw14) ?_
      refine l_val (v := Ix (id)) rfl rfl rfl (e_load1 tw15 (v := Ix (id)) rfl (k_pt 1 (cs := #[Ix (id), .slice va (cm.length) (vc)]) (vs := [Ix (id)]) rfl rfl)) ?_
      refine l_val (v := .pointer (some ⟨(blk (fa15 7)), 0, none⟩)) rfl rfl rfl (e_indexArrK (b := (blk (fa15 7))) (o := 0) (k := 0) rfl rfl tw16 (by decide)) ?_
      refine l_val (v := Ix (c1.v0)) rfl rfl rfl (e_load1 tw15 (v := Ix (c1.v0)) rfl (k_pt 2 (cs := #[Ix (c1.v0), Ix (c1.v1), Ix (c1.v2), Ix (c1.v3)]) (vs := [Ix (c1.v0)]) rfl rfl)) ?_
      refine l_val (v := .pointer (some ⟨(blk (fa15 7)), 1, none⟩)) rfl rfl rfl (e_indexArrK (b := (blk (fa15 7))) (o := 0) (k := 1) rfl rfl tw16 (by decide)) ?_
      refine l_val (v := Ix (c1.v1)) rfl rfl rfl (e_load1 tw15 (v := Ix (c1.v1)) rfl (k_pt 2 (cs := #[Ix (c1.v0), Ix (c1.v1), Ix (c1.v2), Ix (c1.v3)]) (vs := [Ix (c1.v1)]) rfl rfl)) ?_
      refine l_val (v := .agg #[Ix (c1.v0), Ix (c1.v1)]) rfl rfl rfl (e_build tw18 tw17 (vs := [(0, Ix (c1.v0)), (1, Ix (c1.v1))]) (cells := #[Ix (c1.v0), Ix (c1.v1)]) rfl rfl) ?_
      refine l_val (v := .pointer (some ⟨(blk (fa15 8)), 0, none⟩)) rfl rfl rfl (e_indexArrK (b := (blk (fa15 8))) (o := 0) (k := 0) rfl rfl tw16 (by decide)) ?_
      refine l_val (v := Ix (c3.v0)) rfl rfl rfl (e_load1 tw15 (v := Ix (c3.v0)) rfl (k_pt 3 (cs := #[Ix (c3.v0), Ix (c3.v1), Ix (c3.v2), Ix (c3.v3)]) (vs := [Ix (c3.v0)]) rfl rfl)) ?_
      refine l_val (v := .pointer (some ⟨(blk (fa15 8)), 1, none⟩)) rfl rfl rfl (e_indexArrK (b := (blk (fa15 8))) (o := 0) (k := 1) rfl rfl tw16 (by decide)) ?_
      refine l_val (v := Ix (c3.v1)) rfl rfl rfl (e_load1 tw15 (v := Ix (c3.v1)) rfl (k_pt 3 (cs := #[Ix (c3.v0), Ix (c3.v1), Ix (c3.v2), Ix (c3.v3)]) (vs := [Ix (c3.v1)]) rfl rfl)) ?_
      refine l_val (v := .pointer (some ⟨(blk (fa15 8)), 2, none⟩)) rfl rfl rfl (e_indexArrK (b := (blk (fa15 8))) (o := 0) (k := 2) rfl rfl tw16 (by decide)) ?_
      refine l_val (v := Ix (c3.v2)) rfl rfl rfl (e_load1 tw15 (v := Ix (c3.v2)) rfl (k_pt 3 (cs := #[Ix (c3.v0), Ix (c3.v1), Ix (c3.v2), Ix (c3.v3)]) (vs := [Ix (c3.v2)]) rfl rfl)) ?_
      refine l_val (v := .bool (decide ((c3.v2) = (1 : Int)))) rfl rfl rfl (e_eql (a := (c3.v2)) (b := (1 : Int)) rfl rfl) ?_
      refine l_val (v := .pointer (some ⟨(blk (fa15 8)), 3, none⟩)) rfl rfl rfl (e_indexArrK (b := (blk (fa15 8))) (o := 0) (k := 3) rfl rfl tw16 (by decide)) ?_
      refine l_val (v := Ix (c3.v3)) rfl rfl rfl (e_load1 tw15 (v := Ix (c3.v3)) rfl (k_pt 3 (cs := #[Ix (c3.v0), Ix (c3.v1), Ix (c3.v2), Ix (c3.v3)]) (vs := [Ix (c3.v3)]) rfl rfl)) ?_
      refine l_val (v := .bool (decide ((c3.v3) = (1 : Int)))) rfl rfl rfl (e_eql (a := (c3.v3)) (b := (1 : Int)) rfl rfl) ?_
      refine l_val (v := .bool (decide ((c3.v3) = (1 : Int)))) rfl rfl rfl (e_move) ?_
      refine l_split (s := 52) (p := (c3.v3) = (1 : Int)) rfl (fun h => ?_) (fun h => ?_)
      exact absurd h hfx
      refine g_val (v := Ix ((idxI (fun c : KComp => decide (c.kind = 2)) cm))) rfl rfl rfl rfl rfl (e_move) ?_
      refine g_val (v := .bool (decide (((idxI (fun c : KComp => decide (c.kind = 2)) cm)) < (0 : Int)))) rfl rfl rfl rfl rfl (e_lss (a := ((idxI (fun c : KComp => decide (c.kind = 2)) cm))) (b := (0 : Int)) rfl rfl) ?_
      refine l_val (v := .bool (decide (((idxI (fun c : KComp => decide (c.kind = 2)) cm)) < (0 : Int)))) rfl rfl rfl (e_pick_f rfl) ?_
      refine l_val (v := .agg #[Ix (id), Ix (c1.v0), Ix (c1.v1), .int .i64 (0), .int .i64 (0), Ix (c3.v0), Ix (c3.v1), .bool (decide ((c3.v2) = (1 : Int))), .bool (decide (((idxI (fun c : KComp => decide (c.kind = 2)) cm)) < (0 : Int)))]) rfl rfl rfl (e_build tw6 tw9 (vs := [(0, Ix (id)), (1, .agg #[Ix (c1.v0), Ix (c1.v1)]), (3, Ix (c3.v0)), (4, Ix (c3.v1)), (5, .bool (decide ((c3.v2) = (1 : Int)))), (6, .bool (decide (((idxI (fun c : KComp => decide (c.kind = 2)) cm)) < (0 : Int))))]) (cells := #[Ix (id), Ix (c1.v0), Ix (c1.v1), .int .i64 (0), .int .i64 (0), Ix (c3.v0), Ix (c3.v1), .bool (decide ((c3.v2) = (1 : Int))), .bool (decide (((idxI (fun c : KComp => decide (c.kind = 2)) cm)) < (0 : Int)))]) rfl (by kernel_rfl)) ?_
      refine l_mv rfl rfl rfl (m_alloc tw6) ?_
      rintro _ _ ⟨b16, rfl, rfl⟩
      refine l_mu rfl rfl (m_store 0 tw10 (b := b16) (o := 0) (T := 52) (cs := #[.int .i64 (0), .int .i64 (0), .int .i64 (0), .int .i64 (0), .int .i64 (0), .int .i64 (0), .int .i64 (0), .bool false, .bool false]) (cs' := #[Ix (id), Ix (c1.v0), Ix (c1.v1), .int .i64 (0), .int .i64 (0), Ix (c3.v0), Ix (c3.v1), .bool (decide ((c3.v2) = (1 : Int))), .bool (decide (((idxI (fun c : KComp => decide (c.kind = 2)) cm)) < (0 : Int)))]) (v := .agg #[Ix (id), Ix (c1.v0), Ix (c1.v1), .int .i64 (0), .int .i64 (0), Ix (c3.v0), Ix (c3.v1), .bool (decide ((c3.v2) = (1 : Int))), .bool (decide (((idxI (fun c : KComp => decide (c.kind = 2)) cm)) < (0 : Int)))]) rfl rfl rfl rfl rfl rfl rfl) ?_
      refine l_nil ?_
      refine f_then ?_
      refine c_seq ?_
      refine c_seq ?_
      refine c_region ?_
      refine l_val (v := .pointer (some ⟨b16, 8, none⟩)) rfl rfl rfl (e_fieldPt (b := b16) (o := 0) rfl tw19) ?_
      refine l_val (v := .bool (decide (((idxI (fun c : KComp => decide (c.kind = 2)) cm)) < (0 : Int)))) rfl rfl rfl (e_load1 tw20 (v := .bool (decide (((idxI (fun c : KComp => decide (c.kind = 2)) cm)) < (0 : Int)))) rfl (k_pt 0 (cs := #[Ix (id), Ix (c1.v0), Ix (c1.v1), .int .i64 (0), .int .i64 (0), Ix (c3.v0), Ix (c3.v1), .bool (decide ((c3.v2) = (1 : Int))), .bool (decide (((idxI (fun c : KComp => decide (c.kind = 2)) cm)) < (0 : Int)))]) (vs := [.bool (decide (((idxI (fun c : KComp => decide (c.kind = 2)) cm)) < (0 : Int)))]) rfl rfl)) ?_
      refine l_val (v := .bool (decide (¬ (((idxI (fun c : KComp => decide (c.kind = 2)) cm)) < (0 : Int))))) rfl rfl rfl (e_not_p (p := ((idxI (fun c : KComp => decide (c.kind = 2)) cm)) < (0 : Int)) rfl) ?_
      refine l_nil ?_
      refine f_then ?_
      refine c_if (¬ (((idxI (fun c : KComp => decide (c.kind = 2)) cm)) < (0 : Int))) rfl (fun hc17 => ?_) (fun hc17 => ?_)
      ·
       exact absurd hc17 (fun q => q hn2)
      ·
       refine c_skip ?_
       refine f_then ?_
       refine c_seq ?_
       refine c_region ?_
       refine l_val (v := .agg #[Ix (id), Ix (c1.v0), Ix (c1.v1), .int .i64 (0), .int .i64 (0), Ix (c3.v0), Ix (c3.v1), .bool (decide ((c3.v2) = (1 : Int))), .bool (decide (((idxI (fun c : KComp => decide (c.kind = 2)) cm)) < (0 : Int)))]) rfl rfl rfl (e_load tw10 (cs := [Ix (id), Ix (c1.v0), Ix (c1.v1), .int .i64 (0), .int .i64 (0), Ix (c3.v0), Ix (c3.v1), .bool (decide ((c3.v2) = (1 : Int))), .bool (decide (((idxI (fun c : KComp => decide (c.kind = 2)) cm)) < (0 : Int)))]) rfl (k_pt 0 (cs := #[Ix (id), Ix (c1.v0), Ix (c1.v1), .int .i64 (0), .int .i64 (0), Ix (c3.v0), Ix (c3.v1), .bool (decide ((c3.v2) = (1 : Int))), .bool (decide (((idxI (fun c : KComp => decide (c.kind = 2)) cm)) < (0 : Int)))]) (vs := [Ix (id), Ix (c1.v0), Ix (c1.v1), .int .i64 (0), .int .i64 (0), Ix (c3.v0), Ix (c3.v1), .bool (decide ((c3.v2) = (1 : Int))), .bool (decide (((idxI (fun c : KComp => decide (c.kind = 2)) cm)) < (0 : Int)))]) rfl rfl) rfl) ?_
       refine l_mu rfl rfl (m_store 1 tw10 (b := b2) (o := 0) (T := 52) (cs := #[.int .i64 (0), .int .i64 (0), .int .i64 (0), .int .i64 (0), .int .i64 (0), .int .i64 (0), .int .i64 (0), .bool false, .bool false]) (cs' := #[Ix (id), Ix (c1.v0), Ix (c1.v1), .int .i64 (0), .int .i64 (0), Ix (c3.v0), Ix (c3.v1), .bool (decide ((c3.v2) = (1 : Int))), .bool (decide (((idxI (fun c : KComp => decide (c.kind = 2)) cm)) < (0 : Int)))]) (v := .agg #[Ix (id), Ix (c1.v0), Ix (c1.v1), .int .i64 (0), .int .i64 (0), Ix (c3.v0), Ix (c3.v1), .bool (decide ((c3.v2) = (1 : Int))), .bool (decide (((idxI (fun c : KComp => decide (c.kind = 2)) cm)) < (0 : Int)))]) rfl rfl rfl rfl rfl rfl rfl) ?_
       refine l_val (v := .bool true) rfl rfl rfl (e_assign) ?_
       refine l_nil ?_
       refine f_then ?_
       refine c_ret ?_
       refine retG (l := [.cell 2 52, .tmp 3]) (m := [.agg #[Ix (id), Ix (c1.v0), Ix (c1.v1), .int .i64 (0), .int .i64 (0), Ix (c3.v0), Ix (c3.v1), .bool (decide ((c3.v2) = (1 : Int))), .bool (decide (((idxI (fun c : KComp => decide (c.kind = 2)) cm)) < (0 : Int)))], .bool true]) (v := .tuple #[.agg #[Ix (id), Ix (c1.v0), Ix (c1.v1), .int .i64 (0), .int .i64 (0), Ix (c3.v0), Ix (c3.v1), .bool (decide ((c3.v2) = (1 : Int))), .bool (decide (((idxI (fun c : KComp => decide (c.kind = 2)) cm)) < (0 : Int)))], .bool true]) Tryz.results69 ⟨rd_cell tw10 (cs := [Ix (id), Ix (c1.v0), Ix (c1.v1), .int .i64 (0), .int .i64 (0), Ix (c3.v0), Ix (c3.v1), .bool (decide ((c3.v2) = (1 : Int))), .bool (decide (((idxI (fun c : KComp => decide (c.kind = 2)) cm)) < (0 : Int)))]) rfl (k_pt 1 (cs := #[Ix (id), Ix (c1.v0), Ix (c1.v1), .int .i64 (0), .int .i64 (0), Ix (c3.v0), Ix (c3.v1), .bool (decide ((c3.v2) = (1 : Int))), .bool (decide (((idxI (fun c : KComp => decide (c.kind = 2)) cm)) < (0 : Int)))]) (vs := [Ix (id), Ix (c1.v0), Ix (c1.v1), .int .i64 (0), .int .i64 (0), Ix (c3.v0), Ix (c3.v1), .bool (decide ((c3.v2) = (1 : Int))), .bool (decide (((idxI (fun c : KComp => decide (c.kind = 2)) cm)) < (0 : Int)))]) rfl rfl) rfl, rd_tmp (v := .bool true) rfl, trivial⟩ rfl ?_
       intro w hw
       exact ⟨by rw [decide_eq_true hn2]; exact body_ret_some (body_fix hf1 hf3 (.inr hf2)), st_mask [false, false, false, false, false] rfl hw⟩
   ·
    rw [hi2]
    obtain ⟨ha2, cs2, hc2, rfl⟩ := ve _ _ hx2
    refine c_region ?_
    refine l_val (v := Nx (i1)) rfl rfl rfl (e_move) ?_
    refine l_val (v := .bool (decide (((i1 : Nat) : Int) < (0 : Int)))) rfl rfl rfl (e_lss (a := ((i1 : Nat) : Int)) (b := (0 : Int)) rfl rfl) ?_
    refine l_val (v := .bool (decide (((i1 : Nat) : Int) < (0 : Int)))) rfl rfl rfl (e_move) ?_
    refine l_split (s := 18) (p := ((i1 : Nat) : Int) < (0 : Int)) rfl (fun h => ?_) (fun h => ?_)
    exact absurd h (by omega)
    refine g_val (v := Nx (i3)) rfl rfl rfl rfl rfl (e_move) ?_
    refine g_val (v := .bool (decide (((i3 : Nat) : Int) < (0 : Int)))) rfl rfl rfl rfl rfl (e_lss (a := ((i3 : Nat) : Int)) (b := (0 : Int)) rfl rfl) ?_
    refine l_val (v := .bool (decide (((i3 : Nat) : Int) < (0 : Int)))) rfl rfl rfl (e_pick_f rfl) ?_
    refine l_nil ?_
    refine f_then ?_
    refine c_if (((i3 : Nat) : Int) < (0 : Int)) rfl (fun hc18 => ?_) (fun hc18 => ?_)
    ·
     exact absurd hc18 (by omega)
    ·
     refine c_skip ?_
     refine f_then ?_
     refine c_seq ?_
     rcases Decidable.em (c3.v3 = 1) with hfx | hfx
     ·
      refine c_any [⟨[], [], [0], [23], fun f => f 23 = .pointer (some ⟨b1, 1, none⟩)⟩, ⟨[0], [0], [], [24], fun f => f 24 = .slice va (cm.length) (vc)⟩, ⟨[], [], [1], [25], fun f => f 25 = Nx (i1)⟩, ⟨[0, 1, 2], [1, 2], [], [26], fun f => f 26 = .pointer (some ((ba va).add (i1 * 5)))⟩, ⟨[0, 1, 2, 3], [3], [], [27], fun f => f 27 = .pointer (some (((ba va).add (i1 * 5) : Addr).add 1))⟩, ⟨[0, 1, 2, 3, 4], [4], [], [28], fun f => f 28 = .agg #[Ix (c1.v0), Ix (c1.v1), Ix (c1.v2), Ix (c1.v3)]⟩, ⟨[], [], [0], [29], fun f => f 29 = .pointer (some ⟨b1, 1, none⟩)⟩, ⟨[6], [6], [], [30], fun f => f 30 = .slice va (cm.length) (vc)⟩, ⟨[], [], [2], [31], fun f => f 31 = Nx (i3)⟩, ⟨[6, 7, 8], [7, 8], [], [32], fun f => f 32 = .pointer (some ((ba va).add (i3 * 5)))⟩, ⟨[6, 7, 8, 9], [9], [], [33], fun f => f 33 = .pointer (some (((ba va).add (i3 * 5) : Addr).add 1))⟩, ⟨[6, 7, 8, 9, 10], [10], [], [34], fun f => f 34 = .agg #[Ix (c3.v0), Ix (c3.v1), Ix (c3.v2), Ix (c3.v3)]⟩, ⟨[], [], [], [7], fun f => f 7 = .pointer (some ⟨(blk (f 7)), 0, none⟩)⟩, ⟨[], [], [], [8], fun f => f 8 = .pointer (some ⟨(blk (f 8)), 0, none⟩)⟩, ⟨[0, 1, 2, 3, 4, 5, 12, 13], [12, 5], [], [], fun _ => True⟩, ⟨[0, 1, 2, 3, 4, 5, 6, 7, 8, 9, 10, 11, 12, 13, 14], [13, 11], [], [], fun _ => True⟩] [⟨none, none, [], [], fun _ => pt b2 (.cells #[.int .i64 (0), .int .i64 (0), .int .i64 (0), .int .i64 (0), .int .i64 (0), .int .i64 (0), .int .i64 (0), .bool false, .bool false] 52)⟩, ⟨none, none, [1, 7], [], fun _ => pt b1 (.cells #[Ix (id), .slice va (cm.length) (vc)] 59)⟩, ⟨(some 12), (some 14), [14], [7], fun f => pt (blk (f 7)) (.cells #[.int .i64 (0), .int .i64 (0), .int .i64 (0), .int .i64 (0)] 118)⟩, ⟨(some 13), (some 15), [15], [8], fun f => pt (blk (f 8)) (.cells #[.int .i64 (0), .int .i64 (0), .int .i64 (0), .int .i64 (0)] 118)⟩, ⟨(some 14), none, [], [7], fun f => pt (blk (f 7)) (.cells #[Ix (c1.v0), Ix (c1.v1), Ix (c1.v2), Ix (c1.v3)] 118)⟩, ⟨(some 15), none, [], [8], fun f => pt (blk (f 8)) (.cells #[Ix (c3.v0), Ix (c3.v1), Ix (c3.v2), Ix (c3.v3)] 118)⟩] [(1, .pointer (some ⟨b1, 0, none⟩)), (4, Nx (i1)), (5, Nx (i3)), (2, .pointer (some ⟨b2, 0, none⟩)), (6, Nx (i2))] [0, 3, 4] [] (by kernel_rfl) (by kernel_rfl) (by kernel_rfl) (by kernel_rfl) rfl ⟨rfl, rfl, rfl, rfl, rfl, trivial⟩ ⟨?_, ?_, ?_, ?_, ?_, ?_, ?_, ?_, ?_, ?_, ?_, ?_, ?_, ?_, ?_, ?_, trivial⟩ ?_
      ·rintro f M - ⟨i0, -⟩
       have hs1 : f 1 = .pointer (some ⟨b1, 0, none⟩) := i0
       refine ob_start (L' := M) (by rfl) (up_cons rfl hs1) ?_
       refine l_val (v := .pointer (some ⟨b1, 1, none⟩)) rfl rfl rfl (e_fieldPt (b := b1) (o := 0) rfl tw0) ?_
       refine l_nil ?_
       exact f_owes_d (up_cons rfl hs1) rfl (List.Perm.refl _)
      ·rintro f M ⟨k0, -⟩ -
       have hs23 : f 23 = .pointer (some ⟨b1, 1, none⟩) := k0
       refine ob_start (L' := pt b1 (.cells #[Ix (id), .slice va (cm.length) (vc)] 59) :: M) (by rfl) (up_cons rfl hs23) ?_
       refine l_val (v := .slice va (cm.length) (vc)) rfl rfl rfl (e_load1 tw1 (v := .slice va (cm.length) (vc)) rfl (k_pt 0 (cs := #[Ix (id), .slice va (cm.length) (vc)]) (vs := [.slice va (cm.length) (vc)]) rfl rfl)) ?_
       refine l_nil ?_
       exact f_owes_d (up_cons rfl hs23) rfl (perm_front 0 rfl)
      ·rintro f M - ⟨i0, -⟩
       have hs4 : f 4 = Nx (i1) := i0
       refine ob_start (L' := M) (by rfl) (up_cons rfl hs4) ?_
       refine l_val (v := Nx (i1)) rfl rfl rfl (e_move) ?_
       refine l_nil ?_
       exact f_owes_d (up_cons rfl hs4) rfl (List.Perm.refl _)
      ·rintro f M ⟨k0, k1, -⟩ -
       have hs24 : f 24 = .slice va (cm.length) (vc) := k0
       have hs25 : f 25 = Nx (i1) := k1
       refine ob_start (L' := M) (by rfl) (up_cons (up_cons rfl hs24) hs25) ?_
       refine l_val (v := .pointer (some ((ba va).add (i1 * 5)))) rfl rfl rfl (e_indexAddr (k := i1) (len := cm.length) (cap := vc) (a := va) rfl rfl tw3 (by omega) ha1) ?_
       refine l_nil ?_
       exact f_owes_d (up_cons (up_cons rfl hs24) hs25) rfl (List.Perm.refl _)
      ·rintro f M ⟨k0, -⟩ -
       have hs26 : f 26 = .pointer (some ((ba va).add (i1 * 5))) := k0
       refine ob_start (L' := M) (by rfl) (up_cons rfl hs26) ?_
       refine l_val (v := .pointer (some (((ba va).add (i1 * 5) : Addr).add 1))) rfl rfl rfl (e_fieldAddr (a := (ba va).add (i1 * 5)) rfl tw11) ?_
       refine l_nil ?_
       exact f_owes_d (up_cons rfl hs26) rfl (List.Perm.refl _)
      ·rintro f M ⟨k0, -⟩ -
       have hs27 : f 27 = .pointer (some (((ba va).add (i1 * 5) : Addr).add 1)) := k0
       refine ob_start (L' := M) (by rfl) (up_cons rfl hs27) ?_
       refine l_val (v := .agg #[Ix (c1.v0), Ix (c1.v1), Ix (c1.v2), Ix (c1.v3)]) rfl rfl rfl (e_load tw12 (cs := [Ix (c1.v0), Ix (c1.v1), Ix (c1.v2), Ix (c1.v3)]) rfl (Knows.imp (Knows.of_base (Cs.mono _ _) hc1) (fun _ h => Cs.sub (vs := [Ix (c1.v0), Ix (c1.v1), Ix (c1.v2), Ix (c1.v3)]) 1 h rfl)) rfl) ?_
       refine l_nil ?_
       exact f_owes_d (up_cons rfl hs27) rfl (List.Perm.refl _)
      ·rintro f M - ⟨i0, -⟩
       have hs1 : f 1 = .pointer (some ⟨b1, 0, none⟩) := i0
       refine ob_start (L' := M) (by rfl) (up_cons rfl hs1) ?_
       refine l_val (v := .pointer (some ⟨b1, 1, none⟩)) rfl rfl rfl (e_fieldPt (b := b1) (o := 0) rfl tw0) ?_
       refine l_nil ?_
       exact f_owes_d (up_cons rfl hs1) rfl (List.Perm.refl _)
      ·rintro f M ⟨k0, -⟩ -
       have hs29 : f 29 = .pointer (some ⟨b1, 1, none⟩) := k0
       refine ob_start (L' := pt b1 (.cells #[Ix (id), .slice va (cm.length) (vc)] 59) :: M) (by rfl) (up_cons rfl hs29) ?_
       refine l_val (v := .slice va (cm.length) (vc)) rfl rfl rfl (e_load1 tw1 (v := .slice va (cm.length) (vc)) rfl (k_pt 0 (cs := #[Ix (id), .slice va (cm.length) (vc)]) (vs := [.slice va (cm.length) (vc)]) rfl rfl)) ?_
       refine l_nil ?_
       exact f_owes_d (up_cons rfl hs29) rfl (perm_front 0 rfl)
      ·rintro f M - ⟨i0, -⟩
       have hs5 : f 5 = Nx (i3) := i0
       refine ob_start (L' := M) (by rfl) (up_cons rfl hs5) ?_
       refine l_val (v := Nx (i3)) rfl rfl rfl (e_move) ?_
       refine l_nil ?_
       exact f_owes_d (up_cons rfl hs5) rfl (List.Perm.refl _)
      ·rintro f M ⟨k0, k1, -⟩ -
       have hs30 : f 30 = .slice va (cm.length) (vc) := k0
       have hs31 : f 31 = Nx (i3) := k1
       refine ob_start (L' := M) (by rfl) (up_cons (up_cons rfl hs30) hs31) ?_
       refine l_val (v := .pointer (some ((ba va).add (i3 * 5)))) rfl rfl rfl (e_indexAddr (k := i3) (len := cm.length) (cap := vc) (a := va) rfl rfl tw3 (by omega) ha3) ?_
       refine l_nil ?_
       exact f_owes_d (up_cons (up_cons rfl hs30) hs31) rfl (List.Perm.refl _)
      ·rintro f M ⟨k0, -⟩ -
       have hs32 : f 32 = .pointer (some ((ba va).add (i3 * 5))) := k0
       refine ob_start (L' := M) (by rfl) (up_cons rfl hs32) ?_
       refine l_val (v := .pointer (some (((ba va).add (i3 * 5) : Addr).add 1))) rfl rfl rfl (e_fieldAddr (a := (ba va).add (i3 * 5)) rfl tw11) ?_
       refine l_nil ?_
       exact f_owes_d (up_cons rfl hs32) rfl (List.Perm.refl _)
      ·rintro f M ⟨k0, -⟩ -
       have hs33 : f 33 = .pointer (some (((ba va).add (i3 * 5) : Addr).add 1)) := k0
       refine ob_start (L' := M) (by rfl) (up_cons rfl hs33) ?_
       refine l_val (v := .agg #[Ix (c3.v0), Ix (c3.v1), Ix (c3.v2), Ix (c3.v3)]) rfl rfl rfl (e_load tw12 (cs := [Ix (c3.v0), Ix (c3.v1), Ix (c3.v2), Ix (c3.v3)]) rfl (Knows.imp (Knows.of_base (Cs.mono _ _) hc3) (fun _ h => Cs.sub (vs := [Ix (c3.v0), Ix (c3.v1), Ix (c3.v2), Ix (c3.v3)]) 1 h rfl)) rfl) ?_
       refine l_nil ?_
       exact f_owes_d (up_cons rfl hs33) rfl (List.Perm.refl _)
      ·rintro f M - -
       refine ob_start (L' := M) (by rfl) rfl ?_
       refine l_mv rfl rfl rfl (m_alloc tw13) ?_
       rintro _ _ ⟨b20, rfl, rfl⟩
       refine l_nil ?_
       exact f_owes_d rfl rfl (perm_front 0 rfl)
      ·rintro f M - -
       refine ob_start (L' := M) (by rfl) rfl ?_
       refine l_mv rfl rfl rfl (m_alloc tw13) ?_
       rintro _ _ ⟨b22, rfl, rfl⟩
       refine l_nil ?_
       exact f_owes_d rfl rfl (perm_front 0 rfl)
      ·rintro f M ⟨k0, k1, -⟩ -
       have hs7 : f 7 = .pointer (some ⟨(blk (f 7)), 0, none⟩) := k0
       have hs28 : f 28 = .agg #[Ix (c1.v0), Ix (c1.v1), Ix (c1.v2), Ix (c1.v3)] := k1
       refine ob_start (L' := pt (blk (f 7)) (.cells #[.int .i64 (0), .int .i64 (0), .int .i64 (0), .int .i64 (0)] 118) :: M) (by rfl) (up_cons (up_cons rfl hs7) hs28) ?_
       refine l_mu rfl rfl (m_store 0 tw12 (b := (blk (f 7))) (o := 0) (T := 118) (cs := #[.int .i64 (0), .int .i64 (0), .int .i64 (0), .int .i64 (0)]) (cs' := #[Ix (c1.v0), Ix (c1.v1), Ix (c1.v2), Ix (c1.v3)]) (v := .agg #[Ix (c1.v0), Ix (c1.v1), Ix (c1.v2), Ix (c1.v3)]) rfl rfl rfl rfl rfl rfl rfl) ?_
       refine l_nil ?_
       exact f_owes_n (up_cons (up_cons rfl hs7) hs28) trivial (perm_front 0 rfl)
      ·rintro f M ⟨k0, k1, -⟩ -
       have hs8 : f 8 = .pointer (some ⟨(blk (f 8)), 0, none⟩) := k0
       have hs34 : f 34 = .agg #[Ix (c3.v0), Ix (c3.v1), Ix (c3.v2), Ix (c3.v3)] := k1
       refine ob_start (L' := pt (blk (f 8)) (.cells #[.int .i64 (0), .int .i64 (0), .int .i64 (0), .int .i64 (0)] 118) :: M) (by rfl) (up_cons (up_cons rfl hs8) hs34) ?_
       refine l_mu rfl rfl (m_store 0 tw12 (b := (blk (f 8))) (o := 0) (T := 118) (cs := #[.int .i64 (0), .int .i64 (0), .int .i64 (0), .int .i64 (0)]) (cs' := #[Ix (c3.v0), Ix (c3.v1), Ix (c3.v2), Ix (c3.v3)]) (v := .agg #[Ix (c3.v0), Ix (c3.v1), Ix (c3.v2), Ix (c3.v3)]) rfl rfl rfl rfl rfl rfl rfl) ?_
       refine l_nil ?_
       exact f_owes_n (up_cons (up_cons rfl hs8) hs34) trivial (perm_front 0 rfl)
      rintro fa23 ⟨-, -, -, -, -, -, -, -, -, -, -, -, k12, k13, -, -, -⟩ ⟨j0, j1, j2, -⟩
      refine f_re (L' := [pt b2 (.cells #[.int .i64 (0), .int .i64 (0), .int .i64 (0), .int .i64 (0), .int .i64 (0), .int .i64 (0), .int .i64 (0), .bool false, .bool false] 52), pt b1 (.cells #[Ix (id), .slice va (cm.length) (vc)] 59), pt (blk (fa23 7)) (.cells #[Ix (c1.v0), Ix (c1.v1), Ix (c1.v2), Ix (c1.v3)] 118), pt (blk (fa23 8)) (.cells #[Ix (c3.v0), Ix (c3.v1), Ix (c3.v2), Ix (c3.v3)] 118)]) (by rfl) ?_
      refine f_rebase (d := 1) (v := .pointer (some ⟨b1, 0, none⟩)) j0 ?_
      refine f_rebase (d := 2) (v := .pointer (some ⟨b2, 0, none⟩)) j1 ?_
      refine f_rebase (d := 6) (v := Nx (i2)) j2 ?_
      refine f_rebase (d := 7) (v := .pointer (some ⟨(blk (fa23 7)), 0, none⟩)) k12 ?_
      refine f_rebase (d := 8) (v := .pointer (some ⟨(blk (fa23 8)), 0, none⟩)) k13 ?_
      refine f_then ?_
      refine c_seq ?_
      refine c_region ?_
      refine l_val (v := .pointer (some ⟨b1, 0, none⟩)) rfl rfl rfl (e_fieldPt (b := b1) (o := 0) rfl tw14) ?_
      refine l_val (v := Ix (id)) rfl rfl rfl (e_load1 tw15 (v := Ix (id)) rfl (k_pt 1 (cs := #[Ix (id), .slice va (cm.length) (vc)]) (vs := [Ix (id)]) rfl rfl)) ?_
      refine l_val (v := .pointer (some ⟨(blk (fa23 7)), 0, none⟩)) rfl rfl rfl (e_indexArrK (b := (blk (fa23 7))) (o := 0) (k := 0) rfl rfl tw16 (by decide)) ?_
      refine l_val (v := Ix (c1.v0)) rfl rfl rfl (e_load1 tw15 (v := Ix (c1.v0)) rfl (k_pt 2 (cs := #[Ix (c1.v0), Ix (c1.v1), Ix (c1.v2), Ix (c1.v3)]) (vs := [Ix (c1.v0)]) rfl rfl)) ?_
      refine l_val (v := .pointer (some ⟨(blk (fa23 7)), 1, none⟩)) rfl rfl rfl (e_indexArrK (b := (blk (fa23 7))) (o := 0) (k := 1) rfl rfl tw16 (by decide)) ?_
      refine l_val (v := Ix (c1.v1)) rfl rfl rfl (e_load1 tw15 (v := Ix (c1.v1)) rfl (k_pt 2 (cs := #[Ix (c1.v0), Ix (c1.v1), Ix (c1.v2), Ix (c1.v3)]) (vs := [Ix (c1.v1)]) rfl rfl)) ?_
      refine l_val (v := .agg #[Ix (c1.v0), Ix (c1.v1)]) rfl rfl rfl (e_build tw18 tw17 (vs := [(0, Ix (c1.v0)), (1, Ix (c1.v1))]) (cells := #[Ix (c1.v0), Ix (c1.v1)]) rfl rfl) ?_
      refine l_val (v := .pointer (some ⟨(blk (fa23 8)), 0, none⟩)) rfl rfl rfl (e_indexArrK (b := (blk (fa23 8))) (o := 0) (k := 0) rfl rfl tw16 (by decide)) ?_
      refine l_val (v := Ix (c3.v0)) rfl rfl rfl (e_load1 tw15 (v := Ix (c3.v0)) rfl (k_pt 3 (cs := #[Ix (c3.v0), Ix (c3.v1), Ix (c3.v2), Ix (c3.v3)]) (vs := [Ix (c3.v0)]) rfl rfl)) ?_
      refine l_val (v := .pointer (some ⟨(blk (fa23 8)), 1, none⟩)) rfl rfl rfl (e_indexArrK (b := (blk (fa23 8))) (o := 0) (k := 1) rfl rfl tw16 (by decide)) ?_
      refine l_val (v := Ix (c3.v1)) rfl rfl rfl (e_load1 tw15 (v := Ix (c3.v1)) rfl (k_pt 3 (cs := #[Ix (c3.v0), Ix (c3.v1), Ix (c3.v2), Ix (c3.v3)]) (vs := [Ix (c3.v1)]) rfl rfl)) ?_
      refine l_val (v := .pointer (some ⟨(blk (fa23 8)), 2, none⟩)) rfl rfl rfl (e_indexArrK (b := (blk (fa23 8))) (o := 0) (k := 2) rfl rfl tw16 (by decide)) ?_
      refine l_val (v := Ix (c3.v2)) rfl rfl rfl (e_load1 tw15 (v := Ix (c3.v2)) rfl (k_pt 3 (cs := #[Ix (c3.v0), Ix (c3.v1), Ix (c3.v2), Ix (c3.v3)]) (vs := [Ix (c3.v2)]) rfl rfl)) ?_
      refine l_val (v := .bool (decide ((c3.v2) = (1 : Int)))) rfl rfl rfl (e_eql (a := (c3.v2)) (b := (1 : Int)) rfl rfl) ?_
      refine l_val (v := .pointer (some ⟨(blk (fa23 8)), 3, none⟩)) rfl rfl rfl (e_indexArrK (b := (blk (fa23 8))) (o := 0) (k := 3) rfl rfl tw16 (by decide)) ?_
      refine l_val (v := Ix (c3.v3)) rfl rfl rfl (e_load1 tw15 (v := Ix (c3.v3)) rfl (k_pt 3 (cs := #[Ix (c3.v0), Ix (c3.v1), Ix (c3.v2), Ix (c3.v3)]) (vs := [Ix (c3.v3)]) rfl rfl)) ?_
      refine l_val (v := .bool (decide ((c3.v3) = (1 : Int)))) rfl rfl rfl (e_eql (a := (c3.v3)) (b := (1 : Int)) rfl rfl) ?_
      refine l_val (v := .bool (decide ((c3.v3) = (1 : Int)))) rfl rfl rfl (e_move) ?_
      refine l_split (s := 52) (p := (c3.v3) = (1 : Int)) rfl (fun h => ?_) (fun h => ?_)
      rotate_left; exact absurd hfx h
      refine l_skip rfl rfl rfl rfl rfl rfl ?_
      refine l_skip rfl rfl rfl rfl rfl rfl ?_
      refine l_val (v := .bool true) rfl rfl rfl (e_pick_t rfl) ?_
      refine l_val (v := .agg #[Ix (id), Ix (c1.v0), Ix (c1.v1), .int .i64 (0), .int .i64 (0), Ix (c3.v0), Ix (c3.v1), .bool (decide ((c3.v2) = (1 : Int))), .bool true]) rfl rfl rfl (e_build tw6 tw9 (vs := [(0, Ix (id)), (1, .agg #[Ix (c1.v0), Ix (c1.v1)]), (3, Ix (c3.v0)), (4, Ix (c3.v1)), (5, .bool (decide ((c3.v2) = (1 : Int)))), (6, .bool true)]) (cells := #[Ix (id), Ix (c1.v0), Ix (c1.v1), .int .i64 (0), .int .i64 (0), Ix (c3.v0), Ix (c3.v1), .bool (decide ((c3.v2) = (1 : Int))), .bool true]) rfl (by kernel_rfl)) ?_
      refine l_mv rfl rfl rfl (m_alloc tw6) ?_
      rintro _ _ ⟨b24, rfl, rfl⟩
      refine l_mu rfl rfl (m_store 0 tw10 (b := b24) (o := 0) (T := 52) (cs := #[.int .i64 (0), .int .i64 (0), .int .i64 (0), .int .i64 (0), .int .i64 (0), .int .i64 (0), .int .i64 (0), .bool false, .bool false]) (cs' := #[Ix (id), Ix (c1.v0), Ix (c1.v1), .int .i64 (0), .int .i64 (0), Ix (c3.v0), Ix (c3.v1), .bool (decide ((c3.v2) = (1 : Int))), .bool true]) (v := .agg #[Ix (id), Ix (c1.v0), Ix (c1.v1), .int .i64 (0), .int .i64 (0), Ix (c3.v0), Ix (c3.v1), .bool (decide ((c3.v2) = (1 : Int))), .bool true]) rfl rfl rfl rfl rfl rfl rfl) ?_
      refine l_nil ?_
      refine f_then ?_
      refine c_seq ?_
      refine c_seq ?_
      refine c_region ?_
      refine l_val (v := .pointer (some ⟨b24, 8, none⟩)) rfl rfl rfl (e_fieldPt (b := b24) (o := 0) rfl tw19) ?_
      refine l_val (v := .bool true) rfl rfl rfl (e_load1 tw20 (v := .bool true) rfl (k_pt 0 (cs := #[Ix (id), Ix (c1.v0), Ix (c1.v1), .int .i64 (0), .int .i64 (0), Ix (c3.v0), Ix (c3.v1), .bool (decide ((c3.v2) = (1 : Int))), .bool true]) (vs := [.bool true]) rfl rfl)) ?_
      refine l_val (v := .bool false) rfl rfl rfl (e_not (a := true) rfl) ?_
      refine l_nil ?_
      refine f_then ?_
      refine c_no rfl ?_
      refine c_skip ?_
      refine f_then ?_
      refine c_seq ?_
      refine c_region ?_
      refine l_val (v := .agg #[Ix (id), Ix (c1.v0), Ix (c1.v1), .int .i64 (0), .int .i64 (0), Ix (c3.v0), Ix (c3.v1), .bool (decide ((c3.v2) = (1 : Int))), .bool true]) rfl rfl rfl (e_load tw10 (cs := [Ix (id), Ix (c1.v0), Ix (c1.v1), .int .i64 (0), .int .i64 (0), Ix (c3.v0), Ix (c3.v1), .bool (decide ((c3.v2) = (1 : Int))), .bool true]) rfl (k_pt 0 (cs := #[Ix (id), Ix (c1.v0), Ix (c1.v1), .int .i64 (0), .int .i64 (0), Ix (c3.v0), Ix (c3.v1), .bool (decide ((c3.v2) = (1 : Int))), .bool true]) (vs := [Ix (id), Ix (c1.v0), Ix (c1.v1), .int .i64 (0), .int .i64 (0), Ix (c3.v0), Ix (c3.v1), .bool (decide ((c3.v2) = (1 : Int))), .bool true]) rfl rfl) rfl) ?_
      refine l_mu rfl rfl (m_store 1 tw10 (b := b2) (o := 0) (T := 52) (cs := #[.int .i64 (0), .int .i64 (0), .int .i64 (0), .int .i64 (0), .int .i64 (0), .int .i64 (0), .int .i64 (0), .bool false, .bool false]) (cs' := #[Ix (id), Ix (c1.v0), Ix (c1.v1), .int .i64 (0), .int .i64 (0), Ix (c3.v0), Ix (c3.v1), .bool (decide ((c3.v2) = (1 : Int))), .bool true]) (v := .agg #[Ix (id), Ix (c1.v0), Ix (c1.v1), .int .i64 (0), .int .i64 (0), Ix (c3.v0), Ix (c3.v1), .bool (decide ((c3.v2) = (1 : Int))), .bool true]) rfl rfl rfl rfl rfl rfl rfl) ?_
      refine l_val (v := .bool true) rfl rfl rfl (e_assign) ?_
      refine l_nil ?_
      refine f_then ?_
      refine c_ret ?_
      refine retG (l := [.cell 2 52, .tmp 3]) (m := [.agg #[Ix (id), Ix (c1.v0), Ix (c1.v1), .int .i64 (0), .int .i64 (0), Ix (c3.v0), Ix (c3.v1), .bool (decide ((c3.v2) = (1 : Int))), .bool true], .bool true]) (v := .tuple #[.agg #[Ix (id), Ix (c1.v0), Ix (c1.v1), .int .i64 (0), .int .i64 (0), Ix (c3.v0), Ix (c3.v1), .bool (decide ((c3.v2) = (1 : Int))), .bool true], .bool true]) Tryz.results69 ⟨rd_cell tw10 (cs := [Ix (id), Ix (c1.v0), Ix (c1.v1), .int .i64 (0), .int .i64 (0), Ix (c3.v0), Ix (c3.v1), .bool (decide ((c3.v2) = (1 : Int))), .bool true]) rfl (k_pt 1 (cs := #[Ix (id), Ix (c1.v0), Ix (c1.v1), .int .i64 (0), .int .i64 (0), Ix (c3.v0), Ix (c3.v1), .bool (decide ((c3.v2) = (1 : Int))), .bool true]) (vs := [Ix (id), Ix (c1.v0), Ix (c1.v1), .int .i64 (0), .int .i64 (0), Ix (c3.v0), Ix (c3.v1), .bool (decide ((c3.v2) = (1 : Int))), .bool true]) rfl rfl) rfl, rd_tmp (v := .bool true) rfl, trivial⟩ rfl ?_
      intro w hw
      exact ⟨body_ret_some (body_fix hf1 hf3 (.inl hfx)), st_mask [false, false, false, false, false] rfl hw⟩
     ·
      refine c_any [⟨[], [], [0], [23], fun f => f 23 = .pointer (some ⟨b1, 1, none⟩)⟩, ⟨[0], [0], [], [24], fun f => f 24 = .slice va (cm.length) (vc)⟩, ⟨[], [], [1], [25], fun f => f 25 = Nx (i1)⟩, ⟨[0, 1, 2], [1, 2], [], [26], fun f => f 26 = .pointer (some ((ba va).add (i1 * 5)))⟩, ⟨[0, 1, 2, 3], [3], [], [27], fun f => f 27 = .pointer (some (((ba va).add (i1 * 5) : Addr).add 1))⟩, ⟨[0, 1, 2, 3, 4], [4], [], [28], fun f => f 28 = .agg #[Ix (c1.v0), Ix (c1.v1), Ix (c1.v2), Ix (c1.v3)]⟩, ⟨[], [], [0], [29], fun f => f 29 = .pointer (some ⟨b1, 1, none⟩)⟩, ⟨[6], [6], [], [30], fun f => f 30 = .slice va (cm.length) (vc)⟩, ⟨[], [], [2], [31], fun f => f 31 = Nx (i3)⟩, ⟨[6, 7, 8], [7, 8], [], [32], fun f => f 32 = .pointer (some ((ba va).add (i3 * 5)))⟩, ⟨[6, 7, 8, 9], [9], [], [33], fun f => f 33 = .pointer (some (((ba va).add (i3 * 5) : Addr).add 1))⟩, ⟨[6, 7, 8, 9, 10], [10], [], [34], fun f => f 34 = .agg #[Ix (c3.v0), Ix (c3.v1), Ix (c3.v2), Ix (c3.v3)]⟩, ⟨[], [], [], [7], fun f => f 7 = .pointer (some ⟨(blk (f 7)), 0, none⟩)⟩, ⟨[], [], [], [8], fun f => f 8 = .pointer (some ⟨(blk (f 8)), 0, none⟩)⟩, ⟨[0, 1, 2, 3, 4, 5, 12, 13], [12, 5], [], [], fun _ => True⟩, ⟨[0, 1, 2, 3, 4, 5, 6, 7, 8, 9, 10, 11, 12, 13, 14], [13, 11], [], [], fun _ => True⟩] [⟨none, none, [], [], fun _ => pt b2 (.cells #[.int .i64 (0), .int .i64 (0), .int .i64 (0), .int .i64 (0), .int .i64 (0), .int .i64 (0), .int .i64 (0), .bool false, .bool false] 52)⟩, ⟨none, none, [1, 7], [], fun _ => pt b1 (.cells #[Ix (id), .slice va (cm.length) (vc)] 59)⟩, ⟨(some 12), (some 14), [14], [7], fun f => pt (blk (f 7)) (.cells #[.int .i64 (0), .int .i64 (0), .int .i64 (0), .int .i64 (0)] 118)⟩, ⟨(some 13), (some 15), [15], [8], fun f => pt (blk (f 8)) (.cells #[.int .i64 (0), .int .i64 (0), .int .i64 (0), .int .i64 (0)] 118)⟩, ⟨(some 14), none, [], [7], fun f => pt (blk (f 7)) (.cells #[Ix (c1.v0), Ix (c1.v1), Ix (c1.v2), Ix (c1.v3)] 118)⟩, ⟨(some 15), none, [], [8], fun f => pt (blk (f 8)) (.cells #[Ix (c3.v0), Ix (c3.v1), Ix (c3.v2), Ix (c3.v3)] 118)⟩] [(1, .pointer (some ⟨b1, 0, none⟩)), (4, Nx (i1)), (5, Nx (i3)), (2, .pointer (some ⟨b2, 0, none⟩)), (6, Nx (i2))] [0, 3, 4] [] (by kernel_rfl) (by kernel_rfl) (by kernel_rfl) (by kernel_rfl) rfl ⟨rfl, rfl, rfl, rfl, rfl, trivial⟩ ⟨?_, ?_, ?_, ?_, ?_, ?_, ?_, ?_, ?_, ?_, ?_, ?_, ?_, ?_, ?_, ?_, trivial⟩ ?_
      ·rintro f M - ⟨i0, -⟩
       have hs1 : f 1 = .pointer (some ⟨b1, 0, none⟩) := i0
       refine ob_start (L' := M) (by rfl) (up_cons rfl hs1) ?_
       refine l_val (v := .pointer (some ⟨b1, 1, none⟩)) rfl rfl rfl (e_fieldPt (b := b1) (o := 0) rfl tw0) ?_
       refine l_nil ?_
       exact f_owes_d (up_cons rfl hs1) rfl (List.Perm.refl _)
      ·rintro f M ⟨k0, -⟩ -
       have hs23 : f 23 = .pointer (some ⟨b1, 1, none⟩) := k0
       refine ob_start (L' := pt b1 (.cells #[Ix (id), .slice va (cm.length) (vc)] 59) :: M) (by rfl) (up_cons rfl hs23) ?_
       refine l_val (v := .slice va (cm.length) (vc)) rfl rfl rfl (e_load1 tw1 (v := .slice va (cm.length) (vc)) rfl (k_pt 0 (cs := #[Ix (id), .slice va (cm.length) (vc)]) (vs := [.slice va (cm.length) (vc)]) rfl rfl)) ?_
       refine l_nil ?_
       exact f_owes_d (up_cons rfl hs23) rfl (perm_front 0 rfl)
      ·rintro f M - ⟨i0, -⟩
       have hs4 : f 4 = Nx (i1) := i0
       refine ob_start (L' := M) (by rfl) (up_cons rfl hs4) ?_
       refine l_val (v := Nx (i1)) rfl rfl rfl (e_move) ?_
       refine l_nil ?_
       exact f_owes_d (up_cons rfl hs4) rfl (List.Perm.refl _)
      ·rintro f M ⟨k0, k1, -⟩ -
       have hs24 : f 24 = .slice va (cm.length) (vc) := k0
       have hs25 : f 25 = Nx (i1) := k1
       refine ob_start (L' := M) (by rfl) (up_cons (up_cons rfl hs24) hs25) ?_
       refine l_val (v := .pointer (some ((ba va).add (i1 * 5)))) rfl rfl rfl (e_indexAddr (k := i1) (len := cm.length) (cap := vc) (a := va) rfl rfl tw3 (by omega) ha1) ?_
       refine l_nil ?_
       exact f_owes_d (up_cons (up_cons rfl hs24) hs25) rfl (List.Perm.refl _)
      ·rintro f M ⟨k0, -⟩ -
       have hs26 : f 26 = .pointer (some ((ba va).add (i1 * 5))) := k0
       refine ob_start (L' := M) (by rfl) (up_cons rfl hs26) ?_
       refine l_val (v := .pointer (some (((ba va).add (i1 * 5) : Addr).add 1))) rfl rfl rfl (e_fieldAddr (a := (ba va).add (i1 * 5)) rfl tw11) ?_
       refine l_nil ?_
       exact f_owes_d (up_cons rfl hs26) rfl (List.Perm.refl _)
      ·rintro f M ⟨k0, -⟩ -
       have hs27 : f 27 = .pointer (some (((ba va).add (i1 * 5) : Addr).add 1)) := k0
       refine ob_start (L' := M) (by rfl) (up_cons rfl hs27) ?_
       refine l_val (v := .agg #[Ix (c1.v0), Ix (c1.v1), Ix (c1.v2), Ix (c1.v3)]) rfl rfl rfl (e_load tw12 (cs := [Ix (c1.v0), Ix (c1.v1), Ix (c1.v2), Ix (c1.v3)]) rfl (Knows.imp (Knows.of_base (Cs.mono _ _) hc1) (fun _ h => Cs.sub (vs := [Ix (c1.v0), Ix (c1.v1), Ix (c1.v2), Ix (c1.v3)]) 1 h rfl)) rfl) ?_
       refine l_nil ?_
       exact f_owes_d (up_cons rfl hs27) rfl (List.Perm.refl _)
      ·rintro f M - ⟨i0, -⟩
       have hs1 : f 1 = .pointer (some ⟨b1, 0, none⟩) := i0
       refine ob_start (L' := M) (by rfl) (up_cons rfl hs1) ?_
       refine l_val (v := .pointer (some ⟨b1, 1, none⟩)) rfl rfl rfl (e_fieldPt (b := b1) (o := 0) rfl tw0) ?_
       refine l_nil ?_
       exact f_owes_d (up_cons rfl hs1) rfl (List.Perm.refl _)
      ·rintro f M ⟨k0, -⟩ -
       have hs29 : f 29 = .pointer (some ⟨b1, 1, none⟩) := k0
       refine ob_start (L' := pt b1 (.cells #[Ix (id), .slice va (cm.length) (vc)] 59) :: M) (by rfl) (up_cons rfl hs29) ?_
       refine l_val (v := .slice va (cm.length) (vc)) rfl rfl rfl (e_load1 tw1 (v := .slice va (cm.length) (vc)) rfl (k_pt 0 (cs := #[Ix (id), .slice va (cm.length) (vc)]) (vs := [.slice va (cm.length) (vc)]) rfl rfl)) ?_
       refine l_nil ?_
       exact f_owes_d (up_cons rfl hs29) rfl (perm_front 0 rfl)
      ·rintro f M - ⟨i0, -⟩
       have hs5 : f 5 = Nx (i3) := i0
       refine ob_start (L' := M) (by rfl) (up_cons rfl hs5) ?_
       refine l_val (v := Nx (i3)) rfl rfl rfl (e_move) ?_
       refine l_nil ?_
       exact f_owes_d (up_cons rfl hs5) rfl (List.Perm.refl _)
      ·rintro f M ⟨k0, k1, -⟩ -
       have hs30 : f 30 = .slice va (cm.length) (vc) := k0
       have hs31 : f 31 = Nx (i3) := k1
       refine ob_start (L' := M) (by rfl) (up_cons (up_cons rfl hs30) hs31) ?_
       refine l_val (v := .pointer (some ((ba va).add (i3 * 5)))) rfl rfl rfl (e_indexAddr (k := i3) (len := cm.length) (cap := vc) (a := va) rfl rfl tw3 (by omega) ha3) ?_
       refine l_nil ?_
       exact f_owes_d (up_cons (up_cons rfl hs30) hs31) rfl (List.Perm.refl _)
      ·rintro f M ⟨k0, -⟩ -
       have hs32 : f 32 = .pointer (some ((ba va).add (i3 * 5))) := k0
       refine ob_start (L' := M) (by rfl) (up_cons rfl hs32) ?_
       refine l_val (v := .pointer (some (((ba va).add (i3 * 5) : Addr).add 1))) rfl rfl rfl (e_fieldAddr (a := (ba va).add (i3 * 5)) rfl tw11) ?_
       refine l_nil ?_
       exact f_owes_d (up_cons rfl hs32) rfl (List.Perm.refl _)
      ·rintro f M ⟨k0, -⟩ -
       have hs33 : f 33 = .pointer (some (((ba va).add (i3 * 5) : Addr).add 1)) := k0
       refine ob_start (L' := M) (by rfl) (up_cons rfl hs33) ?_
       refine l_val (v := .agg #[Ix (c3.v0), Ix (c3.v1), Ix (c3.v2), Ix (c3.v3)]) rfl rfl rfl (e_load tw12 (cs := [Ix (c3.v0), Ix (c3.v1), Ix (c3.v2), Ix (c3.v3)]) rfl (Knows.imp (Knows.of_base (Cs.mono _ _) hc3) (fun _ h => Cs.sub (vs := [Ix (c3.v0), Ix (c3.v1), Ix (c3.v2), Ix (c3.v3)]) 1 h rfl)) rfl) ?_
       refine l_nil ?_
       exact f_owes_d (up_cons rfl hs33) rfl (List.Perm.refl _)
      ·rintro f M - -
       refine ob_start (L' := M) (by rfl) rfl ?_
       refine l_mv rfl rfl rfl (m_alloc tw13) ?_
       rintro _ _ ⟨b26, rfl, rfl⟩
       refine l_nil ?_
       exact f_owes_d rfl rfl (perm_front 0 rfl)
      ·rintro f M - -
       refine ob_start (L' := M) (by rfl) rfl ?_
       refine l_mv rfl rfl rfl (m_alloc tw13) ?_
       rintro _ _ ⟨b28, rfl, rfl⟩
       refine l_nil ?_
       exact f_owes_d rfl rfl (perm_front 0 rfl)
      ·rintro f M ⟨k0, k1, -⟩ -
       have hs7 : f 7 = .pointer (some ⟨(blk (f 7)), 0, none⟩) := k0
       have hs28 : f 28 = .agg #[Ix (c1.v0), Ix (c1.v1), Ix (c1.v2), Ix (c1.v3)] := k1
       refine ob_start (L' := pt (blk (f 7)) (.cells #[.int .i64 (0), .int .i64 (0), .int .i64 (0), .int .i64 (0)] 118) :: M) (by rfl) (up_cons (up_cons rfl hs7) hs28) ?_
       refine l_mu rfl rfl (m_store 0 tw12 (b := (blk (f 7))) (o := 0) (T := 118) (cs := #[.int .i64 (0), .int .i64 (0), .int .i64 (0), .int .i64 (0)]) (cs' := #[Ix (c1.v0), Ix (c1.v1), Ix (c1.v2), Ix (c1.v3)]) (v := .agg #[Ix (c1.v0), Ix (c1.v1), Ix (c1.v2), Ix (c1.v3)]) rfl rfl rfl rfl rfl rfl rfl) ?_
       refine l_nil ?_
       exact f_owes_n (up_cons (up_cons rfl hs7) hs28) trivial (perm_front 0 rfl)
      ·rintro f M ⟨k0, k1, -⟩ -
       have hs8 : f 8 = .pointer (some ⟨(blk (f 8)), 0, none⟩) := k0
       have hs34 : f 34 = .agg #[Ix (c3.v0), Ix (c3.v1), Ix (c3.v2), Ix (c3.v3)] := k1
       refine ob_start (L' := pt (blk (f 8)) (.cells #[.int .i64 (0), .int .i64 (0), .int .i64 (0), .int .i64 (0)] 118) :: M) (by rfl) (up_cons (up_cons rfl hs8) hs34) ?_
       refine l_mu rfl rfl (m_store 0 tw12 (b := (blk (f 8))) (o := 0) (T := 118) (cs := #[.int .i64 (0), .int .i64 (0), .int .i64 (0), .int .i64 (0)]) (cs' := #[Ix (c3.v0), Ix (c3.v1), Ix (c3.v2), Ix (c3.v3)]) (v := .agg #[Ix (c3.v0), Ix (c3.v1), Ix (c3.v2), Ix (c3.v3)]) rfl rfl rfl rfl rfl rfl rfl) ?_
       refine l_nil ?_
       exact f_owes_n (up_cons (up_cons rfl hs8) hs34) trivial (perm_front 0 rfl)
      rintro fa29 ⟨-, -, -, -, -, -, -, -, -, -, -, -, k12, k13, -, -, -⟩ ⟨j0, j1, j2, -⟩
      refine f_re (L' := [pt b2 (.cells #[.int .i64 (0), .int .i64 (0), .int .i64 (0), .int .i64 (0), .int .i64 (0), .int .i64 (0), .int .i64 (0), .bool false, .bool false] 52), pt b1 (.cells #[Ix (id), .slice va (cm.length) (vc)] 59), pt (blk (fa29 7)) (.cells #[Ix (c1.v0), Ix (c1.v1), Ix (c1.v2), Ix (c1.v3)] 118), pt (blk (fa29 8)) (.cells #[Ix (c3.v0), Ix (c3.v1), Ix (c3.v2), Ix (c3.v3)] 118)]) (by rfl) ?_
      refine f_rebase (d := 1) (v := .pointer (some ⟨b1, 0, none⟩)) j0 ?_
      refine f_rebase (d := 2) (v := .pointer (some ⟨b2, 0, none⟩)) j1 ?_
      refine f_rebase (d := 6) (v := Nx (i2)) j2 ?_
      refine f_rebase (d := 7) (v := .pointer (some ⟨(blk (fa29 7)), 0, none⟩)) k12 ?_
      refine f_rebase (d := 8) (v := .pointer (some ⟨(blk (fa29 8)), 0, none⟩)) k13 ?_
      refine f_then ?_
      refine c_seq ?_
      refine c_region ?_
      refine l_val (v := .pointer (some ⟨b1, 0, none⟩)) rfl rfl rfl (e_fieldPt (b := b1) (o := 0) rfl tw14) ?_
      refine l_val (v := Ix (id)) rfl rfl rfl (e_load1 tw15 (v := Ix (id)) rfl (k_pt 1 (cs := #[Ix (id), .slice va (cm.length) (vc)]) (vs := [Ix (id)]) rfl rfl)) ?_
      refine l_val (v := .pointer (some ⟨(blk (fa29 7)), 0, none⟩)) rfl rfl rfl (e_indexArrK (b := (blk (fa29 7))) (o := 0) (k := 0) rfl rfl tw16 (by decide)) ?_
      refine l_val (v := Ix (c1.v0)) rfl rfl rfl (e_load1 tw15 (v := Ix (c1.v0)) rfl (k_pt 2 (cs := #[Ix (c1.v0), Ix (c1.v1), Ix (c1.v2), Ix (c1.v3)]) (vs := [Ix (c1.v0)]) rfl rfl)) ?_
      refine l_val (v := .pointer (some ⟨(blk (fa29 7)), 1, none⟩)) rfl rfl rfl (e_indexArrK (b := (blk (fa29 7))) (o := 0) (k := 1) rfl rfl tw16 (by decide)) ?_
      refine l_val (v := Ix (c1.v1)) rfl rfl rfl (e_load1 tw15 (v := Ix (c1.v1)) rfl (k_pt 2 (cs := #[Ix (c1.v0), Ix (c1.v1), Ix (c1.v2), Ix (c1.v3)]) (vs := [Ix (c1.v1)]) rfl rfl)) ?_
      refine l_val (v := .agg #[Ix (c1.v0), Ix (c1.v1)]) rfl rfl rfl (e_build tw18 tw17 (vs := [(0, Ix (c1.v0)), (1, Ix (c1.v1))]) (cells := #[Ix (c1.v0), Ix (c1.v1)]) rfl rfl) ?_
      refine l_val (v := .pointer (some ⟨(blk (fa29 8)), 0, none⟩)) rfl rfl rfl (e_indexArrK (b := (blk (fa29 8))) (o := 0) (k := 0) rfl rfl tw16 (by decide)) ?_
      refine l_val (v := Ix (c3.v0)) rfl rfl rfl (e_load1 tw15 (v := Ix (c3.v0)) rfl (k_pt 3 (cs := #[Ix (c3.v0), Ix (c3.v1), Ix (c3.v2), Ix (c3.v3)]) (vs := [Ix (c3.v0)]) rfl rfl)) ?_
      refine l_val (v := .pointer (some ⟨(blk (fa29 8)), 1, none⟩)) rfl rfl rfl (e_indexArrK (b := (blk (fa29 8))) (o := 0) (k := 1) rfl rfl tw16 (by decide)) ?_
      refine l_val (v := Ix (c3.v1)) rfl rfl rfl (e_load1 tw15 (v := Ix (c3.v1)) rfl (k_pt 3 (cs := #[Ix (c3.v0), Ix (c3.v1), Ix (c3.v2), Ix (c3.v3)]) (vs := [Ix (c3.v1)]) rfl rfl)) ?_
      refine l_val (v := .pointer (some ⟨(blk (fa29 8)), 2, none⟩)) rfl rfl rfl (e_indexArrK (b := (blk (fa29 8))) (o := 0) (k := 2) rfl rfl tw16 (by decide)) ?_
      refine l_val (v := Ix (c3.v2)) rfl rfl rfl (e_load1 tw15 (v := Ix (c3.v2)) rfl (k_pt 3 (cs := #[Ix (c3.v0), Ix (c3.v1), Ix (c3.v2), Ix (c3.v3)]) (vs := [Ix (c3.v2)]) rfl rfl)) ?_
      refine l_val (v := .bool (decide ((c3.v2) = (1 : Int)))) rfl rfl rfl (e_eql (a := (c3.v2)) (b := (1 : Int)) rfl rfl) ?_
      refine l_val (v := .pointer (some ⟨(blk (fa29 8)), 3, none⟩)) rfl rfl rfl (e_indexArrK (b := (blk (fa29 8))) (o := 0) (k := 3) rfl rfl tw16 (by decide)) ?_
      refine l_val (v := Ix (c3.v3)) rfl rfl rfl (e_load1 tw15 (v := Ix (c3.v3)) rfl (k_pt 3 (cs := #[Ix (c3.v0), Ix (c3.v1), Ix (c3.v2), Ix (c3.v3)]) (vs := [Ix (c3.v3)]) rfl rfl)) ?_
      refine l_val (v := .bool (decide ((c3.v3) = (1 : Int)))) rfl rfl rfl (e_eql (a := (c3.v3)) (b := (1 : Int)) rfl rfl) ?_
      refine l_val (v := .bool (decide ((c3.v3) = (1 : Int)))) rfl rfl rfl (e_move) ?_
      refine l_split (s := 52) (p := (c3.v3) = (1 : Int)) rfl (fun h => ?_) (fun h => ?_)
      exact absurd h hfx
      refine g_val (v := Nx (i2)) rfl rfl rfl rfl rfl (e_move) ?_
      refine g_val (v := .bool (decide (((i2 : Nat) : Int) < (0 : Int)))) rfl rfl rfl rfl rfl (e_lss (a := ((i2 : Nat) : Int)) (b := (0 : Int)) rfl rfl) ?_
      refine l_val (v := .bool (decide (((i2 : Nat) : Int) < (0 : Int)))) rfl rfl rfl (e_pick_f rfl) ?_
      refine l_val (v := .agg #[Ix (id), Ix (c1.v0), Ix (c1.v1), .int .i64 (0), .int .i64 (0), Ix (c3.v0), Ix (c3.v1), .bool (decide ((c3.v2) = (1 : Int))), .bool (decide (((i2 : Nat) : Int) < (0 : Int)))]) rfl rfl rfl (e_build tw6 tw9 (vs := [(0, Ix (id)), (1, .agg #[Ix (c1.v0), Ix (c1.v1)]), (3, Ix (c3.v0)), (4, Ix (c3.v1)), (5, .bool (decide ((c3.v2) = (1 : Int)))), (6, .bool (decide (((i2 : Nat) : Int) < (0 : Int))))]) (cells := #[Ix (id), Ix (c1.v0), Ix (c1.v1), .int .i64 (0), .int .i64 (0), Ix (c3.v0), Ix (c3.v1), .bool (decide ((c3.v2) = (1 : Int))), .bool (decide (((i2 : Nat) : Int) < (0 : Int)))]) rfl (by kernel_rfl)) ?_
      refine l_mv rfl rfl rfl (m_alloc tw6) ?_
      rintro _ _ ⟨b30, rfl, rfl⟩
      refine l_mu rfl rfl (m_store 0 tw10 (b := b30) (o := 0) (T := 52) (cs := #[.int .i64 (0), .int .i64 (0), .int .i64 (0), .int .i64 (0), .int .i64 (0), .int .i64 (0), .int .i64 (0), .bool false, .bool false]) (cs' := #[Ix (id), Ix (c1.v0), Ix (c1.v1), .int .i64 (0), .int .i64 (0), Ix (c3.v0), Ix (c3.v1), .bool (decide ((c3.v2) = (1 : Int))), .bool (decide (((i2 : Nat) : Int) < (0 : Int)))]) (v := .agg #[Ix (id), Ix (c1.v0), Ix (c1.v1), .int .i64 (0), .int .i64 (0), Ix (c3.v0), Ix (c3.v1), .bool (decide ((c3.v2) = (1 : Int))), .bool (decide (((i2 : Nat) : Int) < (0 : Int)))]) rfl rfl rfl rfl rfl rfl rfl) ?_
      refine l_nil ?_
      refine f_then ?_
      refine c_seq ?_
      refine c_seq ?_
      refine c_region ?_
      refine l_val (v := .pointer (some ⟨b30, 8, none⟩)) rfl rfl rfl (e_fieldPt (b := b30) (o := 0) rfl tw19) ?_
      refine l_val (v := .bool (decide (((i2 : Nat) : Int) < (0 : Int)))) rfl rfl rfl (e_load1 tw20 (v := .bool (decide (((i2 : Nat) : Int) < (0 : Int)))) rfl (k_pt 0 (cs := #[Ix (id), Ix (c1.v0), Ix (c1.v1), .int .i64 (0), .int .i64 (0), Ix (c3.v0), Ix (c3.v1), .bool (decide ((c3.v2) = (1 : Int))), .bool (decide (((i2 : Nat) : Int) < (0 : Int)))]) (vs := [.bool (decide (((i2 : Nat) : Int) < (0 : Int)))]) rfl rfl)) ?_
      refine l_val (v := .bool (decide (¬ (((i2 : Nat) : Int) < (0 : Int))))) rfl rfl rfl (e_not_p (p := ((i2 : Nat) : Int) < (0 : Int)) rfl) ?_
      refine l_nil ?_
      refine f_then ?_
      refine c_if (¬ (((i2 : Nat) : Int) < (0 : Int))) rfl (fun hc31 => ?_) (fun hc31 => ?_)
      ·
       refine c_any [⟨[], [], [0], [60], fun f => f 60 = .pointer (some ⟨b1, 1, none⟩)⟩, ⟨[0], [0], [], [61], fun f => f 61 = .slice va (cm.length) (vc)⟩, ⟨[], [], [1], [62], fun f => f 62 = Nx (i2)⟩, ⟨[0, 1, 2], [1, 2], [], [63], fun f => f 63 = .pointer (some ((ba va).add (i2 * 5)))⟩, ⟨[0, 1, 2, 3], [3], [], [64], fun f => f 64 = .pointer (some (((ba va).add (i2 * 5) : Addr).add 1))⟩, ⟨[0, 1, 2, 3, 4], [4], [], [65], fun f => f 65 = .pointer (some ((((ba va).add (i2 * 5) : Addr).add 1 : Addr).add (0 * 1)))⟩, ⟨[0, 1, 2, 3, 4, 5], [5], [], [66], fun f => f 66 = Ix (c2.v0)⟩, ⟨[], [], [0], [67], fun f => f 67 = .pointer (some ⟨b1, 1, none⟩)⟩, ⟨[7], [7], [], [68], fun f => f 68 = .slice va (cm.length) (vc)⟩, ⟨[], [], [1], [69], fun f => f 69 = Nx (i2)⟩, ⟨[7, 8, 9], [8, 9], [], [70], fun f => f 70 = .pointer (some ((ba va).add (i2 * 5)))⟩, ⟨[7, 8, 9, 10], [10], [], [71], fun f => f 71 = .pointer (some (((ba va).add (i2 * 5) : Addr).add 1))⟩, ⟨[7, 8, 9, 10, 11], [11], [], [72], fun f => f 72 = .pointer (some ((((ba va).add (i2 * 5) : Addr).add 1 : Addr).add (1 * 1)))⟩, ⟨[7, 8, 9, 10, 11, 12], [12], [], [73], fun f => f 73 = Ix (c2.v1)⟩, ⟨[0, 1, 2, 3, 4, 5, 6, 7, 8, 9, 10, 11, 12, 13], [6, 13], [], [74], fun f => f 74 = .agg #[Ix (c2.v0), Ix (c2.v1)]⟩, ⟨[0, 1, 2, 3, 4, 5, 6, 7, 8, 9, 10, 11, 12, 13, 14], [], [2], [75], fun f => f 75 = .pointer (some ⟨b30, 3, none⟩)⟩, ⟨[0, 1, 2, 3, 4, 5, 6, 7, 8, 9, 10, 11, 12, 13, 14, 15], [15, 14], [], [], fun _ => True⟩] [⟨none, (some 16), [16], [], fun _ => pt b30 (.cells #[Ix (id), Ix (c1.v0), Ix (c1.v1), .int .i64 (0), .int .i64 (0), Ix (c3.v0), Ix (c3.v1), .bool (decide ((c3.v2) = (1 : Int))), .bool (decide (((i2 : Nat) : Int) < (0 : Int)))] 52)⟩, ⟨none, none, [], [], fun _ => pt b2 (.cells #[.int .i64 (0), .int .i64 (0), .int .i64 (0), .int .i64 (0), .int .i64 (0), .int .i64 (0), .int .i64 (0), .bool false, .bool false] 52)⟩, ⟨none, none, [1, 8], [], fun _ => pt b1 (.cells #[Ix (id), .slice va (cm.length) (vc)] 59)⟩, ⟨none, none, [], [], fun _ => pt (blk (fa29 7)) (.cells #[Ix (c1.v0), Ix (c1.v1), Ix (c1.v2), Ix (c1.v3)] 118)⟩, ⟨none, none, [], [], fun _ => pt (blk (fa29 8)) (.cells #[Ix (c3.v0), Ix (c3.v1), Ix (c3.v2), Ix (c3.v3)] 118)⟩, ⟨(some 16), none, [], [], fun _ => pt b30 (.cells #[Ix (id), Ix (c1.v0), Ix (c1.v1), Ix (c2.v0), Ix (c2.v1), Ix (c3.v0), Ix (c3.v1), .bool (decide ((c3.v2) = (1 : Int))), .bool (decide (((i2 : Nat) : Int) < (0 : Int)))] 52)⟩] [(1, .pointer (some ⟨b1, 0, none⟩)), (6, Nx (i2)), (9, .pointer (some ⟨b30, 0, none⟩)), (2, .pointer (some ⟨b2, 0, none⟩))] [3, 2] [] (by kernel_rfl) (by kernel_rfl) (by kernel_rfl) (by kernel_rfl) rfl ⟨rfl, rfl, rfl, rfl, trivial⟩ ⟨?_, ?_, ?_, ?_, ?_, ?_, ?_, ?_, ?_, ?_, ?_, ?_, ?_, ?_, ?_, ?_, ?_, trivial⟩ ?_
       ·rintro f M - ⟨i0, -⟩
        have hs1 : f 1 = .pointer (some ⟨b1, 0, none⟩) := i0
        refine ob_start (L' := M) (by rfl) (up_cons rfl hs1) ?_
        refine l_val (v := .pointer (some ⟨b1, 1, none⟩)) rfl rfl rfl (e_fieldPt (b := b1) (o := 0) rfl tw0) ?_
        refine l_nil ?_
        exact f_owes_d (up_cons rfl hs1) rfl (List.Perm.refl _)
       ·rintro f M ⟨k0, -⟩ -
        have hs60 : f 60 = .pointer (some ⟨b1, 1, none⟩) := k0
        refine ob_start (L' := pt b1 (.cells #[Ix (id), .slice va (cm.length) (vc)] 59) :: M) (by rfl) (up_cons rfl hs60) ?_
        refine l_val (v := .slice va (cm.length) (vc)) rfl rfl rfl (e_load1 tw1 (v := .slice va (cm.length) (vc)) rfl (k_pt 0 (cs := #[Ix (id), .slice va (cm.length) (vc)]) (vs := [.slice va (cm.length) (vc)]) rfl rfl)) ?_
        refine l_nil ?_
        exact f_owes_d (up_cons rfl hs60) rfl (perm_front 0 rfl)
       ·rintro f M - ⟨i0, -⟩
        have hs6 : f 6 = Nx (i2) := i0
        refine ob_start (L' := M) (by rfl) (up_cons rfl hs6) ?_
        refine l_val (v := Nx (i2)) rfl rfl rfl (e_move) ?_
        refine l_nil ?_
        exact f_owes_d (up_cons rfl hs6) rfl (List.Perm.refl _)
       ·rintro f M ⟨k0, k1, -⟩ -
        have hs61 : f 61 = .slice va (cm.length) (vc) := k0
        have hs62 : f 62 = Nx (i2) := k1
        refine ob_start (L' := M) (by rfl) (up_cons (up_cons rfl hs61) hs62) ?_
        refine l_val (v := .pointer (some ((ba va).add (i2 * 5)))) rfl rfl rfl (e_indexAddr (k := i2) (len := cm.length) (cap := vc) (a := va) rfl rfl tw3 (by omega) ha2) ?_
        refine l_nil ?_
        exact f_owes_d (up_cons (up_cons rfl hs61) hs62) rfl (List.Perm.refl _)
       ·rintro f M ⟨k0, -⟩ -
        have hs63 : f 63 = .pointer (some ((ba va).add (i2 * 5))) := k0
        refine ob_start (L' := M) (by rfl) (up_cons rfl hs63) ?_
        refine l_val (v := .pointer (some (((ba va).add (i2 * 5) : Addr).add 1))) rfl rfl rfl (e_fieldAddr (a := (ba va).add (i2 * 5)) rfl tw11) ?_
        refine l_nil ?_
        exact f_owes_d (up_cons rfl hs63) rfl (List.Perm.refl _)
       ·rintro f M ⟨k0, -⟩ -
        have hs64 : f 64 = .pointer (some (((ba va).add (i2 * 5) : Addr).add 1)) := k0
        refine ob_start (L' := M) (by rfl) (up_cons rfl hs64) ?_
        refine l_val (v := .pointer (some ((((ba va).add (i2 * 5) : Addr).add 1 : Addr).add (0 * 1)))) rfl rfl rfl (e_indexArr (a := ((ba va).add (i2 * 5) : Addr).add 1) (k := 0) rfl rfl tw16 (by decide)) ?_
        refine l_nil ?_
        exact f_owes_d (up_cons rfl hs64) rfl (List.Perm.refl _)
       ·rintro f M ⟨k0, -⟩ -
        have hs65 : f 65 = .pointer (some ((((ba va).add (i2 * 5) : Addr).add 1 : Addr).add (0 * 1))) := k0
        refine ob_start (L' := M) (by rfl) (up_cons rfl hs65) ?_
        refine l_val (v := Ix (c2.v0)) rfl rfl rfl (e_load1 tw15 (v := Ix (c2.v0)) rfl (Knows.imp (Knows.imp (Knows.of_base (Cs.mono _ _) hc2) (fun _ h => Cs.sub (vs := [Ix (c2.v0), Ix (c2.v1), Ix (c2.v2), Ix (c2.v3)]) 1 h rfl)) (fun _ h => Cs.sub (vs := [Ix (c2.v0)]) (0 * 1) h rfl))) ?_
        refine l_nil ?_
        exact f_owes_d (up_cons rfl hs65) rfl (List.Perm.refl _)
       ·rintro f M - ⟨i0, -⟩
        have hs1 : f 1 = .pointer (some ⟨b1, 0, none⟩) := i0
        refine ob_start (L' := M) (by rfl) (up_cons rfl hs1) ?_
        refine l_val (v := .pointer (some ⟨b1, 1, none⟩)) rfl rfl rfl (e_fieldPt (b := b1) (o := 0) rfl tw0) ?_
        refine l_nil ?_
        exact f_owes_d (up_cons rfl hs1) rfl (List.Perm.refl _)
       ·rintro f M ⟨k0, -⟩ -
        have hs67 : f 67 = .pointer (some ⟨b1, 1, none⟩) := k0
        refine ob_start (L' := pt b1 (.cells #[Ix (id), .slice va (cm.length) (vc)] 59) :: M) (by rfl) (up_cons rfl hs67) ?_
        refine l_val (v := .slice va (cm.length) (vc)) rfl rfl rfl (e_load1 tw1 (v := .slice va (cm.length) (vc)) rfl (k_pt 0 (cs := #[Ix (id), .slice va (cm.length) (vc)]) (vs := [.slice va (cm.length) (vc)]) rfl rfl)) ?_
        refine l_nil ?_
        exact f_owes_d (up_cons rfl hs67) rfl (perm_front 0 rfl)
       ·rintro f M - ⟨i0, -⟩
        have hs6 : f 6 = Nx (i2) := i0
        refine ob_start (L' := M) (by rfl) (up_cons rfl hs6) ?_
        refine l_val (v := Nx (i2)) rfl rfl rfl (e_move) ?_
        refine l_nil ?_
        exact f_owes_d (up_cons rfl hs6) rfl (List.Perm.refl _)
       ·rintro f M ⟨k0, k1, -⟩ -
        have hs68 : f 68 = .slice va (cm.length) (vc) := k0
        have hs69 : f 69 = Nx (i2) := k1
        refine ob_start (L' := M) (by rfl) (up_cons (up_cons rfl hs68) hs69) ?_
        refine l_val (v := .pointer (some ((ba va).add (i2 * 5)))) rfl rfl rfl (e_indexAddr (k := i2) (len := cm.length) (cap := vc) (a := va) rfl rfl tw3 (by omega) ha2) ?_
        refine l_nil ?_
        exact f_owes_d (up_cons (up_cons rfl hs68) hs69) rfl (List.Perm.refl _)
       ·rintro f M ⟨k0, -⟩ -
        have hs70 : f 70 = .pointer (some ((ba va).add (i2 * 5))) := k0
        refine ob_start (L' := M) (by rfl) (up_cons rfl hs70) ?_
        refine l_val (v := .pointer (some (((ba va).add (i2 * 5) : Addr).add 1))) rfl rfl rfl (e_fieldAddr (a := (ba va).add (i2 * 5)) rfl tw11) ?_
        refine l_nil ?_
        exact f_owes_d (up_cons rfl hs70) rfl (List.Perm.refl _)
       ·rintro f M ⟨k0, -⟩ -
        have hs71 : f 71 = .pointer (some (((ba va).add (i2 * 5) : Addr).add 1)) := k0
        refine ob_start (L' := M) (by rfl) (up_cons rfl hs71) ?_
        refine l_val (v := .pointer (some ((((ba va).add (i2 * 5) : Addr).add 1 : Addr).add (1 * 1)))) rfl rfl rfl (e_indexArr (a := ((ba va).add (i2 * 5) : Addr).add 1) (k := 1) rfl rfl tw16 (by decide)) ?_
        refine l_nil ?_
        exact f_owes_d (up_cons rfl hs71) rfl (List.Perm.refl _)
       ·rintro f M ⟨k0, -⟩ -
        have hs72 : f 72 = .pointer (some ((((ba va).add (i2 * 5) : Addr).add 1 : Addr).add (1 * 1))) := k0
        refine ob_start (L' := M) (by rfl) (up_cons rfl hs72) ?_
        refine l_val (v := Ix (c2.v1)) rfl rfl rfl (e_load1 tw15 (v := Ix (c2.v1)) rfl (Knows.imp (Knows.imp (Knows.of_base (Cs.mono _ _) hc2) (fun _ h => Cs.sub (vs := [Ix (c2.v0), Ix (c2.v1), Ix (c2.v2), Ix (c2.v3)]) 1 h rfl)) (fun _ h => Cs.sub (vs := [Ix (c2.v1)]) (1 * 1) h rfl))) ?_
        refine l_nil ?_
        exact f_owes_d (up_cons rfl hs72) rfl (List.Perm.refl _)
       ·rintro f M ⟨k0, k1, -⟩ -
        have hs66 : f 66 = Ix (c2.v0) := k0
        have hs73 : f 73 = Ix (c2.v1) := k1
        refine ob_start (L' := M) (by rfl) (up_cons (up_cons rfl hs66) hs73) ?_
        refine l_val (v := .agg #[Ix (c2.v0), Ix (c2.v1)]) rfl rfl rfl (e_build tw18 tw17 (vs := [(0, Ix (c2.v0)), (1, Ix (c2.v1))]) (cells := #[Ix (c2.v0), Ix (c2.v1)]) rfl rfl) ?_
        refine l_nil ?_
        exact f_owes_d (up_cons (up_cons rfl hs66) hs73) rfl (List.Perm.refl _)
       ·rintro f M - ⟨i0, -⟩
        have hs9 : f 9 = .pointer (some ⟨b30, 0, none⟩) := i0
        refine ob_start (L' := M) (by rfl) (up_cons rfl hs9) ?_
        refine l_val (v := .pointer (some ⟨b30, 3, none⟩)) rfl rfl rfl (e_fieldPt (b := b30) (o := 0) rfl tw21) ?_
        refine l_nil ?_
        exact f_owes_d (up_cons rfl hs9) rfl (List.Perm.refl _)
       ·rintro f M ⟨k0, k1, -⟩ -
        have hs75 : f 75 = .pointer (some ⟨b30, 3, none⟩) := k0
        have hs74 : f 74 = .agg #[Ix (c2.v0), Ix (c2.v1)] := k1
        refine ob_start (L' := pt b30 (.cells #[Ix (id), Ix (c1.v0), Ix (c1.v1), .int .i64 (0), .int .i64 (0), Ix (c3.v0), Ix (c3.v1), .bool (decide ((c3.v2) = (1 : Int))), .bool (decide (((i2 : Nat) : Int) < (0 : Int)))] 52) :: M) (by rfl) (up_cons (up_cons rfl hs75) hs74) ?_
        refine l_mu rfl rfl (m_store 0 tw22 (b := b30) (o := 3) (T := 52) (cs := #[Ix (id), Ix (c1.v0), Ix (c1.v1), .int .i64 (0), .int .i64 (0), Ix (c3.v0), Ix (c3.v1), .bool (decide ((c3.v2) = (1 : Int))), .bool (decide (((i2 : Nat) : Int) < (0 : Int)))]) (cs' := #[Ix (id), Ix (c1.v0), Ix (c1.v1), Ix (c2.v0), Ix (c2.v1), Ix (c3.v0), Ix (c3.v1), .bool (decide ((c3.v2) = (1 : Int))), .bool (decide (((i2 : Nat) : Int) < (0 : Int)))]) (v := .agg #[Ix (c2.v0), Ix (c2.v1)]) rfl rfl rfl rfl rfl rfl rfl) ?_
        refine l_nil ?_
        exact f_owes_n (up_cons (up_cons rfl hs75) hs74) trivial (perm_front 0 rfl)
       rintro fa32 ⟨-, -, -, -, -, -, -, -, -, -, -, -, -, -, -, -, -, -⟩ ⟨j0, j1, -⟩
       refine f_re (L' := [pt b2 (.cells #[.int .i64 (0), .int .i64 (0), .int .i64 (0), .int .i64 (0), .int .i64 (0), .int .i64 (0), .int .i64 (0), .bool false, .bool false] 52), pt b1 (.cells #[Ix (id), .slice va (cm.length) (vc)] 59), pt (blk (fa29 7)) (.cells #[Ix (c1.v0), Ix (c1.v1), Ix (c1.v2), Ix (c1.v3)] 118), pt (blk (fa29 8)) (.cells #[Ix (c3.v0), Ix (c3.v1), Ix (c3.v2), Ix (c3.v3)] 118), pt b30 (.cells #[Ix (id), Ix (c1.v0), Ix (c1.v1), Ix (c2.v0), Ix (c2.v1), Ix (c3.v0), Ix (c3.v1), .bool (decide ((c3.v2) = (1 : Int))), .bool (decide (((i2 : Nat) : Int) < (0 : Int)))] 52)]) (by rfl) ?_
       refine f_rebase (d := 2) (v := .pointer (some ⟨b2, 0, none⟩)) j0 ?_
       refine f_rebase (d := 9) (v := .pointer (some ⟨b30, 0, none⟩)) j1 ?_
       refine f_then ?_
       refine c_seq ?_
       refine c_region ?_
       refine l_val (v := .agg #[Ix (id), Ix (c1.v0), Ix (c1.v1), Ix (c2.v0), Ix (c2.v1), Ix (c3.v0), Ix (c3.v1), .bool (decide ((c3.v2) = (1 : Int))), .bool (decide (((i2 : Nat) : Int) < (0 : Int)))]) rfl rfl rfl (e_load tw10 (cs := [Ix (id), Ix (c1.v0), Ix (c1.v1), Ix (c2.v0), Ix (c2.v1), Ix (c3.v0), Ix (c3.v1), .bool (decide ((c3.v2) = (1 : Int))), .bool (decide (((i2 : Nat) : Int) < (0 : Int)))]) rfl (k_pt 4 (cs := #[Ix (id), Ix (c1.v0), Ix (c1.v1), Ix (c2.v0), Ix (c2.v1), Ix (c3.v0), Ix (c3.v1), .bool (decide ((c3.v2) = (1 : Int))), .bool (decide (((i2 : Nat) : Int) < (0 : Int)))]) (vs := [Ix (id), Ix (c1.v0), Ix (c1.v1), Ix (c2.v0), Ix (c2.v1), Ix (c3.v0), Ix (c3.v1), .bool (decide ((c3.v2) = (1 : Int))), .bool (decide (((i2 : Nat) : Int) < (0 : Int)))]) rfl rfl) rfl) ?_
       refine l_mu rfl rfl (m_store 0 tw10 (b := b2) (o := 0) (T := 52) (cs := #[.int .i64 (0), .int .i64 (0), .int .i64 (0), .int .i64 (0), .int .i64 (0), .int .i64 (0), .int .i64 (0), .bool false, .bool false]) (cs' := #[Ix (id), Ix (c1.v0), Ix (c1.v1), Ix (c2.v0), Ix (c2.v1), Ix (c3.v0), Ix (c3.v1), .bool (decide ((c3.v2) = (1 : Int))), .bool (decide (((i2 : Nat) : Int) < (0 : Int)))]) (v := .agg #[Ix (id), Ix (c1.v0), Ix (c1.v1), Ix (c2.v0), Ix (c2.v1), Ix (c3.v0), Ix (c3.v1), .bool (decide ((c3.v2) = (1 : Int))), .bool (decide (((i2 : Nat) : Int) < (0 : Int)))]) rfl rfl rfl rfl rfl rfl rfl) ?_
       refine l_val (v := .bool true) rfl rfl rfl (e_assign) ?_
       refine l_nil ?_
       refine f_then ?_
       refine c_ret ?_
       refine retG (l := [.cell 2 52, .tmp 3]) (m := [.agg #[Ix (id), Ix (c1.v0), Ix (c1.v1), Ix (c2.v0), Ix (c2.v1), Ix (c3.v0), Ix (c3.v1), .bool (decide ((c3.v2) = (1 : Int))), .bool (decide (((i2 : Nat) : Int) < (0 : Int)))], .bool true]) (v := .tuple #[.agg #[Ix (id), Ix (c1.v0), Ix (c1.v1), Ix (c2.v0), Ix (c2.v1), Ix (c3.v0), Ix (c3.v1), .bool (decide ((c3.v2) = (1 : Int))), .bool (decide (((i2 : Nat) : Int) < (0 : Int)))], .bool true]) Tryz.results69 ⟨rd_cell tw10 (cs := [Ix (id), Ix (c1.v0), Ix (c1.v1), Ix (c2.v0), Ix (c2.v1), Ix (c3.v0), Ix (c3.v1), .bool (decide ((c3.v2) = (1 : Int))), .bool (decide (((i2 : Nat) : Int) < (0 : Int)))]) rfl (k_pt 0 (cs := #[Ix (id), Ix (c1.v0), Ix (c1.v1), Ix (c2.v0), Ix (c2.v1), Ix (c3.v0), Ix (c3.v1), .bool (decide ((c3.v2) = (1 : Int))), .bool (decide (((i2 : Nat) : Int) < (0 : Int)))]) (vs := [Ix (id), Ix (c1.v0), Ix (c1.v1), Ix (c2.v0), Ix (c2.v1), Ix (c3.v0), Ix (c3.v1), .bool (decide ((c3.v2) = (1 : Int))), .bool (decide (((i2 : Nat) : Int) < (0 : Int)))]) rfl rfl) rfl, rd_tmp (v := .bool true) rfl, trivial⟩ rfl ?_
       intro w hw
       exact ⟨body_ret_some (body_mov hf1 hf3 hfx hf2), st_mask [false, false, false, false, false] rfl hw⟩
      ·
       exact absurd (by omega) hc31
set_option maxHeartbeats 4000000 in
theorem rbodies_ok (β : Base) (w : World) (hw : St β [] w) (tick : Int) (v rv : Value) (gx gy : Int) (es : List KEnt) (rs : List KR) (hs : Sl EntR β.heap v es) (hr : Sl KRR β.heap rv rs) (hn : es.length ≤ 65536) (hrn : rs.length ≤ 65536) : Calls Tryz.prog 20 #[.agg #[Ix tick, v], rv, .agg #[Ix gx, Ix gy]] w fun r w' => ∃ p c p2 c2, r = .returned (.agg #[.slice p (bodiesOf es).length c, .slice p2 (ropesOf (bodiesOf es) rs).length c2, Ix gx, Ix gy]) ∧ St β [rowF BodyF 52 p c (bodiesOf es), rowF RopeF 78 p2 c2 (ropesOf (bodiesOf es) rs)] w' := by
 obtain ⟨va, vc, rfl, vl, vm, ve⟩ := hs.get
 obtain ⟨rva, rvc, rfl, rvl, rvm, rve⟩ := hr.get
 refine enter (n := 73) Tryz.func20 rfl Tryz.ntmps20 rfl ?_ hw
 refine c_seq ?_
 refine c_region ?_
 refine l_mv rfl rfl rfl (m_box (v := .agg #[Ix (tick), .slice va (es.length) (vc)]) rfl) ?_
 rintro _ _ ⟨b1, rfl, rfl⟩
 refine l_mv rfl rfl rfl (m_box (v := .agg #[Ix (gx), Ix (gy)]) rfl) ?_
 rintro _ _ ⟨b2, rfl, rfl⟩
 refine l_mv rfl rfl rfl (m_alloc tw23) ?_
 rintro _ _ ⟨b3, rfl, rfl⟩
 refine l_nil ?_
 refine f_then ?_
 refine c_seq ?_
 refine c_region ?_
 refine l_val (v := .agg #[Ix (gx), Ix (gy)]) rfl rfl rfl (e_load tw22 (cs := [Ix (gx), Ix (gy)]) rfl (k_pt 1 (cs := #[Ix (gx), Ix (gy)]) (vs := [Ix (gx), Ix (gy)]) rfl rfl) rfl) ?_
 refine l_val (v := .agg #[.slice none 0 0, .slice none 0 0, Ix (gx), Ix (gy)]) rfl rfl rfl (e_build tw23 tw24 (vs := [(2, .agg #[Ix (gx), Ix (gy)])]) (cells := #[.slice none 0 0, .slice none 0 0, Ix (gx), Ix (gy)]) rfl rfl) ?_
 refine l_mv rfl rfl rfl (m_alloc tw23) ?_
 rintro _ _ ⟨b4, rfl, rfl⟩
 refine l_mu rfl rfl (m_store 0 tw25 (b := b4) (o := 0) (T := 30) (cs := #[.slice none 0 0, .slice none 0 0, .int .i64 (0), .int .i64 (0)]) (cs' := #[.slice none 0 0, .slice none 0 0, Ix (gx), Ix (gy)]) (v := .agg #[.slice none 0 0, .slice none 0 0, Ix (gx), Ix (gy)]) rfl rfl rfl rfl rfl rfl rfl) ?_
 refine l_nil ?_
 refine f_then ?_
 refine c_seq ?_
 refine c_seq ?_
 refine c_emp (r := rowF BodyF 52 none 0 []) (row_nil _ _ _) ?_
 refine c_region ?_
 refine l_val (v := .int .i64 (0)) rfl rfl rfl (e_assign) ?_
 refine l_nil ?_
 refine f_then ?_
 refine c_block ?_
 refine c_mask [true, true, true, true, true] rfl ?_
 refine c_loop (fun (x_ : Nat × List KB × Option Addr × Nat) (f : Fm) (L : List Res) => match x_ with | (k, out, p, c) => (f 1 = .slice rva (rs.length) (rvc) ∧ f 3 = .pointer (some ⟨b1, 0, none⟩) ∧ f 6 = .pointer (some ⟨b3, 0, none⟩) ∧ f 7 = .pointer (some ⟨b4, 0, none⟩) ∧ f 8 = Nx (k)) ∧ L = [rowF BodyF 52 p c out, pt b4 (.cells #[.slice p (out.length) c, .slice none 0 0, Ix (gx), Ix (gy)] 30), pt b3 (.cells #[.slice none 0 0, .slice none 0 0, .int .i64 (0), .int .i64 (0)] 30), pt b2 (.cells #[Ix (gx), Ix (gy)] 28), pt b1 (.cells #[Ix (tick), .slice va (es.length) (vc)] 24)] ∧ (k ≤ es.length ∧ out = bodiesOf (es.take k))) (fun (x_ : Nat × List KB × Option Addr × Nat) => match x_ with | (k, out, p, c) => es.length - k) (0, [], none, 0) ?_ ?_
 ·exact ⟨⟨rfl, rfl, rfl, rfl, rfl⟩, rfl, ⟨by omega, rfl⟩⟩
 rintro ⟨k, out, p, c⟩ f0 L0 ⟨⟨hs1, hs3, hs6, hs7, hs8⟩, hL, ⟨hk, ho⟩⟩
 subst L0
 refine rebase (d := 1) hs1 ?_
 refine rebase (d := 3) hs3 ?_
 refine rebase (d := 6) hs6 ?_
 refine rebase (d := 7) hs7 ?_
 refine rebase (d := 8) hs8 ?_
 clear hs1 hs3 hs6 hs7 hs8
 have hol := bodies_le es k
 rw [← ho] at hol
 refine c_seq ?_
 refine c_seq ?_
 refine c_region ?_
 refine l_val (v := Nx (k)) rfl rfl rfl (e_move) ?_
 refine l_val (v := .pointer (some ⟨b1, 1, none⟩)) rfl rfl rfl (e_fieldPt (b := b1) (o := 0) rfl tw26) ?_
 refine l_val (v := .slice va (es.length) (vc)) rfl rfl rfl (e_load1 tw27 (v := .slice va (es.length) (vc)) rfl (k_pt 4 (cs := #[Ix (tick), .slice va (es.length) (vc)]) (vs := [.slice va (es.length) (vc)]) rfl rfl)) ?_
 refine l_val (v := Nx (es.length)) rfl rfl rfl (e_len (a := va) (n := es.length) (c := vc) rfl tw28) ?_
 refine l_val (v := .bool (decide (((k : Nat) : Int) < ((es.length : Nat) : Int)))) rfl rfl rfl (e_lss (a := ((k : Nat) : Int)) (b := ((es.length : Nat) : Int)) rfl rfl) ?_
 refine l_nil ?_
 refine f_then ?_
 refine c_if (((k : Nat) : Int) < ((es.length : Nat) : Int)) rfl (fun hc5 => ?_) (fun hc5 => ?_)
 ·
  refine c_skip ?_
  refine f_then ?_
  refine c_seq ?_
  refine c_block ?_
  refine c_seq ?_
  refine c_region ?_
  refine l_val (v := .pointer (some ⟨b1, 1, none⟩)) rfl rfl rfl (e_fieldPt (b := b1) (o := 0) rfl tw26) ?_
  refine l_val (v := .slice va (es.length) (vc)) rfl rfl rfl (e_load1 tw27 (v := .slice va (es.length) (vc)) rfl (k_pt 4 (cs := #[Ix (tick), .slice va (es.length) (vc)]) (vs := [.slice va (es.length) (vc)]) rfl rfl)) ?_
  refine l_val (v := Nx (k)) rfl rfl rfl (e_move) ?_
  obtain ⟨x6, hx7⟩ : ∃ x_, (es)[k]? = some x_ := ⟨_, List.getElem?_eq_getElem (by omega)⟩
  obtain ⟨ha8, cs9, hc10, hr11⟩ := ve _ _ hx7
  obtain ⟨v12, rfl, hv13⟩ := hr11
  obtain ⟨v12a, v12c, rfl, v12l, v12m, v12e⟩ := hv13.get
  refine l_val (v := .pointer (some ((ba va).add (k * 2)))) rfl rfl rfl (e_indexAddr (k := k) (len := es.length) (cap := vc) (a := va) rfl rfl tw29 (by omega) ha8) ?_
  refine l_val (v := .agg #[Ix (x6.id), .slice v12a (x6.comps.length) (v12c)]) rfl rfl rfl (e_load tw7 (cs := [Ix (x6.id), .slice v12a (x6.comps.length) (v12c)]) rfl (Knows.of_base (Cs.mono _ _) hc10) rfl) ?_
  refine l_call rfl rfl rfl (cl_value (fst := []) (cap := []) (vs := [.agg #[Ix (x6.id), .slice v12a (x6.comps.length) (v12c)]]) (all := [.agg #[Ix (x6.id), .slice v12a (x6.comps.length) (v12c)]]) tw30 rfl rfl rfl) ?_
  intro w hw
  obtain ⟨β1, sb, kn, hw1, back⟩ := St.frame_all hw
  refine (rbody_ok β1 w hw1 (x6.id) v12a v12c x6.comps (Sl.mono _ _ _ _ _ sb (⟨⟨_, _, rfl, v12l, v12m, v12e⟩⟩ : Sl CompR _ _ x6.comps))).mono ?_
  rintro e w' ⟨rfl, hw'⟩
  refine ⟨_, rfl, _, back _ _ hw', ?_⟩
  clear hw hw1 hw' back kn sb
  refine l_val (v := .tuple #[.agg (bC (bodyD (x6.id) x6.comps)), .bool ((bodyOf (x6.id) x6.comps).isSome)]) rfl rfl rfl (e_move) ?_
  refine l_val (v := .agg (bC (bodyD (x6.id) x6.comps))) rfl rfl rfl (e_extract (vs := #[.agg (bC (bodyD (x6.id) x6.comps)), .bool ((bodyOf (x6.id) x6.comps).isSome)]) rfl rfl) ?_
  refine l_val (v := .bool ((bodyOf (x6.id) x6.comps).isSome)) rfl rfl rfl (e_extract (vs := #[.agg (bC (bodyD (x6.id) x6.comps)), .bool ((bodyOf (x6.id) x6.comps).isSome)]) rfl rfl) ?_
  refine l_mv rfl rfl rfl (m_alloc tw6) ?_
  rintro _ _ ⟨b14, rfl, rfl⟩
  refine l_mu rfl rfl (m_store 0 tw10 (b := b14) (o := 0) (T := 52) (cs := #[.int .i64 (0), .int .i64 (0), .int .i64 (0), .int .i64 (0), .int .i64 (0), .int .i64 (0), .int .i64 (0), .bool false, .bool false]) (cs' := (bC (bodyD (x6.id) x6.comps))) (v := .agg (bC (bodyD (x6.id) x6.comps))) rfl rfl rfl rfl rfl rfl rfl) ?_
  refine l_val (v := .bool ((bodyOf (x6.id) x6.comps).isSome)) rfl rfl rfl (e_assign) ?_
  refine l_nil ?_
  refine f_then ?_
  refine c_seq ?_
  refine c_region ?_
  refine l_val (v := .bool ((bodyOf (x6.id) x6.comps).isSome)) rfl rfl rfl (e_move) ?_
  refine l_nil ?_
  refine f_then ?_
  refine c_ifb ((bodyOf (x6.id) x6.comps).isSome) rfl (fun hc15 => ?_) (fun hc15 => ?_)
  ·
   refine c_region ?_
   refine l_val (v := .pointer (some ⟨b4, 0, none⟩)) rfl rfl rfl (e_fieldPt (b := b4) (o := 0) rfl tw31) ?_
   refine l_val (v := .slice p (out.length) c) rfl rfl rfl (e_load1 tw32 (v := .slice p (out.length) c) rfl (k_pt 2 (cs := #[.slice p (out.length) c, .slice none 0 0, Ix (gx), Ix (gy)]) (vs := [.slice p (out.length) c]) rfl rfl)) ?_
   refine l_val (v := .agg (bC (bodyD (x6.id) x6.comps))) rfl rfl rfl (e_load tw10 (cs := (bodyE (bodyD (x6.id) x6.comps))) rfl (k_pt 0 (cs := (bC (bodyD (x6.id) x6.comps))) (vs := (bodyE (bodyD (x6.id) x6.comps))) rfl rfl) rfl) ?_
   refine l_mv rfl rfl rfl (m_slices tw33 tw6 (vs := [(0, .agg (bC (bodyD (x6.id) x6.comps)))]) (cells := (bC (bodyD (x6.id) x6.comps))) rfl rfl rfl (by kernel_rfl)) ?_
   rintro _ _ ⟨b16, rfl, rfl⟩
   refine l_mv rfl rfl rfl (m_appendFlN (F := BodyF) 2 tw33 tw34 (p := p) (m := out.length) (xs := out) (ys := [(bodyD (x6.id) x6.comps)]) (ao := (some ⟨b16, 0, none⟩)) (k := 1) (c := 1) rfl rfl rfl rfl rfl (k_ptFl (z := (bodyD (x6.id) x6.comps)) 0 rfl rfl) (by first | omega | simp only [List.length_nil, List.length_cons, List.length_append, List.length_set]; omega) (by first | omega | simp only [List.length_nil, List.length_cons, List.length_append, List.length_set]; omega)) ?_
   rintro _ _ ⟨rp17, rc18, rfl, rfl⟩
   refine l_val (v := .pointer (some ⟨b4, 0, none⟩)) rfl rfl rfl (e_fieldPt (b := b4) (o := 0) rfl tw31) ?_
   refine l_mu rfl rfl (m_store 3 tw32 (b := b4) (o := 0) (T := 30) (cs := #[.slice p (out.length) c, .slice none 0 0, Ix (gx), Ix (gy)]) (cs' := #[.slice rp17 ((out ++ [(bodyD (x6.id) x6.comps)]).length) rc18, .slice none 0 0, Ix (gx), Ix (gy)]) (v := .slice rp17 ((out ++ [(bodyD (x6.id) x6.comps)]).length) rc18) rfl rfl rfl rfl rfl rfl rfl) ?_
   refine l_nil ?_
   refine f_block ?_
   refine f_then ?_
   refine c_region ?_
   refine l_val (v := Nx (k)) rfl rfl rfl (e_move) ?_
   refine l_val (v := Nx (k + 1)) rfl rfl rfl (e_add (a := ((k : Nat) : Int)) (b := (1 : Int)) rfl rfl (i64n (by omega) (by omega))) ?_
   refine l_val (v := Nx (k + 1)) rfl rfl rfl (e_assign) ?_
   refine l_nil ?_
   refine f_mask (L' := [rowF BodyF 52 rp17 rc18 (out ++ [(bodyD (x6.id) x6.comps)]), pt b4 (.cells #[.slice rp17 ((out ++ [(bodyD (x6.id) x6.comps)]).length) rc18, .slice none 0 0, Ix (gx), Ix (gy)] 30), pt b3 (.cells #[.slice none 0 0, .slice none 0 0, .int .i64 (0), .int .i64 (0)] 30), pt b2 (.cells #[Ix (gx), Ix (gy)] 28), pt b1 (.cells #[Ix (tick), .slice va (es.length) (vc)] 24)]) [false, false, true, true, true, true, true] rfl ?_
   exact f_cut ⟨(k + 1, (out ++ [(bodyD (x6.id) x6.comps)]), rp17, rc18), ⟨⟨rfl, rfl, rfl, rfl, rfl⟩, rfl, ⟨by omega, by rw [bodies_yes hx7 hc15, ← ho]⟩⟩, (show es.length - (k + 1) < es.length - k from by omega)⟩
  ·
   refine c_skip ?_
   refine f_block ?_
   refine f_then ?_
   refine c_region ?_
   refine l_val (v := Nx (k)) rfl rfl rfl (e_move) ?_
   refine l_val (v := Nx (k + 1)) rfl rfl rfl (e_add (a := ((k : Nat) : Int)) (b := (1 : Int)) rfl rfl (i64n (by omega) (by omega))) ?_
   refine l_val (v := Nx (k + 1)) rfl rfl rfl (e_assign) ?_
   refine l_nil ?_
   refine f_mask (L' := [rowF BodyF 52 p c out, pt b4 (.cells #[.slice p (out.length) c, .slice none 0 0, Ix (gx), Ix (gy)] 30), pt b3 (.cells #[.slice none 0 0, .slice none 0 0, .int .i64 (0), .int .i64 (0)] 30), pt b2 (.cells #[Ix (gx), Ix (gy)] 28), pt b1 (.cells #[Ix (tick), .slice va (es.length) (vc)] 24)]) [false, true, true, true, true, true] rfl ?_
   exact f_cut ⟨(k + 1, out, p, c), ⟨⟨rfl, rfl, rfl, rfl, rfl⟩, rfl, ⟨by omega, by rw [bodies_no hx7 hc15, ← ho]⟩⟩, (show es.length - (k + 1) < es.length - k from by omega)⟩
 ·
  refine c_exit ?_
  refine f_then_exit ?_
  refine f_then_exit ?_
  refine f_exit ?_
  refine f_then ?_
  refine c_seq ?_
  refine c_seq ?_
  have hoe : out = bodiesOf es := by rw [ho, List.take_of_length_le (by omega)]
  refine c_emp (r := rowF RopeF 78 none 0 []) (row_nil _ _ _) ?_
  refine c_region ?_
  refine l_val (v := .int .i64 (0)) rfl rfl rfl (e_assign) ?_
  refine l_nil ?_
  refine f_then ?_
  refine c_block ?_
  refine c_mask [true, true, true, true, true, true] rfl ?_
  refine c_loop (fun (x_ : Nat × List KR × Option Addr × Nat) (f : Fm) (L : List Res) => match x_ with | (k2, R, rp, rc) => (f 1 = .slice rva (rs.length) (rvc) ∧ f 6 = .pointer (some ⟨b3, 0, none⟩) ∧ f 7 = .pointer (some ⟨b4, 0, none⟩) ∧ f 11 = Nx (k2)) ∧ L = [rowF RopeF 78 rp rc R, rowF BodyF 52 p c out, pt b4 (.cells #[.slice p (out.length) c, .slice rp (R.length) rc, Ix (gx), Ix (gy)] 30), pt b3 (.cells #[.slice none 0 0, .slice none 0 0, .int .i64 (0), .int .i64 (0)] 30), pt b2 (.cells #[Ix (gx), Ix (gy)] 28), pt b1 (.cells #[Ix (tick), .slice va (es.length) (vc)] 24)] ∧ (k2 ≤ rs.length ∧ R = ropesOf out (rs.take k2))) (fun (x_ : Nat × List KR × Option Addr × Nat) => match x_ with | (k2, R, rp, rc) => rs.length - k2) (0, [], none, 0) ?_ ?_
  ·exact ⟨⟨rfl, rfl, rfl, rfl⟩, rfl, ⟨by omega, rfl⟩⟩
  rintro ⟨k2, R, rp, rc⟩ f0 L0 ⟨⟨hs1, hs6, hs7, hs11⟩, hL, ⟨hk2, hR⟩⟩
  subst L0
  refine rebase (d := 1) hs1 ?_
  refine rebase (d := 6) hs6 ?_
  refine rebase (d := 7) hs7 ?_
  refine rebase (d := 11) hs11 ?_
  clear hs1 hs6 hs7 hs11
  have hRl := ropes_le out rs k2
  rw [← hR] at hRl
  refine c_seq ?_
  refine c_seq ?_
  refine c_region ?_
  refine l_val (v := Nx (k2)) rfl rfl rfl (e_move) ?_
  refine l_val (v := .slice rva (rs.length) (rvc)) rfl rfl rfl (e_move) ?_
  refine l_val (v := Nx (rs.length)) rfl rfl rfl (e_len (a := rva) (n := rs.length) (c := rvc) rfl tw35) ?_
  refine l_val (v := .bool (decide (((k2 : Nat) : Int) < ((rs.length : Nat) : Int)))) rfl rfl rfl (e_lss (a := ((k2 : Nat) : Int)) (b := ((rs.length : Nat) : Int)) rfl rfl) ?_
  refine l_nil ?_
  refine f_then ?_
  refine c_if (((k2 : Nat) : Int) < ((rs.length : Nat) : Int)) rfl (fun hc19 => ?_) (fun hc19 => ?_)
  ·
   refine c_skip ?_
   refine f_then ?_
   refine c_seq ?_
   refine c_block ?_
   refine c_seq ?_
   refine c_quiet (by kernel_rfl) (by kernel_rfl) ?_
   refine q_val (v := .pointer (some ⟨b4, 0, none⟩)) rfl rfl rfl (e_fieldPt (b := b4) (o := 0) rfl tw31) ?_
   refine q_val (v := .slice p (out.length) c) rfl rfl rfl (e_load1 tw32 (v := .slice p (out.length) c) rfl (k_pt 2 (cs := #[.slice p (out.length) c, .slice rp (R.length) rc, Ix (gx), Ix (gy)]) (vs := [.slice p (out.length) c]) rfl rfl)) ?_
   refine q_val (v := .slice rva (rs.length) (rvc)) rfl rfl rfl (e_move) ?_
   refine q_val (v := Nx (k2)) rfl rfl rfl (e_move) ?_
   obtain ⟨x20, hx21⟩ : ∃ x_, (rs)[k2]? = some x_ := ⟨_, List.getElem?_eq_getElem (by omega)⟩
   obtain ⟨ha22, cs23, hc24, rfl⟩ := rve _ _ hx21
   refine q_val (v := .pointer (some ((ba rva).add (k2 * 3)))) rfl rfl rfl (e_indexAddr (k := k2) (len := rs.length) (cap := rvc) (a := rva) rfl rfl tw36 (by omega) ha22) ?_
   refine q_val (v := .pointer (some (((ba rva).add (k2 * 3) : Addr).add 0))) rfl rfl rfl (e_fieldAddr (a := (ba rva).add (k2 * 3)) rfl tw37) ?_
   refine q_val (v := Ix (x20.a)) rfl rfl rfl (e_load1 tw15 (v := Ix (x20.a)) rfl (Knows.imp (Knows.of_base (Cs.mono _ _) hc24) (fun _ h => Cs.sub (vs := [Ix (x20.a)]) 0 h rfl))) ?_
   refine q_call (v := Ix ((idxI (fun y : KB => decide (y.id = (x20.a))) out))) rfl rfl rfl (cl_value (fst := []) (cap := []) (vs := [.slice p (out.length) c, Ix (x20.a)]) (all := [.slice p (out.length) c, Ix (x20.a)]) tw38 rfl rfl rfl) (fun w hw => ?_) ?_
   ·obtain ⟨β1, sb, kn, hw1, back⟩ := St.frame_all hw
    exact (find7_ok β1 w hw1 _ out (kn _ (k_flN 1 (F := BodyF) (m := out.length) (xs := out) rfl rfl)) (x20.a)).mono (fun e w' ⟨he, hw'⟩ => ⟨he, st_mask [true, true, true, true, true, true] rfl (back _ _ hw')⟩)
   refine q_val (v := .bool (decide ((0 : Int) ≤ ((idxI (fun y : KB => decide (y.id = (x20.a))) out))))) rfl rfl rfl (e_geq (a := ((idxI (fun y : KB => decide (y.id = (x20.a))) out))) (b := (0 : Int)) rfl rfl) ?_
   refine q_val (v := .bool (decide ((0 : Int) ≤ ((idxI (fun y : KB => decide (y.id = (x20.a))) out))))) rfl rfl rfl (e_move) ?_
   refine q_split (s := 52) (p := (0 : Int) ≤ ((idxI (fun y : KB => decide (y.id = (x20.a))) out))) rfl (fun hg26 => ?_) (fun hg26 => ?_)
   ·
    refine qg_val (v := .pointer (some ⟨b4, 0, none⟩)) rfl rfl rfl rfl rfl (e_fieldPt (b := b4) (o := 0) rfl tw31) ?_
    refine qg_val (v := .slice p (out.length) c) rfl rfl rfl rfl rfl (e_load1 tw32 (v := .slice p (out.length) c) rfl (k_pt 2 (cs := #[.slice p (out.length) c, .slice rp (R.length) rc, Ix (gx), Ix (gy)]) (vs := [.slice p (out.length) c]) rfl rfl)) ?_
    refine qg_val (v := .slice rva (rs.length) (rvc)) rfl rfl rfl rfl rfl (e_move) ?_
    refine qg_val (v := Nx (k2)) rfl rfl rfl rfl rfl (e_move) ?_
    refine qg_val (v := .pointer (some ((ba rva).add (k2 * 3)))) rfl rfl rfl rfl rfl (e_indexAddr (k := k2) (len := rs.length) (cap := rvc) (a := rva) rfl rfl tw36 (by omega) ha22) ?_
    refine qg_val (v := .pointer (some (((ba rva).add (k2 * 3) : Addr).add 1))) rfl rfl rfl rfl rfl (e_fieldAddr (a := (ba rva).add (k2 * 3)) rfl tw39) ?_
    refine qg_val (v := Ix (x20.b)) rfl rfl rfl rfl rfl (e_load1 tw15 (v := Ix (x20.b)) rfl (Knows.imp (Knows.of_base (Cs.mono _ _) hc24) (fun _ h => Cs.sub (vs := [Ix (x20.b)]) 1 h rfl))) ?_
    refine qg_call (v := Ix ((idxI (fun y : KB => decide (y.id = (x20.b))) out))) rfl rfl rfl rfl rfl (cl_value (fst := []) (cap := []) (vs := [.slice p (out.length) c, Ix (x20.b)]) (all := [.slice p (out.length) c, Ix (x20.b)]) tw38 rfl rfl rfl) (fun w hw => ?_) ?_
    ·obtain ⟨β1, sb, kn, hw1, back⟩ := St.frame_all hw
     exact (find7_ok β1 w hw1 _ out (kn _ (k_flN 1 (F := BodyF) (m := out.length) (xs := out) rfl rfl)) (x20.b)).mono (fun e w' ⟨he, hw'⟩ => ⟨he, st_mask [true, true, true, true, true, true] rfl (back _ _ hw')⟩)
    refine qg_val (v := .bool (decide ((0 : Int) ≤ ((idxI (fun y : KB => decide (y.id = (x20.b))) out))))) rfl rfl rfl rfl rfl (e_geq (a := ((idxI (fun y : KB => decide (y.id = (x20.b))) out))) (b := (0 : Int)) rfl rfl) ?_
    refine q_val (v := .bool (decide ((0 : Int) ≤ ((idxI (fun y : KB => decide (y.id = (x20.b))) out))))) rfl rfl rfl (e_pick_t rfl) ?_
    refine q_nil ?_
    refine f_then ?_
    refine c_if ((0 : Int) ≤ ((idxI (fun y : KB => decide (y.id = (x20.b))) out))) rfl (fun hc27 => ?_) (fun hc27 => ?_)
    ·
     refine c_any [⟨[], [], [0], [63], fun f => f 63 = .pointer (some ⟨b4, 1, none⟩)⟩, ⟨[0], [0], [], [64], fun f => f 64 = .slice rp (R.length) rc⟩, ⟨[], [], [1], [65], fun f => f 65 = .slice rva (rs.length) (rvc)⟩, ⟨[], [], [2], [66], fun f => f 66 = Nx (k2)⟩, ⟨[2, 3], [2, 3], [], [67], fun f => f 67 = .pointer (some ((ba rva).add (k2 * 3)))⟩, ⟨[2, 3, 4], [4], [], [68], fun f => f 68 = .agg #[Ix (x20.a), Ix (x20.b), Ix (x20.len)]⟩, ⟨[2, 3, 4, 5], [5], [], [69], fun f => f 69 = .slice (some ⟨(blk (f 69)), 0, none⟩) 1 1⟩, ⟨[0, 1, 2, 3, 4, 5, 6], [1, 6], [], [70], fun f => f 70 = .slice (sla (f 70)) ((R ++ [x20]).length) (slc (f 70))⟩, ⟨[0, 1, 2, 3, 4, 5, 6, 7], [], [0], [71], fun f => f 71 = .pointer (some ⟨b4, 1, none⟩)⟩, ⟨[0, 1, 2, 3, 4, 5, 6, 7, 8], [8, 7], [], [], fun _ => True⟩] [⟨none, (some 7), [7], [], fun _ => rowF RopeF 78 rp rc R⟩, ⟨none, none, [], [], fun _ => rowF BodyF 52 p c out⟩, ⟨none, (some 9), [1, 9], [], fun _ => pt b4 (.cells #[.slice p (out.length) c, .slice rp (R.length) rc, Ix (gx), Ix (gy)] 30)⟩, ⟨none, none, [], [], fun _ => pt b3 (.cells #[.slice none 0 0, .slice none 0 0, .int .i64 (0), .int .i64 (0)] 30)⟩, ⟨none, none, [], [], fun _ => pt b2 (.cells #[Ix (gx), Ix (gy)] 28)⟩, ⟨none, none, [], [], fun _ => pt b1 (.cells #[Ix (tick), .slice va (es.length) (vc)] 24)⟩, ⟨(some 6), none, [7], [69], fun f => pt (blk (f 69)) (.cells #[Ix (x20.a), Ix (x20.b), Ix (x20.len)] 78)⟩, ⟨(some 7), none, [], [70], fun f => rowF RopeF 78 (sla (f 70)) (slc (f 70)) (R ++ [x20])⟩, ⟨(some 9), none, [], [70], fun f => pt b4 (.cells #[.slice p (out.length) c, .slice (sla (f 70)) ((R ++ [x20]).length) (slc (f 70)), Ix (gx), Ix (gy)] 30)⟩] [(7, .pointer (some ⟨b4, 0, none⟩)), (1, .slice rva (rs.length) (rvc)), (11, Nx (k2)), (6, .pointer (some ⟨b3, 0, none⟩))] [1, 3, 0, 2] [] (by kernel_rfl) (by kernel_rfl) (by kernel_rfl) (by kernel_rfl) rfl ⟨rfl, rfl, rfl, rfl, trivial⟩ ⟨?_, ?_, ?_, ?_, ?_, ?_, ?_, ?_, ?_, ?_, trivial⟩ ?_
     ·rintro f M - ⟨i0, -⟩
      have hs7 : f 7 = .pointer (some ⟨b4, 0, none⟩) := i0
      refine ob_start (L' := M) (by rfl) (up_cons rfl hs7) ?_
      refine l_val (v := .pointer (some ⟨b4, 1, none⟩)) rfl rfl rfl (e_fieldPt (b := b4) (o := 0) rfl tw40) ?_
      refine l_nil ?_
      exact f_owes_d (up_cons rfl hs7) rfl (List.Perm.refl _)
     ·rintro f M ⟨k0, -⟩ -
      have hs63 : f 63 = .pointer (some ⟨b4, 1, none⟩) := k0
      refine ob_start (L' := pt b4 (.cells #[.slice p (out.length) c, .slice rp (R.length) rc, Ix (gx), Ix (gy)] 30) :: M) (by rfl) (up_cons rfl hs63) ?_
      refine l_val (v := .slice rp (R.length) rc) rfl rfl rfl (e_load1 tw41 (v := .slice rp (R.length) rc) rfl (k_pt 0 (cs := #[.slice p (out.length) c, .slice rp (R.length) rc, Ix (gx), Ix (gy)]) (vs := [.slice rp (R.length) rc]) rfl rfl)) ?_
      refine l_nil ?_
      exact f_owes_d (up_cons rfl hs63) rfl (perm_front 0 rfl)
     ·rintro f M - ⟨i0, -⟩
      have hs1 : f 1 = .slice rva (rs.length) (rvc) := i0
      refine ob_start (L' := M) (by rfl) (up_cons rfl hs1) ?_
      refine l_val (v := .slice rva (rs.length) (rvc)) rfl rfl rfl (e_move) ?_
      refine l_nil ?_
      exact f_owes_d (up_cons rfl hs1) rfl (List.Perm.refl _)
     ·rintro f M - ⟨i0, -⟩
      have hs11 : f 11 = Nx (k2) := i0
      refine ob_start (L' := M) (by rfl) (up_cons rfl hs11) ?_
      refine l_val (v := Nx (k2)) rfl rfl rfl (e_move) ?_
      refine l_nil ?_
      exact f_owes_d (up_cons rfl hs11) rfl (List.Perm.refl _)
     ·rintro f M ⟨k0, k1, -⟩ -
      have hs65 : f 65 = .slice rva (rs.length) (rvc) := k0
      have hs66 : f 66 = Nx (k2) := k1
      refine ob_start (L' := M) (by rfl) (up_cons (up_cons rfl hs65) hs66) ?_
      refine l_val (v := .pointer (some ((ba rva).add (k2 * 3)))) rfl rfl rfl (e_indexAddr (k := k2) (len := rs.length) (cap := rvc) (a := rva) rfl rfl tw36 (by omega) ha22) ?_
      refine l_nil ?_
      exact f_owes_d (up_cons (up_cons rfl hs65) hs66) rfl (List.Perm.refl _)
     ·rintro f M ⟨k0, -⟩ -
      have hs67 : f 67 = .pointer (some ((ba rva).add (k2 * 3))) := k0
      refine ob_start (L' := M) (by rfl) (up_cons rfl hs67) ?_
      refine l_val (v := .agg #[Ix (x20.a), Ix (x20.b), Ix (x20.len)]) rfl rfl rfl (e_load tw42 (cs := [Ix (x20.a), Ix (x20.b), Ix (x20.len)]) rfl (Knows.of_base (Cs.mono _ _) hc24) rfl) ?_
      refine l_nil ?_
      exact f_owes_d (up_cons rfl hs67) rfl (List.Perm.refl _)
     ·rintro f M ⟨k0, -⟩ -
      have hs68 : f 68 = .agg #[Ix (x20.a), Ix (x20.b), Ix (x20.len)] := k0
      refine ob_start (L' := M) (by rfl) (up_cons rfl hs68) ?_
      refine l_mv rfl rfl rfl (m_slices tw36 tw43 (vs := [(0, .agg #[Ix (x20.a), Ix (x20.b), Ix (x20.len)])]) (cells := #[Ix (x20.a), Ix (x20.b), Ix (x20.len)]) rfl rfl rfl rfl) ?_
      rintro _ _ ⟨b29, rfl, rfl⟩
      refine l_nil ?_
      exact f_owes_d (up_cons rfl hs68) rfl (perm_front 0 rfl)
     ·rintro f M ⟨k0, k1, -⟩ -
      have hs64 : f 64 = .slice rp (R.length) rc := k0
      have hs69 : f 69 = .slice (some ⟨(blk (f 69)), 0, none⟩) 1 1 := k1
      refine ob_start (L' := rowF RopeF 78 rp rc R :: pt (blk (f 69)) (.cells #[Ix (x20.a), Ix (x20.b), Ix (x20.len)] 78) :: M) (by rfl) (up_cons (up_cons rfl hs64) hs69) ?_
      refine l_mv rfl rfl rfl (m_appendFlN (F := RopeF) 0 tw36 tw44 (p := rp) (m := R.length) (xs := R) (ys := [x20]) (ao := (some ⟨(blk (f 69)), 0, none⟩)) (k := 1) (c := 1) rfl rfl rfl rfl rfl (k_ptFl (z := x20) 1 rfl rfl) (by first | omega | simp only [List.length_nil, List.length_cons, List.length_append, List.length_set]; omega) (by first | omega | simp only [List.length_nil, List.length_cons, List.length_append, List.length_set]; omega)) ?_
      rintro _ _ ⟨rp32, rc33, rfl, rfl⟩
      refine l_nil ?_
      exact f_owes_d (up_cons (up_cons rfl hs64) hs69) rfl ((perm_front 0 rfl).trans (perm_front 1 rfl))
     ·rintro f M - ⟨i0, -⟩
      have hs7 : f 7 = .pointer (some ⟨b4, 0, none⟩) := i0
      refine ob_start (L' := M) (by rfl) (up_cons rfl hs7) ?_
      refine l_val (v := .pointer (some ⟨b4, 1, none⟩)) rfl rfl rfl (e_fieldPt (b := b4) (o := 0) rfl tw40) ?_
      refine l_nil ?_
      exact f_owes_d (up_cons rfl hs7) rfl (List.Perm.refl _)
     ·rintro f M ⟨k0, k1, -⟩ -
      have hs71 : f 71 = .pointer (some ⟨b4, 1, none⟩) := k0
      have hs70 : f 70 = .slice (sla (f 70)) ((R ++ [x20]).length) (slc (f 70)) := k1
      refine ob_start (L' := pt b4 (.cells #[.slice p (out.length) c, .slice rp (R.length) rc, Ix (gx), Ix (gy)] 30) :: M) (by rfl) (up_cons (up_cons rfl hs71) hs70) ?_
      refine l_mu rfl rfl (m_store 0 tw41 (b := b4) (o := 1) (T := 30) (cs := #[.slice p (out.length) c, .slice rp (R.length) rc, Ix (gx), Ix (gy)]) (cs' := #[.slice p (out.length) c, .slice (sla (f 70)) ((R ++ [x20]).length) (slc (f 70)), Ix (gx), Ix (gy)]) (v := .slice (sla (f 70)) ((R ++ [x20]).length) (slc (f 70))) rfl rfl rfl rfl rfl rfl rfl) ?_
      refine l_nil ?_
      exact f_owes_n (up_cons (up_cons rfl hs71) hs70) trivial (perm_front 0 rfl)
     rintro fa34 ⟨-, -, -, -, -, -, -, -, -, -, -⟩ ⟨j0, j1, j2, j3, -⟩
     refine f_re (L' := [rowF BodyF 52 p c out, pt b3 (.cells #[.slice none 0 0, .slice none 0 0, .int .i64 (0), .int .i64 (0)] 30), pt b2 (.cells #[Ix (gx), Ix (gy)] 28), pt b1 (.cells #[Ix (tick), .slice va (es.length) (vc)] 24), pt (blk (fa34 69)) (.cells #[Ix (x20.a), Ix (x20.b), Ix (x20.len)] 78), rowF RopeF 78 (sla (fa34 70)) (slc (fa34 70)) (R ++ [x20]), pt b4 (.cells #[.slice p (out.length) c, .slice (sla (fa34 70)) ((R ++ [x20]).length) (slc (fa34 70)), Ix (gx), Ix (gy)] 30)]) (by rfl) ?_
     refine f_rebase (d := 1) (v := .slice rva (rs.length) (rvc)) j0 ?_
     refine f_rebase (d := 6) (v := .pointer (some ⟨b3, 0, none⟩)) j1 ?_
     refine f_rebase (d := 7) (v := .pointer (some ⟨b4, 0, none⟩)) j2 ?_
     refine f_rebase (d := 11) (v := Nx (k2)) j3 ?_
     refine f_block ?_
     refine f_then ?_
     refine c_region ?_
     refine l_val (v := Nx (k2)) rfl rfl rfl (e_move) ?_
     refine l_val (v := Nx (k2 + 1)) rfl rfl rfl (e_add (a := ((k2 : Nat) : Int)) (b := (1 : Int)) rfl rfl (i64n (by omega) (by omega))) ?_
     refine l_val (v := Nx (k2 + 1)) rfl rfl rfl (e_assign) ?_
     refine l_nil ?_
     refine f_perm (L' := [rowF RopeF 78 (sla (fa34 70)) (slc (fa34 70)) (R ++ [x20]), rowF BodyF 52 p c out, pt b4 (.cells #[.slice p (out.length) c, .slice (sla (fa34 70)) ((R ++ [x20]).length) (slc (fa34 70)), Ix (gx), Ix (gy)] 30), pt b3 (.cells #[.slice none 0 0, .slice none 0 0, .int .i64 (0), .int .i64 (0)] 30), pt b2 (.cells #[Ix (gx), Ix (gy)] 28), pt b1 (.cells #[Ix (tick), .slice va (es.length) (vc)] 24), pt (blk (fa34 69)) (.cells #[Ix (x20.a), Ix (x20.b), Ix (x20.len)] 78)]) (perm_ix [5, 0, 6, 1, 2, 3, 4] 7 rfl (by kernel_rfl) (by kernel_rfl)) ?_
     refine f_mask (L' := [rowF RopeF 78 (sla (fa34 70)) (slc (fa34 70)) (R ++ [x20]), rowF BodyF 52 p c out, pt b4 (.cells #[.slice p (out.length) c, .slice (sla (fa34 70)) ((R ++ [x20]).length) (slc (fa34 70)), Ix (gx), Ix (gy)] 30), pt b3 (.cells #[.slice none 0 0, .slice none 0 0, .int .i64 (0), .int .i64 (0)] 30), pt b2 (.cells #[Ix (gx), Ix (gy)] 28), pt b1 (.cells #[Ix (tick), .slice va (es.length) (vc)] 24)]) [true, true, true, true, true, true, false] rfl ?_
     exact f_cut ⟨(k2 + 1, (R ++ [x20]), (sla (fa34 70)), (slc (fa34 70))), ⟨⟨rfl, rfl, rfl, rfl⟩, rfl, ⟨by omega, by rw [ropes_yes hx21 (has_yes hg26) (has_yes hc27), ← hR]⟩⟩, (show rs.length - (k2 + 1) < rs.length - k2 from by omega)⟩
    ·
     refine c_skip ?_
     refine f_block ?_
     refine f_then ?_
     refine c_region ?_
     refine l_val (v := Nx (k2)) rfl rfl rfl (e_move) ?_
     refine l_val (v := Nx (k2 + 1)) rfl rfl rfl (e_add (a := ((k2 : Nat) : Int)) (b := (1 : Int)) rfl rfl (i64n (by omega) (by omega))) ?_
     refine l_val (v := Nx (k2 + 1)) rfl rfl rfl (e_assign) ?_
     refine l_nil ?_
     exact f_cut ⟨(k2 + 1, R, rp, rc), ⟨⟨rfl, rfl, rfl, rfl⟩, rfl, ⟨by omega, by rw [ropes_no hx21 (by simp [has_no hc27]), ← hR]⟩⟩, (show rs.length - (k2 + 1) < rs.length - k2 from by omega)⟩
   ·
    refine q_skip rfl rfl rfl rfl rfl rfl ?_
    refine q_skip rfl rfl rfl rfl rfl rfl ?_
    refine q_skip rfl rfl rfl rfl rfl rfl ?_
    refine q_skip rfl rfl rfl rfl rfl rfl ?_
    refine q_skip rfl rfl rfl rfl rfl rfl ?_
    refine q_skip rfl rfl rfl rfl rfl rfl ?_
    refine q_skip rfl rfl rfl rfl rfl rfl ?_
    refine q_skip rfl rfl rfl rfl rfl rfl ?_
    refine q_skip rfl rfl rfl rfl rfl rfl ?_
    refine q_val (v := .bool false) rfl rfl rfl (e_pick_f rfl) ?_
    refine q_nil ?_
    refine f_then ?_
    refine c_no rfl ?_
    refine c_skip ?_
    refine f_block ?_
    refine f_then ?_
    refine c_region ?_
    refine l_val (v := Nx (k2)) rfl rfl rfl (e_move) ?_
    refine l_val (v := Nx (k2 + 1)) rfl rfl rfl (e_add (a := ((k2 : Nat) : Int)) (b := (1 : Int)) rfl rfl (i64n (by omega) (by omega))) ?_
    refine l_val (v := Nx (k2 + 1)) rfl rfl rfl (e_assign) ?_
    refine l_nil ?_
    exact f_cut ⟨(k2 + 1, R, rp, rc), ⟨⟨rfl, rfl, rfl, rfl⟩, rfl, ⟨by omega, by rw [ropes_no hx21 (by simp [has_no hg26]), ← hR]⟩⟩, (show rs.length - (k2 + 1) < rs.length - k2 from by omega)⟩
  ·
   refine c_exit ?_
   refine f_then_exit ?_
   refine f_then_exit ?_
   refine f_exit ?_
   refine f_then ?_
   refine c_seq ?_
   refine c_region ?_
   refine l_val (v := .agg #[.slice p (out.length) c, .slice rp (R.length) rc, Ix (gx), Ix (gy)]) rfl rfl rfl (e_load tw25 (cs := [.slice p (out.length) c, .slice rp (R.length) rc, Ix (gx), Ix (gy)]) rfl (k_pt 2 (cs := #[.slice p (out.length) c, .slice rp (R.length) rc, Ix (gx), Ix (gy)]) (vs := [.slice p (out.length) c, .slice rp (R.length) rc, Ix (gx), Ix (gy)]) rfl rfl) rfl) ?_
   refine l_mu rfl rfl (m_store 3 tw25 (b := b3) (o := 0) (T := 30) (cs := #[.slice none 0 0, .slice none 0 0, .int .i64 (0), .int .i64 (0)]) (cs' := #[.slice p (out.length) c, .slice rp (R.length) rc, Ix (gx), Ix (gy)]) (v := .agg #[.slice p (out.length) c, .slice rp (R.length) rc, Ix (gx), Ix (gy)]) rfl rfl rfl rfl rfl rfl rfl) ?_
   refine l_nil ?_
   refine f_then ?_
   refine c_ret ?_
   refine retG (l := [.cell 6 30]) (m := [.agg #[.slice p (out.length) c, .slice rp (R.length) rc, Ix (gx), Ix (gy)]]) (v := .agg #[.slice p (out.length) c, .slice rp (R.length) rc, Ix (gx), Ix (gy)]) Tryz.results20 ⟨rd_cell tw25 (cs := [.slice p (out.length) c, .slice rp (R.length) rc, Ix (gx), Ix (gy)]) rfl (k_pt 3 (cs := #[.slice p (out.length) c, .slice rp (R.length) rc, Ix (gx), Ix (gy)]) (vs := [.slice p (out.length) c, .slice rp (R.length) rc, Ix (gx), Ix (gy)]) rfl rfl) rfl, trivial⟩ rfl ?_
   intro w hw
   have hw2 := st_mask (L' := [rowF RopeF 78 rp rc R, rowF BodyF 52 p c out]) [true, true, false, false, false, false] rfl hw
   have hRe : R = ropesOf out rs := by rw [hR, List.take_of_length_le (by omega)]
   rw [hoe] at hRe hw2 ⊢
   rw [hRe] at hw2 ⊢
   exact ⟨p, c, rp, rc, rfl, hw2.perm (perm_ix [1, 0] 2 rfl (by kernel_rfl) (by kernel_rfl))⟩
end Go.Proofs
