/-
 attempt: what needs power is done, or the Journal is down. Printed by a program of my own.
-/
import Derived.Test.YtjejfkajcbdgjaaGreatJn2
import Derived.Test.YtjejfkajcbdgjaaGreatSlDef
namespace Go.Proofs
open Go Go.Sl Go.Jn
theorem at_init {fn : Func} {n : Nat} {args : Array Value} (hn : fn.ntmps = n) (hs : Nat.ble args.size n = true) : At n [] (initF args) { tmps := args ++ Array.replicate (fn.ntmps - args.size) undef, defers := [] } := by
 refine ⟨rfl, ?_, fun i => ?_⟩
 ·rw [hn]
  have : args.size ≤ n := by simpa using hs
  simp; omega
 ·simp only [initF, Array.getD_eq_getD_getElem?]
  by_cases hi : i < args.size
  ·rw [Array.getElem?_append_left hi]
  ·rw [Array.getElem?_append_right (by omega), Array.getElem?_eq_none (by omega : args.size ≤ i)]
   by_cases hj : i - args.size < fn.ntmps - args.size
   ·simp [hj]
   ·simp [hj]
theorem att_perm {a b c : Res} {K : List Res} : ((a :: K) ++ [b, c]).Perm ([c, b, a] ++ K) := by
 have h1 : ((a :: K) ++ [b, c]).Perm ([b, c] ++ (a :: K)) := List.perm_append_comm
 exact h1.trans (List.Perm.swap c b (a :: K))
theorem tf41 : ifB Tryz.prog 20 = true := by kernel_rfl
theorem tf42 : tyB Tryz.prog 185 true 0 = true := by kernel_rfl
theorem tf43 : tyB Tryz.prog 89 false 1 = true := by kernel_rfl
theorem tf44 : tyB Tryz.prog 34 false 1 = true := by kernel_rfl
theorem tf45 : (Tryz.prog.info? 34).bind (·.zero) = some (.int .i64 (0)) := by kernel_rfl
theorem att1_pan (β : Base) (w : World) (b2 b4 J : Nat) (y x0 x1 x2 x3 x4 x5 x6 : Value) (hw : St β [pt b2 (.cells #[.pointer (some ⟨J, 0, none⟩)] 89), pt b4 (.cells #[y] 34), pt J (.cells #[x0, x1, x2, x3, x4, x5, x6] 143)] w) : CallsD Tryz.prog 105 #[.pointer (some ⟨b2, 0, none⟩), .pointer (some ⟨b4, 0, none⟩)] (.panicking chP) w fun e u' w' =>
  e = .returned (.tuple #[]) ∧ u' = .panicking [{ v := .iface 185 (.agg #[]), recovered := true }] ∧ St β [pt b2 (.cells #[.pointer (some ⟨J, 0, none⟩)] 89), pt b4 (.cells #[.int .i64 (310)] 34), pt J (.cells #[x0, x1, x2, x3, x4, x5, .bool true] 143)] w' := by
 refine callsD_of_wpS Tryz.func105 rfl fun c₀ cs hu => ?_
 refine wpS_seq ?_
 refine wpS_rec2 (n := 19) (ds := []) (f := initF #[.pointer (some ⟨b2, 0, none⟩), .pointer (some ⟨b4, 0, none⟩)]) (d0 := 5) (d1 := 2) (v := .iface 185 (.agg #[])) (cs' := { c₀ with mode := .panicking [{ v := .iface 185 (.agg #[]), recovered := true }] } :: cs) (at_init Tryz.ntmps105 rfl) rfl rfl rfl rfl rfl rfl rfl rfl (.inl (by simp [recoverD, hu, chP])) (fun a' ha' => ?_)
 refine wpS_run (L := [pt b2 (.cells #[.pointer (some ⟨J, 0, none⟩)] 89), pt b4 (.cells #[y] 34), pt J (.cells #[x0, x1, x2, x3, x4, x5, x6] 143)]) ?_ ha' hw
 refine c_seq ?_
 refine c_region ?_
 refine l_val (v := .iface 185 (.agg #[])) rfl rfl rfl (e_move) ?_
 refine l_val (v := .bool true) rfl rfl rfl (e_neq_if (u := 185) (v := (.agg #[])) tf41 rfl) ?_
 refine l_nil ?_
 refine f_then ?_
 refine c_yes rfl ?_
 refine c_seq ?_
 refine c_seq ?_
 refine c_region ?_
 refine l_val (v := .iface 185 (.agg #[])) rfl rfl rfl (e_move) ?_
 refine l_val (v := .tuple #[.agg #[], .bool true]) rfl rfl rfl (e_tassert (v := .agg #[]) rfl tf34) ?_
 refine l_val (v := .tuple #[.agg #[], .bool true]) rfl rfl rfl (e_move) ?_
 refine l_val (v := .agg #[]) rfl rfl rfl (e_extract (vs := #[.agg #[], .bool true]) rfl rfl) ?_
 refine l_val (v := .bool true) rfl rfl rfl (e_extract (vs := #[.agg #[], .bool true]) rfl rfl) ?_
 refine l_mv rfl rfl rfl (m_alloc tf33) ?_
 rintro _ _ ⟨b1, rfl, rfl⟩
 refine l_mu rfl rfl (m_store 0 tf42 (b := b1) (o := 0) (T := 185) (cs := #[]) (cs' := #[]) (v := .agg #[]) rfl rfl rfl rfl rfl rfl rfl) ?_
 refine l_val (v := .bool true) rfl rfl rfl (e_assign) ?_
 refine l_nil ?_
 refine f_then ?_
 refine c_seq ?_
 refine c_region ?_
 refine l_val (v := .bool true) rfl rfl rfl (e_move) ?_
 refine l_val (v := .bool false) rfl rfl rfl (e_not (a := true) rfl) ?_
 refine l_nil ?_
 refine f_then ?_
 refine c_no rfl ?_
 refine c_skip ?_
 refine f_then ?_
 refine c_region ?_
 refine l_val (v := .pointer (some ⟨J, 0, none⟩)) rfl rfl rfl (e_load1 tf43 (v := .pointer (some ⟨J, 0, none⟩)) rfl (k_pt 1 (cs := #[.pointer (some ⟨J, 0, none⟩)]) (vs := [.pointer (some ⟨J, 0, none⟩)]) rfl rfl)) ?_
 refine l_val (v := .pointer (some ⟨J, 0, none⟩)) rfl rfl rfl (e_nil (a := ⟨J, 0, none⟩) rfl) ?_
 refine l_val (v := .pointer (some ⟨J, 6, none⟩)) rfl rfl rfl (e_fieldPt (b := J) (o := 0) rfl tf39) ?_
 refine l_mu rfl rfl (m_store 3 tf40 (b := J) (o := 6) (T := 143) (cs := #[x0, x1, x2, x3, x4, x5, x6]) (cs' := #[x0, x1, x2, x3, x4, x5, .bool true]) (v := .bool true) rfl rfl rfl rfl rfl rfl rfl) ?_
 refine l_mu rfl rfl (m_store 2 tf44 (b := b4) (o := 0) (T := 34) (cs := #[y]) (cs' := #[.int .i64 (310)]) (v := .int .i64 (310)) rfl rfl rfl rfl rfl rfl rfl) ?_
 refine l_nil ?_
 refine finS Tryz.results105 ?_
 intro w hw
 exact ⟨rfl, rfl, st_mask [false, true, true, true] rfl hw⟩
theorem att1_ret (β : Base) (w : World) (b2 b4 : Nat) (L : List Res) (hw : St β L w) : CallsD Tryz.prog 105 #[.pointer (some ⟨b2, 0, none⟩), .pointer (some ⟨b4, 0, none⟩)] .returning w fun e u' w' => e = .returned (.tuple #[]) ∧ u' = .returning ∧ St β L w' := by
 refine callsD_of_wpS Tryz.func105 rfl fun c₀ cs hu => ?_
 refine wpS_seq ?_
 refine wpS_rec2 (n := 19) (ds := []) (f := initF #[.pointer (some ⟨b2, 0, none⟩), .pointer (some ⟨b4, 0, none⟩)]) (d0 := 5) (d1 := 2) (v := .nilIface) (cs' := { c₀ with mode := .returning } :: cs) (at_init Tryz.ntmps105 rfl) rfl rfl rfl rfl rfl rfl rfl rfl (.inr ⟨by simp [recoverD, hu], rfl, by cases c₀; simp_all⟩) (fun a' ha' => ?_)
 refine wpS_run (L := L) ?_ ha' hw
 refine c_seq ?_
 refine c_region ?_
 refine l_val (v := .nilIface) rfl rfl rfl (e_move) ?_
 refine l_val (v := .bool false) rfl rfl rfl (e_neq_if0 tf41 rfl) ?_
 refine l_nil ?_
 refine f_then ?_
 refine c_no rfl ?_
 refine c_skip ?_
 refine finS Tryz.results105 ?_
 intro w hw
 exact ⟨rfl, rfl, hw⟩
theorem attempt_ok (β : Base) (w : World) (J F : Nat) (cap : List Value) (x0 x1 x2 x3 x4 x5 x6 : Value) (K0 K1 K2 : List Res) (A B : Prop) (hF : cfB Tryz.prog F = true) (hw : St β (pt J (.cells #[x0, x1, x2, x3, x4, x5, x6] 143) :: K0) w)
  (hdo : ∀ β', Sub β.heap β'.heap → ∀ w, St β' (pt J (.cells #[x0, x1, x2, x3, x4, x5, x6] 143) :: K0) w → Calls Tryz.prog F cap.toArray w fun e w' => (e = .panicked chP ∧ B ∧ St β' (pt J (.cells #[x0, x1, x2, x3, x4, x5, x6] 143) :: K2) w') ∨ (e = .returned (.tuple #[]) ∧ A ∧ St β' (pt J (.cells #[x0, x1, x2, x3, x4, x5, x6] 143) :: K1) w')) :
  Calls Tryz.prog 62 #[.pointer (some ⟨J, 0, none⟩), .func (.func F) #[] cap.toArray] w fun e w' => (e = .returned (.int .i64 0) ∧ A ∧ St β (pt J (.cells #[x0, x1, x2, x3, x4, x5, x6] 143) :: K1) w') ∨ (e = .returned (.int .i64 310) ∧ B ∧ St β (pt J (.cells #[x0, x1, x2, x3, x4, x5, .bool true] 143) :: K2) w') := by
 refine enterD (n := 8) Tryz.func62 rfl Tryz.ntmps62 rfl ?_ hw
 refine c_seq ?_
 refine c_region ?_
 refine l_mv rfl rfl rfl (m_box (v := .pointer (some ⟨J, 0, none⟩)) rfl) ?_
 rintro _ _ ⟨b1, rfl, rfl⟩
 refine l_mv rfl rfl rfl (m_alloc tf45) ?_
 rintro _ _ ⟨b2, rfl, rfl⟩
 refine l_nil ?_
 refine f_then ?_
 refine c_seq ?_
 refine c_region ?_
 refine l_val (v := .func (.func 105) #[] #[.pointer (some ⟨b1, 0, none⟩), .pointer (some ⟨b2, 0, none⟩)]) rfl rfl rfl (e_func (u := []) (v := [.pointer (some ⟨b1, 0, none⟩), .pointer (some ⟨b2, 0, none⟩)]) rfl rfl) ?_
 refine l_defer (dd := { target := .fn (.func 105) #[.pointer (some ⟨b1, 0, none⟩), .pointer (some ⟨b2, 0, none⟩)], args := #[] }) rfl rfl (fun w => by simp [execOp, resolve, ev, upd, Deferred.ofValue]) ?_
 refine l_nil ?_
 refine f_then ?_
 refine c_seq ?_
 refine c_region ?_
 refine l_val (v := .func (.func F) #[] cap.toArray) rfl rfl rfl (e_move) ?_
 refine l_callP rfl rfl rfl (cl_value (fst := []) (cap := cap) (vs := []) (all := cap) hF rfl rfl rfl) ?_
 intro w hw
 replace hw := hw.perm (L' := (pt J (.cells #[x0, x1, x2, x3, x4, x5, x6] 143) :: K0) ++ [pt b2 (.cells #[.int .i64 (0)] 34), pt b1 (.cells #[.pointer (some ⟨J, 0, none⟩)] 89)]) (List.perm_append_comm (l₁ := [pt b2 (.cells #[.int .i64 (0)] 34), pt b1 (.cells #[.pointer (some ⟨J, 0, none⟩)] 89)]))
 obtain ⟨β1, sb, kn, hw1, back⟩ := St.frame hw
 refine (hdo β1 sb w hw1).mono ?_
 rintro e w' (⟨rfl, hB, hw'⟩ | ⟨rfl, hA, hw'⟩)
 ·refine .inl ⟨_, rfl, _, back _ _ hw', ?_⟩
  refine f_then_panic ?_
  intro a w ha hw
  show Leaves _ _ a.tmps _ a.defers _ w
  rw [ha.defers]
  refine leaves_cons (f := 105) (args := #[.pointer (some ⟨b1, 0, none⟩), .pointer (some ⟨b2, 0, none⟩)]) (by simp) (by simp [invoke, run_callF (show cfB Tryz.prog 105 = true from by kernel_rfl)]) ?_
  replace hw := hw.perm (L' := [pt b1 (.cells #[.pointer (some ⟨J, 0, none⟩)] 89), pt b2 (.cells #[.int .i64 (0)] 34), pt J (.cells #[x0, x1, x2, x3, x4, x5, x6] 143)] ++ K2) (by exact att_perm)
  obtain ⟨β2, sb2, kn2, hw2, back2⟩ := St.frame hw
  refine (att1_pan β2 w b1 b2 J _ x0 x1 x2 x3 x4 x5 x6 hw2).mono ?_
  rintro e u' w2 ⟨rfl, rfl, hw3⟩
  have hw4 := back2 _ _ hw3
  refine ⟨_, run_results (l := [.cell 4 34]) (m := [.int .i64 310]) Tryz.results62 ha.get hw4 ⟨rd_cell1 tf44 (v := .int .i64 310) rfl (k_pt 1 (cs := #[.int .i64 310]) (vs := [.int .i64 310]) rfl rfl), trivial⟩, .inr ⟨rfl, hB, ?_⟩⟩
  exact hw4.drop (List.Sublist.cons _ (List.Sublist.cons _ (List.Sublist.refl _)))
 refine .inr ⟨_, rfl, _, back _ _ hw', ?_⟩
 refine l_nil ?_
 refine f_then ?_
 refine c_seq ?_
 refine c_region ?_
 refine l_perm (L' := [pt b2 (.cells #[.int .i64 (0)] 34), pt b1 (.cells #[.pointer (some ⟨J, 0, none⟩)] 89)] ++ (pt J (.cells #[x0, x1, x2, x3, x4, x5, x6] 143) :: K1)) (by exact List.perm_append_comm) ?_
 refine l_mu rfl rfl (m_store 0 tf44 (b := b2) (o := 0) (T := 34) (cs := #[.int .i64 (0)]) (cs' := #[.int .i64 (0)]) (v := .int .i64 (0)) rfl rfl rfl rfl rfl rfl rfl) ?_
 refine l_nil ?_
 refine f_then ?_
 refine c_ret ?_
 intro a w ha hw
 show Leaves _ _ a.tmps _ a.defers _ w
 rw [ha.defers]
 refine leaves_cons (f := 105) (args := #[.pointer (some ⟨b1, 0, none⟩), .pointer (some ⟨b2, 0, none⟩)]) (by simp) (by simp [invoke, run_callF (show cfB Tryz.prog 105 = true from by kernel_rfl)]) ?_
 refine (att1_ret _ w b1 b2 _ hw).mono ?_
 rintro e u' w2 ⟨rfl, rfl, hw3⟩
 refine ⟨_, run_results (l := [.cell 4 34]) (m := [.int .i64 0]) Tryz.results62 ha.get hw3 ⟨rd_cell1 tf44 (v := .int .i64 0) rfl (k_pt 0 (cs := #[.int .i64 0]) (vs := [.int .i64 0]) rfl rfl), trivial⟩, .inl ⟨rfl, hA, ?_⟩⟩
 exact St.drop hw3 (List.Sublist.cons _ (List.Sublist.cons _ (List.Sublist.refl _)))
end Go.Proofs
