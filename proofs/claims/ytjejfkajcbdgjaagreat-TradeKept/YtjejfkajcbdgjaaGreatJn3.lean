/-
 attempt: what needs power is done,or the Journal is down. Printed by a program of my own.
-/
import Derived.Test.YtjejfkajcbdgjaaGreatJn2
import Derived.Test.YtjejfkajcbdgjaaGreatSlDef
import Derived.Test.YtjejfkajcbdgjaaGreatSlA
import Derived.Test.YtjejfkajcbdgjaaGreatSlN
namespace Go.Proofs
open Go Go.Sl Go.Jn
theorem at_init {fn : Func} {n : Nat} {args : Array Value} (hn : fn.ntmps = n) (hs : Nat.ble args.size n = true) : At n [] (initF args) { tmps := args ++ Array.replicate (fn.ntmps - args.size) undef, defers := [] } := by
 refine ⟨rfl,?_,fun i => ?_⟩
 ·rw [hn]
  have : args.size ≤ n := by simpa using hs
  simp; omega
 simp only [sB,rB,initF,Array.getD_eq_getD_getElem?]
 by_cases hi : i < args.size
 ·rw [Array.getElem?_append_left hi]
 rw [Array.getElem?_append_right (by omega),Array.getElem?_eq_none (by omega : args.size ≤ i)]
 by_cases hj : i - args.size < fn.ntmps - args.size
 ·simp [hj]
 simp [hj]
theorem att_perm {a b c : Res} {K : List Res} : ((a :: K) ++ [b, c]).Perm ([c, b, a] ++ K) := by
 have h1 : ((a :: K) ++ [b,c]).Perm ([b,c] ++ (a :: K)) := List.perm_append_comm
 exact h1.trans (List.Perm.swap c b (a :: K))
theorem tf41 : ifB Tryz.prog 20 = true := by kernel_rfl
instance tf42 : TyC Tryz.prog 185 true 0 := ⟨by kernel_rfl⟩
instance tf43 : TyC Tryz.prog 89 false 1 := ⟨by kernel_rfl⟩
instance tf44 : TyC Tryz.prog 34 false 1 := ⟨by kernel_rfl⟩
instance tf45 : ZerC Tryz.prog 34 (.int .i64 (0)) := ⟨by kernel_rfl⟩
theorem att1_pan (β : Base) (w : World) (b2 b4 J : Nat) (y x0 x1 x2 x3 x4 x5 x6 : Value) (hw : St β [pt b2 (.cells #[pp J 0] 89), pt b4 (.cells #[y] 34), pt J (.cells #[x0, x1, x2, x3, x4, x5, x6] 143)] w) : CallsD Tryz.prog 105 #[pp b2 0, pp b4 0] (.panicking chP) w fun e u' w' =>
  e = .returned (.tuple #[]) ∧ u' = .panicking [{ v := .iface 185 (.agg #[]),recovered := true }] ∧ St β [pt b2 (.cells #[pp J 0] 89),pt b4 (.cells #[.int .i64 (310)] 34),pt J (.cells #[x0,x1,x2,x3,x4,x5,.bool true] 143)] w' := by
 refine callsD_of_wpS Tryz.func105 rfl fun c₀ cs hu => wpS_seq ?_
 refine wpS_rec2 (n := 19) (ds := []) (f := initF #[pp b2 0,pp b4 0]) (d0 := 5) (d1 := 2) (v := .iface 185 (.agg #[])) (cs' := { c₀ with mode := .panicking [{ v := .iface 185 (.agg #[]),recovered := true }] } :: cs) (at_init Tryz.ntmps105 rfl) rfl rfl rfl rfl rfl rfl rfl rfl (.inl (by simp [recoverD,hu,chP])) (fun a' ha' => ?_)
 refine wpS_run (L := [pt b2 (.cells #[pp J 0] 89),pt b4 (.cells #[y] 34),pt J (.cells #[x0,x1,x2,x3,x4,x5,x6] 143)]) ?_ ha' hw
 refine csr (lv e_move (lv (v := .bool true) (e_neq_if (u := 185) (v := (.agg #[])) tf41 rfl) (lnf (c_yes rfl (cs2 (c_region (lv e_move ?_)))))))
 refine lv (v := .tuple #[.agg #[],.bool true]) (e_tassert (v := .agg #[]) rfl tf34) (lE omt (lE oxa (lE oxb (alE fun b1 => lu (mS 0 (#[])) (lE oab ?_)))))
 refine lnc (lE omb (lE ont (lnf (c_no rfl (csk (c_region (lE (olp 1) (lE onp (lE ofp (lu (mS 3 (#[x0,x1,x2,x3,x4,x5,.bool true])) ?_))))))))))
 refine lu (mS 2 (#[.int .i64 (310)])) (l_nil (finS Tryz.results105 ?_))
 intro w hw
 exact ⟨rfl,rfl,st_mask [false,true,true,true] rfl hw⟩
theorem att1_ret (β : Base) (w : World) (b2 b4 : Nat) (L : List Res) (hw : St β L w) : CallsD Tryz.prog 105 #[pp b2 0, pp b4 0] .returning w fun e u' w' => e = .returned (.tuple #[]) ∧ u' = .returning ∧ St β L w' := by
 refine callsD_of_wpS Tryz.func105 rfl fun c₀ cs hu => wpS_seq ?_
 refine wpS_rec2 (n := 19) (ds := []) (f := initF #[pp b2 0,pp b4 0]) (d0 := 5) (d1 := 2) (v := .nilIface) (cs' := { c₀ with mode := .returning } :: cs) (at_init Tryz.ntmps105 rfl) rfl rfl rfl rfl rfl rfl rfl rfl (.inr ⟨by simp [recoverD,hu],rfl,by cases c₀; simp_all⟩) (fun a' ha' => ?_)
 refine wpS_run (L := L) ?_ ha' hw
 refine csr (lv e_move (lv (v := .bool false) (e_neq_if0 tf41 rfl) (lnf (c_no rfl (c_skip (finS Tryz.results105 ?_))))))
 intro w hw
 exact ⟨rfl,rfl,hw⟩
theorem attempt_ok (β : Base) (w : World) (J F : Nat) (cap : List Value) (x0 x1 x2 x3 x4 x5 x6 : Value) (K0 K1 K2 : List Res) (A B : Prop) (hF : cfB Tryz.prog F = true) (hw : St β (pt J (.cells #[x0, x1, x2, x3, x4, x5, x6] 143) :: K0) w)
  (hdo : ∀ β',Sub β.heap β'.heap → ∀ w,St β' (pt J (.cells #[x0,x1,x2,x3,x4,x5,x6] 143) :: K0) w → Calls Tryz.prog F cap.toArray w fun e w' => (e = .panicked chP ∧ B ∧ St β' (pt J (.cells #[x0,x1,x2,x3,x4,x5,x6] 143) :: K2) w') ∨ (e = .returned (.tuple #[]) ∧ A ∧ St β' (pt J (.cells #[x0,x1,x2,x3,x4,x5,x6] 143) :: K1) w')) :
  Calls Tryz.prog 62 #[pp J 0,.func (.func F) #[] cap.toArray] w fun e w' => (e = .returned (.int .i64 0) ∧ A ∧ St β (pt J (.cells #[x0,x1,x2,x3,x4,x5,x6] 143) :: K1) w') ∨ (e = .returned (.int .i64 310) ∧ B ∧ St β (pt J (.cells #[x0,x1,x2,x3,x4,x5,.bool true] 143) :: K2) w') := by
 refine enterD (n := 8) Tryz.func62 rfl Tryz.ntmps62 rfl ?_ hw
 refine csr (bxp fun b1 => ?_)
 refine alE fun b2 => lnc (lv (v := .func (.func 105) #[] #[pp b1 0,pp b2 0]) (e_func (u := []) (v := [pp b1 0,pp b2 0]) rfl rfl) ?_)
 refine l_defer (dd := { target := .fn (.func 105) #[pp b1 0,pp b2 0],args := #[] }) rfl rfl (fun w => by simp [execOp,resolve,ev,upd,Deferred.ofValue]) ?_
 refine lnc (lE omf (l_callP rfl rfl rfl (cl_value (fst := []) (cap := cap) (vs := []) (all := cap) hF rfl rfl rfl) ?_))
 intro w hw
 replace hw := hw.perm (L' := (pt J (.cells #[x0,x1,x2,x3,x4,x5,x6] 143) :: K0) ++ [pt b2 (.cells #[.int .i64 (0)] 34),pt b1 (.cells #[pp J 0] 89)]) (List.perm_append_comm (l₁ := [pt b2 (.cells #[.int .i64 (0)] 34),pt b1 (.cells #[pp J 0] 89)]))
 obtain ⟨β1,sb,kn,hw1,back⟩ := St.frame hw
 refine (hdo β1 sb w hw1).mono ?_
 rintro e w' (⟨rfl,hB,hw'⟩ | ⟨rfl,hA,hw'⟩)
 ·refine .inl ⟨_,rfl,_,back _ _ hw',?_⟩
  refine f_then_panic ?_
  intro a w ha hw
  show Leaves _ _ a.tmps _ a.defers _ w
  rw [ha.defers]
  refine leaves_cons (f := 105) (args := #[pp b1 0,pp b2 0]) (by simp) (by simp [invoke,run_callF (show cfB Tryz.prog 105 = true from by kernel_rfl)]) ?_
  replace hw := hw.perm (L' := [pt b1 (.cells #[pp J 0] 89),pt b2 (.cells #[.int .i64 (0)] 34),pt J (.cells #[x0,x1,x2,x3,x4,x5,x6] 143)] ++ K2) (by exact att_perm)
  obtain ⟨β2,sb2,kn2,hw2,back2⟩ := St.frame hw
  refine (att1_pan β2 w b1 b2 J _ x0 x1 x2 x3 x4 x5 x6 hw2).mono ?_
  rintro e u' w2 ⟨rfl,rfl,hw3⟩
  have hw4 := back2 _ _ hw3
  refine ⟨_,run_results (l := [.cell 4 34]) (m := [.int .i64 310]) Tryz.results62 ha.get hw4 ⟨rd_cell1 tf44.ok (v := .int .i64 310) rfl (k_pt 1 rfl rfl),trivial⟩,.inr ⟨rfl,hB,?_⟩⟩
  exact hw4.drop (List.Sublist.cons _ (List.Sublist.cons _ (List.Sublist.refl _)))
 refine .inr ⟨_,rfl,_,back _ _ hw',?_⟩
 refine lnc ?_
 refine l_perm (L' := [pt b2 (.cells #[.int .i64 (0)] 34),pt b1 (.cells #[pp J 0] 89)] ++ (pt J (.cells #[x0,x1,x2,x3,x4,x5,x6] 143) :: K1)) (by exact List.perm_append_comm) ?_
 refine lu (mS 0 (#[.int .i64 (0)])) (lnf (c_ret ?_))
 intro a w ha hw
 show Leaves _ _ a.tmps _ a.defers _ w
 rw [ha.defers]
 refine leaves_cons (f := 105) (args := #[pp b1 0,pp b2 0]) (by simp) (by simp [invoke,run_callF (show cfB Tryz.prog 105 = true from by kernel_rfl)]) ?_
 refine (att1_ret _ w b1 b2 _ hw).mono ?_
 rintro e u' w2 ⟨rfl,rfl,hw3⟩
 refine ⟨_,run_results (l := [.cell 4 34]) (m := [.int .i64 0]) Tryz.results62 ha.get hw3 ⟨rd_cell1 tf44.ok (v := .int .i64 0) rfl (k_pt 0 rfl rfl),trivial⟩,.inl ⟨rfl,hA,?_⟩⟩
 exact St.drop hw3 (List.Sublist.cons _ (List.Sublist.cons _ (List.Sublist.refl _)))
end Go.Proofs
