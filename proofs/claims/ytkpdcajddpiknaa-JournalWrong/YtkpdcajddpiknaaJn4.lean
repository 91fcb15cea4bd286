/-
 What is attempted: writing a record, cutting an area, a checkpoint. Printed by a program of my own.
-/
import Derived.Test.YtkpdcajddpiknaaJn3
namespace Go.Proofs
open Go Go.Sl Go.Jn
theorem tf46 : cfB Try.prog 46 = true := by kernel_rfl
theorem tf47 : tyB Try.prog 94 false 1 = true := by kernel_rfl
theorem tf48 : fldB Try.prog 36 0 0 1 false = true := by kernel_rfl
theorem tf49 : tyB Try.prog 89 false 1 = true := by kernel_rfl
theorem tf50 : fldB Try.prog 36 4 4 1 false = true := by kernel_rfl
theorem tf51 : cfB Try.prog 53 = true := by kernel_rfl
theorem tf52 : cfB Try.prog 56 = true := by kernel_rfl
theorem tf53 : fldB Try.prog 36 1 1 1 false = true := by kernel_rfl
theorem tf54 : cfB Try.prog 50 = true := by kernel_rfl
theorem writeS0_ok (β : Base) (w : World) (e : Nat) (hpar : e % 2 = 0) (J S : Nat) (hJ : Cs β.heap ⟨J, 0, none⟩ [.pointer (some ⟨S, 0, none⟩)]) (k : KS) (hk : k.fits 1048576) (at_ : Nat) (hat : at_ ≤ 1048576) (bs : Bs) (v : Value) (hb : bs.length ≤ 1048576) (hs : Sl U8R β.heap v bs) (hw : St β [storeR S k] w) : Calls Try.prog 53 #[.pointer (some ⟨J, 0, none⟩), .pointer (some ⟨S, 1, none⟩), Nx at_, v] w fun r w' => (r = .panicked chP ∧ ¬ wrOk k.power bs ∧ St β [storeR S (wrS k e at_ bs)] w') ∨ (r = .returned (.tuple #[]) ∧ wrOk k.power bs ∧ St β [storeR S (wrS k e at_ bs)] w') := by
 have h := writeA_ok β w J S hJ k hk at_ hat bs v hb hs hw
 rwa [wrS_even hpar] at h
theorem cutS0_ok (β : Base) (w : World) (e : Nat) (hpar : e % 2 = 0) (J S : Nat) (hJ : Cs β.heap ⟨J, 0, none⟩ [.pointer (some ⟨S, 0, none⟩)]) (k : KS) (hk : k.fits 1048576) (size : Nat) (hw : St β [storeR S k] w) : Calls Try.prog 56 #[.pointer (some ⟨J, 0, none⟩), .pointer (some ⟨S, 1, none⟩), Nx size] w fun r w' => (r = .panicked chP ∧ ¬ cutOk (k.area e) k.power size ∧ St β [storeR S k] w') ∨ (r = .returned (.tuple #[]) ∧ cutOk (k.area e) k.power size ∧ St β [storeR S (cutS k e size)] w') := by
 have h := (cutA_ok β w J S hJ k hk size hw).mono (R' := fun r w' => (r = .panicked chP ∧ ¬ cutOk k.a k.power size ∧ St β [storeR S k] w') ∨ (r = .returned (.tuple #[]) ∧ cutOk k.a k.power size ∧ St β [storeR S { k with a := cutA k.a k.power size, power := cutP k.a k.power size }] w')) fun r w' hh => hh.imp (fun ⟨a, b, _, c⟩ => ⟨a, b, c⟩) id
 rwa [cutS_even hpar, ← area_even (k := k) hpar] at h
theorem writeS1_ok (β : Base) (w : World) (e : Nat) (hpar : e % 2 = 1) (J S : Nat) (hJ : Cs β.heap ⟨J, 0, none⟩ [.pointer (some ⟨S, 0, none⟩)]) (k : KS) (hk : k.fits 1048576) (at_ : Nat) (hat : at_ ≤ 1048576) (bs : Bs) (v : Value) (hb : bs.length ≤ 1048576) (hs : Sl U8R β.heap v bs) (hw : St β [storeR S k] w) : Calls Try.prog 53 #[.pointer (some ⟨J, 0, none⟩), .pointer (some ⟨S, 2, none⟩), Nx at_, v] w fun r w' => (r = .panicked chP ∧ ¬ wrOk k.power bs ∧ St β [storeR S (wrS k e at_ bs)] w') ∨ (r = .returned (.tuple #[]) ∧ wrOk k.power bs ∧ St β [storeR S (wrS k e at_ bs)] w') := by
 have h := writeB_ok β w J S hJ k hk at_ hat bs v hb hs hw
 rwa [wrS_odd hpar] at h
theorem cutS1_ok (β : Base) (w : World) (e : Nat) (hpar : e % 2 = 1) (J S : Nat) (hJ : Cs β.heap ⟨J, 0, none⟩ [.pointer (some ⟨S, 0, none⟩)]) (k : KS) (hk : k.fits 1048576) (size : Nat) (hw : St β [storeR S k] w) : Calls Try.prog 56 #[.pointer (some ⟨J, 0, none⟩), .pointer (some ⟨S, 2, none⟩), Nx size] w fun r w' => (r = .panicked chP ∧ ¬ cutOk (k.area e) k.power size ∧ St β [storeR S k] w') ∨ (r = .returned (.tuple #[]) ∧ cutOk (k.area e) k.power size ∧ St β [storeR S (cutS k e size)] w') := by
 have h := (cutB_ok β w J S hJ k hk size hw).mono (R' := fun r w' => (r = .panicked chP ∧ ¬ cutOk k.b k.power size ∧ St β [storeR S k] w') ∨ (r = .returned (.tuple #[]) ∧ cutOk k.b k.power size ∧ St β [storeR S { k with b := cutA k.b k.power size, power := cutP k.b k.power size }] w')) fun r w' hh => hh.imp (fun ⟨a, b, _, c⟩ => ⟨a, b, c⟩) id
 rwa [cutS_odd hpar, ← area_odd (k := k) hpar] at h
set_option maxHeartbeats 4000000 in
theorem append1_ok (β : Base) (w : World) (J S q2 q7 q8 cb : Nat) (pb : Option Addr) (k : KS) (i : KI) (vs vr vd : Value) (fb : Bs) (hk : k.fits 524288) (hb : fb.length ≤ 131072) (hsz : i.size ≤ 524288) (hw : St β [pt J (.cells #[.pointer (some ⟨S, 0, none⟩), Nx (i.epoch), Nx (i.next), vs, vr, Nx (i.size), vd] 84), pt q2 (.cells #[.pointer (some ⟨J, 0, none⟩)] 43), pt q7 (.cells #[.pointer (some ⟨J, 1, none⟩)] 94), pt q8 (.cells #[.slice pb (fb).length cb] 30), row (.slice pb (fb).length cb) 5 1 ((fb).length) (BX fb), storeR S k] w) : Calls Try.prog 52 #[.pointer (some ⟨q2, 0, none⟩), .pointer (some ⟨q7, 0, none⟩), .pointer (some ⟨q8, 0, none⟩)] w fun r w' => (r = .panicked chP ∧ ¬ wrOk k.power fb ∧ St β [pt J (.cells #[.pointer (some ⟨S, 0, none⟩), Nx (i.epoch), Nx (i.next), vs, vr, Nx (i.size), vd] 84), pt q2 (.cells #[.pointer (some ⟨J, 0, none⟩)] 43), pt q7 (.cells #[.pointer (some ⟨J, 1, none⟩)] 94), pt q8 (.cells #[.slice pb (fb).length cb] 30), row (.slice pb (fb).length cb) 5 1 ((fb).length) (BX fb), storeR S (wrS k i.epoch i.size fb)] w') ∨ (r = .returned (.tuple #[]) ∧ wrOk k.power fb ∧ St β [pt J (.cells #[.pointer (some ⟨S, 0, none⟩), Nx (i.epoch), Nx (i.next), vs, vr, Nx (i.size), vd] 84), pt q2 (.cells #[.pointer (some ⟨J, 0, none⟩)] 43), pt q7 (.cells #[.pointer (some ⟨J, 1, none⟩)] 94), pt q8 (.cells #[.slice pb (fb).length cb] 30), row (.slice pb (fb).length cb) 5 1 ((fb).length) (BX fb), storeR S (wrS k i.epoch i.size fb)] w') := by
 refine enter (n := 21) Try.func52 rfl Try.ntmps52 rfl ?_ hw
 rcases Nat.mod_two_eq_zero_or_one i.epoch with hpar | hpar
 ·
  refine c_any_end 17 rfl rfl [⟨[], [], [0], [3], fun f => f 3 = .pointer (some ⟨J, 0, none⟩)⟩, ⟨[], [], [0], [4], fun f => f 4 = .pointer (some ⟨J, 0, none⟩)⟩, ⟨[1], [1], [], [5], fun f => f 5 = .pointer (some ⟨J, 0, none⟩)⟩, ⟨[1, 2], [2], [], [6], fun f => f 6 = .pointer (some ⟨J, 0, none⟩)⟩, ⟨[1, 2, 3], [3], [], [7], fun f => f 7 = .pointer (some ⟨S, 0, none⟩)⟩, ⟨[1, 2, 3, 4], [4], [], [8], fun f => f 8 = .agg #[.pointer (some ⟨S, 1, none⟩), .pointer (some ⟨S, 2, none⟩)]⟩, ⟨[], [], [1], [9], fun f => f 9 = .pointer (some ⟨J, 1, none⟩)⟩, ⟨[6], [6], [], [10], fun f => f 10 = .pointer (some ⟨J, 1, none⟩)⟩, ⟨[6, 7], [7], [], [11], fun f => f 11 = .pointer (some ⟨J, 1, none⟩)⟩, ⟨[6, 7, 8], [8], [], [12], fun f => f 12 = Nx (i.epoch)⟩, ⟨[6, 7, 8, 9], [9], [], [13], fun f => f 13 = .int .i64 (0)⟩, ⟨[1, 2, 3, 4, 5, 6, 7, 8, 9, 10], [5, 10], [], [14], fun f => f 14 = .pointer (some ⟨S, 1, none⟩)⟩, ⟨[], [], [1], [15], fun f => f 15 = .pointer (some ⟨J, 1, none⟩)⟩, ⟨[12], [12], [], [16], fun f => f 16 = .pointer (some ⟨J, 1, none⟩)⟩, ⟨[12, 13], [13], [], [17], fun f => f 17 = .pointer (some ⟨J, 5, none⟩)⟩, ⟨[12, 13, 14], [14], [], [18], fun f => f 18 = Nx (i.size)⟩, ⟨[], [], [2], [19], fun f => f 19 = .slice pb (fb).length cb⟩, ⟨[0, 1, 2, 3, 4, 5, 6, 7, 8, 9, 10, 11, 12, 13, 14, 15, 16], [], [], [], fun _ => True⟩] [⟨none, none, [4, 9, 15], [], fun _ => pt J (.cells #[.pointer (some ⟨S, 0, none⟩), Nx (i.epoch), Nx (i.next), vs, vr, Nx (i.size), vd] 84)⟩, ⟨none, none, [0, 1], [], fun _ => pt q2 (.cells #[.pointer (some ⟨J, 0, none⟩)] 43)⟩, ⟨none, none, [6, 12], [], fun _ => pt q7 (.cells #[.pointer (some ⟨J, 1, none⟩)] 94)⟩, ⟨none, none, [16], [], fun _ => pt q8 (.cells #[.slice pb (fb).length cb] 30)⟩, ⟨none, none, [], [], fun _ => row (.slice pb (fb).length cb) 5 1 ((fb).length) (BX fb)⟩, ⟨none, none, [], [], fun _ => storeR S k⟩] [(0, .pointer (some ⟨q2, 0, none⟩)), (1, .pointer (some ⟨q7, 0, none⟩)), (2, .pointer (some ⟨q8, 0, none⟩))] [] [] (by kernel_rfl) (by kernel_rfl) (by kernel_rfl) (by kernel_rfl) (by kernel_rfl) (by kernel_rfl) rfl ⟨rfl, rfl, rfl, trivial⟩ ⟨?_, ?_, ?_, ?_, ?_, ?_, ?_, ?_, ?_, ?_, ?_, ?_, ?_, ?_, ?_, ?_, ?_, trivial⟩ ?_
  ·rintro f M - ⟨i0, -⟩
   have hs0 : f 0 = .pointer (some ⟨q2, 0, none⟩) := i0
   refine ob_start (L' := pt q2 (.cells #[.pointer (some ⟨J, 0, none⟩)] 43) :: M) (by rfl) (up_cons rfl hs0) ?_
   refine l_val (v := .pointer (some ⟨J, 0, none⟩)) rfl rfl rfl (e_load1 tf43 (v := .pointer (some ⟨J, 0, none⟩)) rfl (k_pt 0 (cs := #[.pointer (some ⟨J, 0, none⟩)]) (vs := [.pointer (some ⟨J, 0, none⟩)]) rfl rfl)) ?_
   refine l_nil ?_
   exact f_owes_d (up_cons rfl hs0) rfl (perm_front 0 rfl)
  ·rintro f M - ⟨i0, -⟩
   have hs0 : f 0 = .pointer (some ⟨q2, 0, none⟩) := i0
   refine ob_start (L' := pt q2 (.cells #[.pointer (some ⟨J, 0, none⟩)] 43) :: M) (by rfl) (up_cons rfl hs0) ?_
   refine l_val (v := .pointer (some ⟨J, 0, none⟩)) rfl rfl rfl (e_load1 tf43 (v := .pointer (some ⟨J, 0, none⟩)) rfl (k_pt 0 (cs := #[.pointer (some ⟨J, 0, none⟩)]) (vs := [.pointer (some ⟨J, 0, none⟩)]) rfl rfl)) ?_
   refine l_nil ?_
   exact f_owes_d (up_cons rfl hs0) rfl (perm_front 0 rfl)
  ·rintro f M ⟨k0, -⟩ -
   have hs4 : f 4 = .pointer (some ⟨J, 0, none⟩) := k0
   refine ob_start (L' := M) (by rfl) (up_cons rfl hs4) ?_
   refine l_val (v := .pointer (some ⟨J, 0, none⟩)) rfl rfl rfl (e_nil (a := ⟨J, 0, none⟩) rfl) ?_
   refine l_nil ?_
   exact f_owes_d (up_cons rfl hs4) rfl (List.Perm.refl _)
  ·rintro f M ⟨k0, -⟩ -
   have hs5 : f 5 = .pointer (some ⟨J, 0, none⟩) := k0
   refine ob_start (L' := M) (by rfl) (up_cons rfl hs5) ?_
   refine l_val (v := .pointer (some ⟨J, 0, none⟩)) rfl rfl rfl (e_fieldPt (b := J) (o := 0) rfl tf30) ?_
   refine l_nil ?_
   exact f_owes_d (up_cons rfl hs5) rfl (List.Perm.refl _)
  ·rintro f M ⟨k0, -⟩ -
   have hs6 : f 6 = .pointer (some ⟨J, 0, none⟩) := k0
   refine ob_start (L' := pt J (.cells #[.pointer (some ⟨S, 0, none⟩), Nx (i.epoch), Nx (i.next), vs, vr, Nx (i.size), vd] 84) :: M) (by rfl) (up_cons rfl hs6) ?_
   refine l_val (v := .pointer (some ⟨S, 0, none⟩)) rfl rfl rfl (e_load1 tf31 (v := .pointer (some ⟨S, 0, none⟩)) rfl (k_pt 0 (cs := #[.pointer (some ⟨S, 0, none⟩), Nx (i.epoch), Nx (i.next), vs, vr, Nx (i.size), vd]) (vs := [.pointer (some ⟨S, 0, none⟩)]) rfl rfl)) ?_
   refine l_nil ?_
   exact f_owes_d (up_cons rfl hs6) rfl (perm_front 0 rfl)
  ·rintro f M ⟨k0, -⟩ -
   have hs7 : f 7 = .pointer (some ⟨S, 0, none⟩) := k0
   refine ob_start (L' := M) (by rfl) (up_cons rfl hs7) ?_
   refine l_call rfl rfl rfl (cl_value (fst := []) (cap := []) (vs := [.pointer (some ⟨S, 0, none⟩)]) (all := [.pointer (some ⟨S, 0, none⟩)]) tf46 rfl rfl rfl) ?_
   intro w hw
   obtain ⟨β1, sb, kn, hw1, back⟩ := St.frame_all hw
   refine (areas_ok β1 w hw1 S).mono ?_
   rintro e w' ⟨rfl, hw'⟩
   refine ⟨_, rfl, _, back _ _ hw', ?_⟩
   clear hw hw1 hw' back kn sb
   refine l_nil ?_
   exact f_owes_d (up_cons rfl hs7) rfl (List.Perm.refl _)
  ·rintro f M - ⟨i0, -⟩
   have hs1 : f 1 = .pointer (some ⟨q7, 0, none⟩) := i0
   refine ob_start (L' := pt q7 (.cells #[.pointer (some ⟨J, 1, none⟩)] 94) :: M) (by rfl) (up_cons rfl hs1) ?_
   refine l_val (v := .pointer (some ⟨J, 1, none⟩)) rfl rfl rfl (e_load1 tf47 (v := .pointer (some ⟨J, 1, none⟩)) rfl (k_pt 0 (cs := #[.pointer (some ⟨J, 1, none⟩)]) (vs := [.pointer (some ⟨J, 1, none⟩)]) rfl rfl)) ?_
   refine l_nil ?_
   exact f_owes_d (up_cons rfl hs1) rfl (perm_front 0 rfl)
  ·rintro f M ⟨k0, -⟩ -
   have hs9 : f 9 = .pointer (some ⟨J, 1, none⟩) := k0
   refine ob_start (L' := M) (by rfl) (up_cons rfl hs9) ?_
   refine l_val (v := .pointer (some ⟨J, 1, none⟩)) rfl rfl rfl (e_nil (a := ⟨J, 1, none⟩) rfl) ?_
   refine l_nil ?_
   exact f_owes_d (up_cons rfl hs9) rfl (List.Perm.refl _)
  ·rintro f M ⟨k0, -⟩ -
   have hs10 : f 10 = .pointer (some ⟨J, 1, none⟩) := k0
   refine ob_start (L' := M) (by rfl) (up_cons rfl hs10) ?_
   refine l_val (v := .pointer (some ⟨J, 1, none⟩)) rfl rfl rfl (e_fieldPt (b := J) (o := 1) rfl tf48) ?_
   refine l_nil ?_
   exact f_owes_d (up_cons rfl hs10) rfl (List.Perm.refl _)
  ·rintro f M ⟨k0, -⟩ -
   have hs11 : f 11 = .pointer (some ⟨J, 1, none⟩) := k0
   refine ob_start (L' := pt J (.cells #[.pointer (some ⟨S, 0, none⟩), Nx (i.epoch), Nx (i.next), vs, vr, Nx (i.size), vd] 84) :: M) (by rfl) (up_cons rfl hs11) ?_
   refine l_val (v := Nx (i.epoch)) rfl rfl rfl (e_load1 tf25 (v := Nx (i.epoch)) rfl (k_pt 0 (cs := #[.pointer (some ⟨S, 0, none⟩), Nx (i.epoch), Nx (i.next), vs, vr, Nx (i.size), vd]) (vs := [Nx (i.epoch)]) rfl rfl)) ?_
   refine l_nil ?_
   exact f_owes_d (up_cons rfl hs11) rfl (perm_front 0 rfl)
  ·rintro f M ⟨k0, -⟩ -
   have hs12 : f 12 = Nx (i.epoch) := k0
   refine ob_start (L' := M) (by rfl) (up_cons rfl hs12) ?_
   refine l_val (v := .int .i64 (0)) rfl rfl rfl (ev_eq (by rw [hpar]; rfl) (e_rem (a := ((i.epoch : Nat) : Int)) (b := (2 : Int)) rfl rfl (by decide) (nat_tmod _ 2))) ?_
   refine l_nil ?_
   exact f_owes_d (up_cons rfl hs12) rfl (List.Perm.refl _)
  ·rintro f M ⟨k0, k1, -⟩ -
   have hs8 : f 8 = .agg #[.pointer (some ⟨S, 1, none⟩), .pointer (some ⟨S, 2, none⟩)] := k0
   have hs13 : f 13 = .int .i64 (0) := k1
   refine ob_start (L' := M) (by rfl) (up_cons (up_cons rfl hs8) hs13) ?_
   refine l_val (v := .pointer (some ⟨S, 1, none⟩)) rfl rfl rfl (e_index_a (cs := #[.pointer (some ⟨S, 1, none⟩), .pointer (some ⟨S, 2, none⟩)]) (k := 0) rfl rfl tf28 rfl (by decide) tf49) ?_
   refine l_nil ?_
   exact f_owes_d (up_cons (up_cons rfl hs8) hs13) rfl (List.Perm.refl _)
  ·rintro f M - ⟨i0, -⟩
   have hs1 : f 1 = .pointer (some ⟨q7, 0, none⟩) := i0
   refine ob_start (L' := pt q7 (.cells #[.pointer (some ⟨J, 1, none⟩)] 94) :: M) (by rfl) (up_cons rfl hs1) ?_
   refine l_val (v := .pointer (some ⟨J, 1, none⟩)) rfl rfl rfl (e_load1 tf47 (v := .pointer (some ⟨J, 1, none⟩)) rfl (k_pt 0 (cs := #[.pointer (some ⟨J, 1, none⟩)]) (vs := [.pointer (some ⟨J, 1, none⟩)]) rfl rfl)) ?_
   refine l_nil ?_
   exact f_owes_d (up_cons rfl hs1) rfl (perm_front 0 rfl)
  ·rintro f M ⟨k0, -⟩ -
   have hs15 : f 15 = .pointer (some ⟨J, 1, none⟩) := k0
   refine ob_start (L' := M) (by rfl) (up_cons rfl hs15) ?_
   refine l_val (v := .pointer (some ⟨J, 1, none⟩)) rfl rfl rfl (e_nil (a := ⟨J, 1, none⟩) rfl) ?_
   refine l_nil ?_
   exact f_owes_d (up_cons rfl hs15) rfl (List.Perm.refl _)
  ·rintro f M ⟨k0, -⟩ -
   have hs16 : f 16 = .pointer (some ⟨J, 1, none⟩) := k0
   refine ob_start (L' := M) (by rfl) (up_cons rfl hs16) ?_
   refine l_val (v := .pointer (some ⟨J, 5, none⟩)) rfl rfl rfl (e_fieldPt (b := J) (o := 1) rfl tf50) ?_
   refine l_nil ?_
   exact f_owes_d (up_cons rfl hs16) rfl (List.Perm.refl _)
  ·rintro f M ⟨k0, -⟩ -
   have hs17 : f 17 = .pointer (some ⟨J, 5, none⟩) := k0
   refine ob_start (L' := pt J (.cells #[.pointer (some ⟨S, 0, none⟩), Nx (i.epoch), Nx (i.next), vs, vr, Nx (i.size), vd] 84) :: M) (by rfl) (up_cons rfl hs17) ?_
   refine l_val (v := Nx (i.size)) rfl rfl rfl (e_load1 tf25 (v := Nx (i.size)) rfl (k_pt 0 (cs := #[.pointer (some ⟨S, 0, none⟩), Nx (i.epoch), Nx (i.next), vs, vr, Nx (i.size), vd]) (vs := [Nx (i.size)]) rfl rfl)) ?_
   refine l_nil ?_
   exact f_owes_d (up_cons rfl hs17) rfl (perm_front 0 rfl)
  ·rintro f M - ⟨i0, -⟩
   have hs2 : f 2 = .pointer (some ⟨q8, 0, none⟩) := i0
   refine ob_start (L' := pt q8 (.cells #[.slice pb (fb).length cb] 30) :: M) (by rfl) (up_cons rfl hs2) ?_
   refine l_val (v := .slice pb (fb).length cb) rfl rfl rfl (e_load1 tf21 (v := .slice pb (fb).length cb) rfl (k_pt 0 (cs := #[.slice pb (fb).length cb]) (vs := [.slice pb (fb).length cb]) rfl rfl)) ?_
   refine l_nil ?_
   exact f_owes_d (up_cons rfl hs2) rfl (perm_front 0 rfl)
  rintro fa1 ⟨k0, -, -, -, -, -, -, -, -, -, -, k11, -, -, -, k15, k16, -⟩ -
  refine l_re (L' := [pt J (.cells #[.pointer (some ⟨S, 0, none⟩), Nx (i.epoch), Nx (i.next), vs, vr, Nx (i.size), vd] 84), pt q2 (.cells #[.pointer (some ⟨J, 0, none⟩)] 43), pt q7 (.cells #[.pointer (some ⟨J, 1, none⟩)] 94), pt q8 (.cells #[.slice pb (fb).length cb] 30), row (.slice pb (fb).length cb) 5 1 ((fb).length) (BX fb), storeR S k]) (by rfl) ?_
  refine l_rebase (d := 3) (v := .pointer (some ⟨J, 0, none⟩)) k0 ?_
  refine l_rebase (d := 14) (v := .pointer (some ⟨S, 1, none⟩)) k11 ?_
  refine l_rebase (d := 18) (v := Nx (i.size)) k15 ?_
  refine l_rebase (d := 19) (v := .slice pb (fb).length cb) k16 ?_
  refine l_callP rfl rfl rfl (cl_value (fst := []) (cap := []) (vs := [.pointer (some ⟨J, 0, none⟩), .pointer (some ⟨S, 1, none⟩), Nx (i.size), .slice pb (fb).length cb]) (all := [.pointer (some ⟨J, 0, none⟩), .pointer (some ⟨S, 1, none⟩), Nx (i.size), .slice pb (fb).length cb]) tf51 rfl rfl rfl) ?_
  intro w hw
  replace hw := hw.perm (L' := _ :: _ :: _ :: _ :: _ :: _ :: []) (by exact ((((((perm_front 4 rfl).trans (perm_front 4 rfl)).trans (perm_front 4 rfl)).trans (perm_front 4 rfl)).trans (perm_front 4 rfl)).trans (perm_front 5 rfl)))
  obtain ⟨β1, sb, kn, hw1, back⟩ := St.frame (L := [_]) (M := _ :: _ :: _ :: _ :: _ :: []) hw
  refine (writeS0_ok β1 w i.epoch hpar J S (kn _ (k_pt 0 (cs := #[.pointer (some ⟨S, 0, none⟩), Nx (i.epoch), Nx (i.next), vs, vr, Nx (i.size), vd]) (vs := [.pointer (some ⟨S, 0, none⟩)]) rfl rfl)) k (hk.le (by omega)) i.size (by omega) fb _ (by omega) (kn _ (Knows.of_res 4 rfl (Sl.mono U8R _ _) fun _ h => row_u8 h)) hw1).mono ?_
  rintro e w' (⟨rfl, ok2, hw'⟩ | ⟨rfl, ok2, hw'⟩)
  ·
   refine .inl ⟨_, rfl, _, back _ _ hw', ?_⟩
   clear hw hw1 hw' back kn sb
   refine panR ?_
   intro w hw
   exact .inl ⟨rfl, ok2, st_mask [true, true, true, true, true, true] rfl (hw.perm (L' := [pt J (.cells #[.pointer (some ⟨S, 0, none⟩), Nx (i.epoch), Nx (i.next), vs, vr, Nx (i.size), vd] 84), pt q2 (.cells #[.pointer (some ⟨J, 0, none⟩)] 43), pt q7 (.cells #[.pointer (some ⟨J, 1, none⟩)] 94), pt q8 (.cells #[.slice pb (fb).length cb] 30), row (.slice pb (fb).length cb) 5 1 ((fb).length) (BX fb), storeR S (wrS k i.epoch i.size fb)]) (by exact ((((((perm_front 0 rfl).trans (perm_front 5 rfl)).trans (perm_front 5 rfl)).trans (perm_front 5 rfl)).trans (perm_front 5 rfl)).trans (perm_front 5 rfl))))⟩
  refine .inr ⟨_, rfl, _, back _ _ hw', ?_⟩
  clear hw hw1 hw' back kn sb
  refine l_nil ?_
  refine end0 Try.results52 ?_
  intro w hw
  exact .inr ⟨rfl, ok2, st_mask [true, true, true, true, true, true] rfl (hw.perm (L' := [pt J (.cells #[.pointer (some ⟨S, 0, none⟩), Nx (i.epoch), Nx (i.next), vs, vr, Nx (i.size), vd] 84), pt q2 (.cells #[.pointer (some ⟨J, 0, none⟩)] 43), pt q7 (.cells #[.pointer (some ⟨J, 1, none⟩)] 94), pt q8 (.cells #[.slice pb (fb).length cb] 30), row (.slice pb (fb).length cb) 5 1 ((fb).length) (BX fb), storeR S (wrS k i.epoch i.size fb)]) (by exact ((((((perm_front 0 rfl).trans (perm_front 5 rfl)).trans (perm_front 5 rfl)).trans (perm_front 5 rfl)).trans (perm_front 5 rfl)).trans (perm_front 5 rfl))))⟩
 ·
  refine c_any_end 17 rfl rfl [⟨[], [], [0], [3], fun f => f 3 = .pointer (some ⟨J, 0, none⟩)⟩, ⟨[], [], [0], [4], fun f => f 4 = .pointer (some ⟨J, 0, none⟩)⟩, ⟨[1], [1], [], [5], fun f => f 5 = .pointer (some ⟨J, 0, none⟩)⟩, ⟨[1, 2], [2], [], [6], fun f => f 6 = .pointer (some ⟨J, 0, none⟩)⟩, ⟨[1, 2, 3], [3], [], [7], fun f => f 7 = .pointer (some ⟨S, 0, none⟩)⟩, ⟨[1, 2, 3, 4], [4], [], [8], fun f => f 8 = .agg #[.pointer (some ⟨S, 1, none⟩), .pointer (some ⟨S, 2, none⟩)]⟩, ⟨[], [], [1], [9], fun f => f 9 = .pointer (some ⟨J, 1, none⟩)⟩, ⟨[6], [6], [], [10], fun f => f 10 = .pointer (some ⟨J, 1, none⟩)⟩, ⟨[6, 7], [7], [], [11], fun f => f 11 = .pointer (some ⟨J, 1, none⟩)⟩, ⟨[6, 7, 8], [8], [], [12], fun f => f 12 = Nx (i.epoch)⟩, ⟨[6, 7, 8, 9], [9], [], [13], fun f => f 13 = .int .i64 (1)⟩, ⟨[1, 2, 3, 4, 5, 6, 7, 8, 9, 10], [5, 10], [], [14], fun f => f 14 = .pointer (some ⟨S, 2, none⟩)⟩, ⟨[], [], [1], [15], fun f => f 15 = .pointer (some ⟨J, 1, none⟩)⟩, ⟨[12], [12], [], [16], fun f => f 16 = .pointer (some ⟨J, 1, none⟩)⟩, ⟨[12, 13], [13], [], [17], fun f => f 17 = .pointer (some ⟨J, 5, none⟩)⟩, ⟨[12, 13, 14], [14], [], [18], fun f => f 18 = Nx (i.size)⟩, ⟨[], [], [2], [19], fun f => f 19 = .slice pb (fb).length cb⟩, ⟨[0, 1, 2, 3, 4, 5, 6, 7, 8, 9, 10, 11, 12, 13, 14, 15, 16], [], [], [], fun _ => True⟩] [⟨none, none, [4, 9, 15], [], fun _ => pt J (.cells #[.pointer (some ⟨S, 0, none⟩), Nx (i.epoch), Nx (i.next), vs, vr, Nx (i.size), vd] 84)⟩, ⟨none, none, [0, 1], [], fun _ => pt q2 (.cells #[.pointer (some ⟨J, 0, none⟩)] 43)⟩, ⟨none, none, [6, 12], [], fun _ => pt q7 (.cells #[.pointer (some ⟨J, 1, none⟩)] 94)⟩, ⟨none, none, [16], [], fun _ => pt q8 (.cells #[.slice pb (fb).length cb] 30)⟩, ⟨none, none, [], [], fun _ => row (.slice pb (fb).length cb) 5 1 ((fb).length) (BX fb)⟩, ⟨none, none, [], [], fun _ => storeR S k⟩] [(0, .pointer (some ⟨q2, 0, none⟩)), (1, .pointer (some ⟨q7, 0, none⟩)), (2, .pointer (some ⟨q8, 0, none⟩))] [] [] (by kernel_rfl) (by kernel_rfl) (by kernel_rfl) (by kernel_rfl) (by kernel_rfl) (by kernel_rfl) rfl ⟨rfl, rfl, rfl, trivial⟩ ⟨?_, ?_, ?_, ?_, ?_, ?_, ?_, ?_, ?_, ?_, ?_, ?_, ?_, ?_, ?_, ?_, ?_, trivial⟩ ?_
  ·rintro f M - ⟨i0, -⟩
   have hs0 : f 0 = .pointer (some ⟨q2, 0, none⟩) := i0
   refine ob_start (L' := pt q2 (.cells #[.pointer (some ⟨J, 0, none⟩)] 43) :: M) (by rfl) (up_cons rfl hs0) ?_
   refine l_val (v := .pointer (some ⟨J, 0, none⟩)) rfl rfl rfl (e_load1 tf43 (v := .pointer (some ⟨J, 0, none⟩)) rfl (k_pt 0 (cs := #[.pointer (some ⟨J, 0, none⟩)]) (vs := [.pointer (some ⟨J, 0, none⟩)]) rfl rfl)) ?_
   refine l_nil ?_
   exact f_owes_d (up_cons rfl hs0) rfl (perm_front 0 rfl)
  ·rintro f M - ⟨i0, -⟩
   have hs0 : f 0 = .pointer (some ⟨q2, 0, none⟩) := i0
   refine ob_start (L' := pt q2 (.cells #[.pointer (some ⟨J, 0, none⟩)] 43) :: M) (by rfl) (up_cons rfl hs0) ?_
   refine l_val (v := .pointer (some ⟨J, 0, none⟩)) rfl rfl rfl (e_load1 tf43 (v := .pointer (some ⟨J, 0, none⟩)) rfl (k_pt 0 (cs := #[.pointer (some ⟨J, 0, none⟩)]) (vs := [.pointer (some ⟨J, 0, none⟩)]) rfl rfl)) ?_
   refine l_nil ?_
   exact f_owes_d (up_cons rfl hs0) rfl (perm_front 0 rfl)
  ·rintro f M ⟨k0, -⟩ -
   have hs4 : f 4 = .pointer (some ⟨J, 0, none⟩) := k0
   refine ob_start (L' := M) (by rfl) (up_cons rfl hs4) ?_
   refine l_val (v := .pointer (some ⟨J, 0, none⟩)) rfl rfl rfl (e_nil (a := ⟨J, 0, none⟩) rfl) ?_
   refine l_nil ?_
   exact f_owes_d (up_cons rfl hs4) rfl (List.Perm.refl _)
  ·rintro f M ⟨k0, -⟩ -
   have hs5 : f 5 = .pointer (some ⟨J, 0, none⟩) := k0
   refine ob_start (L' := M) (by rfl) (up_cons rfl hs5) ?_
   refine l_val (v := .pointer (some ⟨J, 0, none⟩)) rfl rfl rfl (e_fieldPt (b := J) (o := 0) rfl tf30) ?_
   refine l_nil ?_
   exact f_owes_d (up_cons rfl hs5) rfl (List.Perm.refl _)
  ·rintro f M ⟨k0, -⟩ -
   have hs6 : f 6 = .pointer (some ⟨J, 0, none⟩) := k0
   refine ob_start (L' := pt J (.cells #[.pointer (some ⟨S, 0, none⟩), Nx (i.epoch), Nx (i.next), vs, vr, Nx (i.size), vd] 84) :: M) (by rfl) (up_cons rfl hs6) ?_
   refine l_val (v := .pointer (some ⟨S, 0, none⟩)) rfl rfl rfl (e_load1 tf31 (v := .pointer (some ⟨S, 0, none⟩)) rfl (k_pt 0 (cs := #[.pointer (some ⟨S, 0, none⟩), Nx (i.epoch), Nx (i.next), vs, vr, Nx (i.size), vd]) (vs := [.pointer (some ⟨S, 0, none⟩)]) rfl rfl)) ?_
   refine l_nil ?_
   exact f_owes_d (up_cons rfl hs6) rfl (perm_front 0 rfl)
  ·rintro f M ⟨k0, -⟩ -
   have hs7 : f 7 = .pointer (some ⟨S, 0, none⟩) := k0
   refine ob_start (L' := M) (by rfl) (up_cons rfl hs7) ?_
   refine l_call rfl rfl rfl (cl_value (fst := []) (cap := []) (vs := [.pointer (some ⟨S, 0, none⟩)]) (all := [.pointer (some ⟨S, 0, none⟩)]) tf46 rfl rfl rfl) ?_
   intro w hw
   obtain ⟨β1, sb, kn, hw1, back⟩ := St.frame_all hw
   refine (areas_ok β1 w hw1 S).mono ?_
   rintro e w' ⟨rfl, hw'⟩
   refine ⟨_, rfl, _, back _ _ hw', ?_⟩
   clear hw hw1 hw' back kn sb
   refine l_nil ?_
   exact f_owes_d (up_cons rfl hs7) rfl (List.Perm.refl _)
  ·rintro f M - ⟨i0, -⟩
   have hs1 : f 1 = .pointer (some ⟨q7, 0, none⟩) := i0
   refine ob_start (L' := pt q7 (.cells #[.pointer (some ⟨J, 1, none⟩)] 94) :: M) (by rfl) (up_cons rfl hs1) ?_
   refine l_val (v := .pointer (some ⟨J, 1, none⟩)) rfl rfl rfl (e_load1 tf47 (v := .pointer (some ⟨J, 1, none⟩)) rfl (k_pt 0 (cs := #[.pointer (some ⟨J, 1, none⟩)]) (vs := [.pointer (some ⟨J, 1, none⟩)]) rfl rfl)) ?_
   refine l_nil ?_
   exact f_owes_d (up_cons rfl hs1) rfl (perm_front 0 rfl)
  ·rintro f M ⟨k0, -⟩ -
   have hs9 : f 9 = .pointer (some ⟨J, 1, none⟩) := k0
   refine ob_start (L' := M) (by rfl) (up_cons rfl hs9) ?_
   refine l_val (v := .pointer (some ⟨J, 1, none⟩)) rfl rfl rfl (e_nil (a := ⟨J, 1, none⟩) rfl) ?_
   refine l_nil ?_
   exact f_owes_d (up_cons rfl hs9) rfl (List.Perm.refl _)
  ·rintro f M ⟨k0, -⟩ -
   have hs10 : f 10 = .pointer (some ⟨J, 1, none⟩) := k0
   refine ob_start (L' := M) (by rfl) (up_cons rfl hs10) ?_
   refine l_val (v := .pointer (some ⟨J, 1, none⟩)) rfl rfl rfl (e_fieldPt (b := J) (o := 1) rfl tf48) ?_
   refine l_nil ?_
   exact f_owes_d (up_cons rfl hs10) rfl (List.Perm.refl _)
  ·rintro f M ⟨k0, -⟩ -
   have hs11 : f 11 = .pointer (some ⟨J, 1, none⟩) := k0
   refine ob_start (L' := pt J (.cells #[.pointer (some ⟨S, 0, none⟩), Nx (i.epoch), Nx (i.next), vs, vr, Nx (i.size), vd] 84) :: M) (by rfl) (up_cons rfl hs11) ?_
   refine l_val (v := Nx (i.epoch)) rfl rfl rfl (e_load1 tf25 (v := Nx (i.epoch)) rfl (k_pt 0 (cs := #[.pointer (some ⟨S, 0, none⟩), Nx (i.epoch), Nx (i.next), vs, vr, Nx (i.size), vd]) (vs := [Nx (i.epoch)]) rfl rfl)) ?_
   refine l_nil ?_
   exact f_owes_d (up_cons rfl hs11) rfl (perm_front 0 rfl)
  ·rintro f M ⟨k0, -⟩ -
   have hs12 : f 12 = Nx (i.epoch) := k0
   refine ob_start (L' := M) (by rfl) (up_cons rfl hs12) ?_
   refine l_val (v := .int .i64 (1)) rfl rfl rfl (ev_eq (by rw [hpar]; rfl) (e_rem (a := ((i.epoch : Nat) : Int)) (b := (2 : Int)) rfl rfl (by decide) (nat_tmod _ 2))) ?_
   refine l_nil ?_
   exact f_owes_d (up_cons rfl hs12) rfl (List.Perm.refl _)
  ·rintro f M ⟨k0, k1, -⟩ -
   have hs8 : f 8 = .agg #[.pointer (some ⟨S, 1, none⟩), .pointer (some ⟨S, 2, none⟩)] := k0
   have hs13 : f 13 = .int .i64 (1) := k1
   refine ob_start (L' := M) (by rfl) (up_cons (up_cons rfl hs8) hs13) ?_
   refine l_val (v := .pointer (some ⟨S, 2, none⟩)) rfl rfl rfl (e_index_a (cs := #[.pointer (some ⟨S, 1, none⟩), .pointer (some ⟨S, 2, none⟩)]) (k := 1) rfl rfl tf28 rfl (by decide) tf49) ?_
   refine l_nil ?_
   exact f_owes_d (up_cons (up_cons rfl hs8) hs13) rfl (List.Perm.refl _)
  ·rintro f M - ⟨i0, -⟩
   have hs1 : f 1 = .pointer (some ⟨q7, 0, none⟩) := i0
   refine ob_start (L' := pt q7 (.cells #[.pointer (some ⟨J, 1, none⟩)] 94) :: M) (by rfl) (up_cons rfl hs1) ?_
   refine l_val (v := .pointer (some ⟨J, 1, none⟩)) rfl rfl rfl (e_load1 tf47 (v := .pointer (some ⟨J, 1, none⟩)) rfl (k_pt 0 (cs := #[.pointer (some ⟨J, 1, none⟩)]) (vs := [.pointer (some ⟨J, 1, none⟩)]) rfl rfl)) ?_
   refine l_nil ?_
   exact f_owes_d (up_cons rfl hs1) rfl (perm_front 0 rfl)
  ·rintro f M ⟨k0, -⟩ -
   have hs15 : f 15 = .pointer (some ⟨J, 1, none⟩) := k0
   refine ob_start (L' := M) (by rfl) (up_cons rfl hs15) ?_
   refine l_val (v := .pointer (some ⟨J, 1, none⟩)) rfl rfl rfl (e_nil (a := ⟨J, 1, none⟩) rfl) ?_
   refine l_nil ?_
   exact f_owes_d (up_cons rfl hs15) rfl (List.Perm.refl _)
  ·rintro f M ⟨k0, -⟩ -
   have hs16 : f 16 = .pointer (some ⟨J, 1, none⟩) := k0
   refine ob_start (L' := M) (by rfl) (up_cons rfl hs16) ?_
   refine l_val (v := .pointer (some ⟨J, 5, none⟩)) rfl rfl rfl (e_fieldPt (b := J) (o := 1) rfl tf50) ?_
   refine l_nil ?_
   exact f_owes_d (up_cons rfl hs16) rfl (List.Perm.refl _)
  ·rintro f M ⟨k0, -⟩ -
   have hs17 : f 17 = .pointer (some ⟨J, 5, none⟩) := k0
   refine ob_start (L' := pt J (.cells #[.pointer (some ⟨S, 0, none⟩), Nx (i.epoch), Nx (i.next), vs, vr, Nx (i.size), vd] 84) :: M) (by rfl) (up_cons rfl hs17) ?_
   refine l_val (v := Nx (i.size)) rfl rfl rfl (e_load1 tf25 (v := Nx (i.size)) rfl (k_pt 0 (cs := #[.pointer (some ⟨S, 0, none⟩), Nx (i.epoch), Nx (i.next), vs, vr, Nx (i.size), vd]) (vs := [Nx (i.size)]) rfl rfl)) ?_
   refine l_nil ?_
   exact f_owes_d (up_cons rfl hs17) rfl (perm_front 0 rfl)
  ·rintro f M - ⟨i0, -⟩
   have hs2 : f 2 = .pointer (some ⟨q8, 0, none⟩) := i0
   refine ob_start (L' := pt q8 (.cells #[.slice pb (fb).length cb] 30) :: M) (by rfl) (up_cons rfl hs2) ?_
   refine l_val (v := .slice pb (fb).length cb) rfl rfl rfl (e_load1 tf21 (v := .slice pb (fb).length cb) rfl (k_pt 0 (cs := #[.slice pb (fb).length cb]) (vs := [.slice pb (fb).length cb]) rfl rfl)) ?_
   refine l_nil ?_
   exact f_owes_d (up_cons rfl hs2) rfl (perm_front 0 rfl)
  rintro fa3 ⟨k0, -, -, -, -, -, -, -, -, -, -, k11, -, -, -, k15, k16, -⟩ -
  refine l_re (L' := [pt J (.cells #[.pointer (some ⟨S, 0, none⟩), Nx (i.epoch), Nx (i.next), vs, vr, Nx (i.size), vd] 84), pt q2 (.cells #[.pointer (some ⟨J, 0, none⟩)] 43), pt q7 (.cells #[.pointer (some ⟨J, 1, none⟩)] 94), pt q8 (.cells #[.slice pb (fb).length cb] 30), row (.slice pb (fb).length cb) 5 1 ((fb).length) (BX fb), storeR S k]) (by rfl) ?_
  refine l_rebase (d := 3) (v := .pointer (some ⟨J, 0, none⟩)) k0 ?_
  refine l_rebase (d := 14) (v := .pointer (some ⟨S, 2, none⟩)) k11 ?_
  refine l_rebase (d := 18) (v := Nx (i.size)) k15 ?_
  refine l_rebase (d := 19) (v := .slice pb (fb).length cb) k16 ?_
  refine l_callP rfl rfl rfl (cl_value (fst := []) (cap := []) (vs := [.pointer (some ⟨J, 0, none⟩), .pointer (some ⟨S, 2, none⟩), Nx (i.size), .slice pb (fb).length cb]) (all := [.pointer (some ⟨J, 0, none⟩), .pointer (some ⟨S, 2, none⟩), Nx (i.size), .slice pb (fb).length cb]) tf51 rfl rfl rfl) ?_
  intro w hw
  replace hw := hw.perm (L' := _ :: _ :: _ :: _ :: _ :: _ :: []) (by exact ((((((perm_front 4 rfl).trans (perm_front 4 rfl)).trans (perm_front 4 rfl)).trans (perm_front 4 rfl)).trans (perm_front 4 rfl)).trans (perm_front 5 rfl)))
  obtain ⟨β1, sb, kn, hw1, back⟩ := St.frame (L := [_]) (M := _ :: _ :: _ :: _ :: _ :: []) hw
  refine (writeS1_ok β1 w i.epoch hpar J S (kn _ (k_pt 0 (cs := #[.pointer (some ⟨S, 0, none⟩), Nx (i.epoch), Nx (i.next), vs, vr, Nx (i.size), vd]) (vs := [.pointer (some ⟨S, 0, none⟩)]) rfl rfl)) k (hk.le (by omega)) i.size (by omega) fb _ (by omega) (kn _ (Knows.of_res 4 rfl (Sl.mono U8R _ _) fun _ h => row_u8 h)) hw1).mono ?_
  rintro e w' (⟨rfl, ok4, hw'⟩ | ⟨rfl, ok4, hw'⟩)
  ·
   refine .inl ⟨_, rfl, _, back _ _ hw', ?_⟩
   clear hw hw1 hw' back kn sb
   refine panR ?_
   intro w hw
   exact .inl ⟨rfl, ok4, st_mask [true, true, true, true, true, true] rfl (hw.perm (L' := [pt J (.cells #[.pointer (some ⟨S, 0, none⟩), Nx (i.epoch), Nx (i.next), vs, vr, Nx (i.size), vd] 84), pt q2 (.cells #[.pointer (some ⟨J, 0, none⟩)] 43), pt q7 (.cells #[.pointer (some ⟨J, 1, none⟩)] 94), pt q8 (.cells #[.slice pb (fb).length cb] 30), row (.slice pb (fb).length cb) 5 1 ((fb).length) (BX fb), storeR S (wrS k i.epoch i.size fb)]) (by exact ((((((perm_front 0 rfl).trans (perm_front 5 rfl)).trans (perm_front 5 rfl)).trans (perm_front 5 rfl)).trans (perm_front 5 rfl)).trans (perm_front 5 rfl))))⟩
  refine .inr ⟨_, rfl, _, back _ _ hw', ?_⟩
  clear hw hw1 hw' back kn sb
  refine l_nil ?_
  refine end0 Try.results52 ?_
  intro w hw
  exact .inr ⟨rfl, ok4, st_mask [true, true, true, true, true, true] rfl (hw.perm (L' := [pt J (.cells #[.pointer (some ⟨S, 0, none⟩), Nx (i.epoch), Nx (i.next), vs, vr, Nx (i.size), vd] 84), pt q2 (.cells #[.pointer (some ⟨J, 0, none⟩)] 43), pt q7 (.cells #[.pointer (some ⟨J, 1, none⟩)] 94), pt q8 (.cells #[.slice pb (fb).length cb] 30), row (.slice pb (fb).length cb) 5 1 ((fb).length) (BX fb), storeR S (wrS k i.epoch i.size fb)]) (by exact ((((((perm_front 0 rfl).trans (perm_front 5 rfl)).trans (perm_front 5 rfl)).trans (perm_front 5 rfl)).trans (perm_front 5 rfl)).trans (perm_front 5 rfl))))⟩
set_option maxHeartbeats 4000000 in
theorem open1_ok (β : Base) (w : World) (J S q6 q1 q4 : Nat) (k : KS) (i : KI) (vs vr vd : Value) (hk : k.fits 524288) (hw : St β [pt J (.cells #[.pointer (some ⟨S, 0, none⟩), Nx (i.epoch), Nx (i.next), vs, vr, Nx (i.size), vd] 84), pt q6 (.cells #[.pointer (some ⟨J, 0, none⟩)] 43), pt q1 (.cells #[.pointer (some ⟨S, 0, none⟩)] 24), pt q4 (.cells #[Nx (i.epoch), Nx (i.next), vs, vr, Nx (i.size)] 36), storeR S k] w) : Calls Try.prog 73 #[.pointer (some ⟨q6, 0, none⟩), .pointer (some ⟨q1, 0, none⟩), .pointer (some ⟨q4, 0, none⟩)] w fun r w' => (r = .panicked chP ∧ ¬ cutOk (k.area i.epoch) k.power i.size ∧ St β [pt J (.cells #[.pointer (some ⟨S, 0, none⟩), Nx (i.epoch), Nx (i.next), vs, vr, Nx (i.size), vd] 84), pt q6 (.cells #[.pointer (some ⟨J, 0, none⟩)] 43), pt q1 (.cells #[.pointer (some ⟨S, 0, none⟩)] 24), pt q4 (.cells #[Nx (i.epoch), Nx (i.next), vs, vr, Nx (i.size)] 36), storeR S k] w') ∨ (r = .returned (.tuple #[]) ∧ cutOk (k.area i.epoch) k.power i.size ∧ St β [pt J (.cells #[.pointer (some ⟨S, 0, none⟩), Nx (i.epoch), Nx (i.next), vs, vr, Nx (i.size), vd] 84), pt q6 (.cells #[.pointer (some ⟨J, 0, none⟩)] 43), pt q1 (.cells #[.pointer (some ⟨S, 0, none⟩)] 24), pt q4 (.cells #[Nx (i.epoch), Nx (i.next), vs, vr, Nx (i.size)] 36), storeR S (cutS k i.epoch i.size)] w') := by
 refine enter (n := 13) Try.func73 rfl Try.ntmps73 rfl ?_ hw
 rcases Nat.mod_two_eq_zero_or_one i.epoch with hpar | hpar
 ·
  refine c_any_end 9 rfl rfl [⟨[], [], [0], [3], fun f => f 3 = .pointer (some ⟨J, 0, none⟩)⟩, ⟨[], [], [1], [4], fun f => f 4 = .pointer (some ⟨S, 0, none⟩)⟩, ⟨[1], [1], [], [5], fun f => f 5 = .agg #[.pointer (some ⟨S, 1, none⟩), .pointer (some ⟨S, 2, none⟩)]⟩, ⟨[], [], [2], [6], fun f => f 6 = .pointer (some ⟨q4, 0, none⟩)⟩, ⟨[3], [3], [], [7], fun f => f 7 = Nx (i.epoch)⟩, ⟨[3, 4], [4], [], [8], fun f => f 8 = .int .i64 (0)⟩, ⟨[1, 2, 3, 4, 5], [2, 5], [], [9], fun f => f 9 = .pointer (some ⟨S, 1, none⟩)⟩, ⟨[], [], [2], [10], fun f => f 10 = .pointer (some ⟨q4, 4, none⟩)⟩, ⟨[7], [7], [], [11], fun f => f 11 = Nx (i.size)⟩, ⟨[0, 1, 2, 3, 4, 5, 6, 7, 8], [], [], [], fun _ => True⟩] [⟨none, none, [], [], fun _ => pt J (.cells #[.pointer (some ⟨S, 0, none⟩), Nx (i.epoch), Nx (i.next), vs, vr, Nx (i.size), vd] 84)⟩, ⟨none, none, [0], [], fun _ => pt q6 (.cells #[.pointer (some ⟨J, 0, none⟩)] 43)⟩, ⟨none, none, [1], [], fun _ => pt q1 (.cells #[.pointer (some ⟨S, 0, none⟩)] 24)⟩, ⟨none, none, [4, 8], [], fun _ => pt q4 (.cells #[Nx (i.epoch), Nx (i.next), vs, vr, Nx (i.size)] 36)⟩, ⟨none, none, [], [], fun _ => storeR S k⟩] [(0, .pointer (some ⟨q6, 0, none⟩)), (1, .pointer (some ⟨q1, 0, none⟩)), (2, .pointer (some ⟨q4, 0, none⟩))] [] [] (by kernel_rfl) (by kernel_rfl) (by kernel_rfl) (by kernel_rfl) (by kernel_rfl) (by kernel_rfl) rfl ⟨rfl, rfl, rfl, trivial⟩ ⟨?_, ?_, ?_, ?_, ?_, ?_, ?_, ?_, ?_, trivial⟩ ?_
  ·rintro f M - ⟨i0, -⟩
   have hs0 : f 0 = .pointer (some ⟨q6, 0, none⟩) := i0
   refine ob_start (L' := pt q6 (.cells #[.pointer (some ⟨J, 0, none⟩)] 43) :: M) (by rfl) (up_cons rfl hs0) ?_
   refine l_val (v := .pointer (some ⟨J, 0, none⟩)) rfl rfl rfl (e_load1 tf43 (v := .pointer (some ⟨J, 0, none⟩)) rfl (k_pt 0 (cs := #[.pointer (some ⟨J, 0, none⟩)]) (vs := [.pointer (some ⟨J, 0, none⟩)]) rfl rfl)) ?_
   refine l_nil ?_
   exact f_owes_d (up_cons rfl hs0) rfl (perm_front 0 rfl)
  ·rintro f M - ⟨i0, -⟩
   have hs1 : f 1 = .pointer (some ⟨q1, 0, none⟩) := i0
   refine ob_start (L' := pt q1 (.cells #[.pointer (some ⟨S, 0, none⟩)] 24) :: M) (by rfl) (up_cons rfl hs1) ?_
   refine l_val (v := .pointer (some ⟨S, 0, none⟩)) rfl rfl rfl (e_load1 tf31 (v := .pointer (some ⟨S, 0, none⟩)) rfl (k_pt 0 (cs := #[.pointer (some ⟨S, 0, none⟩)]) (vs := [.pointer (some ⟨S, 0, none⟩)]) rfl rfl)) ?_
   refine l_nil ?_
   exact f_owes_d (up_cons rfl hs1) rfl (perm_front 0 rfl)
  ·rintro f M ⟨k0, -⟩ -
   have hs4 : f 4 = .pointer (some ⟨S, 0, none⟩) := k0
   refine ob_start (L' := M) (by rfl) (up_cons rfl hs4) ?_
   refine l_call rfl rfl rfl (cl_value (fst := []) (cap := []) (vs := [.pointer (some ⟨S, 0, none⟩)]) (all := [.pointer (some ⟨S, 0, none⟩)]) tf46 rfl rfl rfl) ?_
   intro w hw
   obtain ⟨β1, sb, kn, hw1, back⟩ := St.frame_all hw
   refine (areas_ok β1 w hw1 S).mono ?_
   rintro e w' ⟨rfl, hw'⟩
   refine ⟨_, rfl, _, back _ _ hw', ?_⟩
   clear hw hw1 hw' back kn sb
   refine l_nil ?_
   exact f_owes_d (up_cons rfl hs4) rfl (List.Perm.refl _)
  ·rintro f M - ⟨i0, -⟩
   have hs2 : f 2 = .pointer (some ⟨q4, 0, none⟩) := i0
   refine ob_start (L' := M) (by rfl) (up_cons rfl hs2) ?_
   refine l_val (v := .pointer (some ⟨q4, 0, none⟩)) rfl rfl rfl (e_fieldPt (b := q4) (o := 0) rfl tf48) ?_
   refine l_nil ?_
   exact f_owes_d (up_cons rfl hs2) rfl (List.Perm.refl _)
  ·rintro f M ⟨k0, -⟩ -
   have hs6 : f 6 = .pointer (some ⟨q4, 0, none⟩) := k0
   refine ob_start (L' := pt q4 (.cells #[Nx (i.epoch), Nx (i.next), vs, vr, Nx (i.size)] 36) :: M) (by rfl) (up_cons rfl hs6) ?_
   refine l_val (v := Nx (i.epoch)) rfl rfl rfl (e_load1 tf25 (v := Nx (i.epoch)) rfl (k_pt 0 (cs := #[Nx (i.epoch), Nx (i.next), vs, vr, Nx (i.size)]) (vs := [Nx (i.epoch)]) rfl rfl)) ?_
   refine l_nil ?_
   exact f_owes_d (up_cons rfl hs6) rfl (perm_front 0 rfl)
  ·rintro f M ⟨k0, -⟩ -
   have hs7 : f 7 = Nx (i.epoch) := k0
   refine ob_start (L' := M) (by rfl) (up_cons rfl hs7) ?_
   refine l_val (v := .int .i64 (0)) rfl rfl rfl (ev_eq (by rw [hpar]; rfl) (e_rem (a := ((i.epoch : Nat) : Int)) (b := (2 : Int)) rfl rfl (by decide) (nat_tmod _ 2))) ?_
   refine l_nil ?_
   exact f_owes_d (up_cons rfl hs7) rfl (List.Perm.refl _)
  ·rintro f M ⟨k0, k1, -⟩ -
   have hs5 : f 5 = .agg #[.pointer (some ⟨S, 1, none⟩), .pointer (some ⟨S, 2, none⟩)] := k0
   have hs8 : f 8 = .int .i64 (0) := k1
   refine ob_start (L' := M) (by rfl) (up_cons (up_cons rfl hs5) hs8) ?_
   refine l_val (v := .pointer (some ⟨S, 1, none⟩)) rfl rfl rfl (e_index_a (cs := #[.pointer (some ⟨S, 1, none⟩), .pointer (some ⟨S, 2, none⟩)]) (k := 0) rfl rfl tf28 rfl (by decide) tf49) ?_
   refine l_nil ?_
   exact f_owes_d (up_cons (up_cons rfl hs5) hs8) rfl (List.Perm.refl _)
  ·rintro f M - ⟨i0, -⟩
   have hs2 : f 2 = .pointer (some ⟨q4, 0, none⟩) := i0
   refine ob_start (L' := M) (by rfl) (up_cons rfl hs2) ?_
   refine l_val (v := .pointer (some ⟨q4, 4, none⟩)) rfl rfl rfl (e_fieldPt (b := q4) (o := 0) rfl tf50) ?_
   refine l_nil ?_
   exact f_owes_d (up_cons rfl hs2) rfl (List.Perm.refl _)
  ·rintro f M ⟨k0, -⟩ -
   have hs10 : f 10 = .pointer (some ⟨q4, 4, none⟩) := k0
   refine ob_start (L' := pt q4 (.cells #[Nx (i.epoch), Nx (i.next), vs, vr, Nx (i.size)] 36) :: M) (by rfl) (up_cons rfl hs10) ?_
   refine l_val (v := Nx (i.size)) rfl rfl rfl (e_load1 tf25 (v := Nx (i.size)) rfl (k_pt 0 (cs := #[Nx (i.epoch), Nx (i.next), vs, vr, Nx (i.size)]) (vs := [Nx (i.size)]) rfl rfl)) ?_
   refine l_nil ?_
   exact f_owes_d (up_cons rfl hs10) rfl (perm_front 0 rfl)
  rintro fa1 ⟨k0, -, -, -, -, -, k6, -, k8, -⟩ -
  refine l_re (L' := [pt J (.cells #[.pointer (some ⟨S, 0, none⟩), Nx (i.epoch), Nx (i.next), vs, vr, Nx (i.size), vd] 84), pt q6 (.cells #[.pointer (some ⟨J, 0, none⟩)] 43), pt q1 (.cells #[.pointer (some ⟨S, 0, none⟩)] 24), pt q4 (.cells #[Nx (i.epoch), Nx (i.next), vs, vr, Nx (i.size)] 36), storeR S k]) (by rfl) ?_
  refine l_rebase (d := 3) (v := .pointer (some ⟨J, 0, none⟩)) k0 ?_
  refine l_rebase (d := 9) (v := .pointer (some ⟨S, 1, none⟩)) k6 ?_
  refine l_rebase (d := 11) (v := Nx (i.size)) k8 ?_
  refine l_callP rfl rfl rfl (cl_value (fst := []) (cap := []) (vs := [.pointer (some ⟨J, 0, none⟩), .pointer (some ⟨S, 1, none⟩), Nx (i.size)]) (all := [.pointer (some ⟨J, 0, none⟩), .pointer (some ⟨S, 1, none⟩), Nx (i.size)]) tf52 rfl rfl rfl) ?_
  intro w hw
  replace hw := hw.perm (L' := _ :: _ :: _ :: _ :: _ :: []) (by exact (((((perm_front 3 rfl).trans (perm_front 3 rfl)).trans (perm_front 3 rfl)).trans (perm_front 3 rfl)).trans (perm_front 4 rfl)))
  obtain ⟨β1, sb, kn, hw1, back⟩ := St.frame (L := [_]) (M := _ :: _ :: _ :: _ :: []) hw
  refine (cutS0_ok β1 w i.epoch hpar J S (kn _ (k_pt 0 (cs := #[.pointer (some ⟨S, 0, none⟩), Nx (i.epoch), Nx (i.next), vs, vr, Nx (i.size), vd]) (vs := [.pointer (some ⟨S, 0, none⟩)]) rfl rfl)) k (hk.le (by omega)) i.size hw1).mono ?_
  rintro e w' (⟨rfl, ok2, hw'⟩ | ⟨rfl, ok2, hw'⟩)
  ·
   refine .inl ⟨_, rfl, _, back _ _ hw', ?_⟩
   clear hw hw1 hw' back kn sb
   refine panR ?_
   intro w hw
   exact .inl ⟨rfl, ok2, st_mask [true, true, true, true, true] rfl (hw.perm (L' := [pt J (.cells #[.pointer (some ⟨S, 0, none⟩), Nx (i.epoch), Nx (i.next), vs, vr, Nx (i.size), vd] 84), pt q6 (.cells #[.pointer (some ⟨J, 0, none⟩)] 43), pt q1 (.cells #[.pointer (some ⟨S, 0, none⟩)] 24), pt q4 (.cells #[Nx (i.epoch), Nx (i.next), vs, vr, Nx (i.size)] 36), storeR S k]) (by exact (((((perm_front 0 rfl).trans (perm_front 4 rfl)).trans (perm_front 4 rfl)).trans (perm_front 4 rfl)).trans (perm_front 4 rfl))))⟩
  refine .inr ⟨_, rfl, _, back _ _ hw', ?_⟩
  clear hw hw1 hw' back kn sb
  refine l_nil ?_
  refine end0 Try.results73 ?_
  intro w hw
  exact .inr ⟨rfl, ok2, st_mask [true, true, true, true, true] rfl (hw.perm (L' := [pt J (.cells #[.pointer (some ⟨S, 0, none⟩), Nx (i.epoch), Nx (i.next), vs, vr, Nx (i.size), vd] 84), pt q6 (.cells #[.pointer (some ⟨J, 0, none⟩)] 43), pt q1 (.cells #[.pointer (some ⟨S, 0, none⟩)] 24), pt q4 (.cells #[Nx (i.epoch), Nx (i.next), vs, vr, Nx (i.size)] 36), storeR S (cutS k i.epoch i.size)]) (by exact (((((perm_front 0 rfl).trans (perm_front 4 rfl)).trans (perm_front 4 rfl)).trans (perm_front 4 rfl)).trans (perm_front 4 rfl))))⟩
 ·
  refine c_any_end 9 rfl rfl [⟨[], [], [0], [3], fun f => f 3 = .pointer (some ⟨J, 0, none⟩)⟩, ⟨[], [], [1], [4], fun f => f 4 = .pointer (some ⟨S, 0, none⟩)⟩, ⟨[1], [1], [], [5], fun f => f 5 = .agg #[.pointer (some ⟨S, 1, none⟩), .pointer (some ⟨S, 2, none⟩)]⟩, ⟨[], [], [2], [6], fun f => f 6 = .pointer (some ⟨q4, 0, none⟩)⟩, ⟨[3], [3], [], [7], fun f => f 7 = Nx (i.epoch)⟩, ⟨[3, 4], [4], [], [8], fun f => f 8 = .int .i64 (1)⟩, ⟨[1, 2, 3, 4, 5], [2, 5], [], [9], fun f => f 9 = .pointer (some ⟨S, 2, none⟩)⟩, ⟨[], [], [2], [10], fun f => f 10 = .pointer (some ⟨q4, 4, none⟩)⟩, ⟨[7], [7], [], [11], fun f => f 11 = Nx (i.size)⟩, ⟨[0, 1, 2, 3, 4, 5, 6, 7, 8], [], [], [], fun _ => True⟩] [⟨none, none, [], [], fun _ => pt J (.cells #[.pointer (some ⟨S, 0, none⟩), Nx (i.epoch), Nx (i.next), vs, vr, Nx (i.size), vd] 84)⟩, ⟨none, none, [0], [], fun _ => pt q6 (.cells #[.pointer (some ⟨J, 0, none⟩)] 43)⟩, ⟨none, none, [1], [], fun _ => pt q1 (.cells #[.pointer (some ⟨S, 0, none⟩)] 24)⟩, ⟨none, none, [4, 8], [], fun _ => pt q4 (.cells #[Nx (i.epoch), Nx (i.next), vs, vr, Nx (i.size)] 36)⟩, ⟨none, none, [], [], fun _ => storeR S k⟩] [(0, .pointer (some ⟨q6, 0, none⟩)), (1, .pointer (some ⟨q1, 0, none⟩)), (2, .pointer (some ⟨q4, 0, none⟩))] [] [] (by kernel_rfl) (by kernel_rfl) (by kernel_rfl) (by kernel_rfl) (by kernel_rfl) (by kernel_rfl) rfl ⟨rfl, rfl, rfl, trivial⟩ ⟨?_, ?_, ?_, ?_, ?_, ?_, ?_, ?_, ?_, trivial⟩ ?_
  ·rintro f M - ⟨i0, -⟩
   have hs0 : f 0 = .pointer (some ⟨q6, 0, none⟩) := i0
   refine ob_start (L' := pt q6 (.cells #[.pointer (some ⟨J, 0, none⟩)] 43) :: M) (by rfl) (up_cons rfl hs0) ?_
   refine l_val (v := .pointer (some ⟨J, 0, none⟩)) rfl rfl rfl (e_load1 tf43 (v := .pointer (some ⟨J, 0, none⟩)) rfl (k_pt 0 (cs := #[.pointer (some ⟨J, 0, none⟩)]) (vs := [.pointer (some ⟨J, 0, none⟩)]) rfl rfl)) ?_
   refine l_nil ?_
   exact f_owes_d (up_cons rfl hs0) rfl (perm_front 0 rfl)
  ·rintro f M - ⟨i0, -⟩
   have hs1 : f 1 = .pointer (some ⟨q1, 0, none⟩) := i0
   refine ob_start (L' := pt q1 (.cells #[.pointer (some ⟨S, 0, none⟩)] 24) :: M) (by rfl) (up_cons rfl hs1) ?_
   refine l_val (v := .pointer (some ⟨S, 0, none⟩)) rfl rfl rfl (e_load1 tf31 (v := .pointer (some ⟨S, 0, none⟩)) rfl (k_pt 0 (cs := #[.pointer (some ⟨S, 0, none⟩)]) (vs := [.pointer (some ⟨S, 0, none⟩)]) rfl rfl)) ?_
   refine l_nil ?_
   exact f_owes_d (up_cons rfl hs1) rfl (perm_front 0 rfl)
  ·rintro f M ⟨k0, -⟩ -
   have hs4 : f 4 = .pointer (some ⟨S, 0, none⟩) := k0
   refine ob_start (L' := M) (by rfl) (up_cons rfl hs4) ?_
   refine l_call rfl rfl rfl (cl_value (fst := []) (cap := []) (vs := [.pointer (some ⟨S, 0, none⟩)]) (all := [.pointer (some ⟨S, 0, none⟩)]) tf46 rfl rfl rfl) ?_
   intro w hw
   obtain ⟨β1, sb, kn, hw1, back⟩ := St.frame_all hw
   refine (areas_ok β1 w hw1 S).mono ?_
   rintro e w' ⟨rfl, hw'⟩
   refine ⟨_, rfl, _, back _ _ hw', ?_⟩
   clear hw hw1 hw' back kn sb
   refine l_nil ?_
   exact f_owes_d (up_cons rfl hs4) rfl (List.Perm.refl _)
  ·rintro f M - ⟨i0, -⟩
   have hs2 : f 2 = .pointer (some ⟨q4, 0, none⟩) := i0
   refine ob_start (L' := M) (by rfl) (up_cons rfl hs2) ?_
   refine l_val (v := .pointer (some ⟨q4, 0, none⟩)) rfl rfl rfl (e_fieldPt (b := q4) (o := 0) rfl tf48) ?_
   refine l_nil ?_
   exact f_owes_d (up_cons rfl hs2) rfl (List.Perm.refl _)
  ·rintro f M ⟨k0, -⟩ -
   have hs6 : f 6 = .pointer (some ⟨q4, 0, none⟩) := k0
   refine ob_start (L' := pt q4 (.cells #[Nx (i.epoch), Nx (i.next), vs, vr, Nx (i.size)] 36) :: M) (by rfl) (up_cons rfl hs6) ?_
   refine l_val (v := Nx (i.epoch)) rfl rfl rfl (e_load1 tf25 (v := Nx (i.epoch)) rfl (k_pt 0 (cs := #[Nx (i.epoch), Nx (i.next), vs, vr, Nx (i.size)]) (vs := [Nx (i.epoch)]) rfl rfl)) ?_
   refine l_nil ?_
   exact f_owes_d (up_cons rfl hs6) rfl (perm_front 0 rfl)
  ·rintro f M ⟨k0, -⟩ -
   have hs7 : f 7 = Nx (i.epoch) := k0
   refine ob_start (L' := M) (by rfl) (up_cons rfl hs7) ?_
   refine l_val (v := .int .i64 (1)) rfl rfl rfl (ev_eq (by rw [hpar]; rfl) (e_rem (a := ((i.epoch : Nat) : Int)) (b := (2 : Int)) rfl rfl (by decide) (nat_tmod _ 2))) ?_
   refine l_nil ?_
   exact f_owes_d (up_cons rfl hs7) rfl (List.Perm.refl _)
  ·rintro f M ⟨k0, k1, -⟩ -
   have hs5 : f 5 = .agg #[.pointer (some ⟨S, 1, none⟩), .pointer (some ⟨S, 2, none⟩)] := k0
   have hs8 : f 8 = .int .i64 (1) := k1
   refine ob_start (L' := M) (by rfl) (up_cons (up_cons rfl hs5) hs8) ?_
   refine l_val (v := .pointer (some ⟨S, 2, none⟩)) rfl rfl rfl (e_index_a (cs := #[.pointer (some ⟨S, 1, none⟩), .pointer (some ⟨S, 2, none⟩)]) (k := 1) rfl rfl tf28 rfl (by decide) tf49) ?_
   refine l_nil ?_
   exact f_owes_d (up_cons (up_cons rfl hs5) hs8) rfl (List.Perm.refl _)
  ·rintro f M - ⟨i0, -⟩
   have hs2 : f 2 = .pointer (some ⟨q4, 0, none⟩) := i0
   refine ob_start (L' := M) (by rfl) (up_cons rfl hs2) ?_
   refine l_val (v := .pointer (some ⟨q4, 4, none⟩)) rfl rfl rfl (e_fieldPt (b := q4) (o := 0) rfl tf50) ?_
   refine l_nil ?_
   exact f_owes_d (up_cons rfl hs2) rfl (List.Perm.refl _)
  ·rintro f M ⟨k0, -⟩ -
   have hs10 : f 10 = .pointer (some ⟨q4, 4, none⟩) := k0
   refine ob_start (L' := pt q4 (.cells #[Nx (i.epoch), Nx (i.next), vs, vr, Nx (i.size)] 36) :: M) (by rfl) (up_cons rfl hs10) ?_
   refine l_val (v := Nx (i.size)) rfl rfl rfl (e_load1 tf25 (v := Nx (i.size)) rfl (k_pt 0 (cs := #[Nx (i.epoch), Nx (i.next), vs, vr, Nx (i.size)]) (vs := [Nx (i.size)]) rfl rfl)) ?_
   refine l_nil ?_
   exact f_owes_d (up_cons rfl hs10) rfl (perm_front 0 rfl)
  rintro fa3 ⟨k0, -, -, -, -, -, k6, -, k8, -⟩ -
  refine l_re (L' := [pt J (.cells #[.pointer (some ⟨S, 0, none⟩), Nx (i.epoch), Nx (i.next), vs, vr, Nx (i.size), vd] 84), pt q6 (.cells #[.pointer (some ⟨J, 0, none⟩)] 43), pt q1 (.cells #[.pointer (some ⟨S, 0, none⟩)] 24), pt q4 (.cells #[Nx (i.epoch), Nx (i.next), vs, vr, Nx (i.size)] 36), storeR S k]) (by rfl) ?_
  refine l_rebase (d := 3) (v := .pointer (some ⟨J, 0, none⟩)) k0 ?_
  refine l_rebase (d := 9) (v := .pointer (some ⟨S, 2, none⟩)) k6 ?_
  refine l_rebase (d := 11) (v := Nx (i.size)) k8 ?_
  refine l_callP rfl rfl rfl (cl_value (fst := []) (cap := []) (vs := [.pointer (some ⟨J, 0, none⟩), .pointer (some ⟨S, 2, none⟩), Nx (i.size)]) (all := [.pointer (some ⟨J, 0, none⟩), .pointer (some ⟨S, 2, none⟩), Nx (i.size)]) tf52 rfl rfl rfl) ?_
  intro w hw
  replace hw := hw.perm (L' := _ :: _ :: _ :: _ :: _ :: []) (by exact (((((perm_front 3 rfl).trans (perm_front 3 rfl)).trans (perm_front 3 rfl)).trans (perm_front 3 rfl)).trans (perm_front 4 rfl)))
  obtain ⟨β1, sb, kn, hw1, back⟩ := St.frame (L := [_]) (M := _ :: _ :: _ :: _ :: []) hw
  refine (cutS1_ok β1 w i.epoch hpar J S (kn _ (k_pt 0 (cs := #[.pointer (some ⟨S, 0, none⟩), Nx (i.epoch), Nx (i.next), vs, vr, Nx (i.size), vd]) (vs := [.pointer (some ⟨S, 0, none⟩)]) rfl rfl)) k (hk.le (by omega)) i.size hw1).mono ?_
  rintro e w' (⟨rfl, ok4, hw'⟩ | ⟨rfl, ok4, hw'⟩)
  ·
   refine .inl ⟨_, rfl, _, back _ _ hw', ?_⟩
   clear hw hw1 hw' back kn sb
   refine panR ?_
   intro w hw
   exact .inl ⟨rfl, ok4, st_mask [true, true, true, true, true] rfl (hw.perm (L' := [pt J (.cells #[.pointer (some ⟨S, 0, none⟩), Nx (i.epoch), Nx (i.next), vs, vr, Nx (i.size), vd] 84), pt q6 (.cells #[.pointer (some ⟨J, 0, none⟩)] 43), pt q1 (.cells #[.pointer (some ⟨S, 0, none⟩)] 24), pt q4 (.cells #[Nx (i.epoch), Nx (i.next), vs, vr, Nx (i.size)] 36), storeR S k]) (by exact (((((perm_front 0 rfl).trans (perm_front 4 rfl)).trans (perm_front 4 rfl)).trans (perm_front 4 rfl)).trans (perm_front 4 rfl))))⟩
  refine .inr ⟨_, rfl, _, back _ _ hw', ?_⟩
  clear hw hw1 hw' back kn sb
  refine l_nil ?_
  refine end0 Try.results73 ?_
  intro w hw
  exact .inr ⟨rfl, ok4, st_mask [true, true, true, true, true] rfl (hw.perm (L' := [pt J (.cells #[.pointer (some ⟨S, 0, none⟩), Nx (i.epoch), Nx (i.next), vs, vr, Nx (i.size), vd] 84), pt q6 (.cells #[.pointer (some ⟨J, 0, none⟩)] 43), pt q1 (.cells #[.pointer (some ⟨S, 0, none⟩)] 24), pt q4 (.cells #[Nx (i.epoch), Nx (i.next), vs, vr, Nx (i.size)] 36), storeR S (cutS k i.epoch i.size)]) (by exact (((((perm_front 0 rfl).trans (perm_front 4 rfl)).trans (perm_front 4 rfl)).trans (perm_front 4 rfl)).trans (perm_front 4 rfl))))⟩
set_option maxHeartbeats 4000000 in
theorem check2_ok (β : Base) (w : World) (J S q2 q6 q3 sc e n : Nat) (sa : Option Addr) (k : KS) (i : KI) (vs vr vd ws wr_ wz : Value) (xs : Bs) (hl : xs.length ≤ sc) (hm : sc ≤ 9223372036854775807) (hx : Elems U8R β.heap sa xs) (hk : k.fits 524288) (hb : xs.length ≤ 65536) (hw : St β [pt J (.cells #[.pointer (some ⟨S, 0, none⟩), Nx (i.epoch), Nx (i.next), vs, vr, Nx (i.size), vd] 84), pt q2 (.cells #[.pointer (some ⟨J, 0, none⟩)] 43), pt q6 (.cells #[Nx (e), Nx (n), ws, wr_, wz] 36), pt q3 (.cells #[.slice sa (xs.length) (sc)] 30), storeR S k] w) : Calls Try.prog 55 #[.pointer (some ⟨q2, 0, none⟩), .pointer (some ⟨q6, 0, none⟩), .pointer (some ⟨q3, 0, none⟩)] w fun r w' => (r = .panicked chP ∧ ¬ ckOk k e n xs ∧ St β [pt J (.cells #[.pointer (some ⟨S, 0, none⟩), Nx (i.epoch), Nx (i.next), vs, vr, Nx (i.size), vd] 84), pt q2 (.cells #[.pointer (some ⟨J, 0, none⟩)] 43), pt q6 (.cells #[Nx (e), Nx (n), ws, wr_, wz] 36), pt q3 (.cells #[.slice sa (xs.length) (sc)] 30), storeR S (ckS k e n xs)] w') ∨ (r = .returned (.tuple #[]) ∧ ckOk k e n xs ∧ St β [pt J (.cells #[.pointer (some ⟨S, 0, none⟩), Nx (i.epoch), Nx (i.next), vs, vr, Nx (i.size), vd] 84), pt q2 (.cells #[.pointer (some ⟨J, 0, none⟩)] 43), pt q6 (.cells #[Nx (e), Nx (n), ws, wr_, wz] 36), pt q3 (.cells #[.slice sa (xs.length) (sc)] 30), storeR S (ckS k e n xs)] w') := by
 refine enter (n := 63) Try.func55 rfl Try.ntmps55 rfl ?_ hw
 refine c_seq ?_
 rcases Nat.mod_two_eq_zero_or_one e with hpar | hpar
 ·
  refine c_quiet (by kernel_rfl) (by kernel_rfl) ?_
  refine q_val (v := .pointer (some ⟨J, 0, none⟩)) rfl rfl rfl (e_load1 tf43 (v := .pointer (some ⟨J, 0, none⟩)) rfl (k_pt 1 (cs := #[.pointer (some ⟨J, 0, none⟩)]) (vs := [.pointer (some ⟨J, 0, none⟩)]) rfl rfl)) ?_
  refine q_val (v := .pointer (some ⟨J, 0, none⟩)) rfl rfl rfl (e_nil (a := ⟨J, 0, none⟩) rfl) ?_
  refine q_val (v := .pointer (some ⟨J, 0, none⟩)) rfl rfl rfl (e_fieldPt (b := J) (o := 0) rfl tf30) ?_
  refine q_val (v := .pointer (some ⟨S, 0, none⟩)) rfl rfl rfl (e_load1 tf31 (v := .pointer (some ⟨S, 0, none⟩)) rfl (k_pt 0 (cs := #[.pointer (some ⟨S, 0, none⟩), Nx (i.epoch), Nx (i.next), vs, vr, Nx (i.size), vd]) (vs := [.pointer (some ⟨S, 0, none⟩)]) rfl rfl)) ?_
  refine q_call (v := .agg #[.pointer (some ⟨S, 1, none⟩), .pointer (some ⟨S, 2, none⟩)]) rfl rfl rfl (cl_value (fst := []) (cap := []) (vs := [.pointer (some ⟨S, 0, none⟩)]) (all := [.pointer (some ⟨S, 0, none⟩)]) tf46 rfl rfl rfl) (fun w hw => ?_) ?_
  ·obtain ⟨β1, sb, kn, hw1, back⟩ := St.frame_all hw
   exact (areas_ok β1 w hw1 S).mono (fun e w' ⟨he, hw'⟩ => ⟨he, st_mask [true, true, true, true, true] rfl (back _ _ hw')⟩)
  refine q_val (v := .pointer (some ⟨q6, 0, none⟩)) rfl rfl rfl (e_fieldPt (b := q6) (o := 0) rfl tf48) ?_
  refine q_val (v := Nx (e)) rfl rfl rfl (e_load1 tf25 (v := Nx (e)) rfl (k_pt 2 (cs := #[Nx (e), Nx (n), ws, wr_, wz]) (vs := [Nx (e)]) rfl rfl)) ?_
  refine q_val (v := .int .i64 (0)) rfl rfl rfl (ev_eq (by rw [hpar]; rfl) (e_rem (a := ((e : Nat) : Int)) (b := (2 : Int)) rfl rfl (by decide) (nat_tmod _ 2))) ?_
  refine q_val (v := .pointer (some ⟨S, 1, none⟩)) rfl rfl rfl (e_index_a (cs := #[.pointer (some ⟨S, 1, none⟩), .pointer (some ⟨S, 2, none⟩)]) (k := 0) rfl rfl tf28 rfl (by decide) tf49) ?_
  refine q_val (v := .pointer (some ⟨S, 1, none⟩)) rfl rfl rfl (e_assign) ?_
  refine q_nil ?_
  refine f_then ?_
  refine c_seq ?_
  refine c_region ?_
  refine l_val (v := .pointer (some ⟨J, 0, none⟩)) rfl rfl rfl (e_load1 tf43 (v := .pointer (some ⟨J, 0, none⟩)) rfl (k_pt 1 (cs := #[.pointer (some ⟨J, 0, none⟩)]) (vs := [.pointer (some ⟨J, 0, none⟩)]) rfl rfl)) ?_
  refine l_val (v := .pointer (some ⟨S, 1, none⟩)) rfl rfl rfl (e_move) ?_
  refine l_callP rfl rfl rfl (cl_value (fst := []) (cap := []) (vs := [.pointer (some ⟨J, 0, none⟩), .pointer (some ⟨S, 1, none⟩), .int .i64 (0)]) (all := [.pointer (some ⟨J, 0, none⟩), .pointer (some ⟨S, 1, none⟩), .int .i64 (0)]) tf52 rfl rfl rfl) ?_
  intro w hw
  replace hw := hw.perm (L' := _ :: _ :: _ :: _ :: _ :: []) (by exact (((((perm_front 3 rfl).trans (perm_front 3 rfl)).trans (perm_front 3 rfl)).trans (perm_front 3 rfl)).trans (perm_front 4 rfl)))
  obtain ⟨β1, sb, kn, hw1, back⟩ := St.frame (L := [_]) (M := _ :: _ :: _ :: _ :: []) hw
  refine (cutS0_ok β1 w e hpar J S (kn _ (k_pt 0 (cs := #[.pointer (some ⟨S, 0, none⟩), Nx (i.epoch), Nx (i.next), vs, vr, Nx (i.size), vd]) (vs := [.pointer (some ⟨S, 0, none⟩)]) rfl rfl)) k (hk.le (by omega)) 0 hw1).mono ?_
  rintro e w' (⟨rfl, ok1, hw'⟩ | ⟨rfl, ok1, hw'⟩)
  ·
   refine .inl ⟨_, rfl, _, back _ _ hw', ?_⟩
   clear hw hw1 hw' back kn sb
   refine f_then_panic ?_
   refine panR ?_
   intro w hw
   refine .inl ⟨rfl, fun h => ok1 h.1, ?_⟩
   rw [ckS, if_neg (show ¬ ckOk1 k e from ok1)]
   exact st_mask [true, true, true, true, true] rfl (hw.perm (L' := [pt J (.cells #[.pointer (some ⟨S, 0, none⟩), Nx (i.epoch), Nx (i.next), vs, vr, Nx (i.size), vd] 84), pt q2 (.cells #[.pointer (some ⟨J, 0, none⟩)] 43), pt q6 (.cells #[Nx (e), Nx (n), ws, wr_, wz] 36), pt q3 (.cells #[.slice sa (xs.length) (sc)] 30), storeR S k]) (by exact (((((perm_front 0 rfl).trans (perm_front 4 rfl)).trans (perm_front 4 rfl)).trans (perm_front 4 rfl)).trans (perm_front 4 rfl))))
  refine .inr ⟨_, rfl, _, back _ _ hw', ?_⟩
  clear hw hw1 hw' back kn sb
  refine l_nil ?_
  refine f_then ?_
  refine c_seq ?_
  have ok1 : ckOk1 k e := ok1
  have hf1 : (ck1 k e).fits 524288 := hk.cut
  refine c_re (L' := [storeR S (ck1 k e), pt J (.cells #[.pointer (some ⟨S, 0, none⟩), Nx (i.epoch), Nx (i.next), vs, vr, Nx (i.size), vd] 84), pt q2 (.cells #[.pointer (some ⟨J, 0, none⟩)] 43), pt q6 (.cells #[Nx (e), Nx (n), ws, wr_, wz] 36), pt q3 (.cells #[.slice sa (xs.length) (sc)] 30)]) (by rfl) ?_
  refine c_any_end 8 rfl rfl [⟨[], [], [0], [17], fun f => f 17 = .pointer (some ⟨J, 0, none⟩)⟩, ⟨[], [], [1], [18], fun f => f 18 = .pointer (some ⟨S, 1, none⟩)⟩, ⟨[], [], [2], [19], fun f => f 19 = .pointer (some ⟨q6, 0, none⟩)⟩, ⟨[2], [2], [], [20], fun f => f 20 = Nx (e)⟩, ⟨[], [], [2], [21], fun f => f 21 = .pointer (some ⟨q6, 1, none⟩)⟩, ⟨[4], [4], [], [22], fun f => f 22 = Nx (n)⟩, ⟨[], [], [3], [23], fun f => f 23 = .slice sa (xs.length) (sc)⟩, ⟨[2, 3, 4, 5, 6], [3, 5, 6], [], [24], fun f => f 24 = .slice (sla (f 24)) (formB ((e : Nat) : Int) ((n : Nat) : Int) xs).length (slc (f 24))⟩, ⟨[0, 1, 2, 3, 4, 5, 6, 7], [], [], [], fun _ => True⟩] [⟨none, none, [], [], fun _ => storeR S (ck1 k e)⟩, ⟨none, none, [], [], fun _ => pt J (.cells #[.pointer (some ⟨S, 0, none⟩), Nx (i.epoch), Nx (i.next), vs, vr, Nx (i.size), vd] 84)⟩, ⟨none, none, [0], [], fun _ => pt q2 (.cells #[.pointer (some ⟨J, 0, none⟩)] 43)⟩, ⟨none, none, [3, 5], [], fun _ => pt q6 (.cells #[Nx (e), Nx (n), ws, wr_, wz] 36)⟩, ⟨none, none, [6], [], fun _ => pt q3 (.cells #[.slice sa (xs.length) (sc)] 30)⟩, ⟨(some 7), none, [], [24], fun f => row (.slice (sla (f 24)) (formB ((e : Nat) : Int) ((n : Nat) : Int) xs).length (slc (f 24))) 5 1 ((formB ((e : Nat) : Int) ((n : Nat) : Int) xs).length) (BX (formB ((e : Nat) : Int) ((n : Nat) : Int) xs))⟩] [(0, .pointer (some ⟨q2, 0, none⟩)), (3, .pointer (some ⟨S, 1, none⟩)), (1, .pointer (some ⟨q6, 0, none⟩)), (2, .pointer (some ⟨q3, 0, none⟩))] [0, 2] [] (by kernel_rfl) (by kernel_rfl) (by kernel_rfl) (by kernel_rfl) (by kernel_rfl) (by kernel_rfl) rfl ⟨rfl, rfl, rfl, rfl, trivial⟩ ⟨?_, ?_, ?_, ?_, ?_, ?_, ?_, ?_, trivial⟩ ?_
  ·rintro f M - ⟨i0, -⟩
   have hs0 : f 0 = .pointer (some ⟨q2, 0, none⟩) := i0
   refine ob_start (L' := pt q2 (.cells #[.pointer (some ⟨J, 0, none⟩)] 43) :: M) (by rfl) (up_cons rfl hs0) ?_
   refine l_val (v := .pointer (some ⟨J, 0, none⟩)) rfl rfl rfl (e_load1 tf43 (v := .pointer (some ⟨J, 0, none⟩)) rfl (k_pt 0 (cs := #[.pointer (some ⟨J, 0, none⟩)]) (vs := [.pointer (some ⟨J, 0, none⟩)]) rfl rfl)) ?_
   refine l_nil ?_
   exact f_owes_d (up_cons rfl hs0) rfl (perm_front 0 rfl)
  ·rintro f M - ⟨i0, -⟩
   have hs3 : f 3 = .pointer (some ⟨S, 1, none⟩) := i0
   refine ob_start (L' := M) (by rfl) (up_cons rfl hs3) ?_
   refine l_val (v := .pointer (some ⟨S, 1, none⟩)) rfl rfl rfl (e_move) ?_
   refine l_nil ?_
   exact f_owes_d (up_cons rfl hs3) rfl (List.Perm.refl _)
  ·rintro f M - ⟨i0, -⟩
   have hs1 : f 1 = .pointer (some ⟨q6, 0, none⟩) := i0
   refine ob_start (L' := M) (by rfl) (up_cons rfl hs1) ?_
   refine l_val (v := .pointer (some ⟨q6, 0, none⟩)) rfl rfl rfl (e_fieldPt (b := q6) (o := 0) rfl tf48) ?_
   refine l_nil ?_
   exact f_owes_d (up_cons rfl hs1) rfl (List.Perm.refl _)
  ·rintro f M ⟨k0, -⟩ -
   have hs19 : f 19 = .pointer (some ⟨q6, 0, none⟩) := k0
   refine ob_start (L' := pt q6 (.cells #[Nx (e), Nx (n), ws, wr_, wz] 36) :: M) (by rfl) (up_cons rfl hs19) ?_
   refine l_val (v := Nx (e)) rfl rfl rfl (e_load1 tf25 (v := Nx (e)) rfl (k_pt 0 (cs := #[Nx (e), Nx (n), ws, wr_, wz]) (vs := [Nx (e)]) rfl rfl)) ?_
   refine l_nil ?_
   exact f_owes_d (up_cons rfl hs19) rfl (perm_front 0 rfl)
  ·rintro f M - ⟨i0, -⟩
   have hs1 : f 1 = .pointer (some ⟨q6, 0, none⟩) := i0
   refine ob_start (L' := M) (by rfl) (up_cons rfl hs1) ?_
   refine l_val (v := .pointer (some ⟨q6, 1, none⟩)) rfl rfl rfl (e_fieldPt (b := q6) (o := 0) rfl tf53) ?_
   refine l_nil ?_
   exact f_owes_d (up_cons rfl hs1) rfl (List.Perm.refl _)
  ·rintro f M ⟨k0, -⟩ -
   have hs21 : f 21 = .pointer (some ⟨q6, 1, none⟩) := k0
   refine ob_start (L' := pt q6 (.cells #[Nx (e), Nx (n), ws, wr_, wz] 36) :: M) (by rfl) (up_cons rfl hs21) ?_
   refine l_val (v := Nx (n)) rfl rfl rfl (e_load1 tf25 (v := Nx (n)) rfl (k_pt 0 (cs := #[Nx (e), Nx (n), ws, wr_, wz]) (vs := [Nx (n)]) rfl rfl)) ?_
   refine l_nil ?_
   exact f_owes_d (up_cons rfl hs21) rfl (perm_front 0 rfl)
  ·rintro f M - ⟨i0, -⟩
   have hs2 : f 2 = .pointer (some ⟨q3, 0, none⟩) := i0
   refine ob_start (L' := pt q3 (.cells #[.slice sa (xs.length) (sc)] 30) :: M) (by rfl) (up_cons rfl hs2) ?_
   refine l_val (v := .slice sa (xs.length) (sc)) rfl rfl rfl (e_load1 tf21 (v := .slice sa (xs.length) (sc)) rfl (k_pt 0 (cs := #[.slice sa (xs.length) (sc)]) (vs := [.slice sa (xs.length) (sc)]) rfl rfl)) ?_
   refine l_nil ?_
   exact f_owes_d (up_cons rfl hs2) rfl (perm_front 0 rfl)
  ·rintro f M ⟨k0, k1, k2, -⟩ -
   have hs20 : f 20 = Nx (e) := k0
   have hs22 : f 22 = Nx (n) := k1
   have hs23 : f 23 = .slice sa (xs.length) (sc) := k2
   refine ob_start (L' := M) (by rfl) (up_cons (up_cons (up_cons rfl hs20) hs22) hs23) ?_
   refine l_call rfl rfl rfl (cl_value (fst := []) (cap := []) (vs := [Nx (e), Nx (n), .slice sa (xs.length) (sc)]) (all := [Nx (e), Nx (n), .slice sa (xs.length) (sc)]) tf54 rfl rfl rfl) ?_
   intro w hw
   obtain ⟨β1, sb, kn, hw1, back⟩ := St.frame_all hw
   refine (form_ok β1 w hw1 ((e : Nat) : Int) ((n : Nat) : Int) xs _ (by omega) (Sl.mono _ _ _ _ _ sb (⟨⟨_, _, rfl, hl, hm, hx⟩⟩ : Sl U8R _ _ xs))).mono ?_
   rintro e w' ⟨p4, c5, rfl, hw'⟩
   refine ⟨_, rfl, _, back _ _ hw', ?_⟩
   clear hw hw1 hw' back kn sb
   refine l_nil ?_
   exact f_owes_d (up_cons (up_cons (up_cons rfl hs20) hs22) hs23) rfl (perm_front 0 rfl)
  rintro fa6 ⟨k0, k1, -, -, -, -, -, k7, -⟩ ⟨j0, j1, -⟩
  refine l_re (L' := [storeR S (ck1 k e), pt J (.cells #[.pointer (some ⟨S, 0, none⟩), Nx (i.epoch), Nx (i.next), vs, vr, Nx (i.size), vd] 84), pt q2 (.cells #[.pointer (some ⟨J, 0, none⟩)] 43), pt q6 (.cells #[Nx (e), Nx (n), ws, wr_, wz] 36), pt q3 (.cells #[.slice sa (xs.length) (sc)] 30), row (.slice (sla (fa6 24)) (formB ((e : Nat) : Int) ((n : Nat) : Int) xs).length (slc (fa6 24))) 5 1 ((formB ((e : Nat) : Int) ((n : Nat) : Int) xs).length) (BX (formB ((e : Nat) : Int) ((n : Nat) : Int) xs))]) (by rfl) ?_
  refine l_rebase (d := 0) (v := .pointer (some ⟨q2, 0, none⟩)) j0 ?_
  refine l_rebase (d := 1) (v := .pointer (some ⟨q6, 0, none⟩)) j1 ?_
  refine l_rebase (d := 17) (v := .pointer (some ⟨J, 0, none⟩)) k0 ?_
  refine l_rebase (d := 18) (v := .pointer (some ⟨S, 1, none⟩)) k1 ?_
  refine l_rebase (d := 24) (v := .slice (sla (fa6 24)) (formB ((e : Nat) : Int) ((n : Nat) : Int) xs).length (slc (fa6 24))) k7 ?_
  refine l_callP rfl rfl rfl (cl_value (fst := []) (cap := []) (vs := [.pointer (some ⟨J, 0, none⟩), .pointer (some ⟨S, 1, none⟩), .int .i64 (0), .slice (sla (fa6 24)) (formB ((e : Nat) : Int) ((n : Nat) : Int) xs).length (slc (fa6 24))]) (all := [.pointer (some ⟨J, 0, none⟩), .pointer (some ⟨S, 1, none⟩), .int .i64 (0), .slice (sla (fa6 24)) (formB ((e : Nat) : Int) ((n : Nat) : Int) xs).length (slc (fa6 24))]) tf51 rfl rfl rfl) ?_
  intro w hw
  replace hw := hw.perm (L' := _ :: _ :: _ :: _ :: _ :: _ :: []) (by exact ((((((perm_front 5 rfl).trans (perm_front 5 rfl)).trans (perm_front 5 rfl)).trans (perm_front 5 rfl)).trans (perm_front 5 rfl)).trans (perm_front 5 rfl)))
  obtain ⟨β1, sb, kn, hw1, back⟩ := St.frame (L := [_]) (M := _ :: _ :: _ :: _ :: _ :: []) hw
  have hfl := formB_length (e : Int) (n : Int) xs
  refine (writeS0_ok β1 w e hpar J S (kn _ (k_pt 0 (cs := #[.pointer (some ⟨S, 0, none⟩), Nx (i.epoch), Nx (i.next), vs, vr, Nx (i.size), vd]) (vs := [.pointer (some ⟨S, 0, none⟩)]) rfl rfl)) (ck1 k e) (hf1.le (by omega)) 0 (by omega) (formB ((e : Nat) : Int) ((n : Nat) : Int) xs) _ (by omega) (kn _ (Knows.of_res 4 rfl (Sl.mono U8R _ _) fun _ h => row_u8 h)) hw1).mono ?_
  rintro e w' (⟨rfl, ok7, hw'⟩ | ⟨rfl, ok7, hw'⟩)
  ·
   refine .inl ⟨_, rfl, _, back _ _ hw', ?_⟩
   clear hw hw1 hw' back kn sb
   refine f_then_panic ?_
   refine panR ?_
   intro w hw
   refine .inl ⟨rfl, fun h => ok7 h.2.1, ?_⟩
   rw [ckS, if_pos ok1, if_neg (show ¬ ckOk2 k e n xs from ok7)]
   exact st_mask [true, true, true, true, true, false] rfl (hw.perm (L' := [pt J (.cells #[.pointer (some ⟨S, 0, none⟩), Nx (i.epoch), Nx (i.next), vs, vr, Nx (i.size), vd] 84), pt q2 (.cells #[.pointer (some ⟨J, 0, none⟩)] 43), pt q6 (.cells #[Nx (e), Nx (n), ws, wr_, wz] 36), pt q3 (.cells #[.slice sa (xs.length) (sc)] 30), storeR S (wrS (ck1 k e) e 0 (formB ((e : Nat) : Int) ((n : Nat) : Int) xs)), row (.slice (sla (fa6 24)) (formB ((e : Nat) : Int) ((n : Nat) : Int) xs).length (slc (fa6 24))) 5 1 ((formB ((e : Nat) : Int) ((n : Nat) : Int) xs).length) (BX (formB ((e : Nat) : Int) ((n : Nat) : Int) xs))]) (by exact ((((((perm_front 5 rfl).trans (perm_front 1 rfl)).trans (perm_front 5 rfl)).trans (perm_front 5 rfl)).trans (perm_front 5 rfl)).trans (perm_front 5 rfl))))
  refine .inr ⟨_, rfl, _, back _ _ hw', ?_⟩
  clear hw hw1 hw' back kn sb
  refine l_nil ?_
  refine f_then ?_
  refine c_seq ?_
  refine c_seq ?_
  have ok2 : ckOk2 k e n xs := ok7
  have hf2 : (ck2 k e n xs).fits 655360 := (hf1.wr).le (by rw [formB_length]; omega)
  refine c_re (L' := [storeR S (ck2 k e n xs), pt J (.cells #[.pointer (some ⟨S, 0, none⟩), Nx (i.epoch), Nx (i.next), vs, vr, Nx (i.size), vd] 84), pt q2 (.cells #[.pointer (some ⟨J, 0, none⟩)] 43), pt q6 (.cells #[Nx (e), Nx (n), ws, wr_, wz] 36), pt q3 (.cells #[.slice sa (xs.length) (sc)] 30), row (.slice (sla (fa6 24)) (formB ((e : Nat) : Int) ((n : Nat) : Int) xs).length (slc (fa6 24))) 5 1 ((formB ((e : Nat) : Int) ((n : Nat) : Int) xs).length) (BX (formB ((e : Nat) : Int) ((n : Nat) : Int) xs))]) (by rfl) ?_
  refine c_perm (L' := [storeR S (ck2 k e n xs), pt J (.cells #[.pointer (some ⟨S, 0, none⟩), Nx (i.epoch), Nx (i.next), vs, vr, Nx (i.size), vd] 84), pt q2 (.cells #[.pointer (some ⟨J, 0, none⟩)] 43), pt q6 (.cells #[Nx (e), Nx (n), ws, wr_, wz] 36), pt q3 (.cells #[.slice sa (xs.length) (sc)] 30), row (.slice (sla (fa6 24)) (formB ((e : Nat) : Int) ((n : Nat) : Int) xs).length (slc (fa6 24))) 5 1 ((formB ((e : Nat) : Int) ((n : Nat) : Int) xs).length) (BX (formB ((e : Nat) : Int) ((n : Nat) : Int) xs))]) (by exact ((((((perm_front 5 rfl).trans (perm_front 5 rfl)).trans (perm_front 5 rfl)).trans (perm_front 5 rfl)).trans (perm_front 5 rfl)).trans (perm_front 5 rfl))) ?_
  refine c_openStore rfl (fun pH8 pA9 pB10 cH11 cA12 cB13 => ?_)
  refine c_region ?_
  refine l_val (v := .pointer (some ⟨J, 0, none⟩)) rfl rfl rfl (e_load1 tf43 (v := .pointer (some ⟨J, 0, none⟩)) rfl (k_pt 5 (cs := #[.pointer (some ⟨J, 0, none⟩)]) (vs := [.pointer (some ⟨J, 0, none⟩)]) rfl rfl)) ?_
  refine l_val (v := .pointer (some ⟨J, 0, none⟩)) rfl rfl rfl (e_nil (a := ⟨J, 0, none⟩) rfl) ?_
  refine l_val (v := .pointer (some ⟨J, 0, none⟩)) rfl rfl rfl (e_fieldPt (b := J) (o := 0) rfl tf30) ?_
  refine l_val (v := .pointer (some ⟨S, 0, none⟩)) rfl rfl rfl (e_load1 tf31 (v := .pointer (some ⟨S, 0, none⟩)) rfl (k_pt 4 (cs := #[.pointer (some ⟨S, 0, none⟩), Nx (i.epoch), Nx (i.next), vs, vr, Nx (i.size), vd]) (vs := [.pointer (some ⟨S, 0, none⟩)]) rfl rfl)) ?_
  refine l_val (v := .pointer (some ⟨S, 0, none⟩)) rfl rfl rfl (e_nil (a := ⟨S, 0, none⟩) rfl) ?_
  refine l_val (v := .pointer (some ⟨S, 0, none⟩)) rfl rfl rfl (e_fieldPt (b := S) (o := 0) rfl tf20) ?_
  refine l_val (v := .slice pH8 ((ck2 k e n xs).head).length cH11) rfl rfl rfl (e_load1 tf21 (v := .slice pH8 ((ck2 k e n xs).head).length cH11) rfl (k_pt 0 (cs := #[.slice pH8 ((ck2 k e n xs).head).length cH11, .slice pA9 ((ck2 k e n xs).a).length cA12, .slice pB10 ((ck2 k e n xs).b).length cB13, Ix ((ck2 k e n xs).power)]) (vs := [.slice pH8 ((ck2 k e n xs).head).length cH11]) rfl rfl)) ?_
  refine l_val (v := Nx (((ck2 k e n xs).head).length)) rfl rfl rfl (e_len (a := pH8) (n := ((ck2 k e n xs).head).length) (c := cH11) rfl tf11) ?_
  refine l_val (v := .bool (decide (((((ck2 k e n xs).head).length : Nat) : Int) = (0 : Int)))) rfl rfl rfl (e_eql (a := ((((ck2 k e n xs).head).length : Nat) : Int)) (b := (0 : Int)) rfl rfl) ?_
  refine l_nil ?_
  refine f_then ?_
  refine c_if (((((ck2 k e n xs).head).length : Nat) : Int) = (0 : Int)) rfl (fun hc14 => ?_) (fun hc14 => ?_)
  ·
   refine c_any [⟨[], [], [0], [35], fun f => f 35 = .pointer (some ⟨J, 0, none⟩)⟩, ⟨[0], [0], [], [36], fun f => f 36 = .pointer (some ⟨J, 0, none⟩)⟩, ⟨[0, 1], [1], [], [37], fun f => f 37 = .pointer (some ⟨J, 0, none⟩)⟩, ⟨[0, 1, 2], [2], [], [38], fun f => f 38 = .pointer (some ⟨S, 0, none⟩)⟩, ⟨[], [], [], [39], fun f => f 39 = .slice (some ⟨(blk (f 39)), 0, none⟩) (List.replicate 32 (0 : UInt8)).length 32⟩, ⟨[0, 1, 2, 3, 4], [3], [], [40], fun f => f 40 = .pointer (some ⟨S, 0, none⟩)⟩, ⟨[0, 1, 2, 3, 4, 5], [5], [], [41], fun f => f 41 = .pointer (some ⟨S, 0, none⟩)⟩, ⟨[0, 1, 2, 3, 4, 5, 6], [6, 4], [], [], fun _ => True⟩] [⟨none, (some 7), [7], [], fun _ => pt S (.cells #[.slice pH8 ((ck2 k e n xs).head).length cH11, .slice pA9 ((ck2 k e n xs).a).length cA12, .slice pB10 ((ck2 k e n xs).b).length cB13, Ix ((ck2 k e n xs).power)] 32)⟩, ⟨none, none, [], [], fun _ => row (.slice pH8 ((ck2 k e n xs).head).length cH11) 5 1 (((ck2 k e n xs).head).length) (BX ((ck2 k e n xs).head))⟩, ⟨none, none, [], [], fun _ => row (.slice pA9 ((ck2 k e n xs).a).length cA12) 5 1 (((ck2 k e n xs).a).length) (BX ((ck2 k e n xs).a))⟩, ⟨none, none, [], [], fun _ => row (.slice pB10 ((ck2 k e n xs).b).length cB13) 5 1 (((ck2 k e n xs).b).length) (BX ((ck2 k e n xs).b))⟩, ⟨none, none, [3], [], fun _ => pt J (.cells #[.pointer (some ⟨S, 0, none⟩), Nx (i.epoch), Nx (i.next), vs, vr, Nx (i.size), vd] 84)⟩, ⟨none, none, [0], [], fun _ => pt q2 (.cells #[.pointer (some ⟨J, 0, none⟩)] 43)⟩, ⟨none, none, [], [], fun _ => pt q6 (.cells #[Nx (e), Nx (n), ws, wr_, wz] 36)⟩, ⟨none, none, [], [], fun _ => pt q3 (.cells #[.slice sa (xs.length) (sc)] 30)⟩, ⟨none, none, [], [], fun _ => row (.slice (sla (fa6 24)) (formB ((e : Nat) : Int) ((n : Nat) : Int) xs).length (slc (fa6 24))) 5 1 ((formB ((e : Nat) : Int) ((n : Nat) : Int) xs).length) (BX (formB ((e : Nat) : Int) ((n : Nat) : Int) xs))⟩, ⟨(some 4), none, [], [39], fun f => row (.slice (some ⟨(blk (f 39)), 0, none⟩) (List.replicate 32 (0 : UInt8)).length 32) 5 1 ((List.replicate 32 (0 : UInt8)).length) (BX (List.replicate 32 (0 : UInt8)))⟩, ⟨(some 7), none, [], [39], fun f => pt S (.cells #[.slice (some ⟨(blk (f 39)), 0, none⟩) (List.replicate 32 (0 : UInt8)).length 32, .slice pA9 ((ck2 k e n xs).a).length cA12, .slice pB10 ((ck2 k e n xs).b).length cB13, Ix ((ck2 k e n xs).power)] 32)⟩] [(0, .pointer (some ⟨q2, 0, none⟩)), (1, .pointer (some ⟨q6, 0, none⟩))] [0, 1] [] (by kernel_rfl) (by kernel_rfl) (by kernel_rfl) (by kernel_rfl) rfl ⟨rfl, rfl, trivial⟩ ⟨?_, ?_, ?_, ?_, ?_, ?_, ?_, ?_, trivial⟩ ?_
   ·rintro f M - ⟨i0, -⟩
    have hs0 : f 0 = .pointer (some ⟨q2, 0, none⟩) := i0
    refine ob_start (L' := pt q2 (.cells #[.pointer (some ⟨J, 0, none⟩)] 43) :: M) (by rfl) (up_cons rfl hs0) ?_
    refine l_val (v := .pointer (some ⟨J, 0, none⟩)) rfl rfl rfl (e_load1 tf43 (v := .pointer (some ⟨J, 0, none⟩)) rfl (k_pt 0 (cs := #[.pointer (some ⟨J, 0, none⟩)]) (vs := [.pointer (some ⟨J, 0, none⟩)]) rfl rfl)) ?_
    refine l_nil ?_
    exact f_owes_d (up_cons rfl hs0) rfl (perm_front 0 rfl)
   ·rintro f M ⟨k0, -⟩ -
    have hs35 : f 35 = .pointer (some ⟨J, 0, none⟩) := k0
    refine ob_start (L' := M) (by rfl) (up_cons rfl hs35) ?_
    refine l_val (v := .pointer (some ⟨J, 0, none⟩)) rfl rfl rfl (e_nil (a := ⟨J, 0, none⟩) rfl) ?_
    refine l_nil ?_
    exact f_owes_d (up_cons rfl hs35) rfl (List.Perm.refl _)
   ·rintro f M ⟨k0, -⟩ -
    have hs36 : f 36 = .pointer (some ⟨J, 0, none⟩) := k0
    refine ob_start (L' := M) (by rfl) (up_cons rfl hs36) ?_
    refine l_val (v := .pointer (some ⟨J, 0, none⟩)) rfl rfl rfl (e_fieldPt (b := J) (o := 0) rfl tf30) ?_
    refine l_nil ?_
    exact f_owes_d (up_cons rfl hs36) rfl (List.Perm.refl _)
   ·rintro f M ⟨k0, -⟩ -
    have hs37 : f 37 = .pointer (some ⟨J, 0, none⟩) := k0
    refine ob_start (L' := pt J (.cells #[.pointer (some ⟨S, 0, none⟩), Nx (i.epoch), Nx (i.next), vs, vr, Nx (i.size), vd] 84) :: M) (by rfl) (up_cons rfl hs37) ?_
    refine l_val (v := .pointer (some ⟨S, 0, none⟩)) rfl rfl rfl (e_load1 tf31 (v := .pointer (some ⟨S, 0, none⟩)) rfl (k_pt 0 (cs := #[.pointer (some ⟨S, 0, none⟩), Nx (i.epoch), Nx (i.next), vs, vr, Nx (i.size), vd]) (vs := [.pointer (some ⟨S, 0, none⟩)]) rfl rfl)) ?_
    refine l_nil ?_
    exact f_owes_d (up_cons rfl hs37) rfl (perm_front 0 rfl)
   ·rintro f M - -
    refine ob_start (L' := M) (by rfl) rfl ?_
    refine l_mv rfl rfl rfl (m_makeB (c := 32) tf12 tf15 tf14 rfl rfl (by omega) (by omega)) ?_
    rintro _ _ ⟨b16, rfl, rfl⟩
    refine l_nil ?_
    exact f_owes_d rfl rfl (perm_front 0 rfl)
   ·rintro f M ⟨k0, -⟩ -
    have hs38 : f 38 = .pointer (some ⟨S, 0, none⟩) := k0
    refine ob_start (L' := M) (by rfl) (up_cons rfl hs38) ?_
    refine l_val (v := .pointer (some ⟨S, 0, none⟩)) rfl rfl rfl (e_nil (a := ⟨S, 0, none⟩) rfl) ?_
    refine l_nil ?_
    exact f_owes_d (up_cons rfl hs38) rfl (List.Perm.refl _)
   ·rintro f M ⟨k0, -⟩ -
    have hs40 : f 40 = .pointer (some ⟨S, 0, none⟩) := k0
    refine ob_start (L' := M) (by rfl) (up_cons rfl hs40) ?_
    refine l_val (v := .pointer (some ⟨S, 0, none⟩)) rfl rfl rfl (e_fieldPt (b := S) (o := 0) rfl tf20) ?_
    refine l_nil ?_
    exact f_owes_d (up_cons rfl hs40) rfl (List.Perm.refl _)
   ·rintro f M ⟨k0, k1, -⟩ -
    have hs41 : f 41 = .pointer (some ⟨S, 0, none⟩) := k0
    have hs39 : f 39 = .slice (some ⟨(blk (f 39)), 0, none⟩) (List.replicate 32 (0 : UInt8)).length 32 := k1
    refine ob_start (L' := pt S (.cells #[.slice pH8 ((ck2 k e n xs).head).length cH11, .slice pA9 ((ck2 k e n xs).a).length cA12, .slice pB10 ((ck2 k e n xs).b).length cB13, Ix ((ck2 k e n xs).power)] 32) :: M) (by rfl) (up_cons (up_cons rfl hs41) hs39) ?_
    refine l_mu rfl rfl (m_store 0 tf21 (b := S) (o := 0) (T := 32) (cs := #[.slice pH8 ((ck2 k e n xs).head).length cH11, .slice pA9 ((ck2 k e n xs).a).length cA12, .slice pB10 ((ck2 k e n xs).b).length cB13, Ix ((ck2 k e n xs).power)]) (cs' := #[.slice (some ⟨(blk (f 39)), 0, none⟩) (List.replicate 32 (0 : UInt8)).length 32, .slice pA9 ((ck2 k e n xs).a).length cA12, .slice pB10 ((ck2 k e n xs).b).length cB13, Ix ((ck2 k e n xs).power)]) (v := .slice (some ⟨(blk (f 39)), 0, none⟩) (List.replicate 32 (0 : UInt8)).length 32) rfl rfl rfl rfl rfl rfl rfl) ?_
    refine l_nil ?_
    exact f_owes_n (up_cons (up_cons rfl hs41) hs39) trivial (perm_front 0 rfl)
   rintro fa17 ⟨-, -, -, -, -, -, -, -, -⟩ ⟨j0, j1, -⟩
   refine f_re (L' := [row (.slice pH8 ((ck2 k e n xs).head).length cH11) 5 1 (((ck2 k e n xs).head).length) (BX ((ck2 k e n xs).head)), row (.slice pA9 ((ck2 k e n xs).a).length cA12) 5 1 (((ck2 k e n xs).a).length) (BX ((ck2 k e n xs).a)), row (.slice pB10 ((ck2 k e n xs).b).length cB13) 5 1 (((ck2 k e n xs).b).length) (BX ((ck2 k e n xs).b)), pt J (.cells #[.pointer (some ⟨S, 0, none⟩), Nx (i.epoch), Nx (i.next), vs, vr, Nx (i.size), vd] 84), pt q2 (.cells #[.pointer (some ⟨J, 0, none⟩)] 43), pt q6 (.cells #[Nx (e), Nx (n), ws, wr_, wz] 36), pt q3 (.cells #[.slice sa (xs.length) (sc)] 30), row (.slice (sla (fa6 24)) (formB ((e : Nat) : Int) ((n : Nat) : Int) xs).length (slc (fa6 24))) 5 1 ((formB ((e : Nat) : Int) ((n : Nat) : Int) xs).length) (BX (formB ((e : Nat) : Int) ((n : Nat) : Int) xs)), row (.slice (some ⟨(blk (fa17 39)), 0, none⟩) (List.replicate 32 (0 : UInt8)).length 32) 5 1 ((List.replicate 32 (0 : UInt8)).length) (BX (List.replicate 32 (0 : UInt8))), pt S (.cells #[.slice (some ⟨(blk (fa17 39)), 0, none⟩) (List.replicate 32 (0 : UInt8)).length 32, .slice pA9 ((ck2 k e n xs).a).length cA12, .slice pB10 ((ck2 k e n xs).b).length cB13, Ix ((ck2 k e n xs).power)] 32)]) (by rfl) ?_
   refine f_rebase (d := 0) (v := .pointer (some ⟨q2, 0, none⟩)) j0 ?_
   refine f_rebase (d := 1) (v := .pointer (some ⟨q6, 0, none⟩)) j1 ?_
   refine f_then ?_
   refine c_seq ?_
   refine c_any [⟨[], [], [0], [42], fun f => f 42 = .pointer (some ⟨q6, 0, none⟩)⟩, ⟨[0], [0], [], [43], fun f => f 43 = Nx (e)⟩, ⟨[0, 1], [1], [], [44], fun f => f 44 = Ux (U ((e : Nat) : Int))⟩, ⟨[0, 1, 2], [2], [], [45], fun f => f 45 = .slice (sla (f 45)) (be 8 (U ((e : Nat) : Int))).length (slc (f 45))⟩, ⟨[], [], [0], [46], fun f => f 46 = .pointer (some ⟨q6, 0, none⟩)⟩, ⟨[4], [4], [], [47], fun f => f 47 = Nx (e)⟩, ⟨[0, 1, 2, 3, 4, 5], [5], [], [48], fun f => f 48 = Ux (tickU ((e : Nat) : Int))⟩, ⟨[0, 1, 2, 3, 4, 5, 6], [3, 6], [], [49], fun f => f 49 = .slice (sla (f 49)) ((be 8 (U ((e : Nat) : Int))) ++ be 8 (tickU ((e : Nat) : Int))).length (slc (f 49))⟩, ⟨[0, 1, 2, 3, 4, 5, 6, 7], [7], [], [4, 49], fun f => f 4 = .slice (sla (f 49)) ((be 8 (U ((e : Nat) : Int))) ++ be 8 (tickU ((e : Nat) : Int))).length (slc (f 49))⟩] [⟨none, none, [], [], fun _ => row (.slice pH8 ((ck2 k e n xs).head).length cH11) 5 1 (((ck2 k e n xs).head).length) (BX ((ck2 k e n xs).head))⟩, ⟨none, none, [], [], fun _ => row (.slice pA9 ((ck2 k e n xs).a).length cA12) 5 1 (((ck2 k e n xs).a).length) (BX ((ck2 k e n xs).a))⟩, ⟨none, none, [], [], fun _ => row (.slice pB10 ((ck2 k e n xs).b).length cB13) 5 1 (((ck2 k e n xs).b).length) (BX ((ck2 k e n xs).b))⟩, ⟨none, none, [], [], fun _ => pt J (.cells #[.pointer (some ⟨S, 0, none⟩), Nx (i.epoch), Nx (i.next), vs, vr, Nx (i.size), vd] 84)⟩, ⟨none, none, [], [], fun _ => pt q2 (.cells #[.pointer (some ⟨J, 0, none⟩)] 43)⟩, ⟨none, none, [1, 5], [], fun _ => pt q6 (.cells #[Nx (e), Nx (n), ws, wr_, wz] 36)⟩, ⟨none, none, [], [], fun _ => pt q3 (.cells #[.slice sa (xs.length) (sc)] 30)⟩, ⟨none, none, [], [], fun _ => row (.slice (sla (fa6 24)) (formB ((e : Nat) : Int) ((n : Nat) : Int) xs).length (slc (fa6 24))) 5 1 ((formB ((e : Nat) : Int) ((n : Nat) : Int) xs).length) (BX (formB ((e : Nat) : Int) ((n : Nat) : Int) xs))⟩, ⟨none, none, [], [], fun _ => row (.slice (some ⟨(blk (fa17 39)), 0, none⟩) (List.replicate 32 (0 : UInt8)).length 32) 5 1 ((List.replicate 32 (0 : UInt8)).length) (BX (List.replicate 32 (0 : UInt8)))⟩, ⟨none, none, [], [], fun _ => pt S (.cells #[.slice (some ⟨(blk (fa17 39)), 0, none⟩) (List.replicate 32 (0 : UInt8)).length 32, .slice pA9 ((ck2 k e n xs).a).length cA12, .slice pB10 ((ck2 k e n xs).b).length cB13, Ix ((ck2 k e n xs).power)] 32)⟩, ⟨(some 3), (some 7), [7], [45], fun f => row (.slice (sla (f 45)) (be 8 (U ((e : Nat) : Int))).length (slc (f 45))) 5 1 ((be 8 (U ((e : Nat) : Int))).length) (BX (be 8 (U ((e : Nat) : Int))))⟩, ⟨(some 7), none, [], [49], fun f => row (.slice (sla (f 49)) ((be 8 (U ((e : Nat) : Int))) ++ be 8 (tickU ((e : Nat) : Int))).length (slc (f 49))) 5 1 (((be 8 (U ((e : Nat) : Int))) ++ be 8 (tickU ((e : Nat) : Int))).length) (BX ((be 8 (U ((e : Nat) : Int))) ++ be 8 (tickU ((e : Nat) : Int))))⟩] [(1, .pointer (some ⟨q6, 0, none⟩)), (0, .pointer (some ⟨q2, 0, none⟩))] [1, 0] [] (by kernel_rfl) (by kernel_rfl) (by kernel_rfl) (by kernel_rfl) rfl ⟨rfl, rfl, trivial⟩ ⟨?_, ?_, ?_, ?_, ?_, ?_, ?_, ?_, ?_, trivial⟩ ?_
   ·rintro f M - ⟨i0, -⟩
    have hs1 : f 1 = .pointer (some ⟨q6, 0, none⟩) := i0
    refine ob_start (L' := M) (by rfl) (up_cons rfl hs1) ?_
    refine l_val (v := .pointer (some ⟨q6, 0, none⟩)) rfl rfl rfl (e_fieldPt (b := q6) (o := 0) rfl tf48) ?_
    refine l_nil ?_
    exact f_owes_d (up_cons rfl hs1) rfl (List.Perm.refl _)
   ·rintro f M ⟨k0, -⟩ -
    have hs42 : f 42 = .pointer (some ⟨q6, 0, none⟩) := k0
    refine ob_start (L' := pt q6 (.cells #[Nx (e), Nx (n), ws, wr_, wz] 36) :: M) (by rfl) (up_cons rfl hs42) ?_
    refine l_val (v := Nx (e)) rfl rfl rfl (e_load1 tf25 (v := Nx (e)) rfl (k_pt 0 (cs := #[Nx (e), Nx (n), ws, wr_, wz]) (vs := [Nx (e)]) rfl rfl)) ?_
    refine l_nil ?_
    exact f_owes_d (up_cons rfl hs42) rfl (perm_front 0 rfl)
   ·rintro f M ⟨k0, -⟩ -
    have hs43 : f 43 = Nx (e) := k0
    refine ob_start (L' := M) (by rfl) (up_cons rfl hs43) ?_
    refine l_val (v := Ux (U ((e : Nat) : Int))) rfl rfl rfl (e_conv (a := ((e : Nat) : Int)) rfl ⟨_, tf1⟩ tf2 (ux_of _)) ?_
    refine l_nil ?_
    exact f_owes_d (up_cons rfl hs43) rfl (List.Perm.refl _)
   ·rintro f M ⟨k0, -⟩ -
    have hs44 : f 44 = Ux (U ((e : Nat) : Int)) := k0
    refine ob_start (L' := M) (by rfl) (up_cons rfl hs44) ?_
    refine l_call rfl rfl rfl (cl_value (fst := []) (cap := []) (vs := [.slice none 0 0, Ux (U ((e : Nat) : Int)), .int .i64 (8)]) (all := [.slice none 0 0, Ux (U ((e : Nat) : Int)), .int .i64 (8)]) tf17 rfl rfl rfl) ?_
    intro w hw
    obtain ⟨β1, sb, kn, hw1, back⟩ := St.frame_all hw
    refine (appended0_ok β1 w hw1 (U ((e : Nat) : Int)) 8 (by decide)).mono ?_
    rintro e w' ⟨p20, c21, rfl, hw'⟩
    refine ⟨_, rfl, _, back _ _ hw', ?_⟩
    clear hw hw1 hw' back kn sb
    refine l_nil ?_
    exact f_owes_d (up_cons rfl hs44) rfl (perm_front 0 rfl)
   ·rintro f M - ⟨i0, -⟩
    have hs1 : f 1 = .pointer (some ⟨q6, 0, none⟩) := i0
    refine ob_start (L' := M) (by rfl) (up_cons rfl hs1) ?_
    refine l_val (v := .pointer (some ⟨q6, 0, none⟩)) rfl rfl rfl (e_fieldPt (b := q6) (o := 0) rfl tf48) ?_
    refine l_nil ?_
    exact f_owes_d (up_cons rfl hs1) rfl (List.Perm.refl _)
   ·rintro f M ⟨k0, -⟩ -
    have hs46 : f 46 = .pointer (some ⟨q6, 0, none⟩) := k0
    refine ob_start (L' := pt q6 (.cells #[Nx (e), Nx (n), ws, wr_, wz] 36) :: M) (by rfl) (up_cons rfl hs46) ?_
    refine l_val (v := Nx (e)) rfl rfl rfl (e_load1 tf25 (v := Nx (e)) rfl (k_pt 0 (cs := #[Nx (e), Nx (n), ws, wr_, wz]) (vs := [Nx (e)]) rfl rfl)) ?_
    refine l_nil ?_
    exact f_owes_d (up_cons rfl hs46) rfl (perm_front 0 rfl)
   ·rintro f M ⟨k0, -⟩ -
    have hs47 : f 47 = Nx (e) := k0
    refine ob_start (L' := M) (by rfl) (up_cons rfl hs47) ?_
    refine l_call rfl rfl rfl (cl_value (fst := []) (cap := []) (vs := [Nx (e)]) (all := [Nx (e)]) tf26 rfl rfl rfl) ?_
    intro w hw
    obtain ⟨β1, sb, kn, hw1, back⟩ := St.frame_all hw
    refine (tick_ok β1 w hw1 ((e : Nat) : Int)).mono ?_
    rintro e w' ⟨rfl, hw'⟩
    refine ⟨_, rfl, _, back _ _ hw', ?_⟩
    clear hw hw1 hw' back kn sb
    refine l_nil ?_
    exact f_owes_d (up_cons rfl hs47) rfl (List.Perm.refl _)
   ·rintro f M ⟨k0, k1, -⟩ -
    have hs45 : f 45 = .slice (sla (f 45)) (be 8 (U ((e : Nat) : Int))).length (slc (f 45)) := k0
    have hs48 : f 48 = Ux (tickU ((e : Nat) : Int)) := k1
    refine ob_start (L' := row (.slice (sla (f 45)) (be 8 (U ((e : Nat) : Int))).length (slc (f 45))) 5 1 ((be 8 (U ((e : Nat) : Int))).length) (BX (be 8 (U ((e : Nat) : Int)))) :: M) (by rfl) (up_cons (up_cons rfl hs45) hs48) ?_
    refine l_call rfl rfl rfl (cl_value (fst := []) (cap := []) (vs := [.slice (sla (f 45)) (be 8 (U ((e : Nat) : Int))).length (slc (f 45)), Ux (tickU ((e : Nat) : Int)), .int .i64 (8)]) (all := [.slice (sla (f 45)) (be 8 (U ((e : Nat) : Int))).length (slc (f 45)), Ux (tickU ((e : Nat) : Int)), .int .i64 (8)]) tf17 rfl rfl rfl) ?_
    intro w hw
    replace hw := hw.perm (L' := _ :: M) (by exact (perm_front 0 rfl))
    obtain ⟨β1, sb, kn, hw1, back⟩ := St.frame (L := [_]) (M := M) hw
    refine (appended_ok β1 w _ _ (be 8 (U ((e : Nat) : Int))) (tickU ((e : Nat) : Int)) 8 (by decide) (by simp only [List.length_append, be_length]; omega) hw1).mono ?_
    rintro e w' ⟨p24, c25, rfl, hw'⟩
    refine ⟨_, rfl, _, back _ _ hw', ?_⟩
    clear hw hw1 hw' back kn sb
    refine l_nil ?_
    exact f_owes_d (up_cons (up_cons rfl hs45) hs48) rfl (perm_front 0 rfl)
   ·rintro f M ⟨k0, -⟩ -
    have hs49 : f 49 = .slice (sla (f 49)) ((be 8 (U ((e : Nat) : Int))) ++ be 8 (tickU ((e : Nat) : Int))).length (slc (f 49)) := k0
    refine ob_start (L' := M) (by rfl) (up_cons rfl hs49) ?_
    refine l_val (v := .slice (sla (f 49)) ((be 8 (U ((e : Nat) : Int))) ++ be 8 (tickU ((e : Nat) : Int))).length (slc (f 49))) rfl rfl rfl (e_assign) ?_
    refine l_nil ?_
    exact f_owes_d (up_cons rfl hs49) rfl (List.Perm.refl _)
   rintro fa26 ⟨-, -, -, -, -, -, -, -, k8, -⟩ ⟨j0, j1, -⟩
   refine f_re (L' := [row (.slice pH8 ((ck2 k e n xs).head).length cH11) 5 1 (((ck2 k e n xs).head).length) (BX ((ck2 k e n xs).head)), row (.slice pA9 ((ck2 k e n xs).a).length cA12) 5 1 (((ck2 k e n xs).a).length) (BX ((ck2 k e n xs).a)), row (.slice pB10 ((ck2 k e n xs).b).length cB13) 5 1 (((ck2 k e n xs).b).length) (BX ((ck2 k e n xs).b)), pt J (.cells #[.pointer (some ⟨S, 0, none⟩), Nx (i.epoch), Nx (i.next), vs, vr, Nx (i.size), vd] 84), pt q2 (.cells #[.pointer (some ⟨J, 0, none⟩)] 43), pt q6 (.cells #[Nx (e), Nx (n), ws, wr_, wz] 36), pt q3 (.cells #[.slice sa (xs.length) (sc)] 30), row (.slice (sla (fa6 24)) (formB ((e : Nat) : Int) ((n : Nat) : Int) xs).length (slc (fa6 24))) 5 1 ((formB ((e : Nat) : Int) ((n : Nat) : Int) xs).length) (BX (formB ((e : Nat) : Int) ((n : Nat) : Int) xs)), row (.slice (some ⟨(blk (fa17 39)), 0, none⟩) (List.replicate 32 (0 : UInt8)).length 32) 5 1 ((List.replicate 32 (0 : UInt8)).length) (BX (List.replicate 32 (0 : UInt8))), pt S (.cells #[.slice (some ⟨(blk (fa17 39)), 0, none⟩) (List.replicate 32 (0 : UInt8)).length 32, .slice pA9 ((ck2 k e n xs).a).length cA12, .slice pB10 ((ck2 k e n xs).b).length cB13, Ix ((ck2 k e n xs).power)] 32), row (.slice (sla (fa26 49)) ((be 8 (U ((e : Nat) : Int))) ++ be 8 (tickU ((e : Nat) : Int))).length (slc (fa26 49))) 5 1 (((be 8 (U ((e : Nat) : Int))) ++ be 8 (tickU ((e : Nat) : Int))).length) (BX ((be 8 (U ((e : Nat) : Int))) ++ be 8 (tickU ((e : Nat) : Int))))]) (by rfl) ?_
   refine f_rebase (d := 0) (v := .pointer (some ⟨q2, 0, none⟩)) j0 ?_
   refine f_rebase (d := 1) (v := .pointer (some ⟨q6, 0, none⟩)) j1 ?_
   refine f_rebase (d := 4) (v := .slice (sla (fa26 49)) ((be 8 (U ((e : Nat) : Int))) ++ be 8 (tickU ((e : Nat) : Int))).length (slc (fa26 49))) k8 ?_
   refine f_then ?_
   refine c_perm (L' := [pt S (.cells #[.slice (some ⟨(blk (fa17 39)), 0, none⟩) (List.replicate 32 (0 : UInt8)).length 32, .slice pA9 ((ck2 k e n xs).a).length cA12, .slice pB10 ((ck2 k e n xs).b).length cB13, Ix ((ck2 k e n xs).power)] 32), row (.slice (some ⟨(blk (fa17 39)), 0, none⟩) (List.replicate 32 (0 : UInt8)).length 32) 5 1 ((List.replicate 32 (0 : UInt8)).length) (BX (List.replicate 32 (0 : UInt8))), row (.slice pA9 ((ck2 k e n xs).a).length cA12) 5 1 (((ck2 k e n xs).a).length) (BX ((ck2 k e n xs).a)), row (.slice pB10 ((ck2 k e n xs).b).length cB13) 5 1 (((ck2 k e n xs).b).length) (BX ((ck2 k e n xs).b)), row (.slice pH8 ((ck2 k e n xs).head).length cH11) 5 1 (((ck2 k e n xs).head).length) (BX ((ck2 k e n xs).head)), pt J (.cells #[.pointer (some ⟨S, 0, none⟩), Nx (i.epoch), Nx (i.next), vs, vr, Nx (i.size), vd] 84), pt q2 (.cells #[.pointer (some ⟨J, 0, none⟩)] 43), pt q6 (.cells #[Nx (e), Nx (n), ws, wr_, wz] 36), pt q3 (.cells #[.slice sa (xs.length) (sc)] 30), row (.slice (sla (fa6 24)) (formB ((e : Nat) : Int) ((n : Nat) : Int) xs).length (slc (fa6 24))) 5 1 ((formB ((e : Nat) : Int) ((n : Nat) : Int) xs).length) (BX (formB ((e : Nat) : Int) ((n : Nat) : Int) xs)), row (.slice (sla (fa26 49)) ((be 8 (U ((e : Nat) : Int))) ++ be 8 (tickU ((e : Nat) : Int))).length (slc (fa26 49))) 5 1 (((be 8 (U ((e : Nat) : Int))) ++ be 8 (tickU ((e : Nat) : Int))).length) (BX ((be 8 (U ((e : Nat) : Int))) ++ be 8 (tickU ((e : Nat) : Int))))]) (by exact (((((((((((perm_front 10 rfl).trans (perm_front 8 rfl)).trans (perm_front 8 rfl)).trans (perm_front 8 rfl)).trans (perm_front 8 rfl)).trans (perm_front 8 rfl)).trans (perm_front 6 rfl)).trans (perm_front 8 rfl)).trans (perm_front 8 rfl)).trans (perm_front 9 rfl)).trans (perm_front 10 rfl))) ?_
   refine c_closeStore (S := S) (k := (ck3 k e n xs)) (pH := (some ⟨(blk (fa17 39)), 0, none⟩)) (pA := pA9) (pB := pB10) (cH := 32) (cA := cA12) (cB := cB13) (M := (row (.slice pH8 ((ck2 k e n xs).head).length cH11) 5 1 (((ck2 k e n xs).head).length) (BX ((ck2 k e n xs).head)) :: pt J (.cells #[.pointer (some ⟨S, 0, none⟩), Nx (i.epoch), Nx (i.next), vs, vr, Nx (i.size), vd] 84) :: pt q2 (.cells #[.pointer (some ⟨J, 0, none⟩)] 43) :: pt q6 (.cells #[Nx (e), Nx (n), ws, wr_, wz] 36) :: pt q3 (.cells #[.slice sa (xs.length) (sc)] 30) :: row (.slice (sla (fa6 24)) (formB ((e : Nat) : Int) ((n : Nat) : Int) xs).length (slc (fa6 24))) 5 1 ((formB ((e : Nat) : Int) ((n : Nat) : Int) xs).length) (BX (formB ((e : Nat) : Int) ((n : Nat) : Int) xs)) :: row (.slice (sla (fa26 49)) ((be 8 (U ((e : Nat) : Int))) ++ be 8 (tickU ((e : Nat) : Int))).length (slc (fa26 49))) 5 1 (((be 8 (U ((e : Nat) : Int))) ++ be 8 (tickU ((e : Nat) : Int))).length) (BX ((be 8 (U ((e : Nat) : Int))) ++ be 8 (tickU ((e : Nat) : Int)))) :: [])) (by rw [show ck3 k e n xs = { ck2 k e n xs with head := List.replicate 32 0 } from if_pos (by omega)]; rfl) ?_
   have hf3 : (ck3 k e n xs).fits 655360 := by
    rw [show ck3 k e n xs = { ck2 k e n xs with head := List.replicate 32 0 } from if_pos (by omega)]
    exact fits_head hf2 (by simp)
   have hcl : (be 8 (U ((e : Nat) : Int)) ++ be 8 (tickU ((e : Nat) : Int))).length = 16 := by simp [be_length]
   refine c_any_end 12 rfl rfl [⟨[], [], [0], [50], fun f => f 50 = .pointer (some ⟨J, 0, none⟩)⟩, ⟨[], [], [0], [51], fun f => f 51 = .pointer (some ⟨J, 0, none⟩)⟩, ⟨[1], [1], [], [52], fun f => f 52 = .pointer (some ⟨J, 0, none⟩)⟩, ⟨[1, 2], [2], [], [53], fun f => f 53 = .pointer (some ⟨J, 0, none⟩)⟩, ⟨[1, 2, 3], [3], [], [54], fun f => f 54 = .pointer (some ⟨S, 0, none⟩)⟩, ⟨[1, 2, 3, 4], [4], [], [55], fun f => f 55 = .pointer (some ⟨S, 0, none⟩)⟩, ⟨[1, 2, 3, 4, 5], [5], [], [56], fun f => f 56 = .pointer (some ⟨S, 0, none⟩)⟩, ⟨[], [], [1], [57], fun f => f 57 = .pointer (some ⟨q6, 0, none⟩)⟩, ⟨[7], [7], [], [58], fun f => f 58 = Nx (e)⟩, ⟨[7, 8], [8], [], [59], fun f => f 59 = .int .i64 (0)⟩, ⟨[7, 8, 9], [9], [], [60], fun f => f 60 = .int .i64 (0)⟩, ⟨[], [], [2], [61], fun f => f 61 = .slice (sla (fa26 49)) ((be 8 (U ((e : Nat) : Int))) ++ be 8 (tickU ((e : Nat) : Int))).length (slc (fa26 49))⟩, ⟨[0, 1, 2, 3, 4, 5, 6, 7, 8, 9, 10, 11], [], [], [], fun _ => True⟩] [⟨none, none, [], [], fun _ => storeR S (ck3 k e n xs)⟩, ⟨none, none, [], [], fun _ => row (.slice pH8 ((ck2 k e n xs).head).length cH11) 5 1 (((ck2 k e n xs).head).length) (BX ((ck2 k e n xs).head))⟩, ⟨none, none, [4], [], fun _ => pt J (.cells #[.pointer (some ⟨S, 0, none⟩), Nx (i.epoch), Nx (i.next), vs, vr, Nx (i.size), vd] 84)⟩, ⟨none, none, [0, 1], [], fun _ => pt q2 (.cells #[.pointer (some ⟨J, 0, none⟩)] 43)⟩, ⟨none, none, [8], [], fun _ => pt q6 (.cells #[Nx (e), Nx (n), ws, wr_, wz] 36)⟩, ⟨none, none, [], [], fun _ => pt q3 (.cells #[.slice sa (xs.length) (sc)] 30)⟩, ⟨none, none, [], [], fun _ => row (.slice (sla (fa6 24)) (formB ((e : Nat) : Int) ((n : Nat) : Int) xs).length (slc (fa6 24))) 5 1 ((formB ((e : Nat) : Int) ((n : Nat) : Int) xs).length) (BX (formB ((e : Nat) : Int) ((n : Nat) : Int) xs))⟩, ⟨none, none, [], [], fun _ => row (.slice (sla (fa26 49)) ((be 8 (U ((e : Nat) : Int))) ++ be 8 (tickU ((e : Nat) : Int))).length (slc (fa26 49))) 5 1 (((be 8 (U ((e : Nat) : Int))) ++ be 8 (tickU ((e : Nat) : Int))).length) (BX ((be 8 (U ((e : Nat) : Int))) ++ be 8 (tickU ((e : Nat) : Int))))⟩] [(0, .pointer (some ⟨q2, 0, none⟩)), (1, .pointer (some ⟨q6, 0, none⟩)), (4, .slice (sla (fa26 49)) ((be 8 (U ((e : Nat) : Int))) ++ be 8 (tickU ((e : Nat) : Int))).length (slc (fa26 49)))] [] [] (by kernel_rfl) (by kernel_rfl) (by kernel_rfl) (by kernel_rfl) (by kernel_rfl) (by kernel_rfl) rfl ⟨rfl, rfl, rfl, trivial⟩ ⟨?_, ?_, ?_, ?_, ?_, ?_, ?_, ?_, ?_, ?_, ?_, ?_, trivial⟩ ?_
   ·rintro f M - ⟨i0, -⟩
    have hs0 : f 0 = .pointer (some ⟨q2, 0, none⟩) := i0
    refine ob_start (L' := pt q2 (.cells #[.pointer (some ⟨J, 0, none⟩)] 43) :: M) (by rfl) (up_cons rfl hs0) ?_
    refine l_val (v := .pointer (some ⟨J, 0, none⟩)) rfl rfl rfl (e_load1 tf43 (v := .pointer (some ⟨J, 0, none⟩)) rfl (k_pt 0 (cs := #[.pointer (some ⟨J, 0, none⟩)]) (vs := [.pointer (some ⟨J, 0, none⟩)]) rfl rfl)) ?_
    refine l_nil ?_
    exact f_owes_d (up_cons rfl hs0) rfl (perm_front 0 rfl)
   ·rintro f M - ⟨i0, -⟩
    have hs0 : f 0 = .pointer (some ⟨q2, 0, none⟩) := i0
    refine ob_start (L' := pt q2 (.cells #[.pointer (some ⟨J, 0, none⟩)] 43) :: M) (by rfl) (up_cons rfl hs0) ?_
    refine l_val (v := .pointer (some ⟨J, 0, none⟩)) rfl rfl rfl (e_load1 tf43 (v := .pointer (some ⟨J, 0, none⟩)) rfl (k_pt 0 (cs := #[.pointer (some ⟨J, 0, none⟩)]) (vs := [.pointer (some ⟨J, 0, none⟩)]) rfl rfl)) ?_
    refine l_nil ?_
    exact f_owes_d (up_cons rfl hs0) rfl (perm_front 0 rfl)
   ·rintro f M ⟨k0, -⟩ -
    have hs51 : f 51 = .pointer (some ⟨J, 0, none⟩) := k0
    refine ob_start (L' := M) (by rfl) (up_cons rfl hs51) ?_
    refine l_val (v := .pointer (some ⟨J, 0, none⟩)) rfl rfl rfl (e_nil (a := ⟨J, 0, none⟩) rfl) ?_
    refine l_nil ?_
    exact f_owes_d (up_cons rfl hs51) rfl (List.Perm.refl _)
   ·rintro f M ⟨k0, -⟩ -
    have hs52 : f 52 = .pointer (some ⟨J, 0, none⟩) := k0
    refine ob_start (L' := M) (by rfl) (up_cons rfl hs52) ?_
    refine l_val (v := .pointer (some ⟨J, 0, none⟩)) rfl rfl rfl (e_fieldPt (b := J) (o := 0) rfl tf30) ?_
    refine l_nil ?_
    exact f_owes_d (up_cons rfl hs52) rfl (List.Perm.refl _)
   ·rintro f M ⟨k0, -⟩ -
    have hs53 : f 53 = .pointer (some ⟨J, 0, none⟩) := k0
    refine ob_start (L' := pt J (.cells #[.pointer (some ⟨S, 0, none⟩), Nx (i.epoch), Nx (i.next), vs, vr, Nx (i.size), vd] 84) :: M) (by rfl) (up_cons rfl hs53) ?_
    refine l_val (v := .pointer (some ⟨S, 0, none⟩)) rfl rfl rfl (e_load1 tf31 (v := .pointer (some ⟨S, 0, none⟩)) rfl (k_pt 0 (cs := #[.pointer (some ⟨S, 0, none⟩), Nx (i.epoch), Nx (i.next), vs, vr, Nx (i.size), vd]) (vs := [.pointer (some ⟨S, 0, none⟩)]) rfl rfl)) ?_
    refine l_nil ?_
    exact f_owes_d (up_cons rfl hs53) rfl (perm_front 0 rfl)
   ·rintro f M ⟨k0, -⟩ -
    have hs54 : f 54 = .pointer (some ⟨S, 0, none⟩) := k0
    refine ob_start (L' := M) (by rfl) (up_cons rfl hs54) ?_
    refine l_val (v := .pointer (some ⟨S, 0, none⟩)) rfl rfl rfl (e_nil (a := ⟨S, 0, none⟩) rfl) ?_
    refine l_nil ?_
    exact f_owes_d (up_cons rfl hs54) rfl (List.Perm.refl _)
   ·rintro f M ⟨k0, -⟩ -
    have hs55 : f 55 = .pointer (some ⟨S, 0, none⟩) := k0
    refine ob_start (L' := M) (by rfl) (up_cons rfl hs55) ?_
    refine l_val (v := .pointer (some ⟨S, 0, none⟩)) rfl rfl rfl (e_fieldPt (b := S) (o := 0) rfl tf20) ?_
    refine l_nil ?_
    exact f_owes_d (up_cons rfl hs55) rfl (List.Perm.refl _)
   ·rintro f M - ⟨i0, -⟩
    have hs1 : f 1 = .pointer (some ⟨q6, 0, none⟩) := i0
    refine ob_start (L' := M) (by rfl) (up_cons rfl hs1) ?_
    refine l_val (v := .pointer (some ⟨q6, 0, none⟩)) rfl rfl rfl (e_fieldPt (b := q6) (o := 0) rfl tf48) ?_
    refine l_nil ?_
    exact f_owes_d (up_cons rfl hs1) rfl (List.Perm.refl _)
   ·rintro f M ⟨k0, -⟩ -
    have hs57 : f 57 = .pointer (some ⟨q6, 0, none⟩) := k0
    refine ob_start (L' := pt q6 (.cells #[Nx (e), Nx (n), ws, wr_, wz] 36) :: M) (by rfl) (up_cons rfl hs57) ?_
    refine l_val (v := Nx (e)) rfl rfl rfl (e_load1 tf25 (v := Nx (e)) rfl (k_pt 0 (cs := #[Nx (e), Nx (n), ws, wr_, wz]) (vs := [Nx (e)]) rfl rfl)) ?_
    refine l_nil ?_
    exact f_owes_d (up_cons rfl hs57) rfl (perm_front 0 rfl)
   ·rintro f M ⟨k0, -⟩ -
    have hs58 : f 58 = Nx (e) := k0
    refine ob_start (L' := M) (by rfl) (up_cons rfl hs58) ?_
    refine l_val (v := .int .i64 (0)) rfl rfl rfl (ev_eq (by rw [hpar]; rfl) (e_rem (a := ((e : Nat) : Int)) (b := (2 : Int)) rfl rfl (by decide) (nat_tmod _ 2))) ?_
    refine l_nil ?_
    exact f_owes_d (up_cons rfl hs58) rfl (List.Perm.refl _)
   ·rintro f M ⟨k0, -⟩ -
    have hs59 : f 59 = .int .i64 (0) := k0
    refine ob_start (L' := M) (by rfl) (up_cons rfl hs59) ?_
    refine l_val (v := .int .i64 (0)) rfl rfl rfl (e_mul (a := (0 : Int)) (b := (16 : Int)) rfl rfl (by decide)) ?_
    refine l_nil ?_
    exact f_owes_d (up_cons rfl hs59) rfl (List.Perm.refl _)
   ·rintro f M - ⟨i0, -⟩
    have hs4 : f 4 = .slice (sla (fa26 49)) ((be 8 (U ((e : Nat) : Int))) ++ be 8 (tickU ((e : Nat) : Int))).length (slc (fa26 49)) := i0
    refine ob_start (L' := M) (by rfl) (up_cons rfl hs4) ?_
    refine l_val (v := .slice (sla (fa26 49)) ((be 8 (U ((e : Nat) : Int))) ++ be 8 (tickU ((e : Nat) : Int))).length (slc (fa26 49))) rfl rfl rfl (e_move) ?_
    refine l_nil ?_
    exact f_owes_d (up_cons rfl hs4) rfl (List.Perm.refl _)
   rintro fa27 ⟨k0, -, -, -, -, -, k6, -, -, -, k10, k11, -⟩ -
   refine l_re (L' := [storeR S (ck3 k e n xs), row (.slice pH8 ((ck2 k e n xs).head).length cH11) 5 1 (((ck2 k e n xs).head).length) (BX ((ck2 k e n xs).head)), pt J (.cells #[.pointer (some ⟨S, 0, none⟩), Nx (i.epoch), Nx (i.next), vs, vr, Nx (i.size), vd] 84), pt q2 (.cells #[.pointer (some ⟨J, 0, none⟩)] 43), pt q6 (.cells #[Nx (e), Nx (n), ws, wr_, wz] 36), pt q3 (.cells #[.slice sa (xs.length) (sc)] 30), row (.slice (sla (fa6 24)) (formB ((e : Nat) : Int) ((n : Nat) : Int) xs).length (slc (fa6 24))) 5 1 ((formB ((e : Nat) : Int) ((n : Nat) : Int) xs).length) (BX (formB ((e : Nat) : Int) ((n : Nat) : Int) xs)), row (.slice (sla (fa26 49)) ((be 8 (U ((e : Nat) : Int))) ++ be 8 (tickU ((e : Nat) : Int))).length (slc (fa26 49))) 5 1 (((be 8 (U ((e : Nat) : Int))) ++ be 8 (tickU ((e : Nat) : Int))).length) (BX ((be 8 (U ((e : Nat) : Int))) ++ be 8 (tickU ((e : Nat) : Int))))]) (by rfl) ?_
   refine l_rebase (d := 50) (v := .pointer (some ⟨J, 0, none⟩)) k0 ?_
   refine l_rebase (d := 56) (v := .pointer (some ⟨S, 0, none⟩)) k6 ?_
   refine l_rebase (d := 60) (v := .int .i64 (0)) k10 ?_
   refine l_rebase (d := 61) (v := .slice (sla (fa26 49)) ((be 8 (U ((e : Nat) : Int))) ++ be 8 (tickU ((e : Nat) : Int))).length (slc (fa26 49))) k11 ?_
   refine l_callP rfl rfl rfl (cl_value (fst := []) (cap := []) (vs := [.pointer (some ⟨J, 0, none⟩), .pointer (some ⟨S, 0, none⟩), .int .i64 (0), .slice (sla (fa26 49)) ((be 8 (U ((e : Nat) : Int))) ++ be 8 (tickU ((e : Nat) : Int))).length (slc (fa26 49))]) (all := [.pointer (some ⟨J, 0, none⟩), .pointer (some ⟨S, 0, none⟩), .int .i64 (0), .slice (sla (fa26 49)) ((be 8 (U ((e : Nat) : Int))) ++ be 8 (tickU ((e : Nat) : Int))).length (slc (fa26 49))]) tf51 rfl rfl rfl) ?_
   intro w hw
   replace hw := hw.perm (L' := _ :: _ :: _ :: _ :: _ :: _ :: _ :: _ :: []) (by exact ((((((((perm_front 7 rfl).trans (perm_front 7 rfl)).trans (perm_front 7 rfl)).trans (perm_front 7 rfl)).trans (perm_front 7 rfl)).trans (perm_front 7 rfl)).trans (perm_front 7 rfl)).trans (perm_front 7 rfl)))
   obtain ⟨β1, sb, kn, hw1, back⟩ := St.frame (L := [_]) (M := _ :: _ :: _ :: _ :: _ :: _ :: _ :: []) hw
   refine (writeH_ok β1 w J S (kn _ (k_pt 1 (cs := #[.pointer (some ⟨S, 0, none⟩), Nx (i.epoch), Nx (i.next), vs, vr, Nx (i.size), vd]) (vs := [.pointer (some ⟨S, 0, none⟩)]) rfl rfl)) (ck3 k e n xs) (hf3.le (by omega)) 0 (by omega) ((be 8 (U ((e : Nat) : Int))) ++ be 8 (tickU ((e : Nat) : Int))) _ (by omega) (kn _ (Knows.of_res 6 rfl (Sl.mono U8R _ _) fun _ h => row_u8 h)) hw1).mono ?_
   rintro e w' (⟨rfl, ok28, hw'⟩ | ⟨rfl, ok28, hw'⟩)
   ·
    refine .inl ⟨_, rfl, _, back _ _ hw', ?_⟩
    clear hw hw1 hw' back kn sb
    refine panR ?_
    intro w hw
    refine .inl ⟨rfl, fun h => ok28 h.2.2, ?_⟩
    rw [ckS, if_pos ok1, if_pos ok2, ck4, show e % 2 * 16 = 0 by omega]
    exact st_mask [true, true, true, true, true, false, false, false] rfl (hw.perm (L' := [pt J (.cells #[.pointer (some ⟨S, 0, none⟩), Nx (i.epoch), Nx (i.next), vs, vr, Nx (i.size), vd] 84), pt q2 (.cells #[.pointer (some ⟨J, 0, none⟩)] 43), pt q6 (.cells #[Nx (e), Nx (n), ws, wr_, wz] 36), pt q3 (.cells #[.slice sa (xs.length) (sc)] 30), storeR S (wrH (ck3 k e n xs) 0 ((be 8 (U ((e : Nat) : Int))) ++ be 8 (tickU ((e : Nat) : Int)))), row (.slice pH8 ((ck2 k e n xs).head).length cH11) 5 1 (((ck2 k e n xs).head).length) (BX ((ck2 k e n xs).head)), row (.slice (sla (fa6 24)) (formB ((e : Nat) : Int) ((n : Nat) : Int) xs).length (slc (fa6 24))) 5 1 ((formB ((e : Nat) : Int) ((n : Nat) : Int) xs).length) (BX (formB ((e : Nat) : Int) ((n : Nat) : Int) xs)), row (.slice (sla (fa26 49)) ((be 8 (U ((e : Nat) : Int))) ++ be 8 (tickU ((e : Nat) : Int))).length (slc (fa26 49))) 5 1 (((be 8 (U ((e : Nat) : Int))) ++ be 8 (tickU ((e : Nat) : Int))).length) (BX ((be 8 (U ((e : Nat) : Int))) ++ be 8 (tickU ((e : Nat) : Int))))]) (by exact ((((((((perm_front 7 rfl).trans (perm_front 7 rfl)).trans (perm_front 3 rfl)).trans (perm_front 3 rfl)).trans (perm_front 7 rfl)).trans (perm_front 7 rfl)).trans (perm_front 7 rfl)).trans (perm_front 7 rfl))))
   refine .inr ⟨_, rfl, _, back _ _ hw', ?_⟩
   clear hw hw1 hw' back kn sb
   refine l_nil ?_
   refine end0 Try.results55 ?_
   intro w hw
   refine .inr ⟨rfl, ⟨ok1, ok2, ok28⟩, ?_⟩
   rw [ckS, if_pos ok1, if_pos ok2, ck4, show e % 2 * 16 = 0 by omega]
   exact st_mask [true, true, true, true, true, false, false, false] rfl (hw.perm (L' := [pt J (.cells #[.pointer (some ⟨S, 0, none⟩), Nx (i.epoch), Nx (i.next), vs, vr, Nx (i.size), vd] 84), pt q2 (.cells #[.pointer (some ⟨J, 0, none⟩)] 43), pt q6 (.cells #[Nx (e), Nx (n), ws, wr_, wz] 36), pt q3 (.cells #[.slice sa (xs.length) (sc)] 30), storeR S (wrH (ck3 k e n xs) 0 ((be 8 (U ((e : Nat) : Int))) ++ be 8 (tickU ((e : Nat) : Int)))), row (.slice pH8 ((ck2 k e n xs).head).length cH11) 5 1 (((ck2 k e n xs).head).length) (BX ((ck2 k e n xs).head)), row (.slice (sla (fa6 24)) (formB ((e : Nat) : Int) ((n : Nat) : Int) xs).length (slc (fa6 24))) 5 1 ((formB ((e : Nat) : Int) ((n : Nat) : Int) xs).length) (BX (formB ((e : Nat) : Int) ((n : Nat) : Int) xs)), row (.slice (sla (fa26 49)) ((be 8 (U ((e : Nat) : Int))) ++ be 8 (tickU ((e : Nat) : Int))).length (slc (fa26 49))) 5 1 (((be 8 (U ((e : Nat) : Int))) ++ be 8 (tickU ((e : Nat) : Int))).length) (BX ((be 8 (U ((e : Nat) : Int))) ++ be 8 (tickU ((e : Nat) : Int))))]) (by exact ((((((((perm_front 7 rfl).trans (perm_front 7 rfl)).trans (perm_front 3 rfl)).trans (perm_front 3 rfl)).trans (perm_front 7 rfl)).trans (perm_front 7 rfl)).trans (perm_front 7 rfl)).trans (perm_front 7 rfl))))
  ·
   refine c_skip ?_
   refine f_then ?_
   refine c_seq ?_
   refine c_any [⟨[], [], [0], [42], fun f => f 42 = .pointer (some ⟨q6, 0, none⟩)⟩, ⟨[0], [0], [], [43], fun f => f 43 = Nx (e)⟩, ⟨[0, 1], [1], [], [44], fun f => f 44 = Ux (U ((e : Nat) : Int))⟩, ⟨[0, 1, 2], [2], [], [45], fun f => f 45 = .slice (sla (f 45)) (be 8 (U ((e : Nat) : Int))).length (slc (f 45))⟩, ⟨[], [], [0], [46], fun f => f 46 = .pointer (some ⟨q6, 0, none⟩)⟩, ⟨[4], [4], [], [47], fun f => f 47 = Nx (e)⟩, ⟨[0, 1, 2, 3, 4, 5], [5], [], [48], fun f => f 48 = Ux (tickU ((e : Nat) : Int))⟩, ⟨[0, 1, 2, 3, 4, 5, 6], [3, 6], [], [49], fun f => f 49 = .slice (sla (f 49)) ((be 8 (U ((e : Nat) : Int))) ++ be 8 (tickU ((e : Nat) : Int))).length (slc (f 49))⟩, ⟨[0, 1, 2, 3, 4, 5, 6, 7], [7], [], [4, 49], fun f => f 4 = .slice (sla (f 49)) ((be 8 (U ((e : Nat) : Int))) ++ be 8 (tickU ((e : Nat) : Int))).length (slc (f 49))⟩] [⟨none, none, [], [], fun _ => pt S (.cells #[.slice pH8 ((ck2 k e n xs).head).length cH11, .slice pA9 ((ck2 k e n xs).a).length cA12, .slice pB10 ((ck2 k e n xs).b).length cB13, Ix ((ck2 k e n xs).power)] 32)⟩, ⟨none, none, [], [], fun _ => row (.slice pH8 ((ck2 k e n xs).head).length cH11) 5 1 (((ck2 k e n xs).head).length) (BX ((ck2 k e n xs).head))⟩, ⟨none, none, [], [], fun _ => row (.slice pA9 ((ck2 k e n xs).a).length cA12) 5 1 (((ck2 k e n xs).a).length) (BX ((ck2 k e n xs).a))⟩, ⟨none, none, [], [], fun _ => row (.slice pB10 ((ck2 k e n xs).b).length cB13) 5 1 (((ck2 k e n xs).b).length) (BX ((ck2 k e n xs).b))⟩, ⟨none, none, [], [], fun _ => pt J (.cells #[.pointer (some ⟨S, 0, none⟩), Nx (i.epoch), Nx (i.next), vs, vr, Nx (i.size), vd] 84)⟩, ⟨none, none, [], [], fun _ => pt q2 (.cells #[.pointer (some ⟨J, 0, none⟩)] 43)⟩, ⟨none, none, [1, 5], [], fun _ => pt q6 (.cells #[Nx (e), Nx (n), ws, wr_, wz] 36)⟩, ⟨none, none, [], [], fun _ => pt q3 (.cells #[.slice sa (xs.length) (sc)] 30)⟩, ⟨none, none, [], [], fun _ => row (.slice (sla (fa6 24)) (formB ((e : Nat) : Int) ((n : Nat) : Int) xs).length (slc (fa6 24))) 5 1 ((formB ((e : Nat) : Int) ((n : Nat) : Int) xs).length) (BX (formB ((e : Nat) : Int) ((n : Nat) : Int) xs))⟩, ⟨(some 3), (some 7), [7], [45], fun f => row (.slice (sla (f 45)) (be 8 (U ((e : Nat) : Int))).length (slc (f 45))) 5 1 ((be 8 (U ((e : Nat) : Int))).length) (BX (be 8 (U ((e : Nat) : Int))))⟩, ⟨(some 7), none, [], [49], fun f => row (.slice (sla (f 49)) ((be 8 (U ((e : Nat) : Int))) ++ be 8 (tickU ((e : Nat) : Int))).length (slc (f 49))) 5 1 (((be 8 (U ((e : Nat) : Int))) ++ be 8 (tickU ((e : Nat) : Int))).length) (BX ((be 8 (U ((e : Nat) : Int))) ++ be 8 (tickU ((e : Nat) : Int))))⟩] [(1, .pointer (some ⟨q6, 0, none⟩)), (0, .pointer (some ⟨q2, 0, none⟩))] [1, 0] [] (by kernel_rfl) (by kernel_rfl) (by kernel_rfl) (by kernel_rfl) rfl ⟨rfl, rfl, trivial⟩ ⟨?_, ?_, ?_, ?_, ?_, ?_, ?_, ?_, ?_, trivial⟩ ?_
   ·rintro f M - ⟨i0, -⟩
    have hs1 : f 1 = .pointer (some ⟨q6, 0, none⟩) := i0
    refine ob_start (L' := M) (by rfl) (up_cons rfl hs1) ?_
    refine l_val (v := .pointer (some ⟨q6, 0, none⟩)) rfl rfl rfl (e_fieldPt (b := q6) (o := 0) rfl tf48) ?_
    refine l_nil ?_
    exact f_owes_d (up_cons rfl hs1) rfl (List.Perm.refl _)
   ·rintro f M ⟨k0, -⟩ -
    have hs42 : f 42 = .pointer (some ⟨q6, 0, none⟩) := k0
    refine ob_start (L' := pt q6 (.cells #[Nx (e), Nx (n), ws, wr_, wz] 36) :: M) (by rfl) (up_cons rfl hs42) ?_
    refine l_val (v := Nx (e)) rfl rfl rfl (e_load1 tf25 (v := Nx (e)) rfl (k_pt 0 (cs := #[Nx (e), Nx (n), ws, wr_, wz]) (vs := [Nx (e)]) rfl rfl)) ?_
    refine l_nil ?_
    exact f_owes_d (up_cons rfl hs42) rfl (perm_front 0 rfl)
   ·rintro f M ⟨k0, -⟩ -
    have hs43 : f 43 = Nx (e) := k0
    refine ob_start (L' := M) (by rfl) (up_cons rfl hs43) ?_
    refine l_val (v := Ux (U ((e : Nat) : Int))) rfl rfl rfl (e_conv (a := ((e : Nat) : Int)) rfl ⟨_, tf1⟩ tf2 (ux_of _)) ?_
    refine l_nil ?_
    exact f_owes_d (up_cons rfl hs43) rfl (List.Perm.refl _)
   ·rintro f M ⟨k0, -⟩ -
    have hs44 : f 44 = Ux (U ((e : Nat) : Int)) := k0
    refine ob_start (L' := M) (by rfl) (up_cons rfl hs44) ?_
    refine l_call rfl rfl rfl (cl_value (fst := []) (cap := []) (vs := [.slice none 0 0, Ux (U ((e : Nat) : Int)), .int .i64 (8)]) (all := [.slice none 0 0, Ux (U ((e : Nat) : Int)), .int .i64 (8)]) tf17 rfl rfl rfl) ?_
    intro w hw
    obtain ⟨β1, sb, kn, hw1, back⟩ := St.frame_all hw
    refine (appended0_ok β1 w hw1 (U ((e : Nat) : Int)) 8 (by decide)).mono ?_
    rintro e w' ⟨p31, c32, rfl, hw'⟩
    refine ⟨_, rfl, _, back _ _ hw', ?_⟩
    clear hw hw1 hw' back kn sb
    refine l_nil ?_
    exact f_owes_d (up_cons rfl hs44) rfl (perm_front 0 rfl)
   ·rintro f M - ⟨i0, -⟩
    have hs1 : f 1 = .pointer (some ⟨q6, 0, none⟩) := i0
    refine ob_start (L' := M) (by rfl) (up_cons rfl hs1) ?_
    refine l_val (v := .pointer (some ⟨q6, 0, none⟩)) rfl rfl rfl (e_fieldPt (b := q6) (o := 0) rfl tf48) ?_
    refine l_nil ?_
    exact f_owes_d (up_cons rfl hs1) rfl (List.Perm.refl _)
   ·rintro f M ⟨k0, -⟩ -
    have hs46 : f 46 = .pointer (some ⟨q6, 0, none⟩) := k0
    refine ob_start (L' := pt q6 (.cells #[Nx (e), Nx (n), ws, wr_, wz] 36) :: M) (by rfl) (up_cons rfl hs46) ?_
    refine l_val (v := Nx (e)) rfl rfl rfl (e_load1 tf25 (v := Nx (e)) rfl (k_pt 0 (cs := #[Nx (e), Nx (n), ws, wr_, wz]) (vs := [Nx (e)]) rfl rfl)) ?_
    refine l_nil ?_
    exact f_owes_d (up_cons rfl hs46) rfl (perm_front 0 rfl)
   ·rintro f M ⟨k0, -⟩ -
    have hs47 : f 47 = Nx (e) := k0
    refine ob_start (L' := M) (by rfl) (up_cons rfl hs47) ?_
    refine l_call rfl rfl rfl (cl_value (fst := []) (cap := []) (vs := [Nx (e)]) (all := [Nx (e)]) tf26 rfl rfl rfl) ?_
    intro w hw
    obtain ⟨β1, sb, kn, hw1, back⟩ := St.frame_all hw
    refine (tick_ok β1 w hw1 ((e : Nat) : Int)).mono ?_
    rintro e w' ⟨rfl, hw'⟩
    refine ⟨_, rfl, _, back _ _ hw', ?_⟩
    clear hw hw1 hw' back kn sb
    refine l_nil ?_
    exact f_owes_d (up_cons rfl hs47) rfl (List.Perm.refl _)
   ·rintro f M ⟨k0, k1, -⟩ -
    have hs45 : f 45 = .slice (sla (f 45)) (be 8 (U ((e : Nat) : Int))).length (slc (f 45)) := k0
    have hs48 : f 48 = Ux (tickU ((e : Nat) : Int)) := k1
    refine ob_start (L' := row (.slice (sla (f 45)) (be 8 (U ((e : Nat) : Int))).length (slc (f 45))) 5 1 ((be 8 (U ((e : Nat) : Int))).length) (BX (be 8 (U ((e : Nat) : Int)))) :: M) (by rfl) (up_cons (up_cons rfl hs45) hs48) ?_
    refine l_call rfl rfl rfl (cl_value (fst := []) (cap := []) (vs := [.slice (sla (f 45)) (be 8 (U ((e : Nat) : Int))).length (slc (f 45)), Ux (tickU ((e : Nat) : Int)), .int .i64 (8)]) (all := [.slice (sla (f 45)) (be 8 (U ((e : Nat) : Int))).length (slc (f 45)), Ux (tickU ((e : Nat) : Int)), .int .i64 (8)]) tf17 rfl rfl rfl) ?_
    intro w hw
    replace hw := hw.perm (L' := _ :: M) (by exact (perm_front 0 rfl))
    obtain ⟨β1, sb, kn, hw1, back⟩ := St.frame (L := [_]) (M := M) hw
    refine (appended_ok β1 w _ _ (be 8 (U ((e : Nat) : Int))) (tickU ((e : Nat) : Int)) 8 (by decide) (by simp only [List.length_append, be_length]; omega) hw1).mono ?_
    rintro e w' ⟨p35, c36, rfl, hw'⟩
    refine ⟨_, rfl, _, back _ _ hw', ?_⟩
    clear hw hw1 hw' back kn sb
    refine l_nil ?_
    exact f_owes_d (up_cons (up_cons rfl hs45) hs48) rfl (perm_front 0 rfl)
   ·rintro f M ⟨k0, -⟩ -
    have hs49 : f 49 = .slice (sla (f 49)) ((be 8 (U ((e : Nat) : Int))) ++ be 8 (tickU ((e : Nat) : Int))).length (slc (f 49)) := k0
    refine ob_start (L' := M) (by rfl) (up_cons rfl hs49) ?_
    refine l_val (v := .slice (sla (f 49)) ((be 8 (U ((e : Nat) : Int))) ++ be 8 (tickU ((e : Nat) : Int))).length (slc (f 49))) rfl rfl rfl (e_assign) ?_
    refine l_nil ?_
    exact f_owes_d (up_cons rfl hs49) rfl (List.Perm.refl _)
   rintro fa37 ⟨-, -, -, -, -, -, -, -, k8, -⟩ ⟨j0, j1, -⟩
   refine f_re (L' := [pt S (.cells #[.slice pH8 ((ck2 k e n xs).head).length cH11, .slice pA9 ((ck2 k e n xs).a).length cA12, .slice pB10 ((ck2 k e n xs).b).length cB13, Ix ((ck2 k e n xs).power)] 32), row (.slice pH8 ((ck2 k e n xs).head).length cH11) 5 1 (((ck2 k e n xs).head).length) (BX ((ck2 k e n xs).head)), row (.slice pA9 ((ck2 k e n xs).a).length cA12) 5 1 (((ck2 k e n xs).a).length) (BX ((ck2 k e n xs).a)), row (.slice pB10 ((ck2 k e n xs).b).length cB13) 5 1 (((ck2 k e n xs).b).length) (BX ((ck2 k e n xs).b)), pt J (.cells #[.pointer (some ⟨S, 0, none⟩), Nx (i.epoch), Nx (i.next), vs, vr, Nx (i.size), vd] 84), pt q2 (.cells #[.pointer (some ⟨J, 0, none⟩)] 43), pt q6 (.cells #[Nx (e), Nx (n), ws, wr_, wz] 36), pt q3 (.cells #[.slice sa (xs.length) (sc)] 30), row (.slice (sla (fa6 24)) (formB ((e : Nat) : Int) ((n : Nat) : Int) xs).length (slc (fa6 24))) 5 1 ((formB ((e : Nat) : Int) ((n : Nat) : Int) xs).length) (BX (formB ((e : Nat) : Int) ((n : Nat) : Int) xs)), row (.slice (sla (fa37 49)) ((be 8 (U ((e : Nat) : Int))) ++ be 8 (tickU ((e : Nat) : Int))).length (slc (fa37 49))) 5 1 (((be 8 (U ((e : Nat) : Int))) ++ be 8 (tickU ((e : Nat) : Int))).length) (BX ((be 8 (U ((e : Nat) : Int))) ++ be 8 (tickU ((e : Nat) : Int))))]) (by rfl) ?_
   refine f_rebase (d := 0) (v := .pointer (some ⟨q2, 0, none⟩)) j0 ?_
   refine f_rebase (d := 1) (v := .pointer (some ⟨q6, 0, none⟩)) j1 ?_
   refine f_rebase (d := 4) (v := .slice (sla (fa37 49)) ((be 8 (U ((e : Nat) : Int))) ++ be 8 (tickU ((e : Nat) : Int))).length (slc (fa37 49))) k8 ?_
   refine f_then ?_
   refine c_perm (L' := [pt S (.cells #[.slice pH8 ((ck2 k e n xs).head).length cH11, .slice pA9 ((ck2 k e n xs).a).length cA12, .slice pB10 ((ck2 k e n xs).b).length cB13, Ix ((ck2 k e n xs).power)] 32), row (.slice pH8 ((ck2 k e n xs).head).length cH11) 5 1 (((ck2 k e n xs).head).length) (BX ((ck2 k e n xs).head)), row (.slice pA9 ((ck2 k e n xs).a).length cA12) 5 1 (((ck2 k e n xs).a).length) (BX ((ck2 k e n xs).a)), row (.slice pB10 ((ck2 k e n xs).b).length cB13) 5 1 (((ck2 k e n xs).b).length) (BX ((ck2 k e n xs).b)), pt J (.cells #[.pointer (some ⟨S, 0, none⟩), Nx (i.epoch), Nx (i.next), vs, vr, Nx (i.size), vd] 84), pt q2 (.cells #[.pointer (some ⟨J, 0, none⟩)] 43), pt q6 (.cells #[Nx (e), Nx (n), ws, wr_, wz] 36), pt q3 (.cells #[.slice sa (xs.length) (sc)] 30), row (.slice (sla (fa6 24)) (formB ((e : Nat) : Int) ((n : Nat) : Int) xs).length (slc (fa6 24))) 5 1 ((formB ((e : Nat) : Int) ((n : Nat) : Int) xs).length) (BX (formB ((e : Nat) : Int) ((n : Nat) : Int) xs)), row (.slice (sla (fa37 49)) ((be 8 (U ((e : Nat) : Int))) ++ be 8 (tickU ((e : Nat) : Int))).length (slc (fa37 49))) 5 1 (((be 8 (U ((e : Nat) : Int))) ++ be 8 (tickU ((e : Nat) : Int))).length) (BX ((be 8 (U ((e : Nat) : Int))) ++ be 8 (tickU ((e : Nat) : Int))))]) (by exact ((((((((((perm_front 9 rfl).trans (perm_front 9 rfl)).trans (perm_front 9 rfl)).trans (perm_front 9 rfl)).trans (perm_front 9 rfl)).trans (perm_front 9 rfl)).trans (perm_front 9 rfl)).trans (perm_front 9 rfl)).trans (perm_front 9 rfl)).trans (perm_front 9 rfl))) ?_
   refine c_closeStore (S := S) (k := (ck3 k e n xs)) (pH := pH8) (pA := pA9) (pB := pB10) (cH := cH11) (cA := cA12) (cB := cB13) (M := (pt J (.cells #[.pointer (some ⟨S, 0, none⟩), Nx (i.epoch), Nx (i.next), vs, vr, Nx (i.size), vd] 84) :: pt q2 (.cells #[.pointer (some ⟨J, 0, none⟩)] 43) :: pt q6 (.cells #[Nx (e), Nx (n), ws, wr_, wz] 36) :: pt q3 (.cells #[.slice sa (xs.length) (sc)] 30) :: row (.slice (sla (fa6 24)) (formB ((e : Nat) : Int) ((n : Nat) : Int) xs).length (slc (fa6 24))) 5 1 ((formB ((e : Nat) : Int) ((n : Nat) : Int) xs).length) (BX (formB ((e : Nat) : Int) ((n : Nat) : Int) xs)) :: row (.slice (sla (fa37 49)) ((be 8 (U ((e : Nat) : Int))) ++ be 8 (tickU ((e : Nat) : Int))).length (slc (fa37 49))) 5 1 (((be 8 (U ((e : Nat) : Int))) ++ be 8 (tickU ((e : Nat) : Int))).length) (BX ((be 8 (U ((e : Nat) : Int))) ++ be 8 (tickU ((e : Nat) : Int)))) :: [])) (by rw [show ck3 k e n xs = ck2 k e n xs from if_neg (by omega)]; rfl) ?_
   have hf3 : (ck3 k e n xs).fits 655360 := by
    rw [show ck3 k e n xs = ck2 k e n xs from if_neg (by omega)]
    exact hf2
   have hcl : (be 8 (U ((e : Nat) : Int)) ++ be 8 (tickU ((e : Nat) : Int))).length = 16 := by simp [be_length]
   refine c_any_end 12 rfl rfl [⟨[], [], [0], [50], fun f => f 50 = .pointer (some ⟨J, 0, none⟩)⟩, ⟨[], [], [0], [51], fun f => f 51 = .pointer (some ⟨J, 0, none⟩)⟩, ⟨[1], [1], [], [52], fun f => f 52 = .pointer (some ⟨J, 0, none⟩)⟩, ⟨[1, 2], [2], [], [53], fun f => f 53 = .pointer (some ⟨J, 0, none⟩)⟩, ⟨[1, 2, 3], [3], [], [54], fun f => f 54 = .pointer (some ⟨S, 0, none⟩)⟩, ⟨[1, 2, 3, 4], [4], [], [55], fun f => f 55 = .pointer (some ⟨S, 0, none⟩)⟩, ⟨[1, 2, 3, 4, 5], [5], [], [56], fun f => f 56 = .pointer (some ⟨S, 0, none⟩)⟩, ⟨[], [], [1], [57], fun f => f 57 = .pointer (some ⟨q6, 0, none⟩)⟩, ⟨[7], [7], [], [58], fun f => f 58 = Nx (e)⟩, ⟨[7, 8], [8], [], [59], fun f => f 59 = .int .i64 (0)⟩, ⟨[7, 8, 9], [9], [], [60], fun f => f 60 = .int .i64 (0)⟩, ⟨[], [], [2], [61], fun f => f 61 = .slice (sla (fa37 49)) ((be 8 (U ((e : Nat) : Int))) ++ be 8 (tickU ((e : Nat) : Int))).length (slc (fa37 49))⟩, ⟨[0, 1, 2, 3, 4, 5, 6, 7, 8, 9, 10, 11], [], [], [], fun _ => True⟩] [⟨none, none, [], [], fun _ => storeR S (ck3 k e n xs)⟩, ⟨none, none, [4], [], fun _ => pt J (.cells #[.pointer (some ⟨S, 0, none⟩), Nx (i.epoch), Nx (i.next), vs, vr, Nx (i.size), vd] 84)⟩, ⟨none, none, [0, 1], [], fun _ => pt q2 (.cells #[.pointer (some ⟨J, 0, none⟩)] 43)⟩, ⟨none, none, [8], [], fun _ => pt q6 (.cells #[Nx (e), Nx (n), ws, wr_, wz] 36)⟩, ⟨none, none, [], [], fun _ => pt q3 (.cells #[.slice sa (xs.length) (sc)] 30)⟩, ⟨none, none, [], [], fun _ => row (.slice (sla (fa6 24)) (formB ((e : Nat) : Int) ((n : Nat) : Int) xs).length (slc (fa6 24))) 5 1 ((formB ((e : Nat) : Int) ((n : Nat) : Int) xs).length) (BX (formB ((e : Nat) : Int) ((n : Nat) : Int) xs))⟩, ⟨none, none, [], [], fun _ => row (.slice (sla (fa37 49)) ((be 8 (U ((e : Nat) : Int))) ++ be 8 (tickU ((e : Nat) : Int))).length (slc (fa37 49))) 5 1 (((be 8 (U ((e : Nat) : Int))) ++ be 8 (tickU ((e : Nat) : Int))).length) (BX ((be 8 (U ((e : Nat) : Int))) ++ be 8 (tickU ((e : Nat) : Int))))⟩] [(0, .pointer (some ⟨q2, 0, none⟩)), (1, .pointer (some ⟨q6, 0, none⟩)), (4, .slice (sla (fa37 49)) ((be 8 (U ((e : Nat) : Int))) ++ be 8 (tickU ((e : Nat) : Int))).length (slc (fa37 49)))] [] [] (by kernel_rfl) (by kernel_rfl) (by kernel_rfl) (by kernel_rfl) (by kernel_rfl) (by kernel_rfl) rfl ⟨rfl, rfl, rfl, trivial⟩ ⟨?_, ?_, ?_, ?_, ?_, ?_, ?_, ?_, ?_, ?_, ?_, ?_, trivial⟩ ?_
   ·rintro f M - ⟨i0, -⟩
    have hs0 : f 0 = .pointer (some ⟨q2, 0, none⟩) := i0
    refine ob_start (L' := pt q2 (.cells #[.pointer (some ⟨J, 0, none⟩)] 43) :: M) (by rfl) (up_cons rfl hs0) ?_
    refine l_val (v := .pointer (some ⟨J, 0, none⟩)) rfl rfl rfl (e_load1 tf43 (v := .pointer (some ⟨J, 0, none⟩)) rfl (k_pt 0 (cs := #[.pointer (some ⟨J, 0, none⟩)]) (vs := [.pointer (some ⟨J, 0, none⟩)]) rfl rfl)) ?_
    refine l_nil ?_
    exact f_owes_d (up_cons rfl hs0) rfl (perm_front 0 rfl)
   ·rintro f M - ⟨i0, -⟩
    have hs0 : f 0 = .pointer (some ⟨q2, 0, none⟩) := i0
    refine ob_start (L' := pt q2 (.cells #[.pointer (some ⟨J, 0, none⟩)] 43) :: M) (by rfl) (up_cons rfl hs0) ?_
    refine l_val (v := .pointer (some ⟨J, 0, none⟩)) rfl rfl rfl (e_load1 tf43 (v := .pointer (some ⟨J, 0, none⟩)) rfl (k_pt 0 (cs := #[.pointer (some ⟨J, 0, none⟩)]) (vs := [.pointer (some ⟨J, 0, none⟩)]) rfl rfl)) ?_
    refine l_nil ?_
    exact f_owes_d (up_cons rfl hs0) rfl (perm_front 0 rfl)
   ·rintro f M ⟨k0, -⟩ -
    have hs51 : f 51 = .pointer (some ⟨J, 0, none⟩) := k0
    refine ob_start (L' := M) (by rfl) (up_cons rfl hs51) ?_
    refine l_val (v := .pointer (some ⟨J, 0, none⟩)) rfl rfl rfl (e_nil (a := ⟨J, 0, none⟩) rfl) ?_
    refine l_nil ?_
    exact f_owes_d (up_cons rfl hs51) rfl (List.Perm.refl _)
   ·rintro f M ⟨k0, -⟩ -
    have hs52 : f 52 = .pointer (some ⟨J, 0, none⟩) := k0
    refine ob_start (L' := M) (by rfl) (up_cons rfl hs52) ?_
    refine l_val (v := .pointer (some ⟨J, 0, none⟩)) rfl rfl rfl (e_fieldPt (b := J) (o := 0) rfl tf30) ?_
    refine l_nil ?_
    exact f_owes_d (up_cons rfl hs52) rfl (List.Perm.refl _)
   ·rintro f M ⟨k0, -⟩ -
    have hs53 : f 53 = .pointer (some ⟨J, 0, none⟩) := k0
    refine ob_start (L' := pt J (.cells #[.pointer (some ⟨S, 0, none⟩), Nx (i.epoch), Nx (i.next), vs, vr, Nx (i.size), vd] 84) :: M) (by rfl) (up_cons rfl hs53) ?_
    refine l_val (v := .pointer (some ⟨S, 0, none⟩)) rfl rfl rfl (e_load1 tf31 (v := .pointer (some ⟨S, 0, none⟩)) rfl (k_pt 0 (cs := #[.pointer (some ⟨S, 0, none⟩), Nx (i.epoch), Nx (i.next), vs, vr, Nx (i.size), vd]) (vs := [.pointer (some ⟨S, 0, none⟩)]) rfl rfl)) ?_
    refine l_nil ?_
    exact f_owes_d (up_cons rfl hs53) rfl (perm_front 0 rfl)
   ·rintro f M ⟨k0, -⟩ -
    have hs54 : f 54 = .pointer (some ⟨S, 0, none⟩) := k0
    refine ob_start (L' := M) (by rfl) (up_cons rfl hs54) ?_
    refine l_val (v := .pointer (some ⟨S, 0, none⟩)) rfl rfl rfl (e_nil (a := ⟨S, 0, none⟩) rfl) ?_
    refine l_nil ?_
    exact f_owes_d (up_cons rfl hs54) rfl (List.Perm.refl _)
   ·rintro f M ⟨k0, -⟩ -
    have hs55 : f 55 = .pointer (some ⟨S, 0, none⟩) := k0
    refine ob_start (L' := M) (by rfl) (up_cons rfl hs55) ?_
    refine l_val (v := .pointer (some ⟨S, 0, none⟩)) rfl rfl rfl (e_fieldPt (b := S) (o := 0) rfl tf20) ?_
    refine l_nil ?_
    exact f_owes_d (up_cons rfl hs55) rfl (List.Perm.refl _)
   ·rintro f M - ⟨i0, -⟩
    have hs1 : f 1 = .pointer (some ⟨q6, 0, none⟩) := i0
    refine ob_start (L' := M) (by rfl) (up_cons rfl hs1) ?_
    refine l_val (v := .pointer (some ⟨q6, 0, none⟩)) rfl rfl rfl (e_fieldPt (b := q6) (o := 0) rfl tf48) ?_
    refine l_nil ?_
    exact f_owes_d (up_cons rfl hs1) rfl (List.Perm.refl _)
   ·rintro f M ⟨k0, -⟩ -
    have hs57 : f 57 = .pointer (some ⟨q6, 0, none⟩) := k0
    refine ob_start (L' := pt q6 (.cells #[Nx (e), Nx (n), ws, wr_, wz] 36) :: M) (by rfl) (up_cons rfl hs57) ?_
    refine l_val (v := Nx (e)) rfl rfl rfl (e_load1 tf25 (v := Nx (e)) rfl (k_pt 0 (cs := #[Nx (e), Nx (n), ws, wr_, wz]) (vs := [Nx (e)]) rfl rfl)) ?_
    refine l_nil ?_
    exact f_owes_d (up_cons rfl hs57) rfl (perm_front 0 rfl)
   ·rintro f M ⟨k0, -⟩ -
    have hs58 : f 58 = Nx (e) := k0
    refine ob_start (L' := M) (by rfl) (up_cons rfl hs58) ?_
    refine l_val (v := .int .i64 (0)) rfl rfl rfl (ev_eq (by rw [hpar]; rfl) (e_rem (a := ((e : Nat) : Int)) (b := (2 : Int)) rfl rfl (by decide) (nat_tmod _ 2))) ?_
    refine l_nil ?_
    exact f_owes_d (up_cons rfl hs58) rfl (List.Perm.refl _)
   ·rintro f M ⟨k0, -⟩ -
    have hs59 : f 59 = .int .i64 (0) := k0
    refine ob_start (L' := M) (by rfl) (up_cons rfl hs59) ?_
    refine l_val (v := .int .i64 (0)) rfl rfl rfl (e_mul (a := (0 : Int)) (b := (16 : Int)) rfl rfl (by decide)) ?_
    refine l_nil ?_
    exact f_owes_d (up_cons rfl hs59) rfl (List.Perm.refl _)
   ·rintro f M - ⟨i0, -⟩
    have hs4 : f 4 = .slice (sla (fa37 49)) ((be 8 (U ((e : Nat) : Int))) ++ be 8 (tickU ((e : Nat) : Int))).length (slc (fa37 49)) := i0
    refine ob_start (L' := M) (by rfl) (up_cons rfl hs4) ?_
    refine l_val (v := .slice (sla (fa37 49)) ((be 8 (U ((e : Nat) : Int))) ++ be 8 (tickU ((e : Nat) : Int))).length (slc (fa37 49))) rfl rfl rfl (e_move) ?_
    refine l_nil ?_
    exact f_owes_d (up_cons rfl hs4) rfl (List.Perm.refl _)
   rintro fa38 ⟨k0, -, -, -, -, -, k6, -, -, -, k10, k11, -⟩ -
   refine l_re (L' := [storeR S (ck3 k e n xs), pt J (.cells #[.pointer (some ⟨S, 0, none⟩), Nx (i.epoch), Nx (i.next), vs, vr, Nx (i.size), vd] 84), pt q2 (.cells #[.pointer (some ⟨J, 0, none⟩)] 43), pt q6 (.cells #[Nx (e), Nx (n), ws, wr_, wz] 36), pt q3 (.cells #[.slice sa (xs.length) (sc)] 30), row (.slice (sla (fa6 24)) (formB ((e : Nat) : Int) ((n : Nat) : Int) xs).length (slc (fa6 24))) 5 1 ((formB ((e : Nat) : Int) ((n : Nat) : Int) xs).length) (BX (formB ((e : Nat) : Int) ((n : Nat) : Int) xs)), row (.slice (sla (fa37 49)) ((be 8 (U ((e : Nat) : Int))) ++ be 8 (tickU ((e : Nat) : Int))).length (slc (fa37 49))) 5 1 (((be 8 (U ((e : Nat) : Int))) ++ be 8 (tickU ((e : Nat) : Int))).length) (BX ((be 8 (U ((e : Nat) : Int))) ++ be 8 (tickU ((e : Nat) : Int))))]) (by rfl) ?_
   refine l_rebase (d := 50) (v := .pointer (some ⟨J, 0, none⟩)) k0 ?_
   refine l_rebase (d := 56) (v := .pointer (some ⟨S, 0, none⟩)) k6 ?_
   refine l_rebase (d := 60) (v := .int .i64 (0)) k10 ?_
   refine l_rebase (d := 61) (v := .slice (sla (fa37 49)) ((be 8 (U ((e : Nat) : Int))) ++ be 8 (tickU ((e : Nat) : Int))).length (slc (fa37 49))) k11 ?_
   refine l_callP rfl rfl rfl (cl_value (fst := []) (cap := []) (vs := [.pointer (some ⟨J, 0, none⟩), .pointer (some ⟨S, 0, none⟩), .int .i64 (0), .slice (sla (fa37 49)) ((be 8 (U ((e : Nat) : Int))) ++ be 8 (tickU ((e : Nat) : Int))).length (slc (fa37 49))]) (all := [.pointer (some ⟨J, 0, none⟩), .pointer (some ⟨S, 0, none⟩), .int .i64 (0), .slice (sla (fa37 49)) ((be 8 (U ((e : Nat) : Int))) ++ be 8 (tickU ((e : Nat) : Int))).length (slc (fa37 49))]) tf51 rfl rfl rfl) ?_
   intro w hw
   replace hw := hw.perm (L' := _ :: _ :: _ :: _ :: _ :: _ :: _ :: []) (by exact (((((((perm_front 6 rfl).trans (perm_front 6 rfl)).trans (perm_front 6 rfl)).trans (perm_front 6 rfl)).trans (perm_front 6 rfl)).trans (perm_front 6 rfl)).trans (perm_front 6 rfl)))
   obtain ⟨β1, sb, kn, hw1, back⟩ := St.frame (L := [_]) (M := _ :: _ :: _ :: _ :: _ :: _ :: []) hw
   refine (writeH_ok β1 w J S (kn _ (k_pt 0 (cs := #[.pointer (some ⟨S, 0, none⟩), Nx (i.epoch), Nx (i.next), vs, vr, Nx (i.size), vd]) (vs := [.pointer (some ⟨S, 0, none⟩)]) rfl rfl)) (ck3 k e n xs) (hf3.le (by omega)) 0 (by omega) ((be 8 (U ((e : Nat) : Int))) ++ be 8 (tickU ((e : Nat) : Int))) _ (by omega) (kn _ (Knows.of_res 5 rfl (Sl.mono U8R _ _) fun _ h => row_u8 h)) hw1).mono ?_
   rintro e w' (⟨rfl, ok39, hw'⟩ | ⟨rfl, ok39, hw'⟩)
   ·
    refine .inl ⟨_, rfl, _, back _ _ hw', ?_⟩
    clear hw hw1 hw' back kn sb
    refine panR ?_
    intro w hw
    refine .inl ⟨rfl, fun h => ok39 h.2.2, ?_⟩
    rw [ckS, if_pos ok1, if_pos ok2, ck4, show e % 2 * 16 = 0 by omega]
    exact st_mask [true, true, true, true, true, false, false] rfl (hw.perm (L' := [pt J (.cells #[.pointer (some ⟨S, 0, none⟩), Nx (i.epoch), Nx (i.next), vs, vr, Nx (i.size), vd] 84), pt q2 (.cells #[.pointer (some ⟨J, 0, none⟩)] 43), pt q6 (.cells #[Nx (e), Nx (n), ws, wr_, wz] 36), pt q3 (.cells #[.slice sa (xs.length) (sc)] 30), storeR S (wrH (ck3 k e n xs) 0 ((be 8 (U ((e : Nat) : Int))) ++ be 8 (tickU ((e : Nat) : Int)))), row (.slice (sla (fa6 24)) (formB ((e : Nat) : Int) ((n : Nat) : Int) xs).length (slc (fa6 24))) 5 1 ((formB ((e : Nat) : Int) ((n : Nat) : Int) xs).length) (BX (formB ((e : Nat) : Int) ((n : Nat) : Int) xs)), row (.slice (sla (fa37 49)) ((be 8 (U ((e : Nat) : Int))) ++ be 8 (tickU ((e : Nat) : Int))).length (slc (fa37 49))) 5 1 (((be 8 (U ((e : Nat) : Int))) ++ be 8 (tickU ((e : Nat) : Int))).length) (BX ((be 8 (U ((e : Nat) : Int))) ++ be 8 (tickU ((e : Nat) : Int))))]) (by exact (((((((perm_front 6 rfl).trans (perm_front 6 rfl)).trans (perm_front 2 rfl)).trans (perm_front 6 rfl)).trans (perm_front 6 rfl)).trans (perm_front 6 rfl)).trans (perm_front 6 rfl))))
   refine .inr ⟨_, rfl, _, back _ _ hw', ?_⟩
   clear hw hw1 hw' back kn sb
   refine l_nil ?_
   refine end0 Try.results55 ?_
   intro w hw
   refine .inr ⟨rfl, ⟨ok1, ok2, ok39⟩, ?_⟩
   rw [ckS, if_pos ok1, if_pos ok2, ck4, show e % 2 * 16 = 0 by omega]
   exact st_mask [true, true, true, true, true, false, false] rfl (hw.perm (L' := [pt J (.cells #[.pointer (some ⟨S, 0, none⟩), Nx (i.epoch), Nx (i.next), vs, vr, Nx (i.size), vd] 84), pt q2 (.cells #[.pointer (some ⟨J, 0, none⟩)] 43), pt q6 (.cells #[Nx (e), Nx (n), ws, wr_, wz] 36), pt q3 (.cells #[.slice sa (xs.length) (sc)] 30), storeR S (wrH (ck3 k e n xs) 0 ((be 8 (U ((e : Nat) : Int))) ++ be 8 (tickU ((e : Nat) : Int)))), row (.slice (sla (fa6 24)) (formB ((e : Nat) : Int) ((n : Nat) : Int) xs).length (slc (fa6 24))) 5 1 ((formB ((e : Nat) : Int) ((n : Nat) : Int) xs).length) (BX (formB ((e : Nat) : Int) ((n : Nat) : Int) xs)), row (.slice (sla (fa37 49)) ((be 8 (U ((e : Nat) : Int))) ++ be 8 (tickU ((e : Nat) : Int))).length (slc (fa37 49))) 5 1 (((be 8 (U ((e : Nat) : Int))) ++ be 8 (tickU ((e : Nat) : Int))).length) (BX ((be 8 (U ((e : Nat) : Int))) ++ be 8 (tickU ((e : Nat) : Int))))]) (by exact (((((((perm_front 6 rfl).trans (perm_front 6 rfl)).trans (perm_front 2 rfl)).trans (perm_front 6 rfl)).trans (perm_front 6 rfl)).trans (perm_front 6 rfl)).trans (perm_front 6 rfl))))
 ·
  refine c_quiet (by kernel_rfl) (by kernel_rfl) ?_
  refine q_val (v := .pointer (some ⟨J, 0, none⟩)) rfl rfl rfl (e_load1 tf43 (v := .pointer (some ⟨J, 0, none⟩)) rfl (k_pt 1 (cs := #[.pointer (some ⟨J, 0, none⟩)]) (vs := [.pointer (some ⟨J, 0, none⟩)]) rfl rfl)) ?_
  refine q_val (v := .pointer (some ⟨J, 0, none⟩)) rfl rfl rfl (e_nil (a := ⟨J, 0, none⟩) rfl) ?_
  refine q_val (v := .pointer (some ⟨J, 0, none⟩)) rfl rfl rfl (e_fieldPt (b := J) (o := 0) rfl tf30) ?_
  refine q_val (v := .pointer (some ⟨S, 0, none⟩)) rfl rfl rfl (e_load1 tf31 (v := .pointer (some ⟨S, 0, none⟩)) rfl (k_pt 0 (cs := #[.pointer (some ⟨S, 0, none⟩), Nx (i.epoch), Nx (i.next), vs, vr, Nx (i.size), vd]) (vs := [.pointer (some ⟨S, 0, none⟩)]) rfl rfl)) ?_
  refine q_call (v := .agg #[.pointer (some ⟨S, 1, none⟩), .pointer (some ⟨S, 2, none⟩)]) rfl rfl rfl (cl_value (fst := []) (cap := []) (vs := [.pointer (some ⟨S, 0, none⟩)]) (all := [.pointer (some ⟨S, 0, none⟩)]) tf46 rfl rfl rfl) (fun w hw => ?_) ?_
  ·obtain ⟨β1, sb, kn, hw1, back⟩ := St.frame_all hw
   exact (areas_ok β1 w hw1 S).mono (fun e w' ⟨he, hw'⟩ => ⟨he, st_mask [true, true, true, true, true] rfl (back _ _ hw')⟩)
  refine q_val (v := .pointer (some ⟨q6, 0, none⟩)) rfl rfl rfl (e_fieldPt (b := q6) (o := 0) rfl tf48) ?_
  refine q_val (v := Nx (e)) rfl rfl rfl (e_load1 tf25 (v := Nx (e)) rfl (k_pt 2 (cs := #[Nx (e), Nx (n), ws, wr_, wz]) (vs := [Nx (e)]) rfl rfl)) ?_
  refine q_val (v := .int .i64 (1)) rfl rfl rfl (ev_eq (by rw [hpar]; rfl) (e_rem (a := ((e : Nat) : Int)) (b := (2 : Int)) rfl rfl (by decide) (nat_tmod _ 2))) ?_
  refine q_val (v := .pointer (some ⟨S, 2, none⟩)) rfl rfl rfl (e_index_a (cs := #[.pointer (some ⟨S, 1, none⟩), .pointer (some ⟨S, 2, none⟩)]) (k := 1) rfl rfl tf28 rfl (by decide) tf49) ?_
  refine q_val (v := .pointer (some ⟨S, 2, none⟩)) rfl rfl rfl (e_assign) ?_
  refine q_nil ?_
  refine f_then ?_
  refine c_seq ?_
  refine c_region ?_
  refine l_val (v := .pointer (some ⟨J, 0, none⟩)) rfl rfl rfl (e_load1 tf43 (v := .pointer (some ⟨J, 0, none⟩)) rfl (k_pt 1 (cs := #[.pointer (some ⟨J, 0, none⟩)]) (vs := [.pointer (some ⟨J, 0, none⟩)]) rfl rfl)) ?_
  refine l_val (v := .pointer (some ⟨S, 2, none⟩)) rfl rfl rfl (e_move) ?_
  refine l_callP rfl rfl rfl (cl_value (fst := []) (cap := []) (vs := [.pointer (some ⟨J, 0, none⟩), .pointer (some ⟨S, 2, none⟩), .int .i64 (0)]) (all := [.pointer (some ⟨J, 0, none⟩), .pointer (some ⟨S, 2, none⟩), .int .i64 (0)]) tf52 rfl rfl rfl) ?_
  intro w hw
  replace hw := hw.perm (L' := _ :: _ :: _ :: _ :: _ :: []) (by exact (((((perm_front 3 rfl).trans (perm_front 3 rfl)).trans (perm_front 3 rfl)).trans (perm_front 3 rfl)).trans (perm_front 4 rfl)))
  obtain ⟨β1, sb, kn, hw1, back⟩ := St.frame (L := [_]) (M := _ :: _ :: _ :: _ :: []) hw
  refine (cutS1_ok β1 w e hpar J S (kn _ (k_pt 0 (cs := #[.pointer (some ⟨S, 0, none⟩), Nx (i.epoch), Nx (i.next), vs, vr, Nx (i.size), vd]) (vs := [.pointer (some ⟨S, 0, none⟩)]) rfl rfl)) k (hk.le (by omega)) 0 hw1).mono ?_
  rintro e w' (⟨rfl, ok40, hw'⟩ | ⟨rfl, ok40, hw'⟩)
  ·
   refine .inl ⟨_, rfl, _, back _ _ hw', ?_⟩
   clear hw hw1 hw' back kn sb
   refine f_then_panic ?_
   refine panR ?_
   intro w hw
   refine .inl ⟨rfl, fun h => ok40 h.1, ?_⟩
   rw [ckS, if_neg (show ¬ ckOk1 k e from ok40)]
   exact st_mask [true, true, true, true, true] rfl (hw.perm (L' := [pt J (.cells #[.pointer (some ⟨S, 0, none⟩), Nx (i.epoch), Nx (i.next), vs, vr, Nx (i.size), vd] 84), pt q2 (.cells #[.pointer (some ⟨J, 0, none⟩)] 43), pt q6 (.cells #[Nx (e), Nx (n), ws, wr_, wz] 36), pt q3 (.cells #[.slice sa (xs.length) (sc)] 30), storeR S k]) (by exact (((((perm_front 0 rfl).trans (perm_front 4 rfl)).trans (perm_front 4 rfl)).trans (perm_front 4 rfl)).trans (perm_front 4 rfl))))
  refine .inr ⟨_, rfl, _, back _ _ hw', ?_⟩
  clear hw hw1 hw' back kn sb
  refine l_nil ?_
  refine f_then ?_
  refine c_seq ?_
  have ok1 : ckOk1 k e := ok40
  have hf1 : (ck1 k e).fits 524288 := hk.cut
  refine c_re (L' := [storeR S (ck1 k e), pt J (.cells #[.pointer (some ⟨S, 0, none⟩), Nx (i.epoch), Nx (i.next), vs, vr, Nx (i.size), vd] 84), pt q2 (.cells #[.pointer (some ⟨J, 0, none⟩)] 43), pt q6 (.cells #[Nx (e), Nx (n), ws, wr_, wz] 36), pt q3 (.cells #[.slice sa (xs.length) (sc)] 30)]) (by rfl) ?_
  refine c_any_end 8 rfl rfl [⟨[], [], [0], [17], fun f => f 17 = .pointer (some ⟨J, 0, none⟩)⟩, ⟨[], [], [1], [18], fun f => f 18 = .pointer (some ⟨S, 2, none⟩)⟩, ⟨[], [], [2], [19], fun f => f 19 = .pointer (some ⟨q6, 0, none⟩)⟩, ⟨[2], [2], [], [20], fun f => f 20 = Nx (e)⟩, ⟨[], [], [2], [21], fun f => f 21 = .pointer (some ⟨q6, 1, none⟩)⟩, ⟨[4], [4], [], [22], fun f => f 22 = Nx (n)⟩, ⟨[], [], [3], [23], fun f => f 23 = .slice sa (xs.length) (sc)⟩, ⟨[2, 3, 4, 5, 6], [3, 5, 6], [], [24], fun f => f 24 = .slice (sla (f 24)) (formB ((e : Nat) : Int) ((n : Nat) : Int) xs).length (slc (f 24))⟩, ⟨[0, 1, 2, 3, 4, 5, 6, 7], [], [], [], fun _ => True⟩] [⟨none, none, [], [], fun _ => storeR S (ck1 k e)⟩, ⟨none, none, [], [], fun _ => pt J (.cells #[.pointer (some ⟨S, 0, none⟩), Nx (i.epoch), Nx (i.next), vs, vr, Nx (i.size), vd] 84)⟩, ⟨none, none, [0], [], fun _ => pt q2 (.cells #[.pointer (some ⟨J, 0, none⟩)] 43)⟩, ⟨none, none, [3, 5], [], fun _ => pt q6 (.cells #[Nx (e), Nx (n), ws, wr_, wz] 36)⟩, ⟨none, none, [6], [], fun _ => pt q3 (.cells #[.slice sa (xs.length) (sc)] 30)⟩, ⟨(some 7), none, [], [24], fun f => row (.slice (sla (f 24)) (formB ((e : Nat) : Int) ((n : Nat) : Int) xs).length (slc (f 24))) 5 1 ((formB ((e : Nat) : Int) ((n : Nat) : Int) xs).length) (BX (formB ((e : Nat) : Int) ((n : Nat) : Int) xs))⟩] [(0, .pointer (some ⟨q2, 0, none⟩)), (3, .pointer (some ⟨S, 2, none⟩)), (1, .pointer (some ⟨q6, 0, none⟩)), (2, .pointer (some ⟨q3, 0, none⟩))] [0, 2] [] (by kernel_rfl) (by kernel_rfl) (by kernel_rfl) (by kernel_rfl) (by kernel_rfl) (by kernel_rfl) rfl ⟨rfl, rfl, rfl, rfl, trivial⟩ ⟨?_, ?_, ?_, ?_, ?_, ?_, ?_, ?_, trivial⟩ ?_
  ·rintro f M - ⟨i0, -⟩
   have hs0 : f 0 = .pointer (some ⟨q2, 0, none⟩) := i0
   refine ob_start (L' := pt q2 (.cells #[.pointer (some ⟨J, 0, none⟩)] 43) :: M) (by rfl) (up_cons rfl hs0) ?_
   refine l_val (v := .pointer (some ⟨J, 0, none⟩)) rfl rfl rfl (e_load1 tf43 (v := .pointer (some ⟨J, 0, none⟩)) rfl (k_pt 0 (cs := #[.pointer (some ⟨J, 0, none⟩)]) (vs := [.pointer (some ⟨J, 0, none⟩)]) rfl rfl)) ?_
   refine l_nil ?_
   exact f_owes_d (up_cons rfl hs0) rfl (perm_front 0 rfl)
  ·rintro f M - ⟨i0, -⟩
   have hs3 : f 3 = .pointer (some ⟨S, 2, none⟩) := i0
   refine ob_start (L' := M) (by rfl) (up_cons rfl hs3) ?_
   refine l_val (v := .pointer (some ⟨S, 2, none⟩)) rfl rfl rfl (e_move) ?_
   refine l_nil ?_
   exact f_owes_d (up_cons rfl hs3) rfl (List.Perm.refl _)
  ·rintro f M - ⟨i0, -⟩
   have hs1 : f 1 = .pointer (some ⟨q6, 0, none⟩) := i0
   refine ob_start (L' := M) (by rfl) (up_cons rfl hs1) ?_
   refine l_val (v := .pointer (some ⟨q6, 0, none⟩)) rfl rfl rfl (e_fieldPt (b := q6) (o := 0) rfl tf48) ?_
   refine l_nil ?_
   exact f_owes_d (up_cons rfl hs1) rfl (List.Perm.refl _)
  ·rintro f M ⟨k0, -⟩ -
   have hs19 : f 19 = .pointer (some ⟨q6, 0, none⟩) := k0
   refine ob_start (L' := pt q6 (.cells #[Nx (e), Nx (n), ws, wr_, wz] 36) :: M) (by rfl) (up_cons rfl hs19) ?_
   refine l_val (v := Nx (e)) rfl rfl rfl (e_load1 tf25 (v := Nx (e)) rfl (k_pt 0 (cs := #[Nx (e), Nx (n), ws, wr_, wz]) (vs := [Nx (e)]) rfl rfl)) ?_
   refine l_nil ?_
   exact f_owes_d (up_cons rfl hs19) rfl (perm_front 0 rfl)
  ·rintro f M - ⟨i0, -⟩
   have hs1 : f 1 = .pointer (some ⟨q6, 0, none⟩) := i0
   refine ob_start (L' := M) (by rfl) (up_cons rfl hs1) ?_
   refine l_val (v := .pointer (some ⟨q6, 1, none⟩)) rfl rfl rfl (e_fieldPt (b := q6) (o := 0) rfl tf53) ?_
   refine l_nil ?_
   exact f_owes_d (up_cons rfl hs1) rfl (List.Perm.refl _)
  ·rintro f M ⟨k0, -⟩ -
   have hs21 : f 21 = .pointer (some ⟨q6, 1, none⟩) := k0
   refine ob_start (L' := pt q6 (.cells #[Nx (e), Nx (n), ws, wr_, wz] 36) :: M) (by rfl) (up_cons rfl hs21) ?_
   refine l_val (v := Nx (n)) rfl rfl rfl (e_load1 tf25 (v := Nx (n)) rfl (k_pt 0 (cs := #[Nx (e), Nx (n), ws, wr_, wz]) (vs := [Nx (n)]) rfl rfl)) ?_
   refine l_nil ?_
   exact f_owes_d (up_cons rfl hs21) rfl (perm_front 0 rfl)
  ·rintro f M - ⟨i0, -⟩
   have hs2 : f 2 = .pointer (some ⟨q3, 0, none⟩) := i0
   refine ob_start (L' := pt q3 (.cells #[.slice sa (xs.length) (sc)] 30) :: M) (by rfl) (up_cons rfl hs2) ?_
   refine l_val (v := .slice sa (xs.length) (sc)) rfl rfl rfl (e_load1 tf21 (v := .slice sa (xs.length) (sc)) rfl (k_pt 0 (cs := #[.slice sa (xs.length) (sc)]) (vs := [.slice sa (xs.length) (sc)]) rfl rfl)) ?_
   refine l_nil ?_
   exact f_owes_d (up_cons rfl hs2) rfl (perm_front 0 rfl)
  ·rintro f M ⟨k0, k1, k2, -⟩ -
   have hs20 : f 20 = Nx (e) := k0
   have hs22 : f 22 = Nx (n) := k1
   have hs23 : f 23 = .slice sa (xs.length) (sc) := k2
   refine ob_start (L' := M) (by rfl) (up_cons (up_cons (up_cons rfl hs20) hs22) hs23) ?_
   refine l_call rfl rfl rfl (cl_value (fst := []) (cap := []) (vs := [Nx (e), Nx (n), .slice sa (xs.length) (sc)]) (all := [Nx (e), Nx (n), .slice sa (xs.length) (sc)]) tf54 rfl rfl rfl) ?_
   intro w hw
   obtain ⟨β1, sb, kn, hw1, back⟩ := St.frame_all hw
   refine (form_ok β1 w hw1 ((e : Nat) : Int) ((n : Nat) : Int) xs _ (by omega) (Sl.mono _ _ _ _ _ sb (⟨⟨_, _, rfl, hl, hm, hx⟩⟩ : Sl U8R _ _ xs))).mono ?_
   rintro e w' ⟨p43, c44, rfl, hw'⟩
   refine ⟨_, rfl, _, back _ _ hw', ?_⟩
   clear hw hw1 hw' back kn sb
   refine l_nil ?_
   exact f_owes_d (up_cons (up_cons (up_cons rfl hs20) hs22) hs23) rfl (perm_front 0 rfl)
  rintro fa45 ⟨k0, k1, -, -, -, -, -, k7, -⟩ ⟨j0, j1, -⟩
  refine l_re (L' := [storeR S (ck1 k e), pt J (.cells #[.pointer (some ⟨S, 0, none⟩), Nx (i.epoch), Nx (i.next), vs, vr, Nx (i.size), vd] 84), pt q2 (.cells #[.pointer (some ⟨J, 0, none⟩)] 43), pt q6 (.cells #[Nx (e), Nx (n), ws, wr_, wz] 36), pt q3 (.cells #[.slice sa (xs.length) (sc)] 30), row (.slice (sla (fa45 24)) (formB ((e : Nat) : Int) ((n : Nat) : Int) xs).length (slc (fa45 24))) 5 1 ((formB ((e : Nat) : Int) ((n : Nat) : Int) xs).length) (BX (formB ((e : Nat) : Int) ((n : Nat) : Int) xs))]) (by rfl) ?_
  refine l_rebase (d := 0) (v := .pointer (some ⟨q2, 0, none⟩)) j0 ?_
  refine l_rebase (d := 1) (v := .pointer (some ⟨q6, 0, none⟩)) j1 ?_
  refine l_rebase (d := 17) (v := .pointer (some ⟨J, 0, none⟩)) k0 ?_
  refine l_rebase (d := 18) (v := .pointer (some ⟨S, 2, none⟩)) k1 ?_
  refine l_rebase (d := 24) (v := .slice (sla (fa45 24)) (formB ((e : Nat) : Int) ((n : Nat) : Int) xs).length (slc (fa45 24))) k7 ?_
  refine l_callP rfl rfl rfl (cl_value (fst := []) (cap := []) (vs := [.pointer (some ⟨J, 0, none⟩), .pointer (some ⟨S, 2, none⟩), .int .i64 (0), .slice (sla (fa45 24)) (formB ((e : Nat) : Int) ((n : Nat) : Int) xs).length (slc (fa45 24))]) (all := [.pointer (some ⟨J, 0, none⟩), .pointer (some ⟨S, 2, none⟩), .int .i64 (0), .slice (sla (fa45 24)) (formB ((e : Nat) : Int) ((n : Nat) : Int) xs).length (slc (fa45 24))]) tf51 rfl rfl rfl) ?_
  intro w hw
  replace hw := hw.perm (L' := _ :: _ :: _ :: _ :: _ :: _ :: []) (by exact ((((((perm_front 5 rfl).trans (perm_front 5 rfl)).trans (perm_front 5 rfl)).trans (perm_front 5 rfl)).trans (perm_front 5 rfl)).trans (perm_front 5 rfl)))
  obtain ⟨β1, sb, kn, hw1, back⟩ := St.frame (L := [_]) (M := _ :: _ :: _ :: _ :: _ :: []) hw
  have hfl := formB_length (e : Int) (n : Int) xs
  refine (writeS1_ok β1 w e hpar J S (kn _ (k_pt 0 (cs := #[.pointer (some ⟨S, 0, none⟩), Nx (i.epoch), Nx (i.next), vs, vr, Nx (i.size), vd]) (vs := [.pointer (some ⟨S, 0, none⟩)]) rfl rfl)) (ck1 k e) (hf1.le (by omega)) 0 (by omega) (formB ((e : Nat) : Int) ((n : Nat) : Int) xs) _ (by omega) (kn _ (Knows.of_res 4 rfl (Sl.mono U8R _ _) fun _ h => row_u8 h)) hw1).mono ?_
  rintro e w' (⟨rfl, ok46, hw'⟩ | ⟨rfl, ok46, hw'⟩)
  ·
   refine .inl ⟨_, rfl, _, back _ _ hw', ?_⟩
   clear hw hw1 hw' back kn sb
   refine f_then_panic ?_
   refine panR ?_
   intro w hw
   refine .inl ⟨rfl, fun h => ok46 h.2.1, ?_⟩
   rw [ckS, if_pos ok1, if_neg (show ¬ ckOk2 k e n xs from ok46)]
   exact st_mask [true, true, true, true, true, false] rfl (hw.perm (L' := [pt J (.cells #[.pointer (some ⟨S, 0, none⟩), Nx (i.epoch), Nx (i.next), vs, vr, Nx (i.size), vd] 84), pt q2 (.cells #[.pointer (some ⟨J, 0, none⟩)] 43), pt q6 (.cells #[Nx (e), Nx (n), ws, wr_, wz] 36), pt q3 (.cells #[.slice sa (xs.length) (sc)] 30), storeR S (wrS (ck1 k e) e 0 (formB ((e : Nat) : Int) ((n : Nat) : Int) xs)), row (.slice (sla (fa45 24)) (formB ((e : Nat) : Int) ((n : Nat) : Int) xs).length (slc (fa45 24))) 5 1 ((formB ((e : Nat) : Int) ((n : Nat) : Int) xs).length) (BX (formB ((e : Nat) : Int) ((n : Nat) : Int) xs))]) (by exact ((((((perm_front 5 rfl).trans (perm_front 1 rfl)).trans (perm_front 5 rfl)).trans (perm_front 5 rfl)).trans (perm_front 5 rfl)).trans (perm_front 5 rfl))))
  refine .inr ⟨_, rfl, _, back _ _ hw', ?_⟩
  clear hw hw1 hw' back kn sb
  refine l_nil ?_
  refine f_then ?_
  refine c_seq ?_
  refine c_seq ?_
  have ok2 : ckOk2 k e n xs := ok46
  have hf2 : (ck2 k e n xs).fits 655360 := (hf1.wr).le (by rw [formB_length]; omega)
  refine c_re (L' := [storeR S (ck2 k e n xs), pt J (.cells #[.pointer (some ⟨S, 0, none⟩), Nx (i.epoch), Nx (i.next), vs, vr, Nx (i.size), vd] 84), pt q2 (.cells #[.pointer (some ⟨J, 0, none⟩)] 43), pt q6 (.cells #[Nx (e), Nx (n), ws, wr_, wz] 36), pt q3 (.cells #[.slice sa (xs.length) (sc)] 30), row (.slice (sla (fa45 24)) (formB ((e : Nat) : Int) ((n : Nat) : Int) xs).length (slc (fa45 24))) 5 1 ((formB ((e : Nat) : Int) ((n : Nat) : Int) xs).length) (BX (formB ((e : Nat) : Int) ((n : Nat) : Int) xs))]) (by rfl) ?_
  refine c_perm (L' := [storeR S (ck2 k e n xs), pt J (.cells #[.pointer (some ⟨S, 0, none⟩), Nx (i.epoch), Nx (i.next), vs, vr, Nx (i.size), vd] 84), pt q2 (.cells #[.pointer (some ⟨J, 0, none⟩)] 43), pt q6 (.cells #[Nx (e), Nx (n), ws, wr_, wz] 36), pt q3 (.cells #[.slice sa (xs.length) (sc)] 30), row (.slice (sla (fa45 24)) (formB ((e : Nat) : Int) ((n : Nat) : Int) xs).length (slc (fa45 24))) 5 1 ((formB ((e : Nat) : Int) ((n : Nat) : Int) xs).length) (BX (formB ((e : Nat) : Int) ((n : Nat) : Int) xs))]) (by exact ((((((perm_front 5 rfl).trans (perm_front 5 rfl)).trans (perm_front 5 rfl)).trans (perm_front 5 rfl)).trans (perm_front 5 rfl)).trans (perm_front 5 rfl))) ?_
  refine c_openStore rfl (fun pH47 pA48 pB49 cH50 cA51 cB52 => ?_)
  refine c_region ?_
  refine l_val (v := .pointer (some ⟨J, 0, none⟩)) rfl rfl rfl (e_load1 tf43 (v := .pointer (some ⟨J, 0, none⟩)) rfl (k_pt 5 (cs := #[.pointer (some ⟨J, 0, none⟩)]) (vs := [.pointer (some ⟨J, 0, none⟩)]) rfl rfl)) ?_
  refine l_val (v := .pointer (some ⟨J, 0, none⟩)) rfl rfl rfl (e_nil (a := ⟨J, 0, none⟩) rfl) ?_
  refine l_val (v := .pointer (some ⟨J, 0, none⟩)) rfl rfl rfl (e_fieldPt (b := J) (o := 0) rfl tf30) ?_
  refine l_val (v := .pointer (some ⟨S, 0, none⟩)) rfl rfl rfl (e_load1 tf31 (v := .pointer (some ⟨S, 0, none⟩)) rfl (k_pt 4 (cs := #[.pointer (some ⟨S, 0, none⟩), Nx (i.epoch), Nx (i.next), vs, vr, Nx (i.size), vd]) (vs := [.pointer (some ⟨S, 0, none⟩)]) rfl rfl)) ?_
  refine l_val (v := .pointer (some ⟨S, 0, none⟩)) rfl rfl rfl (e_nil (a := ⟨S, 0, none⟩) rfl) ?_
  refine l_val (v := .pointer (some ⟨S, 0, none⟩)) rfl rfl rfl (e_fieldPt (b := S) (o := 0) rfl tf20) ?_
  refine l_val (v := .slice pH47 ((ck2 k e n xs).head).length cH50) rfl rfl rfl (e_load1 tf21 (v := .slice pH47 ((ck2 k e n xs).head).length cH50) rfl (k_pt 0 (cs := #[.slice pH47 ((ck2 k e n xs).head).length cH50, .slice pA48 ((ck2 k e n xs).a).length cA51, .slice pB49 ((ck2 k e n xs).b).length cB52, Ix ((ck2 k e n xs).power)]) (vs := [.slice pH47 ((ck2 k e n xs).head).length cH50]) rfl rfl)) ?_
  refine l_val (v := Nx (((ck2 k e n xs).head).length)) rfl rfl rfl (e_len (a := pH47) (n := ((ck2 k e n xs).head).length) (c := cH50) rfl tf11) ?_
  refine l_val (v := .bool (decide (((((ck2 k e n xs).head).length : Nat) : Int) = (0 : Int)))) rfl rfl rfl (e_eql (a := ((((ck2 k e n xs).head).length : Nat) : Int)) (b := (0 : Int)) rfl rfl) ?_
  refine l_nil ?_
  refine f_then ?_
  refine c_if (((((ck2 k e n xs).head).length : Nat) : Int) = (0 : Int)) rfl (fun hc53 => ?_) (fun hc53 => ?_)
  ·
   refine c_any [⟨[], [], [0], [35], fun f => f 35 = .pointer (some ⟨J, 0, none⟩)⟩, ⟨[0], [0], [], [36], fun f => f 36 = .pointer (some ⟨J, 0, none⟩)⟩, ⟨[0, 1], [1], [], [37], fun f => f 37 = .pointer (some ⟨J, 0, none⟩)⟩, ⟨[0, 1, 2], [2], [], [38], fun f => f 38 = .pointer (some ⟨S, 0, none⟩)⟩, ⟨[], [], [], [39], fun f => f 39 = .slice (some ⟨(blk (f 39)), 0, none⟩) (List.replicate 32 (0 : UInt8)).length 32⟩, ⟨[0, 1, 2, 3, 4], [3], [], [40], fun f => f 40 = .pointer (some ⟨S, 0, none⟩)⟩, ⟨[0, 1, 2, 3, 4, 5], [5], [], [41], fun f => f 41 = .pointer (some ⟨S, 0, none⟩)⟩, ⟨[0, 1, 2, 3, 4, 5, 6], [6, 4], [], [], fun _ => True⟩] [⟨none, (some 7), [7], [], fun _ => pt S (.cells #[.slice pH47 ((ck2 k e n xs).head).length cH50, .slice pA48 ((ck2 k e n xs).a).length cA51, .slice pB49 ((ck2 k e n xs).b).length cB52, Ix ((ck2 k e n xs).power)] 32)⟩, ⟨none, none, [], [], fun _ => row (.slice pH47 ((ck2 k e n xs).head).length cH50) 5 1 (((ck2 k e n xs).head).length) (BX ((ck2 k e n xs).head))⟩, ⟨none, none, [], [], fun _ => row (.slice pA48 ((ck2 k e n xs).a).length cA51) 5 1 (((ck2 k e n xs).a).length) (BX ((ck2 k e n xs).a))⟩, ⟨none, none, [], [], fun _ => row (.slice pB49 ((ck2 k e n xs).b).length cB52) 5 1 (((ck2 k e n xs).b).length) (BX ((ck2 k e n xs).b))⟩, ⟨none, none, [3], [], fun _ => pt J (.cells #[.pointer (some ⟨S, 0, none⟩), Nx (i.epoch), Nx (i.next), vs, vr, Nx (i.size), vd] 84)⟩, ⟨none, none, [0], [], fun _ => pt q2 (.cells #[.pointer (some ⟨J, 0, none⟩)] 43)⟩, ⟨none, none, [], [], fun _ => pt q6 (.cells #[Nx (e), Nx (n), ws, wr_, wz] 36)⟩, ⟨none, none, [], [], fun _ => pt q3 (.cells #[.slice sa (xs.length) (sc)] 30)⟩, ⟨none, none, [], [], fun _ => row (.slice (sla (fa45 24)) (formB ((e : Nat) : Int) ((n : Nat) : Int) xs).length (slc (fa45 24))) 5 1 ((formB ((e : Nat) : Int) ((n : Nat) : Int) xs).length) (BX (formB ((e : Nat) : Int) ((n : Nat) : Int) xs))⟩, ⟨(some 4), none, [], [39], fun f => row (.slice (some ⟨(blk (f 39)), 0, none⟩) (List.replicate 32 (0 : UInt8)).length 32) 5 1 ((List.replicate 32 (0 : UInt8)).length) (BX (List.replicate 32 (0 : UInt8)))⟩, ⟨(some 7), none, [], [39], fun f => pt S (.cells #[.slice (some ⟨(blk (f 39)), 0, none⟩) (List.replicate 32 (0 : UInt8)).length 32, .slice pA48 ((ck2 k e n xs).a).length cA51, .slice pB49 ((ck2 k e n xs).b).length cB52, Ix ((ck2 k e n xs).power)] 32)⟩] [(0, .pointer (some ⟨q2, 0, none⟩)), (1, .pointer (some ⟨q6, 0, none⟩))] [0, 1] [] (by kernel_rfl) (by kernel_rfl) (by kernel_rfl) (by kernel_rfl) rfl ⟨rfl, rfl, trivial⟩ ⟨?_, ?_, ?_, ?_, ?_, ?_, ?_, ?_, trivial⟩ ?_
   ·rintro f M - ⟨i0, -⟩
    have hs0 : f 0 = .pointer (some ⟨q2, 0, none⟩) := i0
    refine ob_start (L' := pt q2 (.cells #[.pointer (some ⟨J, 0, none⟩)] 43) :: M) (by rfl) (up_cons rfl hs0) ?_
    refine l_val (v := .pointer (some ⟨J, 0, none⟩)) rfl rfl rfl (e_load1 tf43 (v := .pointer (some ⟨J, 0, none⟩)) rfl (k_pt 0 (cs := #[.pointer (some ⟨J, 0, none⟩)]) (vs := [.pointer (some ⟨J, 0, none⟩)]) rfl rfl)) ?_
    refine l_nil ?_
    exact f_owes_d (up_cons rfl hs0) rfl (perm_front 0 rfl)
   ·rintro f M ⟨k0, -⟩ -
    have hs35 : f 35 = .pointer (some ⟨J, 0, none⟩) := k0
    refine ob_start (L' := M) (by rfl) (up_cons rfl hs35) ?_
    refine l_val (v := .pointer (some ⟨J, 0, none⟩)) rfl rfl rfl (e_nil (a := ⟨J, 0, none⟩) rfl) ?_
    refine l_nil ?_
    exact f_owes_d (up_cons rfl hs35) rfl (List.Perm.refl _)
   ·rintro f M ⟨k0, -⟩ -
    have hs36 : f 36 = .pointer (some ⟨J, 0, none⟩) := k0
    refine ob_start (L' := M) (by rfl) (up_cons rfl hs36) ?_
    refine l_val (v := .pointer (some ⟨J, 0, none⟩)) rfl rfl rfl (e_fieldPt (b := J) (o := 0) rfl tf30) ?_
    refine l_nil ?_
    exact f_owes_d (up_cons rfl hs36) rfl (List.Perm.refl _)
   ·rintro f M ⟨k0, -⟩ -
    have hs37 : f 37 = .pointer (some ⟨J, 0, none⟩) := k0
    refine ob_start (L' := pt J (.cells #[.pointer (some ⟨S, 0, none⟩), Nx (i.epoch), Nx (i.next), vs, vr, Nx (i.size), vd] 84) :: M) (by rfl) (up_cons rfl hs37) ?_
    refine l_val (v := .pointer (some ⟨S, 0, none⟩)) rfl rfl rfl (e_load1 tf31 (v := .pointer (some ⟨S, 0, none⟩)) rfl (k_pt 0 (cs := #[.pointer (some ⟨S, 0, none⟩), Nx (i.epoch), Nx (i.next), vs, vr, Nx (i.size), vd]) (vs := [.pointer (some ⟨S, 0, none⟩)]) rfl rfl)) ?_
    refine l_nil ?_
    exact f_owes_d (up_cons rfl hs37) rfl (perm_front 0 rfl)
   ·rintro f M - -
    refine ob_start (L' := M) (by rfl) rfl ?_
    refine l_mv rfl rfl rfl (m_makeB (c := 32) tf12 tf15 tf14 rfl rfl (by omega) (by omega)) ?_
    rintro _ _ ⟨b55, rfl, rfl⟩
    refine l_nil ?_
    exact f_owes_d rfl rfl (perm_front 0 rfl)
   ·rintro f M ⟨k0, -⟩ -
    have hs38 : f 38 = .pointer (some ⟨S, 0, none⟩) := k0
    refine ob_start (L' := M) (by rfl) (up_cons rfl hs38) ?_
    refine l_val (v := .pointer (some ⟨S, 0, none⟩)) rfl rfl rfl (e_nil (a := ⟨S, 0, none⟩) rfl) ?_
    refine l_nil ?_
    exact f_owes_d (up_cons rfl hs38) rfl (List.Perm.refl _)
   ·rintro f M ⟨k0, -⟩ -
    have hs40 : f 40 = .pointer (some ⟨S, 0, none⟩) := k0
    refine ob_start (L' := M) (by rfl) (up_cons rfl hs40) ?_
    refine l_val (v := .pointer (some ⟨S, 0, none⟩)) rfl rfl rfl (e_fieldPt (b := S) (o := 0) rfl tf20) ?_
    refine l_nil ?_
    exact f_owes_d (up_cons rfl hs40) rfl (List.Perm.refl _)
   ·rintro f M ⟨k0, k1, -⟩ -
    have hs41 : f 41 = .pointer (some ⟨S, 0, none⟩) := k0
    have hs39 : f 39 = .slice (some ⟨(blk (f 39)), 0, none⟩) (List.replicate 32 (0 : UInt8)).length 32 := k1
    refine ob_start (L' := pt S (.cells #[.slice pH47 ((ck2 k e n xs).head).length cH50, .slice pA48 ((ck2 k e n xs).a).length cA51, .slice pB49 ((ck2 k e n xs).b).length cB52, Ix ((ck2 k e n xs).power)] 32) :: M) (by rfl) (up_cons (up_cons rfl hs41) hs39) ?_
    refine l_mu rfl rfl (m_store 0 tf21 (b := S) (o := 0) (T := 32) (cs := #[.slice pH47 ((ck2 k e n xs).head).length cH50, .slice pA48 ((ck2 k e n xs).a).length cA51, .slice pB49 ((ck2 k e n xs).b).length cB52, Ix ((ck2 k e n xs).power)]) (cs' := #[.slice (some ⟨(blk (f 39)), 0, none⟩) (List.replicate 32 (0 : UInt8)).length 32, .slice pA48 ((ck2 k e n xs).a).length cA51, .slice pB49 ((ck2 k e n xs).b).length cB52, Ix ((ck2 k e n xs).power)]) (v := .slice (some ⟨(blk (f 39)), 0, none⟩) (List.replicate 32 (0 : UInt8)).length 32) rfl rfl rfl rfl rfl rfl rfl) ?_
    refine l_nil ?_
    exact f_owes_n (up_cons (up_cons rfl hs41) hs39) trivial (perm_front 0 rfl)
   rintro fa56 ⟨-, -, -, -, -, -, -, -, -⟩ ⟨j0, j1, -⟩
   refine f_re (L' := [row (.slice pH47 ((ck2 k e n xs).head).length cH50) 5 1 (((ck2 k e n xs).head).length) (BX ((ck2 k e n xs).head)), row (.slice pA48 ((ck2 k e n xs).a).length cA51) 5 1 (((ck2 k e n xs).a).length) (BX ((ck2 k e n xs).a)), row (.slice pB49 ((ck2 k e n xs).b).length cB52) 5 1 (((ck2 k e n xs).b).length) (BX ((ck2 k e n xs).b)), pt J (.cells #[.pointer (some ⟨S, 0, none⟩), Nx (i.epoch), Nx (i.next), vs, vr, Nx (i.size), vd] 84), pt q2 (.cells #[.pointer (some ⟨J, 0, none⟩)] 43), pt q6 (.cells #[Nx (e), Nx (n), ws, wr_, wz] 36), pt q3 (.cells #[.slice sa (xs.length) (sc)] 30), row (.slice (sla (fa45 24)) (formB ((e : Nat) : Int) ((n : Nat) : Int) xs).length (slc (fa45 24))) 5 1 ((formB ((e : Nat) : Int) ((n : Nat) : Int) xs).length) (BX (formB ((e : Nat) : Int) ((n : Nat) : Int) xs)), row (.slice (some ⟨(blk (fa56 39)), 0, none⟩) (List.replicate 32 (0 : UInt8)).length 32) 5 1 ((List.replicate 32 (0 : UInt8)).length) (BX (List.replicate 32 (0 : UInt8))), pt S (.cells #[.slice (some ⟨(blk (fa56 39)), 0, none⟩) (List.replicate 32 (0 : UInt8)).length 32, .slice pA48 ((ck2 k e n xs).a).length cA51, .slice pB49 ((ck2 k e n xs).b).length cB52, Ix ((ck2 k e n xs).power)] 32)]) (by rfl) ?_
   refine f_rebase (d := 0) (v := .pointer (some ⟨q2, 0, none⟩)) j0 ?_
   refine f_rebase (d := 1) (v := .pointer (some ⟨q6, 0, none⟩)) j1 ?_
   refine f_then ?_
   refine c_seq ?_
   refine c_any [⟨[], [], [0], [42], fun f => f 42 = .pointer (some ⟨q6, 0, none⟩)⟩, ⟨[0], [0], [], [43], fun f => f 43 = Nx (e)⟩, ⟨[0, 1], [1], [], [44], fun f => f 44 = Ux (U ((e : Nat) : Int))⟩, ⟨[0, 1, 2], [2], [], [45], fun f => f 45 = .slice (sla (f 45)) (be 8 (U ((e : Nat) : Int))).length (slc (f 45))⟩, ⟨[], [], [0], [46], fun f => f 46 = .pointer (some ⟨q6, 0, none⟩)⟩, ⟨[4], [4], [], [47], fun f => f 47 = Nx (e)⟩, ⟨[0, 1, 2, 3, 4, 5], [5], [], [48], fun f => f 48 = Ux (tickU ((e : Nat) : Int))⟩, ⟨[0, 1, 2, 3, 4, 5, 6], [3, 6], [], [49], fun f => f 49 = .slice (sla (f 49)) ((be 8 (U ((e : Nat) : Int))) ++ be 8 (tickU ((e : Nat) : Int))).length (slc (f 49))⟩, ⟨[0, 1, 2, 3, 4, 5, 6, 7], [7], [], [4, 49], fun f => f 4 = .slice (sla (f 49)) ((be 8 (U ((e : Nat) : Int))) ++ be 8 (tickU ((e : Nat) : Int))).length (slc (f 49))⟩] [⟨none, none, [], [], fun _ => row (.slice pH47 ((ck2 k e n xs).head).length cH50) 5 1 (((ck2 k e n xs).head).length) (BX ((ck2 k e n xs).head))⟩, ⟨none, none, [], [], fun _ => row (.slice pA48 ((ck2 k e n xs).a).length cA51) 5 1 (((ck2 k e n xs).a).length) (BX ((ck2 k e n xs).a))⟩, ⟨none, none, [], [], fun _ => row (.slice pB49 ((ck2 k e n xs).b).length cB52) 5 1 (((ck2 k e n xs).b).length) (BX ((ck2 k e n xs).b))⟩, ⟨none, none, [], [], fun _ => pt J (.cells #[.pointer (some ⟨S, 0, none⟩), Nx (i.epoch), Nx (i.next), vs, vr, Nx (i.size), vd] 84)⟩, ⟨none, none, [], [], fun _ => pt q2 (.cells #[.pointer (some ⟨J, 0, none⟩)] 43)⟩, ⟨none, none, [1, 5], [], fun _ => pt q6 (.cells #[Nx (e), Nx (n), ws, wr_, wz] 36)⟩, ⟨none, none, [], [], fun _ => pt q3 (.cells #[.slice sa (xs.length) (sc)] 30)⟩, ⟨none, none, [], [], fun _ => row (.slice (sla (fa45 24)) (formB ((e : Nat) : Int) ((n : Nat) : Int) xs).length (slc (fa45 24))) 5 1 ((formB ((e : Nat) : Int) ((n : Nat) : Int) xs).length) (BX (formB ((e : Nat) : Int) ((n : Nat) : Int) xs))⟩, ⟨none, none, [], [], fun _ => row (.slice (some ⟨(blk (fa56 39)), 0, none⟩) (List.replicate 32 (0 : UInt8)).length 32) 5 1 ((List.replicate 32 (0 : UInt8)).length) (BX (List.replicate 32 (0 : UInt8)))⟩, ⟨none, none, [], [], fun _ => pt S (.cells #[.slice (some ⟨(blk (fa56 39)), 0, none⟩) (List.replicate 32 (0 : UInt8)).length 32, .slice pA48 ((ck2 k e n xs).a).length cA51, .slice pB49 ((ck2 k e n xs).b).length cB52, Ix ((ck2 k e n xs).power)] 32)⟩, ⟨(some 3), (some 7), [7], [45], fun f => row (.slice (sla (f 45)) (be 8 (U ((e : Nat) : Int))).length (slc (f 45))) 5 1 ((be 8 (U ((e : Nat) : Int))).length) (BX (be 8 (U ((e : Nat) : Int))))⟩, ⟨(some 7), none, [], [49], fun f => row (.slice (sla (f 49)) ((be 8 (U ((e : Nat) : Int))) ++ be 8 (tickU ((e : Nat) : Int))).length (slc (f 49))) 5 1 (((be 8 (U ((e : Nat) : Int))) ++ be 8 (tickU ((e : Nat) : Int))).length) (BX ((be 8 (U ((e : Nat) : Int))) ++ be 8 (tickU ((e : Nat) : Int))))⟩] [(1, .pointer (some ⟨q6, 0, none⟩)), (0, .pointer (some ⟨q2, 0, none⟩))] [1, 0] [] (by kernel_rfl) (by kernel_rfl) (by kernel_rfl) (by kernel_rfl) rfl ⟨rfl, rfl, trivial⟩ ⟨?_, ?_, ?_, ?_, ?_, ?_, ?_, ?_, ?_, trivial⟩ ?_
   ·rintro f M - ⟨i0, -⟩
    have hs1 : f 1 = .pointer (some ⟨q6, 0, none⟩) := i0
    refine ob_start (L' := M) (by rfl) (up_cons rfl hs1) ?_
    refine l_val (v := .pointer (some ⟨q6, 0, none⟩)) rfl rfl rfl (e_fieldPt (b := q6) (o := 0) rfl tf48) ?_
    refine l_nil ?_
    exact f_owes_d (up_cons rfl hs1) rfl (List.Perm.refl _)
   ·rintro f M ⟨k0, -⟩ -
    have hs42 : f 42 = .pointer (some ⟨q6, 0, none⟩) := k0
    refine ob_start (L' := pt q6 (.cells #[Nx (e), Nx (n), ws, wr_, wz] 36) :: M) (by rfl) (up_cons rfl hs42) ?_
    refine l_val (v := Nx (e)) rfl rfl rfl (e_load1 tf25 (v := Nx (e)) rfl (k_pt 0 (cs := #[Nx (e), Nx (n), ws, wr_, wz]) (vs := [Nx (e)]) rfl rfl)) ?_
    refine l_nil ?_
    exact f_owes_d (up_cons rfl hs42) rfl (perm_front 0 rfl)
   ·rintro f M ⟨k0, -⟩ -
    have hs43 : f 43 = Nx (e) := k0
    refine ob_start (L' := M) (by rfl) (up_cons rfl hs43) ?_
    refine l_val (v := Ux (U ((e : Nat) : Int))) rfl rfl rfl (e_conv (a := ((e : Nat) : Int)) rfl ⟨_, tf1⟩ tf2 (ux_of _)) ?_
    refine l_nil ?_
    exact f_owes_d (up_cons rfl hs43) rfl (List.Perm.refl _)
   ·rintro f M ⟨k0, -⟩ -
    have hs44 : f 44 = Ux (U ((e : Nat) : Int)) := k0
    refine ob_start (L' := M) (by rfl) (up_cons rfl hs44) ?_
    refine l_call rfl rfl rfl (cl_value (fst := []) (cap := []) (vs := [.slice none 0 0, Ux (U ((e : Nat) : Int)), .int .i64 (8)]) (all := [.slice none 0 0, Ux (U ((e : Nat) : Int)), .int .i64 (8)]) tf17 rfl rfl rfl) ?_
    intro w hw
    obtain ⟨β1, sb, kn, hw1, back⟩ := St.frame_all hw
    refine (appended0_ok β1 w hw1 (U ((e : Nat) : Int)) 8 (by decide)).mono ?_
    rintro e w' ⟨p59, c60, rfl, hw'⟩
    refine ⟨_, rfl, _, back _ _ hw', ?_⟩
    clear hw hw1 hw' back kn sb
    refine l_nil ?_
    exact f_owes_d (up_cons rfl hs44) rfl (perm_front 0 rfl)
   ·rintro f M - ⟨i0, -⟩
    have hs1 : f 1 = .pointer (some ⟨q6, 0, none⟩) := i0
    refine ob_start (L' := M) (by rfl) (up_cons rfl hs1) ?_
    refine l_val (v := .pointer (some ⟨q6, 0, none⟩)) rfl rfl rfl (e_fieldPt (b := q6) (o := 0) rfl tf48) ?_
    refine l_nil ?_
    exact f_owes_d (up_cons rfl hs1) rfl (List.Perm.refl _)
   ·rintro f M ⟨k0, -⟩ -
    have hs46 : f 46 = .pointer (some ⟨q6, 0, none⟩) := k0
    refine ob_start (L' := pt q6 (.cells #[Nx (e), Nx (n), ws, wr_, wz] 36) :: M) (by rfl) (up_cons rfl hs46) ?_
    refine l_val (v := Nx (e)) rfl rfl rfl (e_load1 tf25 (v := Nx (e)) rfl (k_pt 0 (cs := #[Nx (e), Nx (n), ws, wr_, wz]) (vs := [Nx (e)]) rfl rfl)) ?_
    refine l_nil ?_
    exact f_owes_d (up_cons rfl hs46) rfl (perm_front 0 rfl)
   ·rintro f M ⟨k0, -⟩ -
    have hs47 : f 47 = Nx (e) := k0
    refine ob_start (L' := M) (by rfl) (up_cons rfl hs47) ?_
    refine l_call rfl rfl rfl (cl_value (fst := []) (cap := []) (vs := [Nx (e)]) (all := [Nx (e)]) tf26 rfl rfl rfl) ?_
    intro w hw
    obtain ⟨β1, sb, kn, hw1, back⟩ := St.frame_all hw
    refine (tick_ok β1 w hw1 ((e : Nat) : Int)).mono ?_
    rintro e w' ⟨rfl, hw'⟩
    refine ⟨_, rfl, _, back _ _ hw', ?_⟩
    clear hw hw1 hw' back kn sb
    refine l_nil ?_
    exact f_owes_d (up_cons rfl hs47) rfl (List.Perm.refl _)
   ·rintro f M ⟨k0, k1, -⟩ -
    have hs45 : f 45 = .slice (sla (f 45)) (be 8 (U ((e : Nat) : Int))).length (slc (f 45)) := k0
    have hs48 : f 48 = Ux (tickU ((e : Nat) : Int)) := k1
    refine ob_start (L' := row (.slice (sla (f 45)) (be 8 (U ((e : Nat) : Int))).length (slc (f 45))) 5 1 ((be 8 (U ((e : Nat) : Int))).length) (BX (be 8 (U ((e : Nat) : Int)))) :: M) (by rfl) (up_cons (up_cons rfl hs45) hs48) ?_
    refine l_call rfl rfl rfl (cl_value (fst := []) (cap := []) (vs := [.slice (sla (f 45)) (be 8 (U ((e : Nat) : Int))).length (slc (f 45)), Ux (tickU ((e : Nat) : Int)), .int .i64 (8)]) (all := [.slice (sla (f 45)) (be 8 (U ((e : Nat) : Int))).length (slc (f 45)), Ux (tickU ((e : Nat) : Int)), .int .i64 (8)]) tf17 rfl rfl rfl) ?_
    intro w hw
    replace hw := hw.perm (L' := _ :: M) (by exact (perm_front 0 rfl))
    obtain ⟨β1, sb, kn, hw1, back⟩ := St.frame (L := [_]) (M := M) hw
    refine (appended_ok β1 w _ _ (be 8 (U ((e : Nat) : Int))) (tickU ((e : Nat) : Int)) 8 (by decide) (by simp only [List.length_append, be_length]; omega) hw1).mono ?_
    rintro e w' ⟨p63, c64, rfl, hw'⟩
    refine ⟨_, rfl, _, back _ _ hw', ?_⟩
    clear hw hw1 hw' back kn sb
    refine l_nil ?_
    exact f_owes_d (up_cons (up_cons rfl hs45) hs48) rfl (perm_front 0 rfl)
   ·rintro f M ⟨k0, -⟩ -
    have hs49 : f 49 = .slice (sla (f 49)) ((be 8 (U ((e : Nat) : Int))) ++ be 8 (tickU ((e : Nat) : Int))).length (slc (f 49)) := k0
    refine ob_start (L' := M) (by rfl) (up_cons rfl hs49) ?_
    refine l_val (v := .slice (sla (f 49)) ((be 8 (U ((e : Nat) : Int))) ++ be 8 (tickU ((e : Nat) : Int))).length (slc (f 49))) rfl rfl rfl (e_assign) ?_
    refine l_nil ?_
    exact f_owes_d (up_cons rfl hs49) rfl (List.Perm.refl _)
   rintro fa65 ⟨-, -, -, -, -, -, -, -, k8, -⟩ ⟨j0, j1, -⟩
   refine f_re (L' := [row (.slice pH47 ((ck2 k e n xs).head).length cH50) 5 1 (((ck2 k e n xs).head).length) (BX ((ck2 k e n xs).head)), row (.slice pA48 ((ck2 k e n xs).a).length cA51) 5 1 (((ck2 k e n xs).a).length) (BX ((ck2 k e n xs).a)), row (.slice pB49 ((ck2 k e n xs).b).length cB52) 5 1 (((ck2 k e n xs).b).length) (BX ((ck2 k e n xs).b)), pt J (.cells #[.pointer (some ⟨S, 0, none⟩), Nx (i.epoch), Nx (i.next), vs, vr, Nx (i.size), vd] 84), pt q2 (.cells #[.pointer (some ⟨J, 0, none⟩)] 43), pt q6 (.cells #[Nx (e), Nx (n), ws, wr_, wz] 36), pt q3 (.cells #[.slice sa (xs.length) (sc)] 30), row (.slice (sla (fa45 24)) (formB ((e : Nat) : Int) ((n : Nat) : Int) xs).length (slc (fa45 24))) 5 1 ((formB ((e : Nat) : Int) ((n : Nat) : Int) xs).length) (BX (formB ((e : Nat) : Int) ((n : Nat) : Int) xs)), row (.slice (some ⟨(blk (fa56 39)), 0, none⟩) (List.replicate 32 (0 : UInt8)).length 32) 5 1 ((List.replicate 32 (0 : UInt8)).length) (BX (List.replicate 32 (0 : UInt8))), pt S (.cells #[.slice (some ⟨(blk (fa56 39)), 0, none⟩) (List.replicate 32 (0 : UInt8)).length 32, .slice pA48 ((ck2 k e n xs).a).length cA51, .slice pB49 ((ck2 k e n xs).b).length cB52, Ix ((ck2 k e n xs).power)] 32), row (.slice (sla (fa65 49)) ((be 8 (U ((e : Nat) : Int))) ++ be 8 (tickU ((e : Nat) : Int))).length (slc (fa65 49))) 5 1 (((be 8 (U ((e : Nat) : Int))) ++ be 8 (tickU ((e : Nat) : Int))).length) (BX ((be 8 (U ((e : Nat) : Int))) ++ be 8 (tickU ((e : Nat) : Int))))]) (by rfl) ?_
   refine f_rebase (d := 0) (v := .pointer (some ⟨q2, 0, none⟩)) j0 ?_
   refine f_rebase (d := 1) (v := .pointer (some ⟨q6, 0, none⟩)) j1 ?_
   refine f_rebase (d := 4) (v := .slice (sla (fa65 49)) ((be 8 (U ((e : Nat) : Int))) ++ be 8 (tickU ((e : Nat) : Int))).length (slc (fa65 49))) k8 ?_
   refine f_then ?_
   refine c_perm (L' := [pt S (.cells #[.slice (some ⟨(blk (fa56 39)), 0, none⟩) (List.replicate 32 (0 : UInt8)).length 32, .slice pA48 ((ck2 k e n xs).a).length cA51, .slice pB49 ((ck2 k e n xs).b).length cB52, Ix ((ck2 k e n xs).power)] 32), row (.slice (some ⟨(blk (fa56 39)), 0, none⟩) (List.replicate 32 (0 : UInt8)).length 32) 5 1 ((List.replicate 32 (0 : UInt8)).length) (BX (List.replicate 32 (0 : UInt8))), row (.slice pA48 ((ck2 k e n xs).a).length cA51) 5 1 (((ck2 k e n xs).a).length) (BX ((ck2 k e n xs).a)), row (.slice pB49 ((ck2 k e n xs).b).length cB52) 5 1 (((ck2 k e n xs).b).length) (BX ((ck2 k e n xs).b)), row (.slice pH47 ((ck2 k e n xs).head).length cH50) 5 1 (((ck2 k e n xs).head).length) (BX ((ck2 k e n xs).head)), pt J (.cells #[.pointer (some ⟨S, 0, none⟩), Nx (i.epoch), Nx (i.next), vs, vr, Nx (i.size), vd] 84), pt q2 (.cells #[.pointer (some ⟨J, 0, none⟩)] 43), pt q6 (.cells #[Nx (e), Nx (n), ws, wr_, wz] 36), pt q3 (.cells #[.slice sa (xs.length) (sc)] 30), row (.slice (sla (fa45 24)) (formB ((e : Nat) : Int) ((n : Nat) : Int) xs).length (slc (fa45 24))) 5 1 ((formB ((e : Nat) : Int) ((n : Nat) : Int) xs).length) (BX (formB ((e : Nat) : Int) ((n : Nat) : Int) xs)), row (.slice (sla (fa65 49)) ((be 8 (U ((e : Nat) : Int))) ++ be 8 (tickU ((e : Nat) : Int))).length (slc (fa65 49))) 5 1 (((be 8 (U ((e : Nat) : Int))) ++ be 8 (tickU ((e : Nat) : Int))).length) (BX ((be 8 (U ((e : Nat) : Int))) ++ be 8 (tickU ((e : Nat) : Int))))]) (by exact (((((((((((perm_front 10 rfl).trans (perm_front 8 rfl)).trans (perm_front 8 rfl)).trans (perm_front 8 rfl)).trans (perm_front 8 rfl)).trans (perm_front 8 rfl)).trans (perm_front 6 rfl)).trans (perm_front 8 rfl)).trans (perm_front 8 rfl)).trans (perm_front 9 rfl)).trans (perm_front 10 rfl))) ?_
   refine c_closeStore (S := S) (k := (ck3 k e n xs)) (pH := (some ⟨(blk (fa56 39)), 0, none⟩)) (pA := pA48) (pB := pB49) (cH := 32) (cA := cA51) (cB := cB52) (M := (row (.slice pH47 ((ck2 k e n xs).head).length cH50) 5 1 (((ck2 k e n xs).head).length) (BX ((ck2 k e n xs).head)) :: pt J (.cells #[.pointer (some ⟨S, 0, none⟩), Nx (i.epoch), Nx (i.next), vs, vr, Nx (i.size), vd] 84) :: pt q2 (.cells #[.pointer (some ⟨J, 0, none⟩)] 43) :: pt q6 (.cells #[Nx (e), Nx (n), ws, wr_, wz] 36) :: pt q3 (.cells #[.slice sa (xs.length) (sc)] 30) :: row (.slice (sla (fa45 24)) (formB ((e : Nat) : Int) ((n : Nat) : Int) xs).length (slc (fa45 24))) 5 1 ((formB ((e : Nat) : Int) ((n : Nat) : Int) xs).length) (BX (formB ((e : Nat) : Int) ((n : Nat) : Int) xs)) :: row (.slice (sla (fa65 49)) ((be 8 (U ((e : Nat) : Int))) ++ be 8 (tickU ((e : Nat) : Int))).length (slc (fa65 49))) 5 1 (((be 8 (U ((e : Nat) : Int))) ++ be 8 (tickU ((e : Nat) : Int))).length) (BX ((be 8 (U ((e : Nat) : Int))) ++ be 8 (tickU ((e : Nat) : Int)))) :: [])) (by rw [show ck3 k e n xs = { ck2 k e n xs with head := List.replicate 32 0 } from if_pos (by omega)]; rfl) ?_
   have hf3 : (ck3 k e n xs).fits 655360 := by
    rw [show ck3 k e n xs = { ck2 k e n xs with head := List.replicate 32 0 } from if_pos (by omega)]
    exact fits_head hf2 (by simp)
   have hcl : (be 8 (U ((e : Nat) : Int)) ++ be 8 (tickU ((e : Nat) : Int))).length = 16 := by simp [be_length]
   refine c_any_end 12 rfl rfl [⟨[], [], [0], [50], fun f => f 50 = .pointer (some ⟨J, 0, none⟩)⟩, ⟨[], [], [0], [51], fun f => f 51 = .pointer (some ⟨J, 0, none⟩)⟩, ⟨[1], [1], [], [52], fun f => f 52 = .pointer (some ⟨J, 0, none⟩)⟩, ⟨[1, 2], [2], [], [53], fun f => f 53 = .pointer (some ⟨J, 0, none⟩)⟩, ⟨[1, 2, 3], [3], [], [54], fun f => f 54 = .pointer (some ⟨S, 0, none⟩)⟩, ⟨[1, 2, 3, 4], [4], [], [55], fun f => f 55 = .pointer (some ⟨S, 0, none⟩)⟩, ⟨[1, 2, 3, 4, 5], [5], [], [56], fun f => f 56 = .pointer (some ⟨S, 0, none⟩)⟩, ⟨[], [], [1], [57], fun f => f 57 = .pointer (some ⟨q6, 0, none⟩)⟩, ⟨[7], [7], [], [58], fun f => f 58 = Nx (e)⟩, ⟨[7, 8], [8], [], [59], fun f => f 59 = .int .i64 (1)⟩, ⟨[7, 8, 9], [9], [], [60], fun f => f 60 = .int .i64 (16)⟩, ⟨[], [], [2], [61], fun f => f 61 = .slice (sla (fa65 49)) ((be 8 (U ((e : Nat) : Int))) ++ be 8 (tickU ((e : Nat) : Int))).length (slc (fa65 49))⟩, ⟨[0, 1, 2, 3, 4, 5, 6, 7, 8, 9, 10, 11], [], [], [], fun _ => True⟩] [⟨none, none, [], [], fun _ => storeR S (ck3 k e n xs)⟩, ⟨none, none, [], [], fun _ => row (.slice pH47 ((ck2 k e n xs).head).length cH50) 5 1 (((ck2 k e n xs).head).length) (BX ((ck2 k e n xs).head))⟩, ⟨none, none, [4], [], fun _ => pt J (.cells #[.pointer (some ⟨S, 0, none⟩), Nx (i.epoch), Nx (i.next), vs, vr, Nx (i.size), vd] 84)⟩, ⟨none, none, [0, 1], [], fun _ => pt q2 (.cells #[.pointer (some ⟨J, 0, none⟩)] 43)⟩, ⟨none, none, [8], [], fun _ => pt q6 (.cells #[Nx (e), Nx (n), ws, wr_, wz] 36)⟩, ⟨none, none, [], [], fun _ => pt q3 (.cells #[.slice sa (xs.length) (sc)] 30)⟩, ⟨none, none, [], [], fun _ => row (.slice (sla (fa45 24)) (formB ((e : Nat) : Int) ((n : Nat) : Int) xs).length (slc (fa45 24))) 5 1 ((formB ((e : Nat) : Int) ((n : Nat) : Int) xs).length) (BX (formB ((e : Nat) : Int) ((n : Nat) : Int) xs))⟩, ⟨none, none, [], [], fun _ => row (.slice (sla (fa65 49)) ((be 8 (U ((e : Nat) : Int))) ++ be 8 (tickU ((e : Nat) : Int))).length (slc (fa65 49))) 5 1 (((be 8 (U ((e : Nat) : Int))) ++ be 8 (tickU ((e : Nat) : Int))).length) (BX ((be 8 (U ((e : Nat) : Int))) ++ be 8 (tickU ((e : Nat) : Int))))⟩] [(0, .pointer (some ⟨q2, 0, none⟩)), (1, .pointer (some ⟨q6, 0, none⟩)), (4, .slice (sla (fa65 49)) ((be 8 (U ((e : Nat) : Int))) ++ be 8 (tickU ((e : Nat) : Int))).length (slc (fa65 49)))] [] [] (by kernel_rfl) (by kernel_rfl) (by kernel_rfl) (by kernel_rfl) (by kernel_rfl) (by kernel_rfl) rfl ⟨rfl, rfl, rfl, trivial⟩ ⟨?_, ?_, ?_, ?_, ?_, ?_, ?_, ?_, ?_, ?_, ?_, ?_, trivial⟩ ?_
   ·rintro f M - ⟨i0, -⟩
    have hs0 : f 0 = .pointer (some ⟨q2, 0, none⟩) := i0
    refine ob_start (L' := pt q2 (.cells #[.pointer (some ⟨J, 0, none⟩)] 43) :: M) (by rfl) (up_cons rfl hs0) ?_
    refine l_val (v := .pointer (some ⟨J, 0, none⟩)) rfl rfl rfl (e_load1 tf43 (v := .pointer (some ⟨J, 0, none⟩)) rfl (k_pt 0 (cs := #[.pointer (some ⟨J, 0, none⟩)]) (vs := [.pointer (some ⟨J, 0, none⟩)]) rfl rfl)) ?_
    refine l_nil ?_
    exact f_owes_d (up_cons rfl hs0) rfl (perm_front 0 rfl)
   ·rintro f M - ⟨i0, -⟩
    have hs0 : f 0 = .pointer (some ⟨q2, 0, none⟩) := i0
    refine ob_start (L' := pt q2 (.cells #[.pointer (some ⟨J, 0, none⟩)] 43) :: M) (by rfl) (up_cons rfl hs0) ?_
    refine l_val (v := .pointer (some ⟨J, 0, none⟩)) rfl rfl rfl (e_load1 tf43 (v := .pointer (some ⟨J, 0, none⟩)) rfl (k_pt 0 (cs := #[.pointer (some ⟨J, 0, none⟩)]) (vs := [.pointer (some ⟨J, 0, none⟩)]) rfl rfl)) ?_
    refine l_nil ?_
    exact f_owes_d (up_cons rfl hs0) rfl (perm_front 0 rfl)
   ·rintro f M ⟨k0, -⟩ -
    have hs51 : f 51 = .pointer (some ⟨J, 0, none⟩) := k0
    refine ob_start (L' := M) (by rfl) (up_cons rfl hs51) ?_
    refine l_val (v := .pointer (some ⟨J, 0, none⟩)) rfl rfl rfl (e_nil (a := ⟨J, 0, none⟩) rfl) ?_
    refine l_nil ?_
    exact f_owes_d (up_cons rfl hs51) rfl (List.Perm.refl _)
   ·rintro f M ⟨k0, -⟩ -
    have hs52 : f 52 = .pointer (some ⟨J, 0, none⟩) := k0
    refine ob_start (L' := M) (by rfl) (up_cons rfl hs52) ?_
    refine l_val (v := .pointer (some ⟨J, 0, none⟩)) rfl rfl rfl (e_fieldPt (b := J) (o := 0) rfl tf30) ?_
    refine l_nil ?_
    exact f_owes_d (up_cons rfl hs52) rfl (List.Perm.refl _)
   ·rintro f M ⟨k0, -⟩ -
    have hs53 : f 53 = .pointer (some ⟨J, 0, none⟩) := k0
    refine ob_start (L' := pt J (.cells #[.pointer (some ⟨S, 0, none⟩), Nx (i.epoch), Nx (i.next), vs, vr, Nx (i.size), vd] 84) :: M) (by rfl) (up_cons rfl hs53) ?_
    refine l_val (v := .pointer (some ⟨S, 0, none⟩)) rfl rfl rfl (e_load1 tf31 (v := .pointer (some ⟨S, 0, none⟩)) rfl (k_pt 0 (cs := #[.pointer (some ⟨S, 0, none⟩), Nx (i.epoch), Nx (i.next), vs, vr, Nx (i.size), vd]) (vs := [.pointer (some ⟨S, 0, none⟩)]) rfl rfl)) ?_
    refine l_nil ?_
    exact f_owes_d (up_cons rfl hs53) rfl (perm_front 0 rfl)
   ·rintro f M ⟨k0, -⟩ -
    have hs54 : f 54 = .pointer (some ⟨S, 0, none⟩) := k0
    refine ob_start (L' := M) (by rfl) (up_cons rfl hs54) ?_
    refine l_val (v := .pointer (some ⟨S, 0, none⟩)) rfl rfl rfl (e_nil (a := ⟨S, 0, none⟩) rfl) ?_
    refine l_nil ?_
    exact f_owes_d (up_cons rfl hs54) rfl (List.Perm.refl _)
   ·rintro f M ⟨k0, -⟩ -
    have hs55 : f 55 = .pointer (some ⟨S, 0, none⟩) := k0
    refine ob_start (L' := M) (by rfl) (up_cons rfl hs55) ?_
    refine l_val (v := .pointer (some ⟨S, 0, none⟩)) rfl rfl rfl (e_fieldPt (b := S) (o := 0) rfl tf20) ?_
    refine l_nil ?_
    exact f_owes_d (up_cons rfl hs55) rfl (List.Perm.refl _)
   ·rintro f M - ⟨i0, -⟩
    have hs1 : f 1 = .pointer (some ⟨q6, 0, none⟩) := i0
    refine ob_start (L' := M) (by rfl) (up_cons rfl hs1) ?_
    refine l_val (v := .pointer (some ⟨q6, 0, none⟩)) rfl rfl rfl (e_fieldPt (b := q6) (o := 0) rfl tf48) ?_
    refine l_nil ?_
    exact f_owes_d (up_cons rfl hs1) rfl (List.Perm.refl _)
   ·rintro f M ⟨k0, -⟩ -
    have hs57 : f 57 = .pointer (some ⟨q6, 0, none⟩) := k0
    refine ob_start (L' := pt q6 (.cells #[Nx (e), Nx (n), ws, wr_, wz] 36) :: M) (by rfl) (up_cons rfl hs57) ?_
    refine l_val (v := Nx (e)) rfl rfl rfl (e_load1 tf25 (v := Nx (e)) rfl (k_pt 0 (cs := #[Nx (e), Nx (n), ws, wr_, wz]) (vs := [Nx (e)]) rfl rfl)) ?_
    refine l_nil ?_
    exact f_owes_d (up_cons rfl hs57) rfl (perm_front 0 rfl)
   ·rintro f M ⟨k0, -⟩ -
    have hs58 : f 58 = Nx (e) := k0
    refine ob_start (L' := M) (by rfl) (up_cons rfl hs58) ?_
    refine l_val (v := .int .i64 (1)) rfl rfl rfl (ev_eq (by rw [hpar]; rfl) (e_rem (a := ((e : Nat) : Int)) (b := (2 : Int)) rfl rfl (by decide) (nat_tmod _ 2))) ?_
    refine l_nil ?_
    exact f_owes_d (up_cons rfl hs58) rfl (List.Perm.refl _)
   ·rintro f M ⟨k0, -⟩ -
    have hs59 : f 59 = .int .i64 (1) := k0
    refine ob_start (L' := M) (by rfl) (up_cons rfl hs59) ?_
    refine l_val (v := .int .i64 (16)) rfl rfl rfl (e_mul (a := (1 : Int)) (b := (16 : Int)) rfl rfl (by decide)) ?_
    refine l_nil ?_
    exact f_owes_d (up_cons rfl hs59) rfl (List.Perm.refl _)
   ·rintro f M - ⟨i0, -⟩
    have hs4 : f 4 = .slice (sla (fa65 49)) ((be 8 (U ((e : Nat) : Int))) ++ be 8 (tickU ((e : Nat) : Int))).length (slc (fa65 49)) := i0
    refine ob_start (L' := M) (by rfl) (up_cons rfl hs4) ?_
    refine l_val (v := .slice (sla (fa65 49)) ((be 8 (U ((e : Nat) : Int))) ++ be 8 (tickU ((e : Nat) : Int))).length (slc (fa65 49))) rfl rfl rfl (e_move) ?_
    refine l_nil ?_
    exact f_owes_d (up_cons rfl hs4) rfl (List.Perm.refl _)
   rintro fa66 ⟨k0, -, -, -, -, -, k6, -, -, -, k10, k11, -⟩ -
   refine l_re (L' := [storeR S (ck3 k e n xs), row (.slice pH47 ((ck2 k e n xs).head).length cH50) 5 1 (((ck2 k e n xs).head).length) (BX ((ck2 k e n xs).head)), pt J (.cells #[.pointer (some ⟨S, 0, none⟩), Nx (i.epoch), Nx (i.next), vs, vr, Nx (i.size), vd] 84), pt q2 (.cells #[.pointer (some ⟨J, 0, none⟩)] 43), pt q6 (.cells #[Nx (e), Nx (n), ws, wr_, wz] 36), pt q3 (.cells #[.slice sa (xs.length) (sc)] 30), row (.slice (sla (fa45 24)) (formB ((e : Nat) : Int) ((n : Nat) : Int) xs).length (slc (fa45 24))) 5 1 ((formB ((e : Nat) : Int) ((n : Nat) : Int) xs).length) (BX (formB ((e : Nat) : Int) ((n : Nat) : Int) xs)), row (.slice (sla (fa65 49)) ((be 8 (U ((e : Nat) : Int))) ++ be 8 (tickU ((e : Nat) : Int))).length (slc (fa65 49))) 5 1 (((be 8 (U ((e : Nat) : Int))) ++ be 8 (tickU ((e : Nat) : Int))).length) (BX ((be 8 (U ((e : Nat) : Int))) ++ be 8 (tickU ((e : Nat) : Int))))]) (by rfl) ?_
   refine l_rebase (d := 50) (v := .pointer (some ⟨J, 0, none⟩)) k0 ?_
   refine l_rebase (d := 56) (v := .pointer (some ⟨S, 0, none⟩)) k6 ?_
   refine l_rebase (d := 60) (v := .int .i64 (16)) k10 ?_
   refine l_rebase (d := 61) (v := .slice (sla (fa65 49)) ((be 8 (U ((e : Nat) : Int))) ++ be 8 (tickU ((e : Nat) : Int))).length (slc (fa65 49))) k11 ?_
   refine l_callP rfl rfl rfl (cl_value (fst := []) (cap := []) (vs := [.pointer (some ⟨J, 0, none⟩), .pointer (some ⟨S, 0, none⟩), .int .i64 (16), .slice (sla (fa65 49)) ((be 8 (U ((e : Nat) : Int))) ++ be 8 (tickU ((e : Nat) : Int))).length (slc (fa65 49))]) (all := [.pointer (some ⟨J, 0, none⟩), .pointer (some ⟨S, 0, none⟩), .int .i64 (16), .slice (sla (fa65 49)) ((be 8 (U ((e : Nat) : Int))) ++ be 8 (tickU ((e : Nat) : Int))).length (slc (fa65 49))]) tf51 rfl rfl rfl) ?_
   intro w hw
   replace hw := hw.perm (L' := _ :: _ :: _ :: _ :: _ :: _ :: _ :: _ :: []) (by exact ((((((((perm_front 7 rfl).trans (perm_front 7 rfl)).trans (perm_front 7 rfl)).trans (perm_front 7 rfl)).trans (perm_front 7 rfl)).trans (perm_front 7 rfl)).trans (perm_front 7 rfl)).trans (perm_front 7 rfl)))
   obtain ⟨β1, sb, kn, hw1, back⟩ := St.frame (L := [_]) (M := _ :: _ :: _ :: _ :: _ :: _ :: _ :: []) hw
   refine (writeH_ok β1 w J S (kn _ (k_pt 1 (cs := #[.pointer (some ⟨S, 0, none⟩), Nx (i.epoch), Nx (i.next), vs, vr, Nx (i.size), vd]) (vs := [.pointer (some ⟨S, 0, none⟩)]) rfl rfl)) (ck3 k e n xs) (hf3.le (by omega)) 16 (by omega) ((be 8 (U ((e : Nat) : Int))) ++ be 8 (tickU ((e : Nat) : Int))) _ (by omega) (kn _ (Knows.of_res 6 rfl (Sl.mono U8R _ _) fun _ h => row_u8 h)) hw1).mono ?_
   rintro e w' (⟨rfl, ok67, hw'⟩ | ⟨rfl, ok67, hw'⟩)
   ·
    refine .inl ⟨_, rfl, _, back _ _ hw', ?_⟩
    clear hw hw1 hw' back kn sb
    refine panR ?_
    intro w hw
    refine .inl ⟨rfl, fun h => ok67 h.2.2, ?_⟩
    rw [ckS, if_pos ok1, if_pos ok2, ck4, show e % 2 * 16 = 16 by omega]
    exact st_mask [true, true, true, true, true, false, false, false] rfl (hw.perm (L' := [pt J (.cells #[.pointer (some ⟨S, 0, none⟩), Nx (i.epoch), Nx (i.next), vs, vr, Nx (i.size), vd] 84), pt q2 (.cells #[.pointer (some ⟨J, 0, none⟩)] 43), pt q6 (.cells #[Nx (e), Nx (n), ws, wr_, wz] 36), pt q3 (.cells #[.slice sa (xs.length) (sc)] 30), storeR S (wrH (ck3 k e n xs) 16 ((be 8 (U ((e : Nat) : Int))) ++ be 8 (tickU ((e : Nat) : Int)))), row (.slice pH47 ((ck2 k e n xs).head).length cH50) 5 1 (((ck2 k e n xs).head).length) (BX ((ck2 k e n xs).head)), row (.slice (sla (fa45 24)) (formB ((e : Nat) : Int) ((n : Nat) : Int) xs).length (slc (fa45 24))) 5 1 ((formB ((e : Nat) : Int) ((n : Nat) : Int) xs).length) (BX (formB ((e : Nat) : Int) ((n : Nat) : Int) xs)), row (.slice (sla (fa65 49)) ((be 8 (U ((e : Nat) : Int))) ++ be 8 (tickU ((e : Nat) : Int))).length (slc (fa65 49))) 5 1 (((be 8 (U ((e : Nat) : Int))) ++ be 8 (tickU ((e : Nat) : Int))).length) (BX ((be 8 (U ((e : Nat) : Int))) ++ be 8 (tickU ((e : Nat) : Int))))]) (by exact ((((((((perm_front 7 rfl).trans (perm_front 7 rfl)).trans (perm_front 3 rfl)).trans (perm_front 3 rfl)).trans (perm_front 7 rfl)).trans (perm_front 7 rfl)).trans (perm_front 7 rfl)).trans (perm_front 7 rfl))))
   refine .inr ⟨_, rfl, _, back _ _ hw', ?_⟩
   clear hw hw1 hw' back kn sb
   refine l_nil ?_
   refine end0 Try.results55 ?_
   intro w hw
   refine .inr ⟨rfl, ⟨ok1, ok2, ok67⟩, ?_⟩
   rw [ckS, if_pos ok1, if_pos ok2, ck4, show e % 2 * 16 = 16 by omega]
   exact st_mask [true, true, true, true, true, false, false, false] rfl (hw.perm (L' := [pt J (.cells #[.pointer (some ⟨S, 0, none⟩), Nx (i.epoch), Nx (i.next), vs, vr, Nx (i.size), vd] 84), pt q2 (.cells #[.pointer (some ⟨J, 0, none⟩)] 43), pt q6 (.cells #[Nx (e), Nx (n), ws, wr_, wz] 36), pt q3 (.cells #[.slice sa (xs.length) (sc)] 30), storeR S (wrH (ck3 k e n xs) 16 ((be 8 (U ((e : Nat) : Int))) ++ be 8 (tickU ((e : Nat) : Int)))), row (.slice pH47 ((ck2 k e n xs).head).length cH50) 5 1 (((ck2 k e n xs).head).length) (BX ((ck2 k e n xs).head)), row (.slice (sla (fa45 24)) (formB ((e : Nat) : Int) ((n : Nat) : Int) xs).length (slc (fa45 24))) 5 1 ((formB ((e : Nat) : Int) ((n : Nat) : Int) xs).length) (BX (formB ((e : Nat) : Int) ((n : Nat) : Int) xs)), row (.slice (sla (fa65 49)) ((be 8 (U ((e : Nat) : Int))) ++ be 8 (tickU ((e : Nat) : Int))).length (slc (fa65 49))) 5 1 (((be 8 (U ((e : Nat) : Int))) ++ be 8 (tickU ((e : Nat) : Int))).length) (BX ((be 8 (U ((e : Nat) : Int))) ++ be 8 (tickU ((e : Nat) : Int))))]) (by exact ((((((((perm_front 7 rfl).trans (perm_front 7 rfl)).trans (perm_front 3 rfl)).trans (perm_front 3 rfl)).trans (perm_front 7 rfl)).trans (perm_front 7 rfl)).trans (perm_front 7 rfl)).trans (perm_front 7 rfl))))
  ·
   refine c_skip ?_
   refine f_then ?_
   refine c_seq ?_
   refine c_any [⟨[], [], [0], [42], fun f => f 42 = .pointer (some ⟨q6, 0, none⟩)⟩, ⟨[0], [0], [], [43], fun f => f 43 = Nx (e)⟩, ⟨[0, 1], [1], [], [44], fun f => f 44 = Ux (U ((e : Nat) : Int))⟩, ⟨[0, 1, 2], [2], [], [45], fun f => f 45 = .slice (sla (f 45)) (be 8 (U ((e : Nat) : Int))).length (slc (f 45))⟩, ⟨[], [], [0], [46], fun f => f 46 = .pointer (some ⟨q6, 0, none⟩)⟩, ⟨[4], [4], [], [47], fun f => f 47 = Nx (e)⟩, ⟨[0, 1, 2, 3, 4, 5], [5], [], [48], fun f => f 48 = Ux (tickU ((e : Nat) : Int))⟩, ⟨[0, 1, 2, 3, 4, 5, 6], [3, 6], [], [49], fun f => f 49 = .slice (sla (f 49)) ((be 8 (U ((e : Nat) : Int))) ++ be 8 (tickU ((e : Nat) : Int))).length (slc (f 49))⟩, ⟨[0, 1, 2, 3, 4, 5, 6, 7], [7], [], [4, 49], fun f => f 4 = .slice (sla (f 49)) ((be 8 (U ((e : Nat) : Int))) ++ be 8 (tickU ((e : Nat) : Int))).length (slc (f 49))⟩] [⟨none, none, [], [], fun _ => pt S (.cells #[.slice pH47 ((ck2 k e n xs).head).length cH50, .slice pA48 ((ck2 k e n xs).a).length cA51, .slice pB49 ((ck2 k e n xs).b).length cB52, Ix ((ck2 k e n xs).power)] 32)⟩, ⟨none, none, [], [], fun _ => row (.slice pH47 ((ck2 k e n xs).head).length cH50) 5 1 (((ck2 k e n xs).head).length) (BX ((ck2 k e n xs).head))⟩, ⟨none, none, [], [], fun _ => row (.slice pA48 ((ck2 k e n xs).a).length cA51) 5 1 (((ck2 k e n xs).a).length) (BX ((ck2 k e n xs).a))⟩, ⟨none, none, [], [], fun _ => row (.slice pB49 ((ck2 k e n xs).b).length cB52) 5 1 (((ck2 k e n xs).b).length) (BX ((ck2 k e n xs).b))⟩, ⟨none, none, [], [], fun _ => pt J (.cells #[.pointer (some ⟨S, 0, none⟩), Nx (i.epoch), Nx (i.next), vs, vr, Nx (i.size), vd] 84)⟩, ⟨none, none, [], [], fun _ => pt q2 (.cells #[.pointer (some ⟨J, 0, none⟩)] 43)⟩, ⟨none, none, [1, 5], [], fun _ => pt q6 (.cells #[Nx (e), Nx (n), ws, wr_, wz] 36)⟩, ⟨none, none, [], [], fun _ => pt q3 (.cells #[.slice sa (xs.length) (sc)] 30)⟩, ⟨none, none, [], [], fun _ => row (.slice (sla (fa45 24)) (formB ((e : Nat) : Int) ((n : Nat) : Int) xs).length (slc (fa45 24))) 5 1 ((formB ((e : Nat) : Int) ((n : Nat) : Int) xs).length) (BX (formB ((e : Nat) : Int) ((n : Nat) : Int) xs))⟩, ⟨(some 3), (some 7), [7], [45], fun f => row (.slice (sla (f 45)) (be 8 (U ((e : Nat) : Int))).length (slc (f 45))) 5 1 ((be 8 (U ((e : Nat) : Int))).length) (BX (be 8 (U ((e : Nat) : Int))))⟩, ⟨(some 7), none, [], [49], fun f => row (.slice (sla (f 49)) ((be 8 (U ((e : Nat) : Int))) ++ be 8 (tickU ((e : Nat) : Int))).length (slc (f 49))) 5 1 (((be 8 (U ((e : Nat) : Int))) ++ be 8 (tickU ((e : Nat) : Int))).length) (BX ((be 8 (U ((e : Nat) : Int))) ++ be 8 (tickU ((e : Nat) : Int))))⟩] [(1, .pointer (some ⟨q6, 0, none⟩)), (0, .pointer (some ⟨q2, 0, none⟩))] [1, 0] [] (by kernel_rfl) (by kernel_rfl) (by kernel_rfl) (by kernel_rfl) rfl ⟨rfl, rfl, trivial⟩ ⟨?_, ?_, ?_, ?_, ?_, ?_, ?_, ?_, ?_, trivial⟩ ?_
   ·rintro f M - ⟨i0, -⟩
    have hs1 : f 1 = .pointer (some ⟨q6, 0, none⟩) := i0
    refine ob_start (L' := M) (by rfl) (up_cons rfl hs1) ?_
    refine l_val (v := .pointer (some ⟨q6, 0, none⟩)) rfl rfl rfl (e_fieldPt (b := q6) (o := 0) rfl tf48) ?_
    refine l_nil ?_
    exact f_owes_d (up_cons rfl hs1) rfl (List.Perm.refl _)
   ·rintro f M ⟨k0, -⟩ -
    have hs42 : f 42 = .pointer (some ⟨q6, 0, none⟩) := k0
    refine ob_start (L' := pt q6 (.cells #[Nx (e), Nx (n), ws, wr_, wz] 36) :: M) (by rfl) (up_cons rfl hs42) ?_
    refine l_val (v := Nx (e)) rfl rfl rfl (e_load1 tf25 (v := Nx (e)) rfl (k_pt 0 (cs := #[Nx (e), Nx (n), ws, wr_, wz]) (vs := [Nx (e)]) rfl rfl)) ?_
    refine l_nil ?_
    exact f_owes_d (up_cons rfl hs42) rfl (perm_front 0 rfl)
   ·rintro f M ⟨k0, -⟩ -
    have hs43 : f 43 = Nx (e) := k0
    refine ob_start (L' := M) (by rfl) (up_cons rfl hs43) ?_
    refine l_val (v := Ux (U ((e : Nat) : Int))) rfl rfl rfl (e_conv (a := ((e : Nat) : Int)) rfl ⟨_, tf1⟩ tf2 (ux_of _)) ?_
    refine l_nil ?_
    exact f_owes_d (up_cons rfl hs43) rfl (List.Perm.refl _)
   ·rintro f M ⟨k0, -⟩ -
    have hs44 : f 44 = Ux (U ((e : Nat) : Int)) := k0
    refine ob_start (L' := M) (by rfl) (up_cons rfl hs44) ?_
    refine l_call rfl rfl rfl (cl_value (fst := []) (cap := []) (vs := [.slice none 0 0, Ux (U ((e : Nat) : Int)), .int .i64 (8)]) (all := [.slice none 0 0, Ux (U ((e : Nat) : Int)), .int .i64 (8)]) tf17 rfl rfl rfl) ?_
    intro w hw
    obtain ⟨β1, sb, kn, hw1, back⟩ := St.frame_all hw
    refine (appended0_ok β1 w hw1 (U ((e : Nat) : Int)) 8 (by decide)).mono ?_
    rintro e w' ⟨p70, c71, rfl, hw'⟩
    refine ⟨_, rfl, _, back _ _ hw', ?_⟩
    clear hw hw1 hw' back kn sb
    refine l_nil ?_
    exact f_owes_d (up_cons rfl hs44) rfl (perm_front 0 rfl)
   ·rintro f M - ⟨i0, -⟩
    have hs1 : f 1 = .pointer (some ⟨q6, 0, none⟩) := i0
    refine ob_start (L' := M) (by rfl) (up_cons rfl hs1) ?_
    refine l_val (v := .pointer (some ⟨q6, 0, none⟩)) rfl rfl rfl (e_fieldPt (b := q6) (o := 0) rfl tf48) ?_
    refine l_nil ?_
    exact f_owes_d (up_cons rfl hs1) rfl (List.Perm.refl _)
   ·rintro f M ⟨k0, -⟩ -
    have hs46 : f 46 = .pointer (some ⟨q6, 0, none⟩) := k0
    refine ob_start (L' := pt q6 (.cells #[Nx (e), Nx (n), ws, wr_, wz] 36) :: M) (by rfl) (up_cons rfl hs46) ?_
    refine l_val (v := Nx (e)) rfl rfl rfl (e_load1 tf25 (v := Nx (e)) rfl (k_pt 0 (cs := #[Nx (e), Nx (n), ws, wr_, wz]) (vs := [Nx (e)]) rfl rfl)) ?_
    refine l_nil ?_
    exact f_owes_d (up_cons rfl hs46) rfl (perm_front 0 rfl)
   ·rintro f M ⟨k0, -⟩ -
    have hs47 : f 47 = Nx (e) := k0
    refine ob_start (L' := M) (by rfl) (up_cons rfl hs47) ?_
    refine l_call rfl rfl rfl (cl_value (fst := []) (cap := []) (vs := [Nx (e)]) (all := [Nx (e)]) tf26 rfl rfl rfl) ?_
    intro w hw
    obtain ⟨β1, sb, kn, hw1, back⟩ := St.frame_all hw
    refine (tick_ok β1 w hw1 ((e : Nat) : Int)).mono ?_
    rintro e w' ⟨rfl, hw'⟩
    refine ⟨_, rfl, _, back _ _ hw', ?_⟩
    clear hw hw1 hw' back kn sb
    refine l_nil ?_
    exact f_owes_d (up_cons rfl hs47) rfl (List.Perm.refl _)
   ·rintro f M ⟨k0, k1, -⟩ -
    have hs45 : f 45 = .slice (sla (f 45)) (be 8 (U ((e : Nat) : Int))).length (slc (f 45)) := k0
    have hs48 : f 48 = Ux (tickU ((e : Nat) : Int)) := k1
    refine ob_start (L' := row (.slice (sla (f 45)) (be 8 (U ((e : Nat) : Int))).length (slc (f 45))) 5 1 ((be 8 (U ((e : Nat) : Int))).length) (BX (be 8 (U ((e : Nat) : Int)))) :: M) (by rfl) (up_cons (up_cons rfl hs45) hs48) ?_
    refine l_call rfl rfl rfl (cl_value (fst := []) (cap := []) (vs := [.slice (sla (f 45)) (be 8 (U ((e : Nat) : Int))).length (slc (f 45)), Ux (tickU ((e : Nat) : Int)), .int .i64 (8)]) (all := [.slice (sla (f 45)) (be 8 (U ((e : Nat) : Int))).length (slc (f 45)), Ux (tickU ((e : Nat) : Int)), .int .i64 (8)]) tf17 rfl rfl rfl) ?_
    intro w hw
    replace hw := hw.perm (L' := _ :: M) (by exact (perm_front 0 rfl))
    obtain ⟨β1, sb, kn, hw1, back⟩ := St.frame (L := [_]) (M := M) hw
    refine (appended_ok β1 w _ _ (be 8 (U ((e : Nat) : Int))) (tickU ((e : Nat) : Int)) 8 (by decide) (by simp only [List.length_append, be_length]; omega) hw1).mono ?_
    rintro e w' ⟨p74, c75, rfl, hw'⟩
    refine ⟨_, rfl, _, back _ _ hw', ?_⟩
    clear hw hw1 hw' back kn sb
    refine l_nil ?_
    exact f_owes_d (up_cons (up_cons rfl hs45) hs48) rfl (perm_front 0 rfl)
   ·rintro f M ⟨k0, -⟩ -
    have hs49 : f 49 = .slice (sla (f 49)) ((be 8 (U ((e : Nat) : Int))) ++ be 8 (tickU ((e : Nat) : Int))).length (slc (f 49)) := k0
    refine ob_start (L' := M) (by rfl) (up_cons rfl hs49) ?_
    refine l_val (v := .slice (sla (f 49)) ((be 8 (U ((e : Nat) : Int))) ++ be 8 (tickU ((e : Nat) : Int))).length (slc (f 49))) rfl rfl rfl (e_assign) ?_
    refine l_nil ?_
    exact f_owes_d (up_cons rfl hs49) rfl (List.Perm.refl _)
   rintro fa76 ⟨-, -, -, -, -, -, -, -, k8, -⟩ ⟨j0, j1, -⟩
   refine f_re (L' := [pt S (.cells #[.slice pH47 ((ck2 k e n xs).head).length cH50, .slice pA48 ((ck2 k e n xs).a).length cA51, .slice pB49 ((ck2 k e n xs).b).length cB52, Ix ((ck2 k e n xs).power)] 32), row (.slice pH47 ((ck2 k e n xs).head).length cH50) 5 1 (((ck2 k e n xs).head).length) (BX ((ck2 k e n xs).head)), row (.slice pA48 ((ck2 k e n xs).a).length cA51) 5 1 (((ck2 k e n xs).a).length) (BX ((ck2 k e n xs).a)), row (.slice pB49 ((ck2 k e n xs).b).length cB52) 5 1 (((ck2 k e n xs).b).length) (BX ((ck2 k e n xs).b)), pt J (.cells #[.pointer (some ⟨S, 0, none⟩), Nx (i.epoch), Nx (i.next), vs, vr, Nx (i.size), vd] 84), pt q2 (.cells #[.pointer (some ⟨J, 0, none⟩)] 43), pt q6 (.cells #[Nx (e), Nx (n), ws, wr_, wz] 36), pt q3 (.cells #[.slice sa (xs.length) (sc)] 30), row (.slice (sla (fa45 24)) (formB ((e : Nat) : Int) ((n : Nat) : Int) xs).length (slc (fa45 24))) 5 1 ((formB ((e : Nat) : Int) ((n : Nat) : Int) xs).length) (BX (formB ((e : Nat) : Int) ((n : Nat) : Int) xs)), row (.slice (sla (fa76 49)) ((be 8 (U ((e : Nat) : Int))) ++ be 8 (tickU ((e : Nat) : Int))).length (slc (fa76 49))) 5 1 (((be 8 (U ((e : Nat) : Int))) ++ be 8 (tickU ((e : Nat) : Int))).length) (BX ((be 8 (U ((e : Nat) : Int))) ++ be 8 (tickU ((e : Nat) : Int))))]) (by rfl) ?_
   refine f_rebase (d := 0) (v := .pointer (some ⟨q2, 0, none⟩)) j0 ?_
   refine f_rebase (d := 1) (v := .pointer (some ⟨q6, 0, none⟩)) j1 ?_
   refine f_rebase (d := 4) (v := .slice (sla (fa76 49)) ((be 8 (U ((e : Nat) : Int))) ++ be 8 (tickU ((e : Nat) : Int))).length (slc (fa76 49))) k8 ?_
   refine f_then ?_
   refine c_perm (L' := [pt S (.cells #[.slice pH47 ((ck2 k e n xs).head).length cH50, .slice pA48 ((ck2 k e n xs).a).length cA51, .slice pB49 ((ck2 k e n xs).b).length cB52, Ix ((ck2 k e n xs).power)] 32), row (.slice pH47 ((ck2 k e n xs).head).length cH50) 5 1 (((ck2 k e n xs).head).length) (BX ((ck2 k e n xs).head)), row (.slice pA48 ((ck2 k e n xs).a).length cA51) 5 1 (((ck2 k e n xs).a).length) (BX ((ck2 k e n xs).a)), row (.slice pB49 ((ck2 k e n xs).b).length cB52) 5 1 (((ck2 k e n xs).b).length) (BX ((ck2 k e n xs).b)), pt J (.cells #[.pointer (some ⟨S, 0, none⟩), Nx (i.epoch), Nx (i.next), vs, vr, Nx (i.size), vd] 84), pt q2 (.cells #[.pointer (some ⟨J, 0, none⟩)] 43), pt q6 (.cells #[Nx (e), Nx (n), ws, wr_, wz] 36), pt q3 (.cells #[.slice sa (xs.length) (sc)] 30), row (.slice (sla (fa45 24)) (formB ((e : Nat) : Int) ((n : Nat) : Int) xs).length (slc (fa45 24))) 5 1 ((formB ((e : Nat) : Int) ((n : Nat) : Int) xs).length) (BX (formB ((e : Nat) : Int) ((n : Nat) : Int) xs)), row (.slice (sla (fa76 49)) ((be 8 (U ((e : Nat) : Int))) ++ be 8 (tickU ((e : Nat) : Int))).length (slc (fa76 49))) 5 1 (((be 8 (U ((e : Nat) : Int))) ++ be 8 (tickU ((e : Nat) : Int))).length) (BX ((be 8 (U ((e : Nat) : Int))) ++ be 8 (tickU ((e : Nat) : Int))))]) (by exact ((((((((((perm_front 9 rfl).trans (perm_front 9 rfl)).trans (perm_front 9 rfl)).trans (perm_front 9 rfl)).trans (perm_front 9 rfl)).trans (perm_front 9 rfl)).trans (perm_front 9 rfl)).trans (perm_front 9 rfl)).trans (perm_front 9 rfl)).trans (perm_front 9 rfl))) ?_
   refine c_closeStore (S := S) (k := (ck3 k e n xs)) (pH := pH47) (pA := pA48) (pB := pB49) (cH := cH50) (cA := cA51) (cB := cB52) (M := (pt J (.cells #[.pointer (some ⟨S, 0, none⟩), Nx (i.epoch), Nx (i.next), vs, vr, Nx (i.size), vd] 84) :: pt q2 (.cells #[.pointer (some ⟨J, 0, none⟩)] 43) :: pt q6 (.cells #[Nx (e), Nx (n), ws, wr_, wz] 36) :: pt q3 (.cells #[.slice sa (xs.length) (sc)] 30) :: row (.slice (sla (fa45 24)) (formB ((e : Nat) : Int) ((n : Nat) : Int) xs).length (slc (fa45 24))) 5 1 ((formB ((e : Nat) : Int) ((n : Nat) : Int) xs).length) (BX (formB ((e : Nat) : Int) ((n : Nat) : Int) xs)) :: row (.slice (sla (fa76 49)) ((be 8 (U ((e : Nat) : Int))) ++ be 8 (tickU ((e : Nat) : Int))).length (slc (fa76 49))) 5 1 (((be 8 (U ((e : Nat) : Int))) ++ be 8 (tickU ((e : Nat) : Int))).length) (BX ((be 8 (U ((e : Nat) : Int))) ++ be 8 (tickU ((e : Nat) : Int)))) :: [])) (by rw [show ck3 k e n xs = ck2 k e n xs from if_neg (by omega)]; rfl) ?_
   have hf3 : (ck3 k e n xs).fits 655360 := by
    rw [show ck3 k e n xs = ck2 k e n xs from if_neg (by omega)]
    exact hf2
   have hcl : (be 8 (U ((e : Nat) : Int)) ++ be 8 (tickU ((e : Nat) : Int))).length = 16 := by simp [be_length]
   refine c_any_end 12 rfl rfl [⟨[], [], [0], [50], fun f => f 50 = .pointer (some ⟨J, 0, none⟩)⟩, ⟨[], [], [0], [51], fun f => f 51 = .pointer (some ⟨J, 0, none⟩)⟩, ⟨[1], [1], [], [52], fun f => f 52 = .pointer (some ⟨J, 0, none⟩)⟩, ⟨[1, 2], [2], [], [53], fun f => f 53 = .pointer (some ⟨J, 0, none⟩)⟩, ⟨[1, 2, 3], [3], [], [54], fun f => f 54 = .pointer (some ⟨S, 0, none⟩)⟩, ⟨[1, 2, 3, 4], [4], [], [55], fun f => f 55 = .pointer (some ⟨S, 0, none⟩)⟩, ⟨[1, 2, 3, 4, 5], [5], [], [56], fun f => f 56 = .pointer (some ⟨S, 0, none⟩)⟩, ⟨[], [], [1], [57], fun f => f 57 = .pointer (some ⟨q6, 0, none⟩)⟩, ⟨[7], [7], [], [58], fun f => f 58 = Nx (e)⟩, ⟨[7, 8], [8], [], [59], fun f => f 59 = .int .i64 (1)⟩, ⟨[7, 8, 9], [9], [], [60], fun f => f 60 = .int .i64 (16)⟩, ⟨[], [], [2], [61], fun f => f 61 = .slice (sla (fa76 49)) ((be 8 (U ((e : Nat) : Int))) ++ be 8 (tickU ((e : Nat) : Int))).length (slc (fa76 49))⟩, ⟨[0, 1, 2, 3, 4, 5, 6, 7, 8, 9, 10, 11], [], [], [], fun _ => True⟩] [⟨none, none, [], [], fun _ => storeR S (ck3 k e n xs)⟩, ⟨none, none, [4], [], fun _ => pt J (.cells #[.pointer (some ⟨S, 0, none⟩), Nx (i.epoch), Nx (i.next), vs, vr, Nx (i.size), vd] 84)⟩, ⟨none, none, [0, 1], [], fun _ => pt q2 (.cells #[.pointer (some ⟨J, 0, none⟩)] 43)⟩, ⟨none, none, [8], [], fun _ => pt q6 (.cells #[Nx (e), Nx (n), ws, wr_, wz] 36)⟩, ⟨none, none, [], [], fun _ => pt q3 (.cells #[.slice sa (xs.length) (sc)] 30)⟩, ⟨none, none, [], [], fun _ => row (.slice (sla (fa45 24)) (formB ((e : Nat) : Int) ((n : Nat) : Int) xs).length (slc (fa45 24))) 5 1 ((formB ((e : Nat) : Int) ((n : Nat) : Int) xs).length) (BX (formB ((e : Nat) : Int) ((n : Nat) : Int) xs))⟩, ⟨none, none, [], [], fun _ => row (.slice (sla (fa76 49)) ((be 8 (U ((e : Nat) : Int))) ++ be 8 (tickU ((e : Nat) : Int))).length (slc (fa76 49))) 5 1 (((be 8 (U ((e : Nat) : Int))) ++ be 8 (tickU ((e : Nat) : Int))).length) (BX ((be 8 (U ((e : Nat) : Int))) ++ be 8 (tickU ((e : Nat) : Int))))⟩] [(0, .pointer (some ⟨q2, 0, none⟩)), (1, .pointer (some ⟨q6, 0, none⟩)), (4, .slice (sla (fa76 49)) ((be 8 (U ((e : Nat) : Int))) ++ be 8 (tickU ((e : Nat) : Int))).length (slc (fa76 49)))] [] [] (by kernel_rfl) (by kernel_rfl) (by kernel_rfl) (by kernel_rfl) (by kernel_rfl) (by kernel_rfl) rfl ⟨rfl, rfl, rfl, trivial⟩ ⟨?_, ?_, ?_, ?_, ?_, ?_, ?_, ?_, ?_, ?_, ?_, ?_, trivial⟩ ?_
   ·rintro f M - ⟨i0, -⟩
    have hs0 : f 0 = .pointer (some ⟨q2, 0, none⟩) := i0
    refine ob_start (L' := pt q2 (.cells #[.pointer (some ⟨J, 0, none⟩)] 43) :: M) (by rfl) (up_cons rfl hs0) ?_
    refine l_val (v := .pointer (some ⟨J, 0, none⟩)) rfl rfl rfl (e_load1 tf43 (v := .pointer (some ⟨J, 0, none⟩)) rfl (k_pt 0 (cs := #[.pointer (some ⟨J, 0, none⟩)]) (vs := [.pointer (some ⟨J, 0, none⟩)]) rfl rfl)) ?_
    refine l_nil ?_
    exact f_owes_d (up_cons rfl hs0) rfl (perm_front 0 rfl)
   ·rintro f M - ⟨i0, -⟩
    have hs0 : f 0 = .pointer (some ⟨q2, 0, none⟩) := i0
    refine ob_start (L' := pt q2 (.cells #[.pointer (some ⟨J, 0, none⟩)] 43) :: M) (by rfl) (up_cons rfl hs0) ?_
    refine l_val (v := .pointer (some ⟨J, 0, none⟩)) rfl rfl rfl (e_load1 tf43 (v := .pointer (some ⟨J, 0, none⟩)) rfl (k_pt 0 (cs := #[.pointer (some ⟨J, 0, none⟩)]) (vs := [.pointer (some ⟨J, 0, none⟩)]) rfl rfl)) ?_
    refine l_nil ?_
    exact f_owes_d (up_cons rfl hs0) rfl (perm_front 0 rfl)
   ·rintro f M ⟨k0, -⟩ -
    have hs51 : f 51 = .pointer (some ⟨J, 0, none⟩) := k0
    refine ob_start (L' := M) (by rfl) (up_cons rfl hs51) ?_
    refine l_val (v := .pointer (some ⟨J, 0, none⟩)) rfl rfl rfl (e_nil (a := ⟨J, 0, none⟩) rfl) ?_
    refine l_nil ?_
    exact f_owes_d (up_cons rfl hs51) rfl (List.Perm.refl _)
   ·rintro f M ⟨k0, -⟩ -
    have hs52 : f 52 = .pointer (some ⟨J, 0, none⟩) := k0
    refine ob_start (L' := M) (by rfl) (up_cons rfl hs52) ?_
    refine l_val (v := .pointer (some ⟨J, 0, none⟩)) rfl rfl rfl (e_fieldPt (b := J) (o := 0) rfl tf30) ?_
    refine l_nil ?_
    exact f_owes_d (up_cons rfl hs52) rfl (List.Perm.refl _)
   ·rintro f M ⟨k0, -⟩ -
    have hs53 : f 53 = .pointer (some ⟨J, 0, none⟩) := k0
    refine ob_start (L' := pt J (.cells #[.pointer (some ⟨S, 0, none⟩), Nx (i.epoch), Nx (i.next), vs, vr, Nx (i.size), vd] 84) :: M) (by rfl) (up_cons rfl hs53) ?_
    refine l_val (v := .pointer (some ⟨S, 0, none⟩)) rfl rfl rfl (e_load1 tf31 (v := .pointer (some ⟨S, 0, none⟩)) rfl (k_pt 0 (cs := #[.pointer (some ⟨S, 0, none⟩), Nx (i.epoch), Nx (i.next), vs, vr, Nx (i.size), vd]) (vs := [.pointer (some ⟨S, 0, none⟩)]) rfl rfl)) ?_
    refine l_nil ?_
    exact f_owes_d (up_cons rfl hs53) rfl (perm_front 0 rfl)
   ·rintro f M ⟨k0, -⟩ -
    have hs54 : f 54 = .pointer (some ⟨S, 0, none⟩) := k0
    refine ob_start (L' := M) (by rfl) (up_cons rfl hs54) ?_
    refine l_val (v := .pointer (some ⟨S, 0, none⟩)) rfl rfl rfl (e_nil (a := ⟨S, 0, none⟩) rfl) ?_
    refine l_nil ?_
    exact f_owes_d (up_cons rfl hs54) rfl (List.Perm.refl _)
   ·rintro f M ⟨k0, -⟩ -
    have hs55 : f 55 = .pointer (some ⟨S, 0, none⟩) := k0
    refine ob_start (L' := M) (by rfl) (up_cons rfl hs55) ?_
    refine l_val (v := .pointer (some ⟨S, 0, none⟩)) rfl rfl rfl (e_fieldPt (b := S) (o := 0) rfl tf20) ?_
    refine l_nil ?_
    exact f_owes_d (up_cons rfl hs55) rfl (List.Perm.refl _)
   ·rintro f M - ⟨i0, -⟩
    have hs1 : f 1 = .pointer (some ⟨q6, 0, none⟩) := i0
    refine ob_start (L' := M) (by rfl) (up_cons rfl hs1) ?_
    refine l_val (v := .pointer (some ⟨q6, 0, none⟩)) rfl rfl rfl (e_fieldPt (b := q6) (o := 0) rfl tf48) ?_
    refine l_nil ?_
    exact f_owes_d (up_cons rfl hs1) rfl (List.Perm.refl _)
   ·rintro f M ⟨k0, -⟩ -
    have hs57 : f 57 = .pointer (some ⟨q6, 0, none⟩) := k0
    refine ob_start (L' := pt q6 (.cells #[Nx (e), Nx (n), ws, wr_, wz] 36) :: M) (by rfl) (up_cons rfl hs57) ?_
    refine l_val (v := Nx (e)) rfl rfl rfl (e_load1 tf25 (v := Nx (e)) rfl (k_pt 0 (cs := #[Nx (e), Nx (n), ws, wr_, wz]) (vs := [Nx (e)]) rfl rfl)) ?_
    refine l_nil ?_
    exact f_owes_d (up_cons rfl hs57) rfl (perm_front 0 rfl)
   ·rintro f M ⟨k0, -⟩ -
    have hs58 : f 58 = Nx (e) := k0
    refine ob_start (L' := M) (by rfl) (up_cons rfl hs58) ?_
    refine l_val (v := .int .i64 (1)) rfl rfl rfl (ev_eq (by rw [hpar]; rfl) (e_rem (a := ((e : Nat) : Int)) (b := (2 : Int)) rfl rfl (by decide) (nat_tmod _ 2))) ?_
    refine l_nil ?_
    exact f_owes_d (up_cons rfl hs58) rfl (List.Perm.refl _)
   ·rintro f M ⟨k0, -⟩ -
    have hs59 : f 59 = .int .i64 (1) := k0
    refine ob_start (L' := M) (by rfl) (up_cons rfl hs59) ?_
    refine l_val (v := .int .i64 (16)) rfl rfl rfl (e_mul (a := (1 : Int)) (b := (16 : Int)) rfl rfl (by decide)) ?_
    refine l_nil ?_
    exact f_owes_d (up_cons rfl hs59) rfl (List.Perm.refl _)
   ·rintro f M - ⟨i0, -⟩
    have hs4 : f 4 = .slice (sla (fa76 49)) ((be 8 (U ((e : Nat) : Int))) ++ be 8 (tickU ((e : Nat) : Int))).length (slc (fa76 49)) := i0
    refine ob_start (L' := M) (by rfl) (up_cons rfl hs4) ?_
    refine l_val (v := .slice (sla (fa76 49)) ((be 8 (U ((e : Nat) : Int))) ++ be 8 (tickU ((e : Nat) : Int))).length (slc (fa76 49))) rfl rfl rfl (e_move) ?_
    refine l_nil ?_
    exact f_owes_d (up_cons rfl hs4) rfl (List.Perm.refl _)
   rintro fa77 ⟨k0, -, -, -, -, -, k6, -, -, -, k10, k11, -⟩ -
   refine l_re (L' := [storeR S (ck3 k e n xs), pt J (.cells #[.pointer (some ⟨S, 0, none⟩), Nx (i.epoch), Nx (i.next), vs, vr, Nx (i.size), vd] 84), pt q2 (.cells #[.pointer (some ⟨J, 0, none⟩)] 43), pt q6 (.cells #[Nx (e), Nx (n), ws, wr_, wz] 36), pt q3 (.cells #[.slice sa (xs.length) (sc)] 30), row (.slice (sla (fa45 24)) (formB ((e : Nat) : Int) ((n : Nat) : Int) xs).length (slc (fa45 24))) 5 1 ((formB ((e : Nat) : Int) ((n : Nat) : Int) xs).length) (BX (formB ((e : Nat) : Int) ((n : Nat) : Int) xs)), row (.slice (sla (fa76 49)) ((be 8 (U ((e : Nat) : Int))) ++ be 8 (tickU ((e : Nat) : Int))).length (slc (fa76 49))) 5 1 (((be 8 (U ((e : Nat) : Int))) ++ be 8 (tickU ((e : Nat) : Int))).length) (BX ((be 8 (U ((e : Nat) : Int))) ++ be 8 (tickU ((e : Nat) : Int))))]) (by rfl) ?_
   refine l_rebase (d := 50) (v := .pointer (some ⟨J, 0, none⟩)) k0 ?_
   refine l_rebase (d := 56) (v := .pointer (some ⟨S, 0, none⟩)) k6 ?_
   refine l_rebase (d := 60) (v := .int .i64 (16)) k10 ?_
   refine l_rebase (d := 61) (v := .slice (sla (fa76 49)) ((be 8 (U ((e : Nat) : Int))) ++ be 8 (tickU ((e : Nat) : Int))).length (slc (fa76 49))) k11 ?_
   refine l_callP rfl rfl rfl (cl_value (fst := []) (cap := []) (vs := [.pointer (some ⟨J, 0, none⟩), .pointer (some ⟨S, 0, none⟩), .int .i64 (16), .slice (sla (fa76 49)) ((be 8 (U ((e : Nat) : Int))) ++ be 8 (tickU ((e : Nat) : Int))).length (slc (fa76 49))]) (all := [.pointer (some ⟨J, 0, none⟩), .pointer (some ⟨S, 0, none⟩), .int .i64 (16), .slice (sla (fa76 49)) ((be 8 (U ((e : Nat) : Int))) ++ be 8 (tickU ((e : Nat) : Int))).length (slc (fa76 49))]) tf51 rfl rfl rfl) ?_
   intro w hw
   replace hw := hw.perm (L' := _ :: _ :: _ :: _ :: _ :: _ :: _ :: []) (by exact (((((((perm_front 6 rfl).trans (perm_front 6 rfl)).trans (perm_front 6 rfl)).trans (perm_front 6 rfl)).trans (perm_front 6 rfl)).trans (perm_front 6 rfl)).trans (perm_front 6 rfl)))
   obtain ⟨β1, sb, kn, hw1, back⟩ := St.frame (L := [_]) (M := _ :: _ :: _ :: _ :: _ :: _ :: []) hw
   refine (writeH_ok β1 w J S (kn _ (k_pt 0 (cs := #[.pointer (some ⟨S, 0, none⟩), Nx (i.epoch), Nx (i.next), vs, vr, Nx (i.size), vd]) (vs := [.pointer (some ⟨S, 0, none⟩)]) rfl rfl)) (ck3 k e n xs) (hf3.le (by omega)) 16 (by omega) ((be 8 (U ((e : Nat) : Int))) ++ be 8 (tickU ((e : Nat) : Int))) _ (by omega) (kn _ (Knows.of_res 5 rfl (Sl.mono U8R _ _) fun _ h => row_u8 h)) hw1).mono ?_
   rintro e w' (⟨rfl, ok78, hw'⟩ | ⟨rfl, ok78, hw'⟩)
   ·
    refine .inl ⟨_, rfl, _, back _ _ hw', ?_⟩
    clear hw hw1 hw' back kn sb
    refine panR ?_
    intro w hw
    refine .inl ⟨rfl, fun h => ok78 h.2.2, ?_⟩
    rw [ckS, if_pos ok1, if_pos ok2, ck4, show e % 2 * 16 = 16 by omega]
    exact st_mask [true, true, true, true, true, false, false] rfl (hw.perm (L' := [pt J (.cells #[.pointer (some ⟨S, 0, none⟩), Nx (i.epoch), Nx (i.next), vs, vr, Nx (i.size), vd] 84), pt q2 (.cells #[.pointer (some ⟨J, 0, none⟩)] 43), pt q6 (.cells #[Nx (e), Nx (n), ws, wr_, wz] 36), pt q3 (.cells #[.slice sa (xs.length) (sc)] 30), storeR S (wrH (ck3 k e n xs) 16 ((be 8 (U ((e : Nat) : Int))) ++ be 8 (tickU ((e : Nat) : Int)))), row (.slice (sla (fa45 24)) (formB ((e : Nat) : Int) ((n : Nat) : Int) xs).length (slc (fa45 24))) 5 1 ((formB ((e : Nat) : Int) ((n : Nat) : Int) xs).length) (BX (formB ((e : Nat) : Int) ((n : Nat) : Int) xs)), row (.slice (sla (fa76 49)) ((be 8 (U ((e : Nat) : Int))) ++ be 8 (tickU ((e : Nat) : Int))).length (slc (fa76 49))) 5 1 (((be 8 (U ((e : Nat) : Int))) ++ be 8 (tickU ((e : Nat) : Int))).length) (BX ((be 8 (U ((e : Nat) : Int))) ++ be 8 (tickU ((e : Nat) : Int))))]) (by exact (((((((perm_front 6 rfl).trans (perm_front 6 rfl)).trans (perm_front 2 rfl)).trans (perm_front 6 rfl)).trans (perm_front 6 rfl)).trans (perm_front 6 rfl)).trans (perm_front 6 rfl))))
   refine .inr ⟨_, rfl, _, back _ _ hw', ?_⟩
   clear hw hw1 hw' back kn sb
   refine l_nil ?_
   refine end0 Try.results55 ?_
   intro w hw
   refine .inr ⟨rfl, ⟨ok1, ok2, ok78⟩, ?_⟩
   rw [ckS, if_pos ok1, if_pos ok2, ck4, show e % 2 * 16 = 16 by omega]
   exact st_mask [true, true, true, true, true, false, false] rfl (hw.perm (L' := [pt J (.cells #[.pointer (some ⟨S, 0, none⟩), Nx (i.epoch), Nx (i.next), vs, vr, Nx (i.size), vd] 84), pt q2 (.cells #[.pointer (some ⟨J, 0, none⟩)] 43), pt q6 (.cells #[Nx (e), Nx (n), ws, wr_, wz] 36), pt q3 (.cells #[.slice sa (xs.length) (sc)] 30), storeR S (wrH (ck3 k e n xs) 16 ((be 8 (U ((e : Nat) : Int))) ++ be 8 (tickU ((e : Nat) : Int)))), row (.slice (sla (fa45 24)) (formB ((e : Nat) : Int) ((n : Nat) : Int) xs).length (slc (fa45 24))) 5 1 ((formB ((e : Nat) : Int) ((n : Nat) : Int) xs).length) (BX (formB ((e : Nat) : Int) ((n : Nat) : Int) xs)), row (.slice (sla (fa76 49)) ((be 8 (U ((e : Nat) : Int))) ++ be 8 (tickU ((e : Nat) : Int))).length (slc (fa76 49))) 5 1 (((be 8 (U ((e : Nat) : Int))) ++ be 8 (tickU ((e : Nat) : Int))).length) (BX ((be 8 (U ((e : Nat) : Int))) ++ be 8 (tickU ((e : Nat) : Int))))]) (by exact (((((((perm_front 6 rfl).trans (perm_front 6 rfl)).trans (perm_front 2 rfl)).trans (perm_front 6 rfl)).trans (perm_front 6 rfl)).trans (perm_front 6 rfl)).trans (perm_front 6 rfl))))
end Go.Proofs
