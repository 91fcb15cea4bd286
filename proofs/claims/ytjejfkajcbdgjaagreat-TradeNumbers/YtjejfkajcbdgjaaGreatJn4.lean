/-
 What is attempted: writing a record, cutting an area, a checkpoint. Printed by a program of my own.
-/
import Derived.Test.YtjejfkajcbdgjaaGreatJn3
import Derived.Test.YtjejfkajcbdgjaaGreatSlFlat
namespace Go.Proofs
open Go Go.Sl Go.Jn
theorem tf46 : cfB Tryz.prog 65 = true := by kernel_rfl
theorem tf47 : tyB Tryz.prog 141 false 1 = true := by kernel_rfl
theorem tf48 : fldB Tryz.prog 109 0 0 1 false = true := by kernel_rfl
theorem tf49 : tyB Tryz.prog 147 false 1 = true := by kernel_rfl
theorem tf50 : fldB Tryz.prog 109 4 4 1 false = true := by kernel_rfl
theorem tf51 : cfB Tryz.prog 64 = true := by kernel_rfl
theorem tf52 : cfB Tryz.prog 90 = true := by kernel_rfl
theorem tf53 : fldB Tryz.prog 109 1 1 1 false = true := by kernel_rfl
theorem tf54 : cfB Tryz.prog 61 = true := by kernel_rfl
theorem writeS0_ok (β : Base) (w : World) (e : Nat) (hpar : e % 2 = 0) (J S : Nat) (hJ : Cs β.heap ⟨J, 0, none⟩ [.pointer (some ⟨S, 0, none⟩)]) (k : KS) (hk : k.fits 1048576) (at_ : Nat) (hat : at_ ≤ 1048576) (bs : Bs) (v : Value) (hb : bs.length ≤ 1048576) (hs : Sl U8R β.heap v bs) (hw : St β [storeR S k] w) : Calls Tryz.prog 64 #[.pointer (some ⟨J, 0, none⟩), .pointer (some ⟨S, 1, none⟩), Nx at_, v] w fun r w' => (r = .panicked chP ∧ ¬ wrOk k.power bs ∧ St β [storeR S (wrS k e at_ bs)] w') ∨ (r = .returned (.tuple #[]) ∧ wrOk k.power bs ∧ St β [storeR S (wrS k e at_ bs)] w') := by
 have h := writeA_ok β w J S hJ k hk at_ hat bs v hb hs hw
 rwa [wrS_even hpar] at h
theorem cutS0_ok (β : Base) (w : World) (e : Nat) (hpar : e % 2 = 0) (J S : Nat) (hJ : Cs β.heap ⟨J, 0, none⟩ [.pointer (some ⟨S, 0, none⟩)]) (k : KS) (hk : k.fits 1048576) (size : Nat) (hw : St β [storeR S k] w) : Calls Tryz.prog 90 #[.pointer (some ⟨J, 0, none⟩), .pointer (some ⟨S, 1, none⟩), Nx size] w fun r w' => (r = .panicked chP ∧ ¬ cutOk (k.area e) k.power size ∧ St β [storeR S k] w') ∨ (r = .returned (.tuple #[]) ∧ cutOk (k.area e) k.power size ∧ St β [storeR S (cutS k e size)] w') := by
 have h := (cutA_ok β w J S hJ k hk size hw).mono (R' := fun r w' => (r = .panicked chP ∧ ¬ cutOk k.a k.power size ∧ St β [storeR S k] w') ∨ (r = .returned (.tuple #[]) ∧ cutOk k.a k.power size ∧ St β [storeR S { k with a := cutA k.a k.power size, power := cutP k.a k.power size }] w')) fun r w' hh => hh.imp (fun ⟨a, b, _, c⟩ => ⟨a, b, c⟩) id
 rwa [cutS_even hpar, ← area_even (k := k) hpar] at h
theorem writeS1_ok (β : Base) (w : World) (e : Nat) (hpar : e % 2 = 1) (J S : Nat) (hJ : Cs β.heap ⟨J, 0, none⟩ [.pointer (some ⟨S, 0, none⟩)]) (k : KS) (hk : k.fits 1048576) (at_ : Nat) (hat : at_ ≤ 1048576) (bs : Bs) (v : Value) (hb : bs.length ≤ 1048576) (hs : Sl U8R β.heap v bs) (hw : St β [storeR S k] w) : Calls Tryz.prog 64 #[.pointer (some ⟨J, 0, none⟩), .pointer (some ⟨S, 2, none⟩), Nx at_, v] w fun r w' => (r = .panicked chP ∧ ¬ wrOk k.power bs ∧ St β [storeR S (wrS k e at_ bs)] w') ∨ (r = .returned (.tuple #[]) ∧ wrOk k.power bs ∧ St β [storeR S (wrS k e at_ bs)] w') := by
 have h := writeB_ok β w J S hJ k hk at_ hat bs v hb hs hw
 rwa [wrS_odd hpar] at h
theorem cutS1_ok (β : Base) (w : World) (e : Nat) (hpar : e % 2 = 1) (J S : Nat) (hJ : Cs β.heap ⟨J, 0, none⟩ [.pointer (some ⟨S, 0, none⟩)]) (k : KS) (hk : k.fits 1048576) (size : Nat) (hw : St β [storeR S k] w) : Calls Tryz.prog 90 #[.pointer (some ⟨J, 0, none⟩), .pointer (some ⟨S, 2, none⟩), Nx size] w fun r w' => (r = .panicked chP ∧ ¬ cutOk (k.area e) k.power size ∧ St β [storeR S k] w') ∨ (r = .returned (.tuple #[]) ∧ cutOk (k.area e) k.power size ∧ St β [storeR S (cutS k e size)] w') := by
 have h := (cutB_ok β w J S hJ k hk size hw).mono (R' := fun r w' => (r = .panicked chP ∧ ¬ cutOk k.b k.power size ∧ St β [storeR S k] w') ∨ (r = .returned (.tuple #[]) ∧ cutOk k.b k.power size ∧ St β [storeR S { k with b := cutA k.b k.power size, power := cutP k.b k.power size }] w')) fun r w' hh => hh.imp (fun ⟨a, b, _, c⟩ => ⟨a, b, c⟩) id
 rwa [cutS_odd hpar, ← area_odd (k := k) hpar] at h
set_option maxHeartbeats 4000000 in
theorem append1_ok (β : Base) (w : World) (J S q2 q7 q8 cb : Nat) (pb : Option Addr) (k : KS) (i : KI) (vs vr vd : Value) (fb : Bs) (hk : k.fits 524288) (hb : fb.length ≤ 131072) (hsz : i.size ≤ 524288) (hw : St β [pt J (.cells #[.pointer (some ⟨S, 0, none⟩), Nx (i.epoch), Nx (i.next), vs, vr, Nx (i.size), vd] 143), pt q2 (.cells #[.pointer (some ⟨J, 0, none⟩)] 89), pt q7 (.cells #[.pointer (some ⟨J, 1, none⟩)] 141), pt q8 (.cells #[.slice pb (fb).length cb] 27), row (.slice pb (fb).length cb) 5 1 ((fb).length) (BX fb), storeR S k] w) : Calls Tryz.prog 63 #[.pointer (some ⟨q2, 0, none⟩), .pointer (some ⟨q7, 0, none⟩), .pointer (some ⟨q8, 0, none⟩)] w fun r w' => (r = .panicked chP ∧ ¬ wrOk k.power fb ∧ St β [pt J (.cells #[.pointer (some ⟨S, 0, none⟩), Nx (i.epoch), Nx (i.next), vs, vr, Nx (i.size), vd] 143), pt q2 (.cells #[.pointer (some ⟨J, 0, none⟩)] 89), pt q7 (.cells #[.pointer (some ⟨J, 1, none⟩)] 141), pt q8 (.cells #[.slice pb (fb).length cb] 27), row (.slice pb (fb).length cb) 5 1 ((fb).length) (BX fb), storeR S (wrS k i.epoch i.size fb)] w') ∨ (r = .returned (.tuple #[]) ∧ wrOk k.power fb ∧ St β [pt J (.cells #[.pointer (some ⟨S, 0, none⟩), Nx (i.epoch), Nx (i.next), vs, vr, Nx (i.size), vd] 143), pt q2 (.cells #[.pointer (some ⟨J, 0, none⟩)] 89), pt q7 (.cells #[.pointer (some ⟨J, 1, none⟩)] 141), pt q8 (.cells #[.slice pb (fb).length cb] 27), row (.slice pb (fb).length cb) 5 1 ((fb).length) (BX fb), storeR S (wrS k i.epoch i.size fb)] w') := by
 refine enter (n := 21) Tryz.func63 rfl Tryz.ntmps63 rfl ?_ hw
 rcases Nat.mod_two_eq_zero_or_one i.epoch with hpar | hpar
 ·
  refine c_any_end 17 rfl rfl [⟨[], [], [0], [3], fun f => f 3 = .pointer (some ⟨J, 0, none⟩)⟩, ⟨[], [], [0], [4], fun f => f 4 = .pointer (some ⟨J, 0, none⟩)⟩, ⟨[1], [1], [], [5], fun f => f 5 = .pointer (some ⟨J, 0, none⟩)⟩, ⟨[1, 2], [2], [], [6], fun f => f 6 = .pointer (some ⟨J, 0, none⟩)⟩, ⟨[1, 2, 3], [3], [], [7], fun f => f 7 = .pointer (some ⟨S, 0, none⟩)⟩, ⟨[1, 2, 3, 4], [4], [], [8], fun f => f 8 = .agg #[.pointer (some ⟨S, 1, none⟩), .pointer (some ⟨S, 2, none⟩)]⟩, ⟨[], [], [1], [9], fun f => f 9 = .pointer (some ⟨J, 1, none⟩)⟩, ⟨[6], [6], [], [10], fun f => f 10 = .pointer (some ⟨J, 1, none⟩)⟩, ⟨[6, 7], [7], [], [11], fun f => f 11 = .pointer (some ⟨J, 1, none⟩)⟩, ⟨[6, 7, 8], [8], [], [12], fun f => f 12 = Nx (i.epoch)⟩, ⟨[6, 7, 8, 9], [9], [], [13], fun f => f 13 = .int .i64 (0)⟩, ⟨[1, 2, 3, 4, 5, 6, 7, 8, 9, 10], [5, 10], [], [14], fun f => f 14 = .pointer (some ⟨S, 1, none⟩)⟩, ⟨[], [], [1], [15], fun f => f 15 = .pointer (some ⟨J, 1, none⟩)⟩, ⟨[12], [12], [], [16], fun f => f 16 = .pointer (some ⟨J, 1, none⟩)⟩, ⟨[12, 13], [13], [], [17], fun f => f 17 = .pointer (some ⟨J, 5, none⟩)⟩, ⟨[12, 13, 14], [14], [], [18], fun f => f 18 = Nx (i.size)⟩, ⟨[], [], [2], [19], fun f => f 19 = .slice pb (fb).length cb⟩, ⟨[0, 1, 2, 3, 4, 5, 6, 7, 8, 9, 10, 11, 12, 13, 14, 15, 16], [], [], [], fun _ => True⟩] [⟨none, none, [4, 9, 15], [], fun _ => pt J (.cells #[.pointer (some ⟨S, 0, none⟩), Nx (i.epoch), Nx (i.next), vs, vr, Nx (i.size), vd] 143)⟩, ⟨none, none, [0, 1], [], fun _ => pt q2 (.cells #[.pointer (some ⟨J, 0, none⟩)] 89)⟩, ⟨none, none, [6, 12], [], fun _ => pt q7 (.cells #[.pointer (some ⟨J, 1, none⟩)] 141)⟩, ⟨none, none, [16], [], fun _ => pt q8 (.cells #[.slice pb (fb).length cb] 27)⟩, ⟨none, none, [], [], fun _ => row (.slice pb (fb).length cb) 5 1 ((fb).length) (BX fb)⟩, ⟨none, none, [], [], fun _ => storeR S k⟩] [(0, .pointer (some ⟨q2, 0, none⟩)), (1, .pointer (some ⟨q7, 0, none⟩)), (2, .pointer (some ⟨q8, 0, none⟩))] [] [] (by kernel_rfl) (by kernel_rfl) (by kernel_rfl) (by kernel_rfl) (by kernel_rfl) (by kernel_rfl) rfl ⟨rfl, rfl, rfl, trivial⟩ ⟨?_, ?_, ?_, ?_, ?_, ?_, ?_, ?_, ?_, ?_, ?_, ?_, ?_, ?_, ?_, ?_, ?_, trivial⟩ ?_
  ·rintro f M - ⟨i0, -⟩
   have hs0 : f 0 = .pointer (some ⟨q2, 0, none⟩) := i0
   refine ob_start (L' := pt q2 (.cells #[.pointer (some ⟨J, 0, none⟩)] 89) :: M) (by rfl) (up_cons rfl hs0) ?_
   refine l_val (v := .pointer (some ⟨J, 0, none⟩)) rfl rfl rfl (e_load1 tf43 (v := .pointer (some ⟨J, 0, none⟩)) rfl (k_pt 0 (cs := #[.pointer (some ⟨J, 0, none⟩)]) (vs := [.pointer (some ⟨J, 0, none⟩)]) rfl rfl)) ?_
   refine l_nil ?_
   exact f_owes_d (up_cons rfl hs0) rfl (perm_front 0 rfl)
  ·rintro f M - ⟨i0, -⟩
   have hs0 : f 0 = .pointer (some ⟨q2, 0, none⟩) := i0
   refine ob_start (L' := pt q2 (.cells #[.pointer (some ⟨J, 0, none⟩)] 89) :: M) (by rfl) (up_cons rfl hs0) ?_
   refine l_val (v := .pointer (some ⟨J, 0, none⟩)) rfl rfl rfl (e_load1 tf43 (v := .pointer (some ⟨J, 0, none⟩)) rfl (k_pt 0 (cs := #[.pointer (some ⟨J, 0, none⟩)]) (vs := [.pointer (some ⟨J, 0, none⟩)]) rfl rfl)) ?_
   refine l_nil ?_
   exact f_owes_d (up_cons rfl hs0) rfl (perm_front 0 rfl)
  ·rintro f M ⟨k0, -⟩ -
   have hs4 : f 4 = .pointer (some ⟨J, 0, none⟩) := k0
   refine ob_start (L' := M) (by rfl) (up_cons rfl hs4) ?_
   refine l_val (v := .pointer (some ⟨J, 0, none⟩)) rfl rfl rfl (e_nil (a := ⟨J, 0, none⟩) rfl) ?_
   refine l_nil ?_
   exact f_owes_d (up_cons rfl hs4) rfl (List.Perm.refl _)
  ·rintro f M ⟨k0, -⟩ -
   have hs5 : f 5 = .pointer (some ⟨J, 0, none⟩) := k0
   refine ob_start (L' := M) (by rfl) (up_cons rfl hs5) ?_
   refine l_val (v := .pointer (some ⟨J, 0, none⟩)) rfl rfl rfl (e_fieldPt (b := J) (o := 0) rfl tf30) ?_
   refine l_nil ?_
   exact f_owes_d (up_cons rfl hs5) rfl (List.Perm.refl _)
  ·rintro f M ⟨k0, -⟩ -
   have hs6 : f 6 = .pointer (some ⟨J, 0, none⟩) := k0
   refine ob_start (L' := pt J (.cells #[.pointer (some ⟨S, 0, none⟩), Nx (i.epoch), Nx (i.next), vs, vr, Nx (i.size), vd] 143) :: M) (by rfl) (up_cons rfl hs6) ?_
   refine l_val (v := .pointer (some ⟨S, 0, none⟩)) rfl rfl rfl (e_load1 tf31 (v := .pointer (some ⟨S, 0, none⟩)) rfl (k_pt 0 (cs := #[.pointer (some ⟨S, 0, none⟩), Nx (i.epoch), Nx (i.next), vs, vr, Nx (i.size), vd]) (vs := [.pointer (some ⟨S, 0, none⟩)]) rfl rfl)) ?_
   refine l_nil ?_
   exact f_owes_d (up_cons rfl hs6) rfl (perm_front 0 rfl)
  ·rintro f M ⟨k0, -⟩ -
   have hs7 : f 7 = .pointer (some ⟨S, 0, none⟩) := k0
   refine ob_start (L' := M) (by rfl) (up_cons rfl hs7) ?_
   refine l_call rfl rfl rfl (cl_value (fst := []) (cap := []) (vs := [.pointer (some ⟨S, 0, none⟩)]) (all := [.pointer (some ⟨S, 0, none⟩)]) tf46 rfl rfl rfl) ?_
   intro w hw
   obtain ⟨β1, sb, kn, hw1, back⟩ := St.frame_all hw
   refine (areas_ok β1 w hw1 S).mono ?_
   rintro e w' ⟨rfl, hw'⟩
   refine ⟨_, rfl, _, back _ _ hw', ?_⟩
   clear hw hw1 hw' back kn sb
   refine l_nil ?_
   exact f_owes_d (up_cons rfl hs7) rfl (List.Perm.refl _)
  ·rintro f M - ⟨i0, -⟩
   have hs1 : f 1 = .pointer (some ⟨q7, 0, none⟩) := i0
   refine ob_start (L' := pt q7 (.cells #[.pointer (some ⟨J, 1, none⟩)] 141) :: M) (by rfl) (up_cons rfl hs1) ?_
   refine l_val (v := .pointer (some ⟨J, 1, none⟩)) rfl rfl rfl (e_load1 tf47 (v := .pointer (some ⟨J, 1, none⟩)) rfl (k_pt 0 (cs := #[.pointer (some ⟨J, 1, none⟩)]) (vs := [.pointer (some ⟨J, 1, none⟩)]) rfl rfl)) ?_
   refine l_nil ?_
   exact f_owes_d (up_cons rfl hs1) rfl (perm_front 0 rfl)
  ·rintro f M ⟨k0, -⟩ -
   have hs9 : f 9 = .pointer (some ⟨J, 1, none⟩) := k0
   refine ob_start (L' := M) (by rfl) (up_cons rfl hs9) ?_
   refine l_val (v := .pointer (some ⟨J, 1, none⟩)) rfl rfl rfl (e_nil (a := ⟨J, 1, none⟩) rfl) ?_
   refine l_nil ?_
   exact f_owes_d (up_cons rfl hs9) rfl (List.Perm.refl _)
  ·rintro f M ⟨k0, -⟩ -
   have hs10 : f 10 = .pointer (some ⟨J, 1, none⟩) := k0
   refine ob_start (L' := M) (by rfl) (up_cons rfl hs10) ?_
   refine l_val (v := .pointer (some ⟨J, 1, none⟩)) rfl rfl rfl (e_fieldPt (b := J) (o := 1) rfl tf48) ?_
   refine l_nil ?_
   exact f_owes_d (up_cons rfl hs10) rfl (List.Perm.refl _)
  ·rintro f M ⟨k0, -⟩ -
   have hs11 : f 11 = .pointer (some ⟨J, 1, none⟩) := k0
   refine ob_start (L' := pt J (.cells #[.pointer (some ⟨S, 0, none⟩), Nx (i.epoch), Nx (i.next), vs, vr, Nx (i.size), vd] 143) :: M) (by rfl) (up_cons rfl hs11) ?_
   refine l_val (v := Nx (i.epoch)) rfl rfl rfl (e_load1 tf25 (v := Nx (i.epoch)) rfl (k_pt 0 (cs := #[.pointer (some ⟨S, 0, none⟩), Nx (i.epoch), Nx (i.next), vs, vr, Nx (i.size), vd]) (vs := [Nx (i.epoch)]) rfl rfl)) ?_
   refine l_nil ?_
   exact f_owes_d (up_cons rfl hs11) rfl (perm_front 0 rfl)
  ·rintro f M ⟨k0, -⟩ -
   have hs12 : f 12 = Nx (i.epoch) := k0
   refine ob_start (L' := M) (by rfl) (up_cons rfl hs12) ?_
   refine l_val (v := .int .i64 (0)) rfl rfl rfl (ev_eq (by rw [hpar]; rfl) (e_rem (a := ((i.epoch : Nat) : Int)) (b := (2 : Int)) rfl rfl (by decide) (nat_tmod _ 2))) ?_
   refine l_nil ?_
   exact f_owes_d (up_cons rfl hs12) rfl (List.Perm.refl _)
  ·rintro f M ⟨k0, k1, -⟩ -
   have hs8 : f 8 = .agg #[.pointer (some ⟨S, 1, none⟩), .pointer (some ⟨S, 2, none⟩)] := k0
   have hs13 : f 13 = .int .i64 (0) := k1
   refine ob_start (L' := M) (by rfl) (up_cons (up_cons rfl hs8) hs13) ?_
   refine l_val (v := .pointer (some ⟨S, 1, none⟩)) rfl rfl rfl (e_index_a (cs := #[.pointer (some ⟨S, 1, none⟩), .pointer (some ⟨S, 2, none⟩)]) (k := 0) rfl rfl tf28 rfl (by decide) tf49) ?_
   refine l_nil ?_
   exact f_owes_d (up_cons (up_cons rfl hs8) hs13) rfl (List.Perm.refl _)
  ·rintro f M - ⟨i0, -⟩
   have hs1 : f 1 = .pointer (some ⟨q7, 0, none⟩) := i0
   refine ob_start (L' := pt q7 (.cells #[.pointer (some ⟨J, 1, none⟩)] 141) :: M) (by rfl) (up_cons rfl hs1) ?_
   refine l_val (v := .pointer (some ⟨J, 1, none⟩)) rfl rfl rfl (e_load1 tf47 (v := .pointer (some ⟨J, 1, none⟩)) rfl (k_pt 0 (cs := #[.pointer (some ⟨J, 1, none⟩)]) (vs := [.pointer (some ⟨J, 1, none⟩)]) rfl rfl)) ?_
   refine l_nil ?_
   exact f_owes_d (up_cons rfl hs1) rfl (perm_front 0 rfl)
  ·rintro f M ⟨k0, -⟩ -
   have hs15 : f 15 = .pointer (some ⟨J, 1, none⟩) := k0
   refine ob_start (L' := M) (by rfl) (up_cons rfl hs15) ?_
   refine l_val (v := .pointer (some ⟨J, 1, none⟩)) rfl rfl rfl (e_nil (a := ⟨J, 1, none⟩) rfl) ?_
   refine l_nil ?_
   exact f_owes_d (up_cons rfl hs15) rfl (List.Perm.refl _)
  ·rintro f M ⟨k0, -⟩ -
   have hs16 : f 16 = .pointer (some ⟨J, 1, none⟩) := k0
   refine ob_start (L' := M) (by rfl) (up_cons rfl hs16) ?_
   refine l_val (v := .pointer (some ⟨J, 5, none⟩)) rfl rfl rfl (e_fieldPt (b := J) (o := 1) rfl tf50) ?_
   refine l_nil ?_
   exact f_owes_d (up_cons rfl hs16) rfl (List.Perm.refl _)
  ·rintro f M ⟨k0, -⟩ -
   have hs17 : f 17 = .pointer (some ⟨J, 5, none⟩) := k0
   refine ob_start (L' := pt J (.cells #[.pointer (some ⟨S, 0, none⟩), Nx (i.epoch), Nx (i.next), vs, vr, Nx (i.size), vd] 143) :: M) (by rfl) (up_cons rfl hs17) ?_
   refine l_val (v := Nx (i.size)) rfl rfl rfl (e_load1 tf25 (v := Nx (i.size)) rfl (k_pt 0 (cs := #[.pointer (some ⟨S, 0, none⟩), Nx (i.epoch), Nx (i.next), vs, vr, Nx (i.size), vd]) (vs := [Nx (i.size)]) rfl rfl)) ?_
   refine l_nil ?_
   exact f_owes_d (up_cons rfl hs17) rfl (perm_front 0 rfl)
  ·rintro f M - ⟨i0, -⟩
   have hs2 : f 2 = .pointer (some ⟨q8, 0, none⟩) := i0
   refine ob_start (L' := pt q8 (.cells #[.slice pb (fb).length cb] 27) :: M) (by rfl) (up_cons rfl hs2) ?_
   refine l_val (v := .slice pb (fb).length cb) rfl rfl rfl (e_load1 tf21 (v := .slice pb (fb).length cb) rfl (k_pt 0 (cs := #[.slice pb (fb).length cb]) (vs := [.slice pb (fb).length cb]) rfl rfl)) ?_
   refine l_nil ?_
   exact f_owes_d (up_cons rfl hs2) rfl (perm_front 0 rfl)
  rintro fa1 ⟨k0, -, -, -, -, -, -, -, -, -, -, k11, -, -, -, k15, k16, -⟩ -
  refine l_re (L' := [pt J (.cells #[.pointer (some ⟨S, 0, none⟩), Nx (i.epoch), Nx (i.next), vs, vr, Nx (i.size), vd] 143), pt q2 (.cells #[.pointer (some ⟨J, 0, none⟩)] 89), pt q7 (.cells #[.pointer (some ⟨J, 1, none⟩)] 141), pt q8 (.cells #[.slice pb (fb).length cb] 27), row (.slice pb (fb).length cb) 5 1 ((fb).length) (BX fb), storeR S k]) (by rfl) ?_
  refine l_rebase (d := 3) (v := .pointer (some ⟨J, 0, none⟩)) k0 ?_
  refine l_rebase (d := 14) (v := .pointer (some ⟨S, 1, none⟩)) k11 ?_
  refine l_rebase (d := 18) (v := Nx (i.size)) k15 ?_
  refine l_rebase (d := 19) (v := .slice pb (fb).length cb) k16 ?_
  refine l_callP rfl rfl rfl (cl_value (fst := []) (cap := []) (vs := [.pointer (some ⟨J, 0, none⟩), .pointer (some ⟨S, 1, none⟩), Nx (i.size), .slice pb (fb).length cb]) (all := [.pointer (some ⟨J, 0, none⟩), .pointer (some ⟨S, 1, none⟩), Nx (i.size), .slice pb (fb).length cb]) tf51 rfl rfl rfl) ?_
  intro w hw
  replace hw := hw.perm (L' := _ :: _ :: _ :: _ :: _ :: _ :: []) (by exact ((((((perm_front 4 rfl).trans (perm_front 4 rfl)).trans (perm_front 4 rfl)).trans (perm_front 4 rfl)).trans (perm_front 4 rfl)).trans (perm_front 5 rfl)))
  obtain ⟨β1, sb, kn, hw1, back⟩ := St.frame (L := [_]) (M := _ :: _ :: _ :: _ :: _ :: []) hw
  refine (writeS0_ok β1 w i.epoch hpar J S (kn _ (k_pt 0 (cs := #[.pointer (some ⟨S, 0, none⟩), Nx (i.epoch), Nx (i.next), vs, vr, Nx (i.size), vd]) (vs := [.pointer (some ⟨S, 0, none⟩)]) rfl rfl)) k (hk.le (by omega)) i.size (by omega) fb _ (by omega) (kn _ (Knows.of_res 4 rfl (Sl.mono U8R _ _) fun _ h => row_u8 h)) hw1).mono ?_
  rintro e w' (⟨rfl, ok2, hw'⟩ | ⟨rfl, ok2, hw'⟩)
  ·
   refine .inl ⟨_, rfl, _, back _ _ hw', ?_⟩
   clear hw hw1 hw' back kn sb
   refine panR ?_
   intro w hw
   exact .inl ⟨rfl, ok2, st_mask [true, true, true, true, true, true] rfl (hw.perm (L' := [pt J (.cells #[.pointer (some ⟨S, 0, none⟩), Nx (i.epoch), Nx (i.next), vs, vr, Nx (i.size), vd] 143), pt q2 (.cells #[.pointer (some ⟨J, 0, none⟩)] 89), pt q7 (.cells #[.pointer (some ⟨J, 1, none⟩)] 141), pt q8 (.cells #[.slice pb (fb).length cb] 27), row (.slice pb (fb).length cb) 5 1 ((fb).length) (BX fb), storeR S (wrS k i.epoch i.size fb)]) (by exact (perm_ix [1, 2, 3, 4, 5, 0] 6 rfl (by kernel_rfl) (by kernel_rfl))))⟩
  refine .inr ⟨_, rfl, _, back _ _ hw', ?_⟩
  clear hw hw1 hw' back kn sb
  refine l_nil ?_
  refine end0 Tryz.results63 ?_
  intro w hw
  exact .inr ⟨rfl, ok2, st_mask [true, true, true, true, true, true] rfl (hw.perm (L' := [pt J (.cells #[.pointer (some ⟨S, 0, none⟩), Nx (i.epoch), Nx (i.next), vs, vr, Nx (i.size), vd] 143), pt q2 (.cells #[.pointer (some ⟨J, 0, none⟩)] 89), pt q7 (.cells #[.pointer (some ⟨J, 1, none⟩)] 141), pt q8 (.cells #[.slice pb (fb).length cb] 27), row (.slice pb (fb).length cb) 5 1 ((fb).length) (BX fb), storeR S (wrS k i.epoch i.size fb)]) (by exact (perm_ix [1, 2, 3, 4, 5, 0] 6 rfl (by kernel_rfl) (by kernel_rfl))))⟩
 ·
  refine c_any_end 17 rfl rfl [⟨[], [], [0], [3], fun f => f 3 = .pointer (some ⟨J, 0, none⟩)⟩, ⟨[], [], [0], [4], fun f => f 4 = .pointer (some ⟨J, 0, none⟩)⟩, ⟨[1], [1], [], [5], fun f => f 5 = .pointer (some ⟨J, 0, none⟩)⟩, ⟨[1, 2], [2], [], [6], fun f => f 6 = .pointer (some ⟨J, 0, none⟩)⟩, ⟨[1, 2, 3], [3], [], [7], fun f => f 7 = .pointer (some ⟨S, 0, none⟩)⟩, ⟨[1, 2, 3, 4], [4], [], [8], fun f => f 8 = .agg #[.pointer (some ⟨S, 1, none⟩), .pointer (some ⟨S, 2, none⟩)]⟩, ⟨[], [], [1], [9], fun f => f 9 = .pointer (some ⟨J, 1, none⟩)⟩, ⟨[6], [6], [], [10], fun f => f 10 = .pointer (some ⟨J, 1, none⟩)⟩, ⟨[6, 7], [7], [], [11], fun f => f 11 = .pointer (some ⟨J, 1, none⟩)⟩, ⟨[6, 7, 8], [8], [], [12], fun f => f 12 = Nx (i.epoch)⟩, ⟨[6, 7, 8, 9], [9], [], [13], fun f => f 13 = .int .i64 (1)⟩, ⟨[1, 2, 3, 4, 5, 6, 7, 8, 9, 10], [5, 10], [], [14], fun f => f 14 = .pointer (some ⟨S, 2, none⟩)⟩, ⟨[], [], [1], [15], fun f => f 15 = .pointer (some ⟨J, 1, none⟩)⟩, ⟨[12], [12], [], [16], fun f => f 16 = .pointer (some ⟨J, 1, none⟩)⟩, ⟨[12, 13], [13], [], [17], fun f => f 17 = .pointer (some ⟨J, 5, none⟩)⟩, ⟨[12, 13, 14], [14], [], [18], fun f => f 18 = Nx (i.size)⟩, ⟨[], [], [2], [19], fun f => f 19 = .slice pb (fb).length cb⟩, ⟨[0, 1, 2, 3, 4, 5, 6, 7, 8, 9, 10, 11, 12, 13, 14, 15, 16], [], [], [], fun _ => True⟩] [⟨none, none, [4, 9, 15], [], fun _ => pt J (.cells #[.pointer (some ⟨S, 0, none⟩), Nx (i.epoch), Nx (i.next), vs, vr, Nx (i.size), vd] 143)⟩, ⟨none, none, [0, 1], [], fun _ => pt q2 (.cells #[.pointer (some ⟨J, 0, none⟩)] 89)⟩, ⟨none, none, [6, 12], [], fun _ => pt q7 (.cells #[.pointer (some ⟨J, 1, none⟩)] 141)⟩, ⟨none, none, [16], [], fun _ => pt q8 (.cells #[.slice pb (fb).length cb] 27)⟩, ⟨none, none, [], [], fun _ => row (.slice pb (fb).length cb) 5 1 ((fb).length) (BX fb)⟩, ⟨none, none, [], [], fun _ => storeR S k⟩] [(0, .pointer (some ⟨q2, 0, none⟩)), (1, .pointer (some ⟨q7, 0, none⟩)), (2, .pointer (some ⟨q8, 0, none⟩))] [] [] (by kernel_rfl) (by kernel_rfl) (by kernel_rfl) (by kernel_rfl) (by kernel_rfl) (by kernel_rfl) rfl ⟨rfl, rfl, rfl, trivial⟩ ⟨?_, ?_, ?_, ?_, ?_, ?_, ?_, ?_, ?_, ?_, ?_, ?_, ?_, ?_, ?_, ?_, ?_, trivial⟩ ?_
  ·rintro f M - ⟨i0, -⟩
   have hs0 : f 0 = .pointer (some ⟨q2, 0, none⟩) := i0
   refine ob_start (L' := pt q2 (.cells #[.pointer (some ⟨J, 0, none⟩)] 89) :: M) (by rfl) (up_cons rfl hs0) ?_
   refine l_val (v := .pointer (some ⟨J, 0, none⟩)) rfl rfl rfl (e_load1 tf43 (v := .pointer (some ⟨J, 0, none⟩)) rfl (k_pt 0 (cs := #[.pointer (some ⟨J, 0, none⟩)]) (vs := [.pointer (some ⟨J, 0, none⟩)]) rfl rfl)) ?_
   refine l_nil ?_
   exact f_owes_d (up_cons rfl hs0) rfl (perm_front 0 rfl)
  ·rintro f M - ⟨i0, -⟩
   have hs0 : f 0 = .pointer (some ⟨q2, 0, none⟩) := i0
   refine ob_start (L' := pt q2 (.cells #[.pointer (some ⟨J, 0, none⟩)] 89) :: M) (by rfl) (up_cons rfl hs0) ?_
   refine l_val (v := .pointer (some ⟨J, 0, none⟩)) rfl rfl rfl (e_load1 tf43 (v := .pointer (some ⟨J, 0, none⟩)) rfl (k_pt 0 (cs := #[.pointer (some ⟨J, 0, none⟩)]) (vs := [.pointer (some ⟨J, 0, none⟩)]) rfl rfl)) ?_
   refine l_nil ?_
   exact f_owes_d (up_cons rfl hs0) rfl (perm_front 0 rfl)
  ·rintro f M ⟨k0, -⟩ -
   have hs4 : f 4 = .pointer (some ⟨J, 0, none⟩) := k0
   refine ob_start (L' := M) (by rfl) (up_cons rfl hs4) ?_
   refine l_val (v := .pointer (some ⟨J, 0, none⟩)) rfl rfl rfl (e_nil (a := ⟨J, 0, none⟩) rfl) ?_
   refine l_nil ?_
   exact f_owes_d (up_cons rfl hs4) rfl (List.Perm.refl _)
  ·rintro f M ⟨k0, -⟩ -
   have hs5 : f 5 = .pointer (some ⟨J, 0, none⟩) := k0
   refine ob_start (L' := M) (by rfl) (up_cons rfl hs5) ?_
   refine l_val (v := .pointer (some ⟨J, 0, none⟩)) rfl rfl rfl (e_fieldPt (b := J) (o := 0) rfl tf30) ?_
   refine l_nil ?_
   exact f_owes_d (up_cons rfl hs5) rfl (List.Perm.refl _)
  ·rintro f M ⟨k0, -⟩ -
   have hs6 : f 6 = .pointer (some ⟨J, 0, none⟩) := k0
   refine ob_start (L' := pt J (.cells #[.pointer (some ⟨S, 0, none⟩), Nx (i.epoch), Nx (i.next), vs, vr, Nx (i.size), vd] 143) :: M) (by rfl) (up_cons rfl hs6) ?_
   refine l_val (v := .pointer (some ⟨S, 0, none⟩)) rfl rfl rfl (e_load1 tf31 (v := .pointer (some ⟨S, 0, none⟩)) rfl (k_pt 0 (cs := #[.pointer (some ⟨S, 0, none⟩), Nx (i.epoch), Nx (i.next), vs, vr, Nx (i.size), vd]) (vs := [.pointer (some ⟨S, 0, none⟩)]) rfl rfl)) ?_
   refine l_nil ?_
   exact f_owes_d (up_cons rfl hs6) rfl (perm_front 0 rfl)
  ·rintro f M ⟨k0, -⟩ -
   have hs7 : f 7 = .pointer (some ⟨S, 0, none⟩) := k0
   refine ob_start (L' := M) (by rfl) (up_cons rfl hs7) ?_
   refine l_call rfl rfl rfl (cl_value (fst := []) (cap := []) (vs := [.pointer (some ⟨S, 0, none⟩)]) (all := [.pointer (some ⟨S, 0, none⟩)]) tf46 rfl rfl rfl) ?_
   intro w hw
   obtain ⟨β1, sb, kn, hw1, back⟩ := St.frame_all hw
   refine (areas_ok β1 w hw1 S).mono ?_
   rintro e w' ⟨rfl, hw'⟩
   refine ⟨_, rfl, _, back _ _ hw', ?_⟩
   clear hw hw1 hw' back kn sb
   refine l_nil ?_
   exact f_owes_d (up_cons rfl hs7) rfl (List.Perm.refl _)
  ·rintro f M - ⟨i0, -⟩
   have hs1 : f 1 = .pointer (some ⟨q7, 0, none⟩) := i0
   refine ob_start (L' := pt q7 (.cells #[.pointer (some ⟨J, 1, none⟩)] 141) :: M) (by rfl) (up_cons rfl hs1) ?_
   refine l_val (v := .pointer (some ⟨J, 1, none⟩)) rfl rfl rfl (e_load1 tf47 (v := .pointer (some ⟨J, 1, none⟩)) rfl (k_pt 0 (cs := #[.pointer (some ⟨J, 1, none⟩)]) (vs := [.pointer (some ⟨J, 1, none⟩)]) rfl rfl)) ?_
   refine l_nil ?_
   exact f_owes_d (up_cons rfl hs1) rfl (perm_front 0 rfl)
  ·rintro f M ⟨k0, -⟩ -
   have hs9 : f 9 = .pointer (some ⟨J, 1, none⟩) := k0
   refine ob_start (L' := M) (by rfl) (up_cons rfl hs9) ?_
   refine l_val (v := .pointer (some ⟨J, 1, none⟩)) rfl rfl rfl (e_nil (a := ⟨J, 1, none⟩) rfl) ?_
   refine l_nil ?_
   exact f_owes_d (up_cons rfl hs9) rfl (List.Perm.refl _)
  ·rintro f M ⟨k0, -⟩ -
   have hs10 : f 10 = .pointer (some ⟨J, 1, none⟩) := k0
   refine ob_start (L' := M) (by rfl) (up_cons rfl hs10) ?_
   refine l_val (v := .pointer (some ⟨J, 1, none⟩)) rfl rfl rfl (e_fieldPt (b := J) (o := 1) rfl tf48) ?_
   refine l_nil ?_
   exact f_owes_d (up_cons rfl hs10) rfl (List.Perm.refl _)
  ·rintro f M ⟨k0, -⟩ -
   have hs11 : f 11 = .pointer (some ⟨J, 1, none⟩) := k0
   refine ob_start (L' := pt J (.cells #[.pointer (some ⟨S, 0, none⟩), Nx (i.epoch), Nx (i.next), vs, vr, Nx (i.size), vd] 143) :: M) (by rfl) (up_cons rfl hs11) ?_
   refine l_val (v := Nx (i.epoch)) rfl rfl rfl (e_load1 tf25 (v := Nx (i.epoch)) rfl (k_pt 0 (cs := #[.pointer (some ⟨S, 0, none⟩), Nx (i.epoch), Nx (i.next), vs, vr, Nx (i.size), vd]) (vs := [Nx (i.epoch)]) rfl rfl)) ?_
   refine l_nil ?_
   exact f_owes_d (up_cons rfl hs11) rfl (perm_front 0 rfl)
  ·rintro f M ⟨k0, -⟩ -
   have hs12 : f 12 = Nx (i.epoch) := k0
   refine ob_start (L' := M) (by rfl) (up_cons rfl hs12) ?_
   refine l_val (v := .int .i64 (1)) rfl rfl rfl (ev_eq (by rw [hpar]; rfl) (e_rem (a := ((i.epoch : Nat) : Int)) (b := (2 : Int)) rfl rfl (by decide) (nat_tmod _ 2))) ?_
   refine l_nil ?_
   exact f_owes_d (up_cons rfl hs12) rfl (List.Perm.refl _)
  ·rintro f M ⟨k0, k1, -⟩ -
   have hs8 : f 8 = .agg #[.pointer (some ⟨S, 1, none⟩), .pointer (some ⟨S, 2, none⟩)] := k0
   have hs13 : f 13 = .int .i64 (1) := k1
   refine ob_start (L' := M) (by rfl) (up_cons (up_cons rfl hs8) hs13) ?_
   refine l_val (v := .pointer (some ⟨S, 2, none⟩)) rfl rfl rfl (e_index_a (cs := #[.pointer (some ⟨S, 1, none⟩), .pointer (some ⟨S, 2, none⟩)]) (k := 1) rfl rfl tf28 rfl (by decide) tf49) ?_
   refine l_nil ?_
   exact f_owes_d (up_cons (up_cons rfl hs8) hs13) rfl (List.Perm.refl _)
  ·rintro f M - ⟨i0, -⟩
   have hs1 : f 1 = .pointer (some ⟨q7, 0, none⟩) := i0
   refine ob_start (L' := pt q7 (.cells #[.pointer (some ⟨J, 1, none⟩)] 141) :: M) (by rfl) (up_cons rfl hs1) ?_
   refine l_val (v := .pointer (some ⟨J, 1, none⟩)) rfl rfl rfl (e_load1 tf47 (v := .pointer (some ⟨J, 1, none⟩)) rfl (k_pt 0 (cs := #[.pointer (some ⟨J, 1, none⟩)]) (vs := [.pointer (some ⟨J, 1, none⟩)]) rfl rfl)) ?_
   refine l_nil ?_
   exact f_owes_d (up_cons rfl hs1) rfl (perm_front 0 rfl)
  ·rintro f M ⟨k0, -⟩ -
   have hs15 : f 15 = .pointer (some ⟨J, 1, none⟩) := k0
   refine ob_start (L' := M) (by rfl) (up_cons rfl hs15) ?_
   refine l_val (v := .pointer (some ⟨J, 1, none⟩)) rfl rfl rfl (e_nil (a := ⟨J, 1, none⟩) rfl) ?_
   refine l_nil ?_
   exact f_owes_d (up_cons rfl hs15) rfl (List.Perm.refl _)
  ·rintro f M ⟨k0, -⟩ -
   have hs16 : f 16 = .pointer (some ⟨J, 1, none⟩) := k0
   refine ob_start (L' := M) (by rfl) (up_cons rfl hs16) ?_
   refine l_val (v := .pointer (some ⟨J, 5, none⟩)) rfl rfl rfl (e_fieldPt (b := J) (o := 1) rfl tf50) ?_
   refine l_nil ?_
   exact f_owes_d (up_cons rfl hs16) rfl (List.Perm.refl _)
  ·rintro f M ⟨k0, -⟩ -
   have hs17 : f 17 = .pointer (some ⟨J, 5, none⟩) := k0
   refine ob_start (L' := pt J (.cells #[.pointer (some ⟨S, 0, none⟩), Nx (i.epoch), Nx (i.next), vs, vr, Nx (i.size), vd] 143) :: M) (by rfl) (up_cons rfl hs17) ?_
   refine l_val (v := Nx (i.size)) rfl rfl rfl (e_load1 tf25 (v := Nx (i.size)) rfl (k_pt 0 (cs := #[.pointer (some ⟨S, 0, none⟩), Nx (i.epoch), Nx (i.next), vs, vr, Nx (i.size), vd]) (vs := [Nx (i.size)]) rfl rfl)) ?_
   refine l_nil ?_
   exact f_owes_d (up_cons rfl hs17) rfl (perm_front 0 rfl)
  ·rintro f M - ⟨i0, -⟩
   have hs2 : f 2 = .pointer (some ⟨q8, 0, none⟩) := i0
   refine ob_start (L' := pt q8 (.cells #[.slice pb (fb).length cb] 27) :: M) (by rfl) (up_cons rfl hs2) ?_
   refine l_val (v := .slice pb (fb).length cb) rfl rfl rfl (e_load1 tf21 (v := .slice pb (fb).length cb) rfl (k_pt 0 (cs := #[.slice pb (fb).length cb]) (vs := [.slice pb (fb).length cb]) rfl rfl)) ?_
   refine l_nil ?_
   exact f_owes_d (up_cons rfl hs2) rfl (perm_front 0 rfl)
  rintro fa3 ⟨k0, -, -, -, -, -, -, -, -, -, -, k11, -, -, -, k15, k16, -⟩ -
  refine l_re (L' := [pt J (.cells #[.pointer (some ⟨S, 0, none⟩), Nx (i.epoch), Nx (i.next), vs, vr, Nx (i.size), vd] 143), pt q2 (.cells #[.pointer (some ⟨J, 0, none⟩)] 89), pt q7 (.cells #[.pointer (some ⟨J, 1, none⟩)] 141), pt q8 (.cells #[.slice pb (fb).length cb] 27), row (.slice pb (fb).length cb) 5 1 ((fb).length) (BX fb), storeR S k]) (by rfl) ?_
  refine l_rebase (d := 3) (v := .pointer (some ⟨J, 0, none⟩)) k0 ?_
  refine l_rebase (d := 14) (v := .pointer (some ⟨S, 2, none⟩)) k11 ?_
  refine l_rebase (d := 18) (v := Nx (i.size)) k15 ?_
  refine l_rebase (d := 19) (v := .slice pb (fb).length cb) k16 ?_
  refine l_callP rfl rfl rfl (cl_value (fst := []) (cap := []) (vs := [.pointer (some ⟨J, 0, none⟩), .pointer (some ⟨S, 2, none⟩), Nx (i.size), .slice pb (fb).length cb]) (all := [.pointer (some ⟨J, 0, none⟩), .pointer (some ⟨S, 2, none⟩), Nx (i.size), .slice pb (fb).length cb]) tf51 rfl rfl rfl) ?_
  intro w hw
  replace hw := hw.perm (L' := _ :: _ :: _ :: _ :: _ :: _ :: []) (by exact ((((((perm_front 4 rfl).trans (perm_front 4 rfl)).trans (perm_front 4 rfl)).trans (perm_front 4 rfl)).trans (perm_front 4 rfl)).trans (perm_front 5 rfl)))
  obtain ⟨β1, sb, kn, hw1, back⟩ := St.frame (L := [_]) (M := _ :: _ :: _ :: _ :: _ :: []) hw
  refine (writeS1_ok β1 w i.epoch hpar J S (kn _ (k_pt 0 (cs := #[.pointer (some ⟨S, 0, none⟩), Nx (i.epoch), Nx (i.next), vs, vr, Nx (i.size), vd]) (vs := [.pointer (some ⟨S, 0, none⟩)]) rfl rfl)) k (hk.le (by omega)) i.size (by omega) fb _ (by omega) (kn _ (Knows.of_res 4 rfl (Sl.mono U8R _ _) fun _ h => row_u8 h)) hw1).mono ?_
  rintro e w' (⟨rfl, ok4, hw'⟩ | ⟨rfl, ok4, hw'⟩)
  ·
   refine .inl ⟨_, rfl, _, back _ _ hw', ?_⟩
   clear hw hw1 hw' back kn sb
   refine panR ?_
   intro w hw
   exact .inl ⟨rfl, ok4, st_mask [true, true, true, true, true, true] rfl (hw.perm (L' := [pt J (.cells #[.pointer (some ⟨S, 0, none⟩), Nx (i.epoch), Nx (i.next), vs, vr, Nx (i.size), vd] 143), pt q2 (.cells #[.pointer (some ⟨J, 0, none⟩)] 89), pt q7 (.cells #[.pointer (some ⟨J, 1, none⟩)] 141), pt q8 (.cells #[.slice pb (fb).length cb] 27), row (.slice pb (fb).length cb) 5 1 ((fb).length) (BX fb), storeR S (wrS k i.epoch i.size fb)]) (by exact (perm_ix [1, 2, 3, 4, 5, 0] 6 rfl (by kernel_rfl) (by kernel_rfl))))⟩
  refine .inr ⟨_, rfl, _, back _ _ hw', ?_⟩
  clear hw hw1 hw' back kn sb
  refine l_nil ?_
  refine end0 Tryz.results63 ?_
  intro w hw
  exact .inr ⟨rfl, ok4, st_mask [true, true, true, true, true, true] rfl (hw.perm (L' := [pt J (.cells #[.pointer (some ⟨S, 0, none⟩), Nx (i.epoch), Nx (i.next), vs, vr, Nx (i.size), vd] 143), pt q2 (.cells #[.pointer (some ⟨J, 0, none⟩)] 89), pt q7 (.cells #[.pointer (some ⟨J, 1, none⟩)] 141), pt q8 (.cells #[.slice pb (fb).length cb] 27), row (.slice pb (fb).length cb) 5 1 ((fb).length) (BX fb), storeR S (wrS k i.epoch i.size fb)]) (by exact (perm_ix [1, 2, 3, 4, 5, 0] 6 rfl (by kernel_rfl) (by kernel_rfl))))⟩
set_option maxHeartbeats 4000000 in
theorem open1_ok (β : Base) (w : World) (J S q6 q1 q4 : Nat) (k : KS) (i : KI) (vs vr vd : Value) (hk : k.fits 524288) (hw : St β [pt J (.cells #[.pointer (some ⟨S, 0, none⟩), Nx (i.epoch), Nx (i.next), vs, vr, Nx (i.size), vd] 143), pt q6 (.cells #[.pointer (some ⟨J, 0, none⟩)] 89), pt q1 (.cells #[.pointer (some ⟨S, 0, none⟩)] 26), pt q4 (.cells #[Nx (i.epoch), Nx (i.next), vs, vr, Nx (i.size)] 109), storeR S k] w) : Calls Tryz.prog 89 #[.pointer (some ⟨q6, 0, none⟩), .pointer (some ⟨q1, 0, none⟩), .pointer (some ⟨q4, 0, none⟩)] w fun r w' => (r = .panicked chP ∧ ¬ cutOk (k.area i.epoch) k.power i.size ∧ St β [pt J (.cells #[.pointer (some ⟨S, 0, none⟩), Nx (i.epoch), Nx (i.next), vs, vr, Nx (i.size), vd] 143), pt q6 (.cells #[.pointer (some ⟨J, 0, none⟩)] 89), pt q1 (.cells #[.pointer (some ⟨S, 0, none⟩)] 26), pt q4 (.cells #[Nx (i.epoch), Nx (i.next), vs, vr, Nx (i.size)] 109), storeR S k] w') ∨ (r = .returned (.tuple #[]) ∧ cutOk (k.area i.epoch) k.power i.size ∧ St β [pt J (.cells #[.pointer (some ⟨S, 0, none⟩), Nx (i.epoch), Nx (i.next), vs, vr, Nx (i.size), vd] 143), pt q6 (.cells #[.pointer (some ⟨J, 0, none⟩)] 89), pt q1 (.cells #[.pointer (some ⟨S, 0, none⟩)] 26), pt q4 (.cells #[Nx (i.epoch), Nx (i.next), vs, vr, Nx (i.size)] 109), storeR S (cutS k i.epoch i.size)] w') := by
 refine enter (n := 13) Tryz.func89 rfl Tryz.ntmps89 rfl ?_ hw
 rcases Nat.mod_two_eq_zero_or_one i.epoch with hpar | hpar
 ·
  refine c_any_end 9 rfl rfl [⟨[], [], [0], [3], fun f => f 3 = .pointer (some ⟨J, 0, none⟩)⟩, ⟨[], [], [1], [4], fun f => f 4 = .pointer (some ⟨S, 0, none⟩)⟩, ⟨[1], [1], [], [5], fun f => f 5 = .agg #[.pointer (some ⟨S, 1, none⟩), .pointer (some ⟨S, 2, none⟩)]⟩, ⟨[], [], [2], [6], fun f => f 6 = .pointer (some ⟨q4, 0, none⟩)⟩, ⟨[3], [3], [], [7], fun f => f 7 = Nx (i.epoch)⟩, ⟨[3, 4], [4], [], [8], fun f => f 8 = .int .i64 (0)⟩, ⟨[1, 2, 3, 4, 5], [2, 5], [], [9], fun f => f 9 = .pointer (some ⟨S, 1, none⟩)⟩, ⟨[], [], [2], [10], fun f => f 10 = .pointer (some ⟨q4, 4, none⟩)⟩, ⟨[7], [7], [], [11], fun f => f 11 = Nx (i.size)⟩, ⟨[0, 1, 2, 3, 4, 5, 6, 7, 8], [], [], [], fun _ => True⟩] [⟨none, none, [], [], fun _ => pt J (.cells #[.pointer (some ⟨S, 0, none⟩), Nx (i.epoch), Nx (i.next), vs, vr, Nx (i.size), vd] 143)⟩, ⟨none, none, [0], [], fun _ => pt q6 (.cells #[.pointer (some ⟨J, 0, none⟩)] 89)⟩, ⟨none, none, [1], [], fun _ => pt q1 (.cells #[.pointer (some ⟨S, 0, none⟩)] 26)⟩, ⟨none, none, [4, 8], [], fun _ => pt q4 (.cells #[Nx (i.epoch), Nx (i.next), vs, vr, Nx (i.size)] 109)⟩, ⟨none, none, [], [], fun _ => storeR S k⟩] [(0, .pointer (some ⟨q6, 0, none⟩)), (1, .pointer (some ⟨q1, 0, none⟩)), (2, .pointer (some ⟨q4, 0, none⟩))] [] [] (by kernel_rfl) (by kernel_rfl) (by kernel_rfl) (by kernel_rfl) (by kernel_rfl) (by kernel_rfl) rfl ⟨rfl, rfl, rfl, trivial⟩ ⟨?_, ?_, ?_, ?_, ?_, ?_, ?_, ?_, ?_, trivial⟩ ?_
  ·rintro f M - ⟨i0, -⟩
   have hs0 : f 0 = .pointer (some ⟨q6, 0, none⟩) := i0
   refine ob_start (L' := pt q6 (.cells #[.pointer (some ⟨J, 0, none⟩)] 89) :: M) (by rfl) (up_cons rfl hs0) ?_
   refine l_val (v := .pointer (some ⟨J, 0, none⟩)) rfl rfl rfl (e_load1 tf43 (v := .pointer (some ⟨J, 0, none⟩)) rfl (k_pt 0 (cs := #[.pointer (some ⟨J, 0, none⟩)]) (vs := [.pointer (some ⟨J, 0, none⟩)]) rfl rfl)) ?_
   refine l_nil ?_
   exact f_owes_d (up_cons rfl hs0) rfl (perm_front 0 rfl)
  ·rintro f M - ⟨i0, -⟩
   have hs1 : f 1 = .pointer (some ⟨q1, 0, none⟩) := i0
   refine ob_start (L' := pt q1 (.cells #[.pointer (some ⟨S, 0, none⟩)] 26) :: M) (by rfl) (up_cons rfl hs1) ?_
   refine l_val (v := .pointer (some ⟨S, 0, none⟩)) rfl rfl rfl (e_load1 tf31 (v := .pointer (some ⟨S, 0, none⟩)) rfl (k_pt 0 (cs := #[.pointer (some ⟨S, 0, none⟩)]) (vs := [.pointer (some ⟨S, 0, none⟩)]) rfl rfl)) ?_
   refine l_nil ?_
   exact f_owes_d (up_cons rfl hs1) rfl (perm_front 0 rfl)
  ·rintro f M ⟨k0, -⟩ -
   have hs4 : f 4 = .pointer (some ⟨S, 0, none⟩) := k0
   refine ob_start (L' := M) (by rfl) (up_cons rfl hs4) ?_
   refine l_call rfl rfl rfl (cl_value (fst := []) (cap := []) (vs := [.pointer (some ⟨S, 0, none⟩)]) (all := [.pointer (some ⟨S, 0, none⟩)]) tf46 rfl rfl rfl) ?_
   intro w hw
   obtain ⟨β1, sb, kn, hw1, back⟩ := St.frame_all hw
   refine (areas_ok β1 w hw1 S).mono ?_
   rintro e w' ⟨rfl, hw'⟩
   refine ⟨_, rfl, _, back _ _ hw', ?_⟩
   clear hw hw1 hw' back kn sb
   refine l_nil ?_
   exact f_owes_d (up_cons rfl hs4) rfl (List.Perm.refl _)
  ·rintro f M - ⟨i0, -⟩
   have hs2 : f 2 = .pointer (some ⟨q4, 0, none⟩) := i0
   refine ob_start (L' := M) (by rfl) (up_cons rfl hs2) ?_
   refine l_val (v := .pointer (some ⟨q4, 0, none⟩)) rfl rfl rfl (e_fieldPt (b := q4) (o := 0) rfl tf48) ?_
   refine l_nil ?_
   exact f_owes_d (up_cons rfl hs2) rfl (List.Perm.refl _)
  ·rintro f M ⟨k0, -⟩ -
   have hs6 : f 6 = .pointer (some ⟨q4, 0, none⟩) := k0
   refine ob_start (L' := pt q4 (.cells #[Nx (i.epoch), Nx (i.next), vs, vr, Nx (i.size)] 109) :: M) (by rfl) (up_cons rfl hs6) ?_
   refine l_val (v := Nx (i.epoch)) rfl rfl rfl (e_load1 tf25 (v := Nx (i.epoch)) rfl (k_pt 0 (cs := #[Nx (i.epoch), Nx (i.next), vs, vr, Nx (i.size)]) (vs := [Nx (i.epoch)]) rfl rfl)) ?_
   refine l_nil ?_
   exact f_owes_d (up_cons rfl hs6) rfl (perm_front 0 rfl)
  ·rintro f M ⟨k0, -⟩ -
   have hs7 : f 7 = Nx (i.epoch) := k0
   refine ob_start (L' := M) (by rfl) (up_cons rfl hs7) ?_
   refine l_val (v := .int .i64 (0)) rfl rfl rfl (ev_eq (by rw [hpar]; rfl) (e_rem (a := ((i.epoch : Nat) : Int)) (b := (2 : Int)) rfl rfl (by decide) (nat_tmod _ 2))) ?_
   refine l_nil ?_
   exact f_owes_d (up_cons rfl hs7) rfl (List.Perm.refl _)
  ·rintro f M ⟨k0, k1, -⟩ -
   have hs5 : f 5 = .agg #[.pointer (some ⟨S, 1, none⟩), .pointer (some ⟨S, 2, none⟩)] := k0
   have hs8 : f 8 = .int .i64 (0) := k1
   refine ob_start (L' := M) (by rfl) (up_cons (up_cons rfl hs5) hs8) ?_
   refine l_val (v := .pointer (some ⟨S, 1, none⟩)) rfl rfl rfl (e_index_a (cs := #[.pointer (some ⟨S, 1, none⟩), .pointer (some ⟨S, 2, none⟩)]) (k := 0) rfl rfl tf28 rfl (by decide) tf49) ?_
   refine l_nil ?_
   exact f_owes_d (up_cons (up_cons rfl hs5) hs8) rfl (List.Perm.refl _)
  ·rintro f M - ⟨i0, -⟩
   have hs2 : f 2 = .pointer (some ⟨q4, 0, none⟩) := i0
   refine ob_start (L' := M) (by rfl) (up_cons rfl hs2) ?_
   refine l_val (v := .pointer (some ⟨q4, 4, none⟩)) rfl rfl rfl (e_fieldPt (b := q4) (o := 0) rfl tf50) ?_
   refine l_nil ?_
   exact f_owes_d (up_cons rfl hs2) rfl (List.Perm.refl _)
  ·rintro f M ⟨k0, -⟩ -
   have hs10 : f 10 = .pointer (some ⟨q4, 4, none⟩) := k0
   refine ob_start (L' := pt q4 (.cells #[Nx (i.epoch), Nx (i.next), vs, vr, Nx (i.size)] 109) :: M) (by rfl) (up_cons rfl hs10) ?_
   refine l_val (v := Nx (i.size)) rfl rfl rfl (e_load1 tf25 (v := Nx (i.size)) rfl (k_pt 0 (cs := #[Nx (i.epoch), Nx (i.next), vs, vr, Nx (i.size)]) (vs := [Nx (i.size)]) rfl rfl)) ?_
   refine l_nil ?_
   exact f_owes_d (up_cons rfl hs10) rfl (perm_front 0 rfl)
  rintro fa1 ⟨k0, -, -, -, -, -, k6, -, k8, -⟩ -
  refine l_re (L' := [pt J (.cells #[.pointer (some ⟨S, 0, none⟩), Nx (i.epoch), Nx (i.next), vs, vr, Nx (i.size), vd] 143), pt q6 (.cells #[.pointer (some ⟨J, 0, none⟩)] 89), pt q1 (.cells #[.pointer (some ⟨S, 0, none⟩)] 26), pt q4 (.cells #[Nx (i.epoch), Nx (i.next), vs, vr, Nx (i.size)] 109), storeR S k]) (by rfl) ?_
  refine l_rebase (d := 3) (v := .pointer (some ⟨J, 0, none⟩)) k0 ?_
  refine l_rebase (d := 9) (v := .pointer (some ⟨S, 1, none⟩)) k6 ?_
  refine l_rebase (d := 11) (v := Nx (i.size)) k8 ?_
  refine l_callP rfl rfl rfl (cl_value (fst := []) (cap := []) (vs := [.pointer (some ⟨J, 0, none⟩), .pointer (some ⟨S, 1, none⟩), Nx (i.size)]) (all := [.pointer (some ⟨J, 0, none⟩), .pointer (some ⟨S, 1, none⟩), Nx (i.size)]) tf52 rfl rfl rfl) ?_
  intro w hw
  replace hw := hw.perm (L' := _ :: _ :: _ :: _ :: _ :: []) (by exact (((((perm_front 3 rfl).trans (perm_front 3 rfl)).trans (perm_front 3 rfl)).trans (perm_front 3 rfl)).trans (perm_front 4 rfl)))
  obtain ⟨β1, sb, kn, hw1, back⟩ := St.frame (L := [_]) (M := _ :: _ :: _ :: _ :: []) hw
  refine (cutS0_ok β1 w i.epoch hpar J S (kn _ (k_pt 0 (cs := #[.pointer (some ⟨S, 0, none⟩), Nx (i.epoch), Nx (i.next), vs, vr, Nx (i.size), vd]) (vs := [.pointer (some ⟨S, 0, none⟩)]) rfl rfl)) k (hk.le (by omega)) i.size hw1).mono ?_
  rintro e w' (⟨rfl, ok2, hw'⟩ | ⟨rfl, ok2, hw'⟩)
  ·
   refine .inl ⟨_, rfl, _, back _ _ hw', ?_⟩
   clear hw hw1 hw' back kn sb
   refine panR ?_
   intro w hw
   exact .inl ⟨rfl, ok2, st_mask [true, true, true, true, true] rfl (hw.perm (L' := [pt J (.cells #[.pointer (some ⟨S, 0, none⟩), Nx (i.epoch), Nx (i.next), vs, vr, Nx (i.size), vd] 143), pt q6 (.cells #[.pointer (some ⟨J, 0, none⟩)] 89), pt q1 (.cells #[.pointer (some ⟨S, 0, none⟩)] 26), pt q4 (.cells #[Nx (i.epoch), Nx (i.next), vs, vr, Nx (i.size)] 109), storeR S k]) (by exact (perm_ix [1, 2, 3, 4, 0] 5 rfl (by kernel_rfl) (by kernel_rfl))))⟩
  refine .inr ⟨_, rfl, _, back _ _ hw', ?_⟩
  clear hw hw1 hw' back kn sb
  refine l_nil ?_
  refine end0 Tryz.results89 ?_
  intro w hw
  exact .inr ⟨rfl, ok2, st_mask [true, true, true, true, true] rfl (hw.perm (L' := [pt J (.cells #[.pointer (some ⟨S, 0, none⟩), Nx (i.epoch), Nx (i.next), vs, vr, Nx (i.size), vd] 143), pt q6 (.cells #[.pointer (some ⟨J, 0, none⟩)] 89), pt q1 (.cells #[.pointer (some ⟨S, 0, none⟩)] 26), pt q4 (.cells #[Nx (i.epoch), Nx (i.next), vs, vr, Nx (i.size)] 109), storeR S (cutS k i.epoch i.size)]) (by exact (perm_ix [1, 2, 3, 4, 0] 5 rfl (by kernel_rfl) (by kernel_rfl))))⟩
 ·
  refine c_any_end 9 rfl rfl [⟨[], [], [0], [3], fun f => f 3 = .pointer (some ⟨J, 0, none⟩)⟩, ⟨[], [], [1], [4], fun f => f 4 = .pointer (some ⟨S, 0, none⟩)⟩, ⟨[1], [1], [], [5], fun f => f 5 = .agg #[.pointer (some ⟨S, 1, none⟩), .pointer (some ⟨S, 2, none⟩)]⟩, ⟨[], [], [2], [6], fun f => f 6 = .pointer (some ⟨q4, 0, none⟩)⟩, ⟨[3], [3], [], [7], fun f => f 7 = Nx (i.epoch)⟩, ⟨[3, 4], [4], [], [8], fun f => f 8 = .int .i64 (1)⟩, ⟨[1, 2, 3, 4, 5], [2, 5], [], [9], fun f => f 9 = .pointer (some ⟨S, 2, none⟩)⟩, ⟨[], [], [2], [10], fun f => f 10 = .pointer (some ⟨q4, 4, none⟩)⟩, ⟨[7], [7], [], [11], fun f => f 11 = Nx (i.size)⟩, ⟨[0, 1, 2, 3, 4, 5, 6, 7, 8], [], [], [], fun _ => True⟩] [⟨none, none, [], [], fun _ => pt J (.cells #[.pointer (some ⟨S, 0, none⟩), Nx (i.epoch), Nx (i.next), vs, vr, Nx (i.size), vd] 143)⟩, ⟨none, none, [0], [], fun _ => pt q6 (.cells #[.pointer (some ⟨J, 0, none⟩)] 89)⟩, ⟨none, none, [1], [], fun _ => pt q1 (.cells #[.pointer (some ⟨S, 0, none⟩)] 26)⟩, ⟨none, none, [4, 8], [], fun _ => pt q4 (.cells #[Nx (i.epoch), Nx (i.next), vs, vr, Nx (i.size)] 109)⟩, ⟨none, none, [], [], fun _ => storeR S k⟩] [(0, .pointer (some ⟨q6, 0, none⟩)), (1, .pointer (some ⟨q1, 0, none⟩)), (2, .pointer (some ⟨q4, 0, none⟩))] [] [] (by kernel_rfl) (by kernel_rfl) (by kernel_rfl) (by kernel_rfl) (by kernel_rfl) (by kernel_rfl) rfl ⟨rfl, rfl, rfl, trivial⟩ ⟨?_, ?_, ?_, ?_, ?_, ?_, ?_, ?_, ?_, trivial⟩ ?_
  ·rintro f M - ⟨i0, -⟩
   have hs0 : f 0 = .pointer (some ⟨q6, 0, none⟩) := i0
   refine ob_start (L' := pt q6 (.cells #[.pointer (some ⟨J, 0, none⟩)] 89) :: M) (by rfl) (up_cons rfl hs0) ?_
   refine l_val (v := .pointer (some ⟨J, 0, none⟩)) rfl rfl rfl (e_load1 tf43 (v := .pointer (some ⟨J, 0, none⟩)) rfl (k_pt 0 (cs := #[.pointer (some ⟨J, 0, none⟩)]) (vs := [.pointer (some ⟨J, 0, none⟩)]) rfl rfl)) ?_
   refine l_nil ?_
   exact f_owes_d (up_cons rfl hs0) rfl (perm_front 0 rfl)
  ·rintro f M - ⟨i0, -⟩
   have hs1 : f 1 = .pointer (some ⟨q1, 0, none⟩) := i0
   refine ob_start (L' := pt q1 (.cells #[.pointer (some ⟨S, 0, none⟩)] 26) :: M) (by rfl) (up_cons rfl hs1) ?_
   refine l_val (v := .pointer (some ⟨S, 0, none⟩)) rfl rfl rfl (e_load1 tf31 (v := .pointer (some ⟨S, 0, none⟩)) rfl (k_pt 0 (cs := #[.pointer (some ⟨S, 0, none⟩)]) (vs := [.pointer (some ⟨S, 0, none⟩)]) rfl rfl)) ?_
   refine l_nil ?_
   exact f_owes_d (up_cons rfl hs1) rfl (perm_front 0 rfl)
  ·rintro f M ⟨k0, -⟩ -
   have hs4 : f 4 = .pointer (some ⟨S, 0, none⟩) := k0
   refine ob_start (L' := M) (by rfl) (up_cons rfl hs4) ?_
   refine l_call rfl rfl rfl (cl_value (fst := []) (cap := []) (vs := [.pointer (some ⟨S, 0, none⟩)]) (all := [.pointer (some ⟨S, 0, none⟩)]) tf46 rfl rfl rfl) ?_
   intro w hw
   obtain ⟨β1, sb, kn, hw1, back⟩ := St.frame_all hw
   refine (areas_ok β1 w hw1 S).mono ?_
   rintro e w' ⟨rfl, hw'⟩
   refine ⟨_, rfl, _, back _ _ hw', ?_⟩
   clear hw hw1 hw' back kn sb
   refine l_nil ?_
   exact f_owes_d (up_cons rfl hs4) rfl (List.Perm.refl _)
  ·rintro f M - ⟨i0, -⟩
   have hs2 : f 2 = .pointer (some ⟨q4, 0, none⟩) := i0
   refine ob_start (L' := M) (by rfl) (up_cons rfl hs2) ?_
   refine l_val (v := .pointer (some ⟨q4, 0, none⟩)) rfl rfl rfl (e_fieldPt (b := q4) (o := 0) rfl tf48) ?_
   refine l_nil ?_
   exact f_owes_d (up_cons rfl hs2) rfl (List.Perm.refl _)
  ·rintro f M ⟨k0, -⟩ -
   have hs6 : f 6 = .pointer (some ⟨q4, 0, none⟩) := k0
   refine ob_start (L' := pt q4 (.cells #[Nx (i.epoch), Nx (i.next), vs, vr, Nx (i.size)] 109) :: M) (by rfl) (up_cons rfl hs6) ?_
   refine l_val (v := Nx (i.epoch)) rfl rfl rfl (e_load1 tf25 (v := Nx (i.epoch)) rfl (k_pt 0 (cs := #[Nx (i.epoch), Nx (i.next), vs, vr, Nx (i.size)]) (vs := [Nx (i.epoch)]) rfl rfl)) ?_
   refine l_nil ?_
   exact f_owes_d (up_cons rfl hs6) rfl (perm_front 0 rfl)
  ·rintro f M ⟨k0, -⟩ -
   have hs7 : f 7 = Nx (i.epoch) := k0
   refine ob_start (L' := M) (by rfl) (up_cons rfl hs7) ?_
   refine l_val (v := .int .i64 (1)) rfl rfl rfl (ev_eq (by rw [hpar]; rfl) (e_rem (a := ((i.epoch : Nat) : Int)) (b := (2 : Int)) rfl rfl (by decide) (nat_tmod _ 2))) ?_
   refine l_nil ?_
   exact f_owes_d (up_cons rfl hs7) rfl (List.Perm.refl _)
  ·rintro f M ⟨k0, k1, -⟩ -
   have hs5 : f 5 = .agg #[.pointer (some ⟨S, 1, none⟩), .pointer (some ⟨S, 2, none⟩)] := k0
   have hs8 : f 8 = .int .i64 (1) := k1
   refine ob_start (L' := M) (by rfl) (up_cons (up_cons rfl hs5) hs8) ?_
   refine l_val (v := .pointer (some ⟨S, 2, none⟩)) rfl rfl rfl (e_index_a (cs := #[.pointer (some ⟨S, 1, none⟩), .pointer (some ⟨S, 2, none⟩)]) (k := 1) rfl rfl tf28 rfl (by decide) tf49) ?_
   refine l_nil ?_
   exact f_owes_d (up_cons (up_cons rfl hs5) hs8) rfl (List.Perm.refl _)
  ·rintro f M - ⟨i0, -⟩
   have hs2 : f 2 = .pointer (some ⟨q4, 0, none⟩) := i0
   refine ob_start (L' := M) (by rfl) (up_cons rfl hs2) ?_
   refine l_val (v := .pointer (some ⟨q4, 4, none⟩)) rfl rfl rfl (e_fieldPt (b := q4) (o := 0) rfl tf50) ?_
   refine l_nil ?_
   exact f_owes_d (up_cons rfl hs2) rfl (List.Perm.refl _)
  ·rintro f M ⟨k0, -⟩ -
   have hs10 : f 10 = .pointer (some ⟨q4, 4, none⟩) := k0
   refine ob_start (L' := pt q4 (.cells #[Nx (i.epoch), Nx (i.next), vs, vr, Nx (i.size)] 109) :: M) (by rfl) (up_cons rfl hs10) ?_
   refine l_val (v := Nx (i.size)) rfl rfl rfl (e_load1 tf25 (v := Nx (i.size)) rfl (k_pt 0 (cs := #[Nx (i.epoch), Nx (i.next), vs, vr, Nx (i.size)]) (vs := [Nx (i.size)]) rfl rfl)) ?_
   refine l_nil ?_
   exact f_owes_d (up_cons rfl hs10) rfl (perm_front 0 rfl)
  rintro fa3 ⟨k0, -, -, -, -, -, k6, -, k8, -⟩ -
  refine l_re (L' := [pt J (.cells #[.pointer (some ⟨S, 0, none⟩), Nx (i.epoch), Nx (i.next), vs, vr, Nx (i.size), vd] 143), pt q6 (.cells #[.pointer (some ⟨J, 0, none⟩)] 89), pt q1 (.cells #[.pointer (some ⟨S, 0, none⟩)] 26), pt q4 (.cells #[Nx (i.epoch), Nx (i.next), vs, vr, Nx (i.size)] 109), storeR S k]) (by rfl) ?_
  refine l_rebase (d := 3) (v := .pointer (some ⟨J, 0, none⟩)) k0 ?_
  refine l_rebase (d := 9) (v := .pointer (some ⟨S, 2, none⟩)) k6 ?_
  refine l_rebase (d := 11) (v := Nx (i.size)) k8 ?_
  refine l_callP rfl rfl rfl (cl_value (fst := []) (cap := []) (vs := [.pointer (some ⟨J, 0, none⟩), .pointer (some ⟨S, 2, none⟩), Nx (i.size)]) (all := [.pointer (some ⟨J, 0, none⟩), .pointer (some ⟨S, 2, none⟩), Nx (i.size)]) tf52 rfl rfl rfl) ?_
  intro w hw
  replace hw := hw.perm (L' := _ :: _ :: _ :: _ :: _ :: []) (by exact (((((perm_front 3 rfl).trans (perm_front 3 rfl)).trans (perm_front 3 rfl)).trans (perm_front 3 rfl)).trans (perm_front 4 rfl)))
  obtain ⟨β1, sb, kn, hw1, back⟩ := St.frame (L := [_]) (M := _ :: _ :: _ :: _ :: []) hw
  refine (cutS1_ok β1 w i.epoch hpar J S (kn _ (k_pt 0 (cs := #[.pointer (some ⟨S, 0, none⟩), Nx (i.epoch), Nx (i.next), vs, vr, Nx (i.size), vd]) (vs := [.pointer (some ⟨S, 0, none⟩)]) rfl rfl)) k (hk.le (by omega)) i.size hw1).mono ?_
  rintro e w' (⟨rfl, ok4, hw'⟩ | ⟨rfl, ok4, hw'⟩)
  ·
   refine .inl ⟨_, rfl, _, back _ _ hw', ?_⟩
   clear hw hw1 hw' back kn sb
   refine panR ?_
   intro w hw
   exact .inl ⟨rfl, ok4, st_mask [true, true, true, true, true] rfl (hw.perm (L' := [pt J (.cells #[.pointer (some ⟨S, 0, none⟩), Nx (i.epoch), Nx (i.next), vs, vr, Nx (i.size), vd] 143), pt q6 (.cells #[.pointer (some ⟨J, 0, none⟩)] 89), pt q1 (.cells #[.pointer (some ⟨S, 0, none⟩)] 26), pt q4 (.cells #[Nx (i.epoch), Nx (i.next), vs, vr, Nx (i.size)] 109), storeR S k]) (by exact (perm_ix [1, 2, 3, 4, 0] 5 rfl (by kernel_rfl) (by kernel_rfl))))⟩
  refine .inr ⟨_, rfl, _, back _ _ hw', ?_⟩
  clear hw hw1 hw' back kn sb
  refine l_nil ?_
  refine end0 Tryz.results89 ?_
  intro w hw
  exact .inr ⟨rfl, ok4, st_mask [true, true, true, true, true] rfl (hw.perm (L' := [pt J (.cells #[.pointer (some ⟨S, 0, none⟩), Nx (i.epoch), Nx (i.next), vs, vr, Nx (i.size), vd] 143), pt q6 (.cells #[.pointer (some ⟨J, 0, none⟩)] 89), pt q1 (.cells #[.pointer (some ⟨S, 0, none⟩)] 26), pt q4 (.cells #[Nx (i.epoch), Nx (i.next), vs, vr, Nx (i.size)] 109), storeR S (cutS k i.epoch i.size)]) (by exact (perm_ix [1, 2, 3, 4, 0] 5 rfl (by kernel_rfl) (by kernel_rfl))))⟩
end Go.Proofs
