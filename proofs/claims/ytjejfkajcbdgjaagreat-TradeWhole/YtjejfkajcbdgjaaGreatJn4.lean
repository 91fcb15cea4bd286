/-
 What is attempted: writing a record,cutting an area,a checkpoint. Printed by a program of my own.
-/
import Derived.Test.YtjejfkajcbdgjaaGreatJn3
import Derived.Test.YtjejfkajcbdgjaaGreatSlFlat
import Derived.Test.YtjejfkajcbdgjaaGreatSlA
import Derived.Test.YtjejfkajcbdgjaaGreatSlB
namespace Go.Proofs
open Go Go.Sl Go.Jn
instance tf46 : CfC Tryz.prog 65 := ⟨by kernel_rfl⟩
instance tf47 : TyC Tryz.prog 141 false 1 := ⟨by kernel_rfl⟩
instance tf48 : FldC Tryz.prog 109 0 0 1 false := ⟨by kernel_rfl⟩
instance tf49 : TyC Tryz.prog 147 false 1 := ⟨by kernel_rfl⟩
instance tf50 : FldC Tryz.prog 109 4 4 1 false := ⟨by kernel_rfl⟩
instance tf51 : CfC Tryz.prog 64 := ⟨by kernel_rfl⟩
instance tf52 : CfC Tryz.prog 90 := ⟨by kernel_rfl⟩
instance tf53 : FldC Tryz.prog 109 1 1 1 false := ⟨by kernel_rfl⟩
instance tf54 : CfC Tryz.prog 61 := ⟨by kernel_rfl⟩
theorem writeS0_ok (β : Base) (w : World) (e : Nat) (hpar : e % 2 = 0) (J S : Nat) (hJ : Cs β.heap ⟨J, 0, none⟩ [pp S 0]) (k : KS) (hk : k.fits 1048576) (at_ : Nat) (hat : at_ ≤ 1048576) (bs : Bs) (v : Value) (hb : bs.length ≤ 1048576) (hs : Sl U8R β.heap v bs) (hw : St β [storeR S k] w) : Calls Tryz.prog 64 #[pp J 0, pp S 1, Nx at_, v] w fun r w' => (r = .panicked chP ∧ ¬ wrOk k.power bs ∧ St β [storeR S (wrS k e at_ bs)] w') ∨ (r = .returned (.tuple #[]) ∧ wrOk k.power bs ∧ St β [storeR S (wrS k e at_ bs)] w') := by
 have h := writeA_ok β w J S hJ k hk at_ hat bs v hb hs hw
 rwa [wrS_even hpar] at h
theorem cutS0_ok (β : Base) (w : World) (e : Nat) (hpar : e % 2 = 0) (J S : Nat) (hJ : Cs β.heap ⟨J, 0, none⟩ [pp S 0]) (k : KS) (hk : k.fits 1048576) (size : Nat) (hw : St β [storeR S k] w) : Calls Tryz.prog 90 #[pp J 0, pp S 1, Nx size] w fun r w' => (r = .panicked chP ∧ ¬ cutOk (k.area e) k.power size ∧ St β [storeR S k] w') ∨ (r = .returned (.tuple #[]) ∧ cutOk (k.area e) k.power size ∧ St β [storeR S (cutS k e size)] w') := by
 have h := (cutA_ok β w J S hJ k hk size hw).mono (R' := fun r w' => (r = .panicked chP ∧ ¬ cutOk k.a k.power size ∧ St β [storeR S k] w') ∨ (r = .returned (.tuple #[]) ∧ cutOk k.a k.power size ∧ St β [storeR S { k with a := cutA k.a k.power size,power := cutP k.a k.power size }] w')) fun r w' hh => hh.imp (fun ⟨a,b,_,c⟩ => ⟨a,b,c⟩) id
 rwa [cutS_even hpar,← area_even (k := k) hpar] at h
theorem writeS1_ok (β : Base) (w : World) (e : Nat) (hpar : e % 2 = 1) (J S : Nat) (hJ : Cs β.heap ⟨J, 0, none⟩ [pp S 0]) (k : KS) (hk : k.fits 1048576) (at_ : Nat) (hat : at_ ≤ 1048576) (bs : Bs) (v : Value) (hb : bs.length ≤ 1048576) (hs : Sl U8R β.heap v bs) (hw : St β [storeR S k] w) : Calls Tryz.prog 64 #[pp J 0, pp S 2, Nx at_, v] w fun r w' => (r = .panicked chP ∧ ¬ wrOk k.power bs ∧ St β [storeR S (wrS k e at_ bs)] w') ∨ (r = .returned (.tuple #[]) ∧ wrOk k.power bs ∧ St β [storeR S (wrS k e at_ bs)] w') := by
 have h := writeB_ok β w J S hJ k hk at_ hat bs v hb hs hw
 rwa [wrS_odd hpar] at h
theorem cutS1_ok (β : Base) (w : World) (e : Nat) (hpar : e % 2 = 1) (J S : Nat) (hJ : Cs β.heap ⟨J, 0, none⟩ [pp S 0]) (k : KS) (hk : k.fits 1048576) (size : Nat) (hw : St β [storeR S k] w) : Calls Tryz.prog 90 #[pp J 0, pp S 2, Nx size] w fun r w' => (r = .panicked chP ∧ ¬ cutOk (k.area e) k.power size ∧ St β [storeR S k] w') ∨ (r = .returned (.tuple #[]) ∧ cutOk (k.area e) k.power size ∧ St β [storeR S (cutS k e size)] w') := by
 have h := (cutB_ok β w J S hJ k hk size hw).mono (R' := fun r w' => (r = .panicked chP ∧ ¬ cutOk k.b k.power size ∧ St β [storeR S k] w') ∨ (r = .returned (.tuple #[]) ∧ cutOk k.b k.power size ∧ St β [storeR S { k with b := cutA k.b k.power size,power := cutP k.b k.power size }] w')) fun r w' hh => hh.imp (fun ⟨a,b,_,c⟩ => ⟨a,b,c⟩) id
 rwa [cutS_odd hpar,← area_odd (k := k) hpar] at h
set_option maxHeartbeats 4000000 in
theorem append1_ok (β : Base) (w : World) (J S q2 q7 q8 cb : Nat) (pb : Option Addr) (k : KS) (i : KI) (vs vr vd : Value) (fb : Bs) (hk : k.fits 524288) (hb : fb.length ≤ 131072) (hsz : i.size ≤ 524288) (hw : St β [pt J (.cells #[pp S 0, Nx (i.epoch), Nx (i.next), vs, vr, Nx (i.size), vd] 143), pt q2 (.cells #[pp J 0] 89), pt q7 (.cells #[pp J 1] 141), pt q8 (.cells #[sB pb fb cb] 27), rB pb fb cb, storeR S k] w) : Calls Tryz.prog 63 #[pp q2 0, pp q7 0, pp q8 0] w fun r w' => (r = .panicked chP ∧ ¬ wrOk k.power fb ∧ St β [pt J (.cells #[pp S 0, Nx (i.epoch), Nx (i.next), vs, vr, Nx (i.size), vd] 143), pt q2 (.cells #[pp J 0] 89), pt q7 (.cells #[pp J 1] 141), pt q8 (.cells #[sB pb fb cb] 27), rB pb fb cb, storeR S (wrS k i.epoch i.size fb)] w') ∨ (r = .returned (.tuple #[]) ∧ wrOk k.power fb ∧ St β [pt J (.cells #[pp S 0, Nx (i.epoch), Nx (i.next), vs, vr, Nx (i.size), vd] 143), pt q2 (.cells #[pp J 0] 89), pt q7 (.cells #[pp J 1] 141), pt q8 (.cells #[sB pb fb cb] 27), rB pb fb cb, storeR S (wrS k i.epoch i.size fb)] w') := by
 refine enter (n := 21) Tryz.func63 rfl Tryz.ntmps63 rfl ?_ hw
 rcases Nat.mod_two_eq_zero_or_one i.epoch with hpar | hpar
 ·refine c_any_end 17 rfl rfl [⟨[],[],[0],[3],fun f => f 3 = pp J 0⟩,⟨[],[],[0],[4],fun f => f 4 = pp J 0⟩,⟨[1],[1],[],[5],fun f => f 5 = pp J 0⟩,⟨[1,2],[2],[],[6],fun f => f 6 = pp J 0⟩,⟨[1,2,3],[3],[],[7],fun f => f 7 = pp S 0⟩,⟨[1,2,3,4],[4],[],[8],fun f => f 8 = .agg #[pp S 1,pp S 2]⟩,⟨[],[],[1],[9],fun f => f 9 = pp J 1⟩,⟨[6],[6],[],[10],fun f => f 10 = pp J 1⟩,⟨[6,7],[7],[],[11],fun f => f 11 = pp J 1⟩,⟨[6,7,8],[8],[],[12],fun f => f 12 = Nx (i.epoch)⟩,⟨[6,7,8,9],[9],[],[13],fun f => f 13 = .int .i64 (0)⟩,⟨[1,2,3,4,5,6,7,8,9,10],[5,10],[],[14],fun f => f 14 = pp S 1⟩,⟨[],[],[1],[15],fun f => f 15 = pp J 1⟩,⟨[12],[12],[],[16],fun f => f 16 = pp J 1⟩,⟨[12,13],[13],[],[17],fun f => f 17 = pp J 5⟩,⟨[12,13,14],[14],[],[18],fun f => f 18 = Nx (i.size)⟩,⟨[],[],[2],[19],fun f => f 19 = sB pb fb cb⟩,⟨(List.range 17),[],[],[],fun _ => True⟩] [⟨none,none,[4,9,15],[],fun _ => pt J (.cells #[pp S 0,Nx (i.epoch),Nx (i.next),vs,vr,Nx (i.size),vd] 143)⟩,⟨none,none,[0,1],[],fun _ => pt q2 (.cells #[pp J 0] 89)⟩,⟨none,none,[6,12],[],fun _ => pt q7 (.cells #[pp J 1] 141)⟩,⟨none,none,[16],[],fun _ => pt q8 (.cells #[sB pb fb cb] 27)⟩,⟨none,none,[],[],fun _ => rB pb fb cb⟩,⟨none,none,[],[],fun _ => storeR S k⟩] [(0,pp q2 0),(1,pp q7 0),(2,pp q8 0)] [] [] (by kernel_rfl) (by kernel_rfl) (by kernel_rfl) (by kernel_rfl) (by kernel_rfl) (by kernel_rfl) rfl ⟨rfl,rfl,rfl,trivial⟩ ⟨?_,?_,?_,?_,?_,?_,?_,?_,?_,?_,?_,?_,?_,?_,?_,?_,?_,trivial⟩ ?_
  ·rintro f M - ⟨i0,-⟩
   exact obE (olp 0)
  ·rintro f M - ⟨i0,-⟩
   exact obE (olp 0)
  ·rintro f M ⟨k0,-⟩ -
   exact obE onp
  ·rintro f M ⟨k0,-⟩ -
   exact obE ofp
  ·rintro f M ⟨k0,-⟩ -
   exact obE (olp 0)
  ·rintro f M ⟨k0,-⟩ -
   refine ob_start (L' := M) (by rfl) (up_cons (d := 7) rfl k0) (lcR clA (fun w β1 sb kn hw1 => areas_ok β1 w hw1 S) (l_nil ?_))
   exact f_owes_d (up_cons (d := 7) rfl k0) rfl (List.Perm.refl _)
  ·rintro f M - ⟨i0,-⟩
   exact obE (olp 0)
  ·rintro f M ⟨k0,-⟩ -
   exact obE onp
  ·rintro f M ⟨k0,-⟩ -
   exact obE ofp
  ·rintro f M ⟨k0,-⟩ -
   exact obE (oli 0)
  ·rintro f M ⟨k0,-⟩ -
   exact ob0 (up_cons (d := 12) rfl k0) rfl (ev_eq (by rw [hpar]; rfl) (e_rem (a := ((i.epoch : Nat) : Int)) (b := (2 : Int)) rfl rfl (by decide) (nat_tmod _ 2))) (.refl _)
  ·rintro f M ⟨k0,k1,-⟩ -
   exact ob0 (up_cons (d := 13) (up_cons (d := 8) rfl k0) k1) rfl (e_index_a (cs := #[pp S 1,pp S 2]) (k := 0) rfl rfl tf28.ok rfl (by decide) tf49.ok) (.refl _)
  ·rintro f M - ⟨i0,-⟩
   exact obE (olp 0)
  ·rintro f M ⟨k0,-⟩ -
   exact obE onp
  ·rintro f M ⟨k0,-⟩ -
   exact obE ofp
  ·rintro f M ⟨k0,-⟩ -
   exact obE (oli 0)
  ·rintro f M - ⟨i0,-⟩
   exact obE (ols 0)
  rintro fa1 ⟨k0,-,-,-,-,-,-,-,-,-,-,k11,-,-,-,k15,k16,-⟩ -
  refine l_re (L' := [pt J (.cells #[pp S 0,Nx (i.epoch),Nx (i.next),vs,vr,Nx (i.size),vd] 143),pt q2 (.cells #[pp J 0] 89),pt q7 (.cells #[pp J 1] 141),pt q8 (.cells #[sB pb fb cb] 27),rB pb fb cb,storeR S k]) (by rfl) ?_
  refine l_rebase (d := 3) (v := pp J 0) k0 (l_rebase (d := 14) (v := pp S 1) k11 (l_rebase (d := 18) (v := Nx (i.size)) k15 ?_))
  refine l_rebase (d := 19) (v := sB pb fb cb) k16 (l_callP rfl rfl rfl (cl0 (vs := [pp J 0,pp S 1,Nx (i.size),sB pb fb cb]) tf51.ok rfl rfl) ?_)
  intro w hw
  replace hw := hw.perm (L' := _ :: _ :: _ :: _ :: _ :: _ :: []) (by exact ((((((perm_front 4 rfl).trans (perm_front 4 rfl)).trans (perm_front 4 rfl)).trans (perm_front 4 rfl)).trans (perm_front 4 rfl)).trans (perm_front 5 rfl)))
  obtain ⟨β1,sb,kn,hw1,back⟩ := St.frame (L := [_]) (M := _ :: _ :: _ :: _ :: _ :: []) hw
  refine (writeS0_ok β1 w i.epoch hpar J S (kn _ (k_pt 0 rfl rfl)) k (hk.le (by omega)) i.size (by omega) fb _ (by omega) (kU kn 4 rfl) hw1).mono ?_
  rintro e w' (⟨rfl,ok2,hw'⟩ | ⟨rfl,ok2,hw'⟩)
  ·refine .inl ⟨_,rfl,_,back _ _ hw',?_⟩
   clear hw hw1 hw' back kn sb
   refine panR ?_
   intro w hw
   exact .inl ⟨rfl,ok2,st_mask [true,true,true,true,true,true] rfl (hw.perm (L' := [pt J (.cells #[pp S 0,Nx (i.epoch),Nx (i.next),vs,vr,Nx (i.size),vd] 143),pt q2 (.cells #[pp J 0] 89),pt q7 (.cells #[pp J 1] 141),pt q8 (.cells #[sB pb fb cb] 27),rB pb fb cb,storeR S (wrS k i.epoch i.size fb)]) (by exact (perm_ix [1,2,3,4,5,0] 6 rfl (by kernel_rfl) (by kernel_rfl))))⟩
  refine .inr ⟨_,rfl,_,back _ _ hw',?_⟩
  clear hw hw1 hw' back kn sb
  refine l_nil (end0 Tryz.results63 ?_)
  intro w hw
  exact .inr ⟨rfl,ok2,st_mask [true,true,true,true,true,true] rfl (hw.perm (L' := [pt J (.cells #[pp S 0,Nx (i.epoch),Nx (i.next),vs,vr,Nx (i.size),vd] 143),pt q2 (.cells #[pp J 0] 89),pt q7 (.cells #[pp J 1] 141),pt q8 (.cells #[sB pb fb cb] 27),rB pb fb cb,storeR S (wrS k i.epoch i.size fb)]) (by exact (perm_ix [1,2,3,4,5,0] 6 rfl (by kernel_rfl) (by kernel_rfl))))⟩
 refine c_any_end 17 rfl rfl [⟨[],[],[0],[3],fun f => f 3 = pp J 0⟩,⟨[],[],[0],[4],fun f => f 4 = pp J 0⟩,⟨[1],[1],[],[5],fun f => f 5 = pp J 0⟩,⟨[1,2],[2],[],[6],fun f => f 6 = pp J 0⟩,⟨[1,2,3],[3],[],[7],fun f => f 7 = pp S 0⟩,⟨[1,2,3,4],[4],[],[8],fun f => f 8 = .agg #[pp S 1,pp S 2]⟩,⟨[],[],[1],[9],fun f => f 9 = pp J 1⟩,⟨[6],[6],[],[10],fun f => f 10 = pp J 1⟩,⟨[6,7],[7],[],[11],fun f => f 11 = pp J 1⟩,⟨[6,7,8],[8],[],[12],fun f => f 12 = Nx (i.epoch)⟩,⟨[6,7,8,9],[9],[],[13],fun f => f 13 = .int .i64 (1)⟩,⟨[1,2,3,4,5,6,7,8,9,10],[5,10],[],[14],fun f => f 14 = pp S 2⟩,⟨[],[],[1],[15],fun f => f 15 = pp J 1⟩,⟨[12],[12],[],[16],fun f => f 16 = pp J 1⟩,⟨[12,13],[13],[],[17],fun f => f 17 = pp J 5⟩,⟨[12,13,14],[14],[],[18],fun f => f 18 = Nx (i.size)⟩,⟨[],[],[2],[19],fun f => f 19 = sB pb fb cb⟩,⟨(List.range 17),[],[],[],fun _ => True⟩] [⟨none,none,[4,9,15],[],fun _ => pt J (.cells #[pp S 0,Nx (i.epoch),Nx (i.next),vs,vr,Nx (i.size),vd] 143)⟩,⟨none,none,[0,1],[],fun _ => pt q2 (.cells #[pp J 0] 89)⟩,⟨none,none,[6,12],[],fun _ => pt q7 (.cells #[pp J 1] 141)⟩,⟨none,none,[16],[],fun _ => pt q8 (.cells #[sB pb fb cb] 27)⟩,⟨none,none,[],[],fun _ => rB pb fb cb⟩,⟨none,none,[],[],fun _ => storeR S k⟩] [(0,pp q2 0),(1,pp q7 0),(2,pp q8 0)] [] [] (by kernel_rfl) (by kernel_rfl) (by kernel_rfl) (by kernel_rfl) (by kernel_rfl) (by kernel_rfl) rfl ⟨rfl,rfl,rfl,trivial⟩ ⟨?_,?_,?_,?_,?_,?_,?_,?_,?_,?_,?_,?_,?_,?_,?_,?_,?_,trivial⟩ ?_
 ·rintro f M - ⟨i0,-⟩
  exact obE (olp 0)
 ·rintro f M - ⟨i0,-⟩
  exact obE (olp 0)
 ·rintro f M ⟨k0,-⟩ -
  exact obE onp
 ·rintro f M ⟨k0,-⟩ -
  exact obE ofp
 ·rintro f M ⟨k0,-⟩ -
  exact obE (olp 0)
 ·rintro f M ⟨k0,-⟩ -
  refine ob_start (L' := M) (by rfl) (up_cons (d := 7) rfl k0) (lcR clA (fun w β1 sb kn hw1 => areas_ok β1 w hw1 S) (l_nil ?_))
  exact f_owes_d (up_cons (d := 7) rfl k0) rfl (List.Perm.refl _)
 ·rintro f M - ⟨i0,-⟩
  exact obE (olp 0)
 ·rintro f M ⟨k0,-⟩ -
  exact obE onp
 ·rintro f M ⟨k0,-⟩ -
  exact obE ofp
 ·rintro f M ⟨k0,-⟩ -
  exact obE (oli 0)
 ·rintro f M ⟨k0,-⟩ -
  exact ob0 (up_cons (d := 12) rfl k0) rfl (ev_eq (by rw [hpar]; rfl) (e_rem (a := ((i.epoch : Nat) : Int)) (b := (2 : Int)) rfl rfl (by decide) (nat_tmod _ 2))) (.refl _)
 ·rintro f M ⟨k0,k1,-⟩ -
  exact ob0 (up_cons (d := 13) (up_cons (d := 8) rfl k0) k1) rfl (e_index_a (cs := #[pp S 1,pp S 2]) (k := 1) rfl rfl tf28.ok rfl (by decide) tf49.ok) (.refl _)
 ·rintro f M - ⟨i0,-⟩
  exact obE (olp 0)
 ·rintro f M ⟨k0,-⟩ -
  exact obE onp
 ·rintro f M ⟨k0,-⟩ -
  exact obE ofp
 ·rintro f M ⟨k0,-⟩ -
  exact obE (oli 0)
 ·rintro f M - ⟨i0,-⟩
  exact obE (ols 0)
 rintro fa3 ⟨k0,-,-,-,-,-,-,-,-,-,-,k11,-,-,-,k15,k16,-⟩ -
 refine l_re (L' := [pt J (.cells #[pp S 0,Nx (i.epoch),Nx (i.next),vs,vr,Nx (i.size),vd] 143),pt q2 (.cells #[pp J 0] 89),pt q7 (.cells #[pp J 1] 141),pt q8 (.cells #[sB pb fb cb] 27),rB pb fb cb,storeR S k]) (by rfl) ?_
 refine l_rebase (d := 3) (v := pp J 0) k0 (l_rebase (d := 14) (v := pp S 2) k11 (l_rebase (d := 18) (v := Nx (i.size)) k15 ?_))
 refine l_rebase (d := 19) (v := sB pb fb cb) k16 (l_callP rfl rfl rfl (cl0 (vs := [pp J 0,pp S 2,Nx (i.size),sB pb fb cb]) tf51.ok rfl rfl) ?_)
 intro w hw
 replace hw := hw.perm (L' := _ :: _ :: _ :: _ :: _ :: _ :: []) (by exact ((((((perm_front 4 rfl).trans (perm_front 4 rfl)).trans (perm_front 4 rfl)).trans (perm_front 4 rfl)).trans (perm_front 4 rfl)).trans (perm_front 5 rfl)))
 obtain ⟨β1,sb,kn,hw1,back⟩ := St.frame (L := [_]) (M := _ :: _ :: _ :: _ :: _ :: []) hw
 refine (writeS1_ok β1 w i.epoch hpar J S (kn _ (k_pt 0 rfl rfl)) k (hk.le (by omega)) i.size (by omega) fb _ (by omega) (kU kn 4 rfl) hw1).mono ?_
 rintro e w' (⟨rfl,ok4,hw'⟩ | ⟨rfl,ok4,hw'⟩)
 ·refine .inl ⟨_,rfl,_,back _ _ hw',?_⟩
  clear hw hw1 hw' back kn sb
  refine panR ?_
  intro w hw
  exact .inl ⟨rfl,ok4,st_mask [true,true,true,true,true,true] rfl (hw.perm (L' := [pt J (.cells #[pp S 0,Nx (i.epoch),Nx (i.next),vs,vr,Nx (i.size),vd] 143),pt q2 (.cells #[pp J 0] 89),pt q7 (.cells #[pp J 1] 141),pt q8 (.cells #[sB pb fb cb] 27),rB pb fb cb,storeR S (wrS k i.epoch i.size fb)]) (by exact (perm_ix [1,2,3,4,5,0] 6 rfl (by kernel_rfl) (by kernel_rfl))))⟩
 refine .inr ⟨_,rfl,_,back _ _ hw',?_⟩
 clear hw hw1 hw' back kn sb
 refine l_nil (end0 Tryz.results63 ?_)
 intro w hw
 exact .inr ⟨rfl,ok4,st_mask [true,true,true,true,true,true] rfl (hw.perm (L' := [pt J (.cells #[pp S 0,Nx (i.epoch),Nx (i.next),vs,vr,Nx (i.size),vd] 143),pt q2 (.cells #[pp J 0] 89),pt q7 (.cells #[pp J 1] 141),pt q8 (.cells #[sB pb fb cb] 27),rB pb fb cb,storeR S (wrS k i.epoch i.size fb)]) (by exact (perm_ix [1,2,3,4,5,0] 6 rfl (by kernel_rfl) (by kernel_rfl))))⟩
set_option maxHeartbeats 4000000 in
theorem open1_ok (β : Base) (w : World) (J S q6 q1 q4 : Nat) (k : KS) (i : KI) (vs vr vd : Value) (hk : k.fits 524288) (hw : St β [pt J (.cells #[pp S 0, Nx (i.epoch), Nx (i.next), vs, vr, Nx (i.size), vd] 143), pt q6 (.cells #[pp J 0] 89), pt q1 (.cells #[pp S 0] 26), pt q4 (.cells #[Nx (i.epoch), Nx (i.next), vs, vr, Nx (i.size)] 109), storeR S k] w) : Calls Tryz.prog 89 #[pp q6 0, pp q1 0, pp q4 0] w fun r w' => (r = .panicked chP ∧ ¬ cutOk (k.area i.epoch) k.power i.size ∧ St β [pt J (.cells #[pp S 0, Nx (i.epoch), Nx (i.next), vs, vr, Nx (i.size), vd] 143), pt q6 (.cells #[pp J 0] 89), pt q1 (.cells #[pp S 0] 26), pt q4 (.cells #[Nx (i.epoch), Nx (i.next), vs, vr, Nx (i.size)] 109), storeR S k] w') ∨ (r = .returned (.tuple #[]) ∧ cutOk (k.area i.epoch) k.power i.size ∧ St β [pt J (.cells #[pp S 0, Nx (i.epoch), Nx (i.next), vs, vr, Nx (i.size), vd] 143), pt q6 (.cells #[pp J 0] 89), pt q1 (.cells #[pp S 0] 26), pt q4 (.cells #[Nx (i.epoch), Nx (i.next), vs, vr, Nx (i.size)] 109), storeR S (cutS k i.epoch i.size)] w') := by
 refine enter (n := 13) Tryz.func89 rfl Tryz.ntmps89 rfl ?_ hw
 rcases Nat.mod_two_eq_zero_or_one i.epoch with hpar | hpar
 ·refine c_any_end 9 rfl rfl [⟨[],[],[0],[3],fun f => f 3 = pp J 0⟩,⟨[],[],[1],[4],fun f => f 4 = pp S 0⟩,⟨[1],[1],[],[5],fun f => f 5 = .agg #[pp S 1,pp S 2]⟩,⟨[],[],[2],[6],fun f => f 6 = pp q4 0⟩,⟨[3],[3],[],[7],fun f => f 7 = Nx (i.epoch)⟩,⟨[3,4],[4],[],[8],fun f => f 8 = .int .i64 (0)⟩,⟨[1,2,3,4,5],[2,5],[],[9],fun f => f 9 = pp S 1⟩,⟨[],[],[2],[10],fun f => f 10 = pp q4 4⟩,⟨[7],[7],[],[11],fun f => f 11 = Nx (i.size)⟩,⟨(List.range 9),[],[],[],fun _ => True⟩] [⟨none,none,[],[],fun _ => pt J (.cells #[pp S 0,Nx (i.epoch),Nx (i.next),vs,vr,Nx (i.size),vd] 143)⟩,⟨none,none,[0],[],fun _ => pt q6 (.cells #[pp J 0] 89)⟩,⟨none,none,[1],[],fun _ => pt q1 (.cells #[pp S 0] 26)⟩,⟨none,none,[4,8],[],fun _ => pt q4 (.cells #[Nx (i.epoch),Nx (i.next),vs,vr,Nx (i.size)] 109)⟩,⟨none,none,[],[],fun _ => storeR S k⟩] [(0,pp q6 0),(1,pp q1 0),(2,pp q4 0)] [] [] (by kernel_rfl) (by kernel_rfl) (by kernel_rfl) (by kernel_rfl) (by kernel_rfl) (by kernel_rfl) rfl ⟨rfl,rfl,rfl,trivial⟩ ⟨?_,?_,?_,?_,?_,?_,?_,?_,?_,trivial⟩ ?_
  ·rintro f M - ⟨i0,-⟩
   exact obE (olp 0)
  ·rintro f M - ⟨i0,-⟩
   exact obE (olp 0)
  ·rintro f M ⟨k0,-⟩ -
   refine ob_start (L' := M) (by rfl) (up_cons (d := 4) rfl k0) (lcR clA (fun w β1 sb kn hw1 => areas_ok β1 w hw1 S) (l_nil ?_))
   exact f_owes_d (up_cons (d := 4) rfl k0) rfl (List.Perm.refl _)
  ·rintro f M - ⟨i0,-⟩
   exact obE ofp
  ·rintro f M ⟨k0,-⟩ -
   exact obE (oli 0)
  ·rintro f M ⟨k0,-⟩ -
   exact ob0 (up_cons (d := 7) rfl k0) rfl (ev_eq (by rw [hpar]; rfl) (e_rem (a := ((i.epoch : Nat) : Int)) (b := (2 : Int)) rfl rfl (by decide) (nat_tmod _ 2))) (.refl _)
  ·rintro f M ⟨k0,k1,-⟩ -
   exact ob0 (up_cons (d := 8) (up_cons (d := 5) rfl k0) k1) rfl (e_index_a (cs := #[pp S 1,pp S 2]) (k := 0) rfl rfl tf28.ok rfl (by decide) tf49.ok) (.refl _)
  ·rintro f M - ⟨i0,-⟩
   exact obE ofp
  ·rintro f M ⟨k0,-⟩ -
   exact obE (oli 0)
  rintro fa1 ⟨k0,-,-,-,-,-,k6,-,k8,-⟩ -
  refine l_re (L' := [pt J (.cells #[pp S 0,Nx (i.epoch),Nx (i.next),vs,vr,Nx (i.size),vd] 143),pt q6 (.cells #[pp J 0] 89),pt q1 (.cells #[pp S 0] 26),pt q4 (.cells #[Nx (i.epoch),Nx (i.next),vs,vr,Nx (i.size)] 109),storeR S k]) (by rfl) ?_
  refine l_rebase (d := 3) (v := pp J 0) k0 (l_rebase (d := 9) (v := pp S 1) k6 (l_rebase (d := 11) (v := Nx (i.size)) k8 ?_))
  refine l_callP rfl rfl rfl (cl0 (vs := [pp J 0,pp S 1,Nx (i.size)]) tf52.ok rfl rfl) ?_
  intro w hw
  replace hw := hw.perm (L' := _ :: _ :: _ :: _ :: _ :: []) (by exact (((((perm_front 3 rfl).trans (perm_front 3 rfl)).trans (perm_front 3 rfl)).trans (perm_front 3 rfl)).trans (perm_front 4 rfl)))
  obtain ⟨β1,sb,kn,hw1,back⟩ := St.frame (L := [_]) (M := _ :: _ :: _ :: _ :: []) hw
  refine (cutS0_ok β1 w i.epoch hpar J S (kn _ (k_pt 0 rfl rfl)) k (hk.le (by omega)) i.size hw1).mono ?_
  rintro e w' (⟨rfl,ok2,hw'⟩ | ⟨rfl,ok2,hw'⟩)
  ·refine .inl ⟨_,rfl,_,back _ _ hw',?_⟩
   clear hw hw1 hw' back kn sb
   refine panR ?_
   intro w hw
   exact .inl ⟨rfl,ok2,st_mask [true,true,true,true,true] rfl (hw.perm (L' := [pt J (.cells #[pp S 0,Nx (i.epoch),Nx (i.next),vs,vr,Nx (i.size),vd] 143),pt q6 (.cells #[pp J 0] 89),pt q1 (.cells #[pp S 0] 26),pt q4 (.cells #[Nx (i.epoch),Nx (i.next),vs,vr,Nx (i.size)] 109),storeR S k]) (by exact (perm_ix [1,2,3,4,0] 5 rfl (by kernel_rfl) (by kernel_rfl))))⟩
  refine .inr ⟨_,rfl,_,back _ _ hw',?_⟩
  clear hw hw1 hw' back kn sb
  refine l_nil (end0 Tryz.results89 ?_)
  intro w hw
  exact .inr ⟨rfl,ok2,st_mask [true,true,true,true,true] rfl (hw.perm (L' := [pt J (.cells #[pp S 0,Nx (i.epoch),Nx (i.next),vs,vr,Nx (i.size),vd] 143),pt q6 (.cells #[pp J 0] 89),pt q1 (.cells #[pp S 0] 26),pt q4 (.cells #[Nx (i.epoch),Nx (i.next),vs,vr,Nx (i.size)] 109),storeR S (cutS k i.epoch i.size)]) (by exact (perm_ix [1,2,3,4,0] 5 rfl (by kernel_rfl) (by kernel_rfl))))⟩
 refine c_any_end 9 rfl rfl [⟨[],[],[0],[3],fun f => f 3 = pp J 0⟩,⟨[],[],[1],[4],fun f => f 4 = pp S 0⟩,⟨[1],[1],[],[5],fun f => f 5 = .agg #[pp S 1,pp S 2]⟩,⟨[],[],[2],[6],fun f => f 6 = pp q4 0⟩,⟨[3],[3],[],[7],fun f => f 7 = Nx (i.epoch)⟩,⟨[3,4],[4],[],[8],fun f => f 8 = .int .i64 (1)⟩,⟨[1,2,3,4,5],[2,5],[],[9],fun f => f 9 = pp S 2⟩,⟨[],[],[2],[10],fun f => f 10 = pp q4 4⟩,⟨[7],[7],[],[11],fun f => f 11 = Nx (i.size)⟩,⟨(List.range 9),[],[],[],fun _ => True⟩] [⟨none,none,[],[],fun _ => pt J (.cells #[pp S 0,Nx (i.epoch),Nx (i.next),vs,vr,Nx (i.size),vd] 143)⟩,⟨none,none,[0],[],fun _ => pt q6 (.cells #[pp J 0] 89)⟩,⟨none,none,[1],[],fun _ => pt q1 (.cells #[pp S 0] 26)⟩,⟨none,none,[4,8],[],fun _ => pt q4 (.cells #[Nx (i.epoch),Nx (i.next),vs,vr,Nx (i.size)] 109)⟩,⟨none,none,[],[],fun _ => storeR S k⟩] [(0,pp q6 0),(1,pp q1 0),(2,pp q4 0)] [] [] (by kernel_rfl) (by kernel_rfl) (by kernel_rfl) (by kernel_rfl) (by kernel_rfl) (by kernel_rfl) rfl ⟨rfl,rfl,rfl,trivial⟩ ⟨?_,?_,?_,?_,?_,?_,?_,?_,?_,trivial⟩ ?_
 ·rintro f M - ⟨i0,-⟩
  exact obE (olp 0)
 ·rintro f M - ⟨i0,-⟩
  exact obE (olp 0)
 ·rintro f M ⟨k0,-⟩ -
  refine ob_start (L' := M) (by rfl) (up_cons (d := 4) rfl k0) (lcR clA (fun w β1 sb kn hw1 => areas_ok β1 w hw1 S) (l_nil ?_))
  exact f_owes_d (up_cons (d := 4) rfl k0) rfl (List.Perm.refl _)
 ·rintro f M - ⟨i0,-⟩
  exact obE ofp
 ·rintro f M ⟨k0,-⟩ -
  exact obE (oli 0)
 ·rintro f M ⟨k0,-⟩ -
  exact ob0 (up_cons (d := 7) rfl k0) rfl (ev_eq (by rw [hpar]; rfl) (e_rem (a := ((i.epoch : Nat) : Int)) (b := (2 : Int)) rfl rfl (by decide) (nat_tmod _ 2))) (.refl _)
 ·rintro f M ⟨k0,k1,-⟩ -
  exact ob0 (up_cons (d := 8) (up_cons (d := 5) rfl k0) k1) rfl (e_index_a (cs := #[pp S 1,pp S 2]) (k := 1) rfl rfl tf28.ok rfl (by decide) tf49.ok) (.refl _)
 ·rintro f M - ⟨i0,-⟩
  exact obE ofp
 ·rintro f M ⟨k0,-⟩ -
  exact obE (oli 0)
 rintro fa3 ⟨k0,-,-,-,-,-,k6,-,k8,-⟩ -
 refine l_re (L' := [pt J (.cells #[pp S 0,Nx (i.epoch),Nx (i.next),vs,vr,Nx (i.size),vd] 143),pt q6 (.cells #[pp J 0] 89),pt q1 (.cells #[pp S 0] 26),pt q4 (.cells #[Nx (i.epoch),Nx (i.next),vs,vr,Nx (i.size)] 109),storeR S k]) (by rfl) ?_
 refine l_rebase (d := 3) (v := pp J 0) k0 (l_rebase (d := 9) (v := pp S 2) k6 (l_rebase (d := 11) (v := Nx (i.size)) k8 ?_))
 refine l_callP rfl rfl rfl (cl0 (vs := [pp J 0,pp S 2,Nx (i.size)]) tf52.ok rfl rfl) ?_
 intro w hw
 replace hw := hw.perm (L' := _ :: _ :: _ :: _ :: _ :: []) (by exact (((((perm_front 3 rfl).trans (perm_front 3 rfl)).trans (perm_front 3 rfl)).trans (perm_front 3 rfl)).trans (perm_front 4 rfl)))
 obtain ⟨β1,sb,kn,hw1,back⟩ := St.frame (L := [_]) (M := _ :: _ :: _ :: _ :: []) hw
 refine (cutS1_ok β1 w i.epoch hpar J S (kn _ (k_pt 0 rfl rfl)) k (hk.le (by omega)) i.size hw1).mono ?_
 rintro e w' (⟨rfl,ok4,hw'⟩ | ⟨rfl,ok4,hw'⟩)
 ·refine .inl ⟨_,rfl,_,back _ _ hw',?_⟩
  clear hw hw1 hw' back kn sb
  refine panR ?_
  intro w hw
  exact .inl ⟨rfl,ok4,st_mask [true,true,true,true,true] rfl (hw.perm (L' := [pt J (.cells #[pp S 0,Nx (i.epoch),Nx (i.next),vs,vr,Nx (i.size),vd] 143),pt q6 (.cells #[pp J 0] 89),pt q1 (.cells #[pp S 0] 26),pt q4 (.cells #[Nx (i.epoch),Nx (i.next),vs,vr,Nx (i.size)] 109),storeR S k]) (by exact (perm_ix [1,2,3,4,0] 5 rfl (by kernel_rfl) (by kernel_rfl))))⟩
 refine .inr ⟨_,rfl,_,back _ _ hw',?_⟩
 clear hw hw1 hw' back kn sb
 refine l_nil (end0 Tryz.results89 ?_)
 intro w hw
 exact .inr ⟨rfl,ok4,st_mask [true,true,true,true,true] rfl (hw.perm (L' := [pt J (.cells #[pp S 0,Nx (i.epoch),Nx (i.next),vs,vr,Nx (i.size),vd] 143),pt q6 (.cells #[pp J 0] 89),pt q1 (.cells #[pp S 0] 26),pt q4 (.cells #[Nx (i.epoch),Nx (i.next),vs,vr,Nx (i.size)] 109),storeR S (cutS k i.epoch i.size)]) (by exact (perm_ix [1,2,3,4,0] 5 rfl (by kernel_rfl) (by kernel_rfl))))⟩
end Go.Proofs
