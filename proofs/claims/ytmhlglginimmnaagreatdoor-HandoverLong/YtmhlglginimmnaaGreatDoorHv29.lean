/-
 HandoverLong: walked. Printed by a program of my own.
-/
import Derived.Test.YtmhlglginimmnaaGreatDoorHv28
import Derived.Test.YtmhlglginimmnaaGreatDoorHvLong
import Derived.Test.YtmhlglginimmnaaGreatDoorSlA
import Derived.Test.YtmhlglginimmnaaGreatDoorSlSortF
set_option linter.unusedVariables false
set_option linter.unusedSimpArgs false
namespace Go.Hv
open Go Go.Sl Go.Jn
theorem c_leave {P : Program} {ro : Option Nat} {n : Nat} {ds : List Deferred} {β : Base} {Q : Exit → Act → World → Prop} {f : Fm} {L M : List Res} {c : Code} {G S N : Nat} {X : KG} {m : Bool} (hL : L = gateR G S X N m :: M) (K : RunC P ro n ds β c Q f (shelfR S X N m :: M)) : RunC P ro n ds β c Q f L := fun a w ha hw => by
 subst hL; exact K a w ha (St.leave hw)
end Go.Hv
namespace Go.Proofs
open Go Go.Sl Go.Hv Go.Jn
instance uu0 : ZerC Tryz.prog 32 (.agg #[.int .i64 (0), .slice none 0 0]) := ⟨by kernel_rfl⟩
instance uu1 : ArrC Tryz.prog 98 4 3 1 := ⟨by kernel_rfl⟩
instance uu2 : ZerC Tryz.prog 98 (.agg #[.int .i64 (0), .int .i64 (0), .int .i64 (0), .int .i64 (0)]) := ⟨by kernel_rfl⟩
theorem uu3 : stB Tryz.prog 100 [(0, 1), (1, 4)] = true := by kernel_rfl
instance uu4 : ZerC Tryz.prog 100 (.agg #[.int .u8 (0), .int .i64 (0), .int .i64 (0), .int .i64 (0), .int .i64 (0)]) := ⟨by kernel_rfl⟩
theorem uu5 : slB Tryz.prog 30 100 5 = true := by kernel_rfl
theorem uu6 : stB Tryz.prog 32 [(0, 1), (1, 1)] = true := by kernel_rfl
instance uu7 : TyC Tryz.prog 32 true 2 := ⟨by kernel_rfl⟩
instance uu8 : CfC Tryz.prog 10 := ⟨by kernel_rfl⟩
instance uu9 : CfC Tryz.prog 9 := ⟨by kernel_rfl⟩
instance uu10 : ZerC Tryz.prog 48 (.agg #[.int .i64 (0), .int .i64 (0), .int .i64 (0), .int .i64 (0), .int .i64 (0), .int .i64 (0), .int .i64 (0), .int .i64 (0), .int .i64 (0), .int .i64 (0), .int .i64 (0), .int .i64 (0), .int .i64 (0), .int .i64 (0), .int .i64 (0), .int .i64 (0), .int .i64 (0), .int .i64 (0), .int .i64 (0), .int .i64 (0), .int .i64 (0)]) := ⟨by kernel_rfl⟩
instance uu11 : CfC Tryz.prog 22 := ⟨by kernel_rfl⟩
instance uu12 : CfC Tryz.prog 11 := ⟨by kernel_rfl⟩
instance uu13 : CfC Tryz.prog 13 := ⟨by kernel_rfl⟩
theorem uu14 : Tryz.prog.underlying 5 = some (.int .u8) := by kernel_rfl
theorem uu15 : Tryz.prog.underlying 3 = some (.int .i64) := by kernel_rfl
instance uu16 : CfC Tryz.prog 21 := ⟨by kernel_rfl⟩
instance uu17 : ArrC Tryz.prog 48 21 3 1 := ⟨by kernel_rfl⟩
instance uu18 : TyC Tryz.prog 3 false 1 := ⟨by kernel_rfl⟩
instance uu19 : CfC Tryz.prog 16 := ⟨by kernel_rfl⟩
instance uu20 : CfC Tryz.prog 20 := ⟨by kernel_rfl⟩
instance uu21 : UndC Tryz.prog 40 32 := ⟨by kernel_rfl⟩
instance uu22 : UndC Tryz.prog 35 38 := ⟨by kernel_rfl⟩
theorem uu23 : slB Tryz.prog 35 38 6 = true := by kernel_rfl
instance uu24 : FldC Tryz.prog 38 4 4 2 true := ⟨by kernel_rfl⟩
instance uu25 : CfC Tryz.prog 18 := ⟨by kernel_rfl⟩
instance uu26 : FldC Tryz.prog 38 2 2 1 false := ⟨by kernel_rfl⟩
theorem uu27 : slB Tryz.prog 40 32 2 = true := by kernel_rfl
instance uu28 : CfC Tryz.prog 19 := ⟨by kernel_rfl⟩
theorem big_ok (β : Base) (w : World) (hw : St β [] w) (id tag : Int) : Calls Tryz.prog 22 #[Ix id, Ix tag] w fun r w' => ∃ p c, r = .returned (.agg #[Ix id, .slice p 10 c]) ∧ St β [rowF CpF 100 p c (bigC tag)] w' := by
 refine enter (n := 41) Tryz.func22 rfl Tryz.ntmps22 rfl ?_ hw
 refine csr (alE fun b1 => lnc (lE oai (lnc (lE omi ?_))))
 refine lv (v := .agg #[.int .i64 (1048576),.int .i64 (-1048576),.int .i64 (0),.int .i64 (0)]) (e_build_a uu2.ok uu1.ok (vs := [(0,.int .i64 (1048576)),(1,.int .i64 (-1048576))]) (cells := #[.int .i64 (1048576),.int .i64 (-1048576),.int .i64 (0),.int .i64 (0)]) rfl (by kernel_rfl)) ?_
 refine lv (v := .agg #[.int .u8 (1),.int .i64 (1048576),.int .i64 (-1048576),.int .i64 (0),.int .i64 (0)]) (e_build uu4.ok uu3 (vs := [(0,.int .u8 (1)),(1,.agg #[.int .i64 (1048576),.int .i64 (-1048576),.int .i64 (0),.int .i64 (0)])]) (cells := #[.int .u8 (1),.int .i64 (1048576),.int .i64 (-1048576),.int .i64 (0),.int .i64 (0)]) rfl (by kernel_rfl)) ?_
 refine lv (v := .agg #[.int .i64 (4096),.int .i64 (-4096),.int .i64 (0),.int .i64 (0)]) (e_build_a uu2.ok uu1.ok (vs := [(0,.int .i64 (4096)),(1,.int .i64 (-4096))]) (cells := #[.int .i64 (4096),.int .i64 (-4096),.int .i64 (0),.int .i64 (0)]) rfl (by kernel_rfl)) ?_
 refine lv (v := .agg #[.int .u8 (2),.int .i64 (4096),.int .i64 (-4096),.int .i64 (0),.int .i64 (0)]) (e_build uu4.ok uu3 (vs := [(0,.int .u8 (2)),(1,.agg #[.int .i64 (4096),.int .i64 (-4096),.int .i64 (0),.int .i64 (0)])]) (cells := #[.int .u8 (2),.int .i64 (4096),.int .i64 (-4096),.int .i64 (0),.int .i64 (0)]) rfl (by kernel_rfl)) ?_
 refine lv (v := .agg #[.int .i64 (16384),.int .i64 (16384),.int .i64 (0),.int .i64 (1)]) (e_build_a uu2.ok uu1.ok (vs := [(0,.int .i64 (16384)),(1,.int .i64 (16384)),(2,.int .i64 (0)),(3,.int .i64 (1))]) (cells := #[.int .i64 (16384),.int .i64 (16384),.int .i64 (0),.int .i64 (1)]) rfl (by kernel_rfl)) ?_
 refine lv (v := .agg #[.int .u8 (3),.int .i64 (16384),.int .i64 (16384),.int .i64 (0),.int .i64 (1)]) (e_build uu4.ok uu3 (vs := [(0,.int .u8 (3)),(1,.agg #[.int .i64 (16384),.int .i64 (16384),.int .i64 (0),.int .i64 (1)])]) (cells := #[.int .u8 (3),.int .i64 (16384),.int .i64 (16384),.int .i64 (0),.int .i64 (1)]) rfl (by kernel_rfl)) ?_
 refine lv (v := .agg #[.int .i64 (8),.int .i64 (0),.int .i64 (0),.int .i64 (0)]) (e_build_a uu2.ok uu1.ok (vs := [(0,.int .i64 (8))]) (cells := #[.int .i64 (8),.int .i64 (0),.int .i64 (0),.int .i64 (0)]) rfl (by kernel_rfl)) ?_
 refine lv (v := .agg #[.int .u8 (4),.int .i64 (8),.int .i64 (0),.int .i64 (0),.int .i64 (0)]) (e_build uu4.ok uu3 (vs := [(0,.int .u8 (4)),(1,.agg #[.int .i64 (8),.int .i64 (0),.int .i64 (0),.int .i64 (0)])]) (cells := #[.int .u8 (4),.int .i64 (8),.int .i64 (0),.int .i64 (0),.int .i64 (0)]) rfl (by kernel_rfl)) ?_
 refine lv (v := .agg #[.int .i64 (510),.int .i64 (0),.int .i64 (0),.int .i64 (0)]) (e_build_a uu2.ok uu1.ok (vs := [(0,.int .i64 (510))]) (cells := #[.int .i64 (510),.int .i64 (0),.int .i64 (0),.int .i64 (0)]) rfl (by kernel_rfl)) ?_
 refine lv (v := .agg #[.int .u8 (5),.int .i64 (510),.int .i64 (0),.int .i64 (0),.int .i64 (0)]) (e_build uu4.ok uu3 (vs := [(0,.int .u8 (5)),(1,.agg #[.int .i64 (510),.int .i64 (0),.int .i64 (0),.int .i64 (0)])]) (cells := #[.int .u8 (5),.int .i64 (510),.int .i64 (0),.int .i64 (0),.int .i64 (0)]) rfl (by kernel_rfl)) ?_
 refine lv (v := .agg #[.int .i64 (15),.int .i64 (0),.int .i64 (0),.int .i64 (0)]) (e_build_a uu2.ok uu1.ok (vs := [(0,.int .i64 (15))]) (cells := #[.int .i64 (15),.int .i64 (0),.int .i64 (0),.int .i64 (0)]) rfl (by kernel_rfl)) ?_
 refine lv (v := .agg #[.int .u8 (6),.int .i64 (15),.int .i64 (0),.int .i64 (0),.int .i64 (0)]) (e_build uu4.ok uu3 (vs := [(0,.int .u8 (6)),(1,.agg #[.int .i64 (15),.int .i64 (0),.int .i64 (0),.int .i64 (0)])]) (cells := #[.int .u8 (6),.int .i64 (15),.int .i64 (0),.int .i64 (0),.int .i64 (0)]) rfl (by kernel_rfl)) ?_
 refine lE omi (lE omi (lE omi (lE omi ?_)))
 refine lv (v := .agg #[.int .i64 (2147483647),.int .i64 (2147483647),.int .i64 (2147483647),.int .i64 (2147483647)]) (e_build_a uu2.ok uu1.ok (vs := [(0,.int .i64 (2147483647)),(1,.int .i64 (2147483647)),(2,.int .i64 (2147483647)),(3,.int .i64 (2147483647))]) (cells := #[.int .i64 (2147483647),.int .i64 (2147483647),.int .i64 (2147483647),.int .i64 (2147483647)]) rfl (by kernel_rfl)) ?_
 refine lv (v := .agg #[.int .u8 (7),.int .i64 (2147483647),.int .i64 (2147483647),.int .i64 (2147483647),.int .i64 (2147483647)]) (e_build uu4.ok uu3 (vs := [(0,.int .u8 (7)),(1,.agg #[.int .i64 (2147483647),.int .i64 (2147483647),.int .i64 (2147483647),.int .i64 (2147483647)])]) (cells := #[.int .u8 (7),.int .i64 (2147483647),.int .i64 (2147483647),.int .i64 (2147483647),.int .i64 (2147483647)]) rfl (by kernel_rfl)) ?_
 refine lv (v := .agg #[.int .i64 (1048576),.int .i64 (1048576),.int .i64 (0),.int .i64 (0)]) (e_build_a uu2.ok uu1.ok (vs := [(0,.int .i64 (1048576)),(1,.int .i64 (1048576))]) (cells := #[.int .i64 (1048576),.int .i64 (1048576),.int .i64 (0),.int .i64 (0)]) rfl (by kernel_rfl)) ?_
 refine lv (v := .agg #[.int .u8 (8),.int .i64 (1048576),.int .i64 (1048576),.int .i64 (0),.int .i64 (0)]) (e_build uu4.ok uu3 (vs := [(0,.int .u8 (8)),(1,.agg #[.int .i64 (1048576),.int .i64 (1048576),.int .i64 (0),.int .i64 (0)])]) (cells := #[.int .u8 (8),.int .i64 (1048576),.int .i64 (1048576),.int .i64 (0),.int .i64 (0)]) rfl (by kernel_rfl)) ?_
 refine lE omi (lE omi (lE omi (lE omi ?_)))
 refine lv (v := .agg #[.int .i64 (2147483647),.int .i64 (2147483647),.int .i64 (2147483647),.int .i64 (2147483647)]) (e_build_a uu2.ok uu1.ok (vs := [(0,.int .i64 (2147483647)),(1,.int .i64 (2147483647)),(2,.int .i64 (2147483647)),(3,.int .i64 (2147483647))]) (cells := #[.int .i64 (2147483647),.int .i64 (2147483647),.int .i64 (2147483647),.int .i64 (2147483647)]) rfl (by kernel_rfl)) ?_
 refine lv (v := .agg #[.int .u8 (9),.int .i64 (2147483647),.int .i64 (2147483647),.int .i64 (2147483647),.int .i64 (2147483647)]) (e_build uu4.ok uu3 (vs := [(0,.int .u8 (9)),(1,.agg #[.int .i64 (2147483647),.int .i64 (2147483647),.int .i64 (2147483647),.int .i64 (2147483647)])]) (cells := #[.int .u8 (9),.int .i64 (2147483647),.int .i64 (2147483647),.int .i64 (2147483647),.int .i64 (2147483647)]) rfl (by kernel_rfl)) ?_
 refine lE omi (lE omi (lE omi (lE omi ?_)))
 refine lv (v := .agg #[.int .i64 (2147483647),.int .i64 (2147483647),.int .i64 (2147483647),Ix (tag)]) (e_build_a uu2.ok uu1.ok (vs := [(0,.int .i64 (2147483647)),(1,.int .i64 (2147483647)),(2,.int .i64 (2147483647)),(3,Ix (tag))]) (cells := #[.int .i64 (2147483647),.int .i64 (2147483647),.int .i64 (2147483647),Ix (tag)]) rfl (by kernel_rfl)) ?_
 refine lv (v := .agg #[.int .u8 (10),.int .i64 (2147483647),.int .i64 (2147483647),.int .i64 (2147483647),Ix (tag)]) (e_build uu4.ok uu3 (vs := [(0,.int .u8 (10)),(1,.agg #[.int .i64 (2147483647),.int .i64 (2147483647),.int .i64 (2147483647),Ix (tag)])]) (cells := #[.int .u8 (10),.int .i64 (2147483647),.int .i64 (2147483647),.int .i64 (2147483647),Ix (tag)]) rfl (by kernel_rfl)) ?_
 refine l_mv rfl rfl rfl (m_slices uu5 uu4.ok (cells := #[.int .u8 (1),.int .i64 (1048576),.int .i64 (-1048576),.int .i64 (0),.int .i64 (0),.int .u8 (2),.int .i64 (4096),.int .i64 (-4096),.int .i64 (0),.int .i64 (0),.int .u8 (3),.int .i64 (16384),.int .i64 (16384),.int .i64 (0),.int .i64 (1),.int .u8 (4),.int .i64 (8),.int .i64 (0),.int .i64 (0),.int .i64 (0),.int .u8 (5),.int .i64 (510),.int .i64 (0),.int .i64 (0),.int .i64 (0),.int .u8 (6),.int .i64 (15),.int .i64 (0),.int .i64 (0),.int .i64 (0),.int .u8 (7),.int .i64 (2147483647),.int .i64 (2147483647),.int .i64 (2147483647),.int .i64 (2147483647),.int .u8 (8),.int .i64 (1048576),.int .i64 (1048576),.int .i64 (0),.int .i64 (0),.int .u8 (9),.int .i64 (2147483647),.int .i64 (2147483647),.int .i64 (2147483647),.int .i64 (2147483647),.int .u8 (10),.int .i64 (2147483647),.int .i64 (2147483647),.int .i64 (2147483647),Ix (tag)]) rfl rfl rfl (by kernel_rfl)) ?_
 rintro _ _ ⟨b2,rfl,rfl⟩
 refine lv (v := .agg #[Ix (id),.slice (some ⟨b2,0,none⟩) 10 10]) (e_build uu0.ok uu6 (vs := [(0,Ix (id)),(1,.slice (some ⟨b2,0,none⟩) 10 10)]) (cells := #[Ix (id),.slice (some ⟨b2,0,none⟩) 10 10]) rfl rfl) ?_
 refine lu (mS 1 (#[Ix (id),.slice (some ⟨b2,0,none⟩) 10 10])) (lnf (c_ret ?_))
 refine retG (m := [.agg #[Ix (id),.slice (some ⟨b2,0,none⟩) 10 10]]) Tryz.results22 ⟨rd_cell uu7.ok rfl (k_pt 1 rfl rfl) rfl,trivial⟩ rfl ?_
 intro w hw
 replace hw := st_mask (L' := [pt b2 (.cells #[.int .u8 (1),.int .i64 (1048576),.int .i64 (-1048576),.int .i64 (0),.int .i64 (0),.int .u8 (2),.int .i64 (4096),.int .i64 (-4096),.int .i64 (0),.int .i64 (0),.int .u8 (3),.int .i64 (16384),.int .i64 (16384),.int .i64 (0),.int .i64 (1),.int .u8 (4),.int .i64 (8),.int .i64 (0),.int .i64 (0),.int .i64 (0),.int .u8 (5),.int .i64 (510),.int .i64 (0),.int .i64 (0),.int .i64 (0),.int .u8 (6),.int .i64 (15),.int .i64 (0),.int .i64 (0),.int .i64 (0),.int .u8 (7),.int .i64 (2147483647),.int .i64 (2147483647),.int .i64 (2147483647),.int .i64 (2147483647),.int .u8 (8),.int .i64 (1048576),.int .i64 (1048576),.int .i64 (0),.int .i64 (0),.int .u8 (9),.int .i64 (2147483647),.int .i64 (2147483647),.int .i64 (2147483647),.int .i64 (2147483647),.int .u8 (10),.int .i64 (2147483647),.int .i64 (2147483647),.int .i64 (2147483647),Ix (tag)] 100)]) [true,false] rfl hw
 exact ⟨some ⟨b2,0,none⟩,10,rfl,hw.conseq (pt_rowF (F := CpF) (xs := bigC tag) rfl (by rw [bigC_len]; decide))⟩
set_option maxHeartbeats 4000000 in
theorem long_ok (β : Base) (w : World) (hw : St β [] w) (hG : GRng β) (n : UInt8) : Ret Tryz.prog 5 #[Bx n] β w (.bool true) := by
 refine enter (n := 110) Tryz.func5 rfl Tryz.ntmps5 rfl ?_ hw
 refine csr (lE oab (lnc (lcf (cl0 (vs := []) uu8.ok rfl rfl) rfl fun w β1 sb kn hw1 back => (empty_ok β1 w hw1 3 (by decide)).mono ?_)))
 rintro e w' ⟨S1,rfl,hw'⟩
 refine ⟨_,rfl,_,back _ _ hw',?_⟩
 clear hw1 hw' back kn sb
 refine lE oap (lnc (lE omp (l_call rfl rfl rfl (cl0 (vs := [.int .i64 (3),pp S1 0]) uu9.ok rfl rfl) ?_)))
 intro w hw
 replace hw := hw.perm (L' := _ :: []) (by exact (perm_front 0 rfl))
 obtain ⟨β1,sb,kn,hw1,back⟩ := St.frame (L := [_]) (M := []) hw
 refine ((gopen_ok β1 w S1 0 (freshG 3) true hw1 (by decide)).mono fun _ _ z => open_yes z).mono ?_
 rintro e w' ⟨G2,rfl,hw'⟩
 refine ⟨_,rfl,_,back _ _ hw',?_⟩
 clear hw hw1 hw' back kn sb
 refine lE omt (lE oxp (lE oxi (lE oap (lE oai (lnf (cs2 (c_region (lE omi (lE onq (lnf (c_no rfl (csk (csr (alE fun b3 => lnf (cs2 ?_)))))))))))))))
 refine c_re (L' := [pt b3 (.cells #[.int .i64 (0),.int .i64 (0),.int .i64 (0),.int .i64 (0),.int .i64 (0),.int .i64 (0),.int .i64 (0),.int .i64 (0),.int .i64 (0),.int .i64 (0),.int .i64 (0),.int .i64 (0),.int .i64 (0),.int .i64 (0),.int .i64 (0),.int .i64 (0),.int .i64 (0),.int .i64 (0),.int .i64 (0),.int .i64 (0),.int .i64 (0)] 48),gateR G2 S1 (lgP 0) 0 true]) rfl ?_
 refine c_conseq 0 (r' := rowF IntF 48 (some ⟨b3,0,none⟩) 21 (List.replicate 21 0)) rfl (pt_rowF (F := IntF) (xs := (List.replicate 21 0)) rfl (by decide)) ?_
 refine c_region (lE oai (lnf (c_block ?_)))
 refine c_loop (fun (x_ : Nat × Nat) f L => match x_ with | (j,n1) => (f 0 = Bx (n) ∧ f 3 = pp S1 0 ∧ f 4 = pp G2 0 ∧ f 6 = pp b3 0 ∧ f 7 = Nx (j + 1)) ∧ L = [rowF IntF 48 (some ⟨b3,0,none⟩) 21 (List.replicate 21 0),gateR G2 S1 (lgP j) n1 true] ∧ (j ≤ 20 ∧ n1 ≤ 300 * j)) (fun (j,n1) => 20 - j) (0,0) ?_ ?_
 ·exact ⟨⟨rfl,rfl,rfl,rfl,rfl⟩,rfl,⟨Nat.zero_le _,Nat.le_refl _⟩⟩
 rintro ⟨j,n1⟩ f0 L0 ⟨⟨hs0,hs3,hs4,hs6,hs7⟩,hL,⟨hj,hn1⟩⟩
 subst L0
 refine rbs 0 hs0 (rbs 3 hs3 (rbs 4 hs4 (rbs 6 hs6 (rbs 7 hs7 (cs2 (c_region (lE omi (lE ole (lnf (c_if _ rfl (fun hc4 => ?_) (fun hc4 => ?_)))))))))))
 ·refine csk (c_seq (c_block (csr (lE omp (lE omi ?_)))))
  refine lcf (cl0 (vs := [Nx (j + 1),.int .i64 (0)]) uu11.ok rfl rfl) rfl fun w β1 sb kn hw1 back => (big_ok β1 w hw1 ((j + 1 : Nat) : Int) 0).mono ?_
  rintro e w' ⟨p5,c6,rfl,hw'⟩
  refine ⟨_,rfl,_,back _ _ hw',?_⟩
  clear hw1 hw' back kn sb
  refine l_call rfl rfl rfl (cl0 (vs := [pp G2 0,.agg #[Nx (j + 1),.slice p5 (10) c6]]) uu12.ok rfl rfl) ?_
  intro w hw
  replace hw := hw.perm (L' := _ :: _ :: _ :: []) (by exact (((perm_front 1 rfl).trans (perm_front 1 rfl)).trans (perm_front 2 rfl)))
  obtain ⟨β1,sb,kn,hw1,back⟩ := St.frame (L := [_]) (M := _ :: _ :: []) hw
  refine ((gput_ok β1 w (Cs.mono _ _ _ _ sb hG) G2 S1 n1 (lgP j) true hw1 (by omega) (bigE ((j + 1 : Nat) : Int) 0) _ (kn _ (k_flN 0 (F := CpF) (m := 10) rfl rfl))).mono fun _ _ z => act_yes (N' := (n1 + 300)) (Y := (lgP (j + 1))) (lgP_put (by omega)) lgP_put2 (Nat.le_refl _) z).mono ?_
  rintro e w' ⟨rfl,hw'⟩
  refine ⟨_,rfl,_,back _ _ hw',?_⟩
  clear hw hw1 hw' back kn sb
  refine lE onq (lnf (c_no rfl (c_skip (f_block (f_then (c_region (lE omi (lv (v := Nx ((j + 1) + 1)) (e_add rfl rfl (i64n (by omega) (by omega))) ?_))))))))
  refine lE oai (l_nil (fpn [2,0,1] 3 ?_))
  refine f_mask [true,true,false] rfl ?_
  exact f_cut ⟨(j + 1,(n1 + 300)),⟨⟨rfl,rfl,rfl,rfl,rfl⟩,rfl,⟨by omega,by omega⟩⟩,(show 20 - (j + 1) < 20 - j from by omega)⟩
 refine c_exit (f_then_exit (f_then_exit (f_exit (fts (c_seq ?_)))))
 have hj20 : j = 20 := by omega
 subst hj20
 refine c_region (lE omp (l_call rfl rfl rfl (cl0 (vs := [pp G2 0,.int .i64 (20),.int .i64 (1)]) uu13.ok rfl rfl) ?_))
 intro w hw
 replace hw := hw.perm (L' := _ :: _ :: []) (by exact ((perm_front 0 rfl).trans (perm_front 1 rfl)))
 obtain ⟨β1,sb,kn,hw1,back⟩ := St.frame (L := [_]) (M := _ :: []) hw
 refine ((ggive_ok β1 w (Cs.mono _ _ _ _ sb hG) G2 S1 n1 (lgP 20) true hw1 (by omega) 20 1 (by decide) (by decide)).mono fun _ _ z => act_yes (N' := (n1 + 300)) (Y := (lgX (List.replicate 21 0))) lg_give lg_give2 (Nat.le_refl _) z).mono ?_
 rintro e w' ⟨rfl,hw'⟩
 refine ⟨_,rfl,_,back _ _ hw',?_⟩
 clear hw hw1 hw' back kn sb
 refine lE onq (lnf (c_no rfl (csk (cs2 (c_region (lE oai (lnf (c_block ?_))))))))
 refine c_loop (fun (x_ : Nat × List Int × Nat × Nat) f L => match x_ with | (i,tl,G,n2) => (f 0 = Bx (n) ∧ f 3 = pp S1 0 ∧ f 4 = pp G 0 ∧ f 6 = pp b3 0 ∧ f 8 = Nx (i + 1)) ∧ L = [gateR G S1 (lgX tl) n2 true,rowF IntF 48 (some ⟨b3,0,none⟩) 21 tl] ∧ (i ≤ 4000 ∧ tl.length = 21 ∧ n2 ≤ 6300 + 300 * i)) (fun (i,tl,G,n2) => 4000 - i) (0,(List.replicate 21 0),G2,(n1 + 300)) ?_ ?_
 ·exact ⟨⟨rfl,rfl,rfl,rfl,rfl⟩,rfl,⟨Nat.zero_le _,by decide,by omega⟩⟩
 rintro ⟨i,tl,G,n2⟩ f0 L0 ⟨⟨hs0,hs3,hs4,hs6,hs8⟩,hL,⟨hi,htl,hn2⟩⟩
 subst L0
 refine rbs 0 hs0 (rbs 3 hs3 (rbs 4 hs4 (rbs 6 hs6 (rbs 8 hs8 (cs2 (c_region (lE omi (lE ole (lnf (c_if _ rfl (fun hc7 => ?_) (fun hc7 => ?_)))))))))))
 ·refine csk (c_seq (c_block (c_seq ?_)))
  have hn8 := n.toNat_lt
  refine c_region (lE omi (lE omi ?_))
  refine lv (v := Nx (n.toNat)) (e_conv (a := ((n).toNat : Int)) rfl ⟨_,uu14⟩ uu15 (i64n rfl (by have := (n).toNat_lt; omega))) (lE opn ?_)
  refine lv (v := Nx (((i + 1) + n.toNat) % 19)) (e_rem (a := (((i + 1) + n.toNat : Nat) : Int)) (b := (19 : Int)) rfl rfl (by decide) (nat_tmod _ 19)) ?_
  refine lv (v := Nx (1 + (((i + 1) + n.toNat) % 19))) (e_add rfl rfl (i64n (by omega) (by omega))) (lE oai (lnf (cs2 ?_)))
  obtain ⟨jd,hjd,hj1,hj2⟩ : ∃ jd : Nat,((jd : Nat) : Int) = ((1 + (((i + 1) + n.toNat) % 19) : Nat) : Int) ∧ 1 ≤ jd ∧ jd ≤ 19 := ⟨_,rfl,by omega,by omega⟩
  refine rbs 9 (v := Nx jd) (show (Nx (1 + (((i + 1) + n.toNat) % 19)) : Value) = Nx jd from congrArg (Value.int .i64) hjd.symm) (c_region (lE omp ?_))
  refine lE omi (lE omi ?_)
  refine lcf (cl0 (vs := [Nx (jd),Nx (i + 1)]) uu11.ok rfl rfl) rfl fun w β1 sb kn hw1 back => (big_ok β1 w hw1 ((jd : Nat) : Int) ((i + 1 : Nat) : Int)).mono ?_
  rintro e w' ⟨p8,c9,rfl,hw'⟩
  refine ⟨_,rfl,_,back _ _ hw',?_⟩
  clear hw1 hw' back kn sb
  refine l_call rfl rfl rfl (cl0 (vs := [pp G 0,.agg #[Nx (jd),.slice p8 (10) c9]]) uu16.ok rfl rfl) ?_
  intro w hw
  replace hw := hw.perm (L' := _ :: _ :: _ :: []) (by exact (((perm_front 2 rfl).trans (perm_front 1 rfl)).trans (perm_front 2 rfl)))
  obtain ⟨β1,sb,kn,hw1,back⟩ := St.frame (L := [_]) (M := _ :: _ :: []) hw
  refine ((gsave_ok β1 w (Cs.mono _ _ _ _ sb hG) G S1 n2 (lgX tl) true hw1 (by omega) (bigE ((jd : Nat) : Int) ((i + 1 : Nat) : Int)) _ (kn _ (k_flN 0 (F := CpF) (m := 10) rfl rfl))).mono fun _ _ z => act_yes (N' := (n2 + 300)) (Y := (lgX (tl.set jd ((i + 1 : Nat) : Int)))) (lgX_save ⟨hj1,hj2⟩ ⟨by omega,by omega⟩) (lgX_save2 htl ⟨hj1,hj2⟩) (Nat.le_refl _) z).mono ?_
  rintro e w' ⟨rfl,hw'⟩
  refine ⟨_,rfl,_,back _ _ hw',?_⟩
  clear hw hw1 hw' back kn sb
  refine lE onq (lnf (c_no rfl (csk (csr (lE omi (lE omi ?_))))))
  refine lv (v := .pointer (some ((ba (some ⟨b3,0,none⟩)).add (jd * 1)))) (e_indexArrI (a := ⟨b3,0,none⟩) (k := jd) rfl rfl uu17.ok (by omega)) ?_
  refine lu (m_storeFl 2 (F := IntF) (p := (some ⟨b3,0,none⟩)) (k := jd) (xs := tl) (z := ((i + 1 : Nat) : Int)) uu18.ok rfl rfl rfl rfl (by omega)) ?_
  refine lnf (cs2 (c_region (lE omi ?_)))
  refine lv (v := Nx ((i + 1) % 500)) (e_rem (a := ((i + 1 : Nat) : Int)) (b := (500 : Int)) rfl rfl (by decide) (nat_tmod _ 500)) (lE onq (lnf ?_))
  refine c_if _ rfl (fun hc10 => ?_) (fun hc10 => ?_)
  ·refine c_exit (f_then_exit (f_exit (f_then (c_region (lE omi (lv (v := Nx ((i + 1) + 1)) (e_add rfl rfl (i64n (by omega) (by omega))) (lE oai ?_)))))))
   refine l_nil (f_mask [true,false,true] rfl ?_)
   exact f_cut ⟨(i + 1,(tl.set jd ((i + 1 : Nat) : Int)),G,(n2 + 300)),⟨⟨rfl,rfl,rfl,rfl,rfl⟩,rfl,⟨by omega,by simp only [sB,List.length_set]; exact htl,by omega⟩⟩,(show 4000 - (i + 1) < 4000 - i from by omega)⟩
  refine csk (cs2 (c_leave rfl (c_region (lE omp (l_call rfl rfl rfl (cl0 (vs := [.int .i64 (3),pp S1 0]) uu9.ok rfl rfl) ?_)))))
  intro w hw
  replace hw := hw.perm (L' := _ :: _ :: _ :: []) (by exact (((perm_front 2 rfl).trans (perm_front 2 rfl)).trans (perm_front 2 rfl)))
  obtain ⟨β1,sb,kn,hw1,back⟩ := St.frame (L := [_]) (M := _ :: _ :: []) hw
  refine ((gopen_ok β1 w S1 (n2 + 300) (lgX (tl.set jd ((i + 1 : Nat) : Int))) true hw1 (by omega)).mono fun _ _ z => open_yes z).mono ?_
  rintro e w' ⟨G11,rfl,hw'⟩
  refine ⟨_,rfl,_,back _ _ hw',?_⟩
  clear hw hw1 hw' back kn sb
  refine lE omt (lE oxp (lE oxi (lE oap (lE oai (lnc (lE omi (lE onq (lnf (c_no rfl (csk (csr (lE omp ?_))))))))))))
  refine l_call rfl rfl rfl (cl0 (vs := [pp G11 0]) uu19.ok rfl rfl) ?_
  intro w hw
  replace hw := hw.perm (L' := _ :: _ :: _ :: []) (by exact (((perm_front 2 rfl).trans (perm_front 2 rfl)).trans (perm_front 2 rfl)))
  obtain ⟨β1,sb,kn,hw1,back⟩ := St.frame (L := [_]) (M := _ :: _ :: []) hw
  refine ((hereG_ok β1 w G11 S1 (n2 + 300) (lgX (tl.set jd ((i + 1 : Nat) : Int))) true hw1).mono fun _ _ z => shownE (L' := (lgH 19 (fun i_ => ((tl.set jd ((i + 1 : Nat) : Int))).getD i_ 0))) rfl z).mono ?_
  rintro e w' ⟨p12,c13,rfl,hw'⟩
  refine ⟨_,rfl,_,back _ _ hw',?_⟩
  clear hw hw1 hw' back kn sb
  refine lE omp (l_call rfl rfl rfl (cl0 (vs := [pp G11 0]) uu20.ok rfl rfl) ?_)
  intro w hw
  replace hw := hw.perm (L' := _ :: _ :: _ :: _ :: []) (by exact ((((perm_front 3 rfl).trans (perm_front 3 rfl)).trans (perm_front 2 rfl)).trans (perm_front 3 rfl)))
  obtain ⟨β1,sb,kn,hw1,back⟩ := St.frame (L := [_]) (M := _ :: _ :: _ :: []) hw
  refine ((outG_ok β1 w G11 S1 (n2 + 300) (lgX (tl.set jd ((i + 1 : Nat) : Int))) true hw1).mono fun _ _ z => shownM (L' := [lgM]) rfl z).mono ?_
  rintro e w' ⟨p14,c15,rfl,hw'⟩
  refine ⟨_,rfl,_,back _ _ hw',?_⟩
  clear hw hw1 hw' back kn sb
  refine lE oas (lE oas (lnf (cs2 (c_openMsgs rfl fun oz16 hoz17 hoh18 => ?_))))
  have hoz17l : oz16.length = [lgM].length := by rw [← hoz17,List.length_map]
  have hoz17k : (oz16.map Prod.fst).length = oz16.length := List.length_map _
  have hoz17n : oz16.length = 1 := hoz17l
  refine rbs 11 (v := sB p14 oz16 c15) (show (sB p14 [lgM] c15 : Value) = sB p14 oz16 c15 from congrArg (fun z => Value.slice p14 z c15) hoz17l.symm) ?_
  obtain ⟨x19,hx20⟩ : ∃ x_,(oz16.map Prod.fst)[0]? = some x_ := ⟨_,List.getElem?_eq_getElem (by first | omega | decide)⟩
  obtain ⟨s21,hs22,hm23,hp24⟩ := msg_at hoz17 hoh18 hx20
  injection hs22 with hs22
  subst hs22
  have hxn : x19.number = 1 := hm23.number
  have hxi : x19.id = 20 := hm23.id
  have hHl := lgH_len 19 (fun i_ => ((tl.set jd ((i + 1 : Nat) : Int))).getD i_ 0)
  refine cnz [sv 67 (sB p12 (lgH 19 (fun i_ => ((tl.set jd ((i + 1 : Nat) : Int))).getD i_ 0)) c13) [] [] [0],sv 68 (Nx ((lgH 19 (fun i_ => ((tl.set jd ((i + 1 : Nat) : Int))).getD i_ 0)).length)) [0] [0] [],sv 69 (.bool false) [0,1] [1] [],sv 70 (.bool false) [0,1,2] [2] [],sv 71 (sB p14 oz16 c15) [0,1,2,3] [3] [1],sv 72 (Nx (oz16.length)) [0,1,2,3,4] [4,3] [],sv 73 (.bool false) (List.range 6) [5,3] [],sv 74 (.bool false) (List.range 7) [3,6] [],sv 75 (.bool false) (List.range 8) [7] [],sv 76 (sB p14 oz16 c15) (List.range 9) [8] [1],sv 77 (.pointer (some ((ba p14).add (0 * 6)))) (List.range 10) [9,8] [],sv 78 (.pointer (some ((ba p14).add (0 * 6 + 4)))) (List.range 11) [10,8] [],sv 79 (.agg #[Ix (x19.id),.slice x19.p (x19.n) x19.c]) (List.range 12) [11,8] [],⟨(List.range 9),[8],[],[80],fun f => f 80 = .agg #[.int .i64 (20),.slice (thA (f 80)) (10) (thC (f 80))]⟩,sv 81 (.bool true) (List.range 14) [12,13,8] [],sv 82 (.bool false) (List.range 15) [14,8] [],sv 83 (.bool false) (List.range 16) [8,15] [],sv 84 (.bool false) (List.range 17) [16] [],sv 85 (sB p14 oz16 c15) (List.range 18) [17] [1],sv 86 (.pointer (some ((ba p14).add (0 * 6)))) (List.range 19) [18,17] [],sv 87 (.pointer (some ((ba p14).add (0 * 6 + 2)))) (List.range 20) [19,17] [],sv 88 (Ix (x19.number)) (List.range 21) [20,17] [],sv 89 (.bool false) (List.range 22) [21,17] [],sv 90 (.bool false) (List.range 23) [17,22] []] [u1 [10,12,19,21],u1 [14]] [⟨(some 13),none,[14],[80],fun f => rowF CpF 100 (thA (f 80)) (thC (f 80)) (bigC 0)⟩] [(10,sB p12 (lgH 19 (fun i_ => ((tl.set jd ((i + 1 : Nat) : Int))).getD i_ 0)) c13),(11,sB p14 oz16 c15),(0,Bx (n)),(3,pp S1 0),(4,pp G11 0),(6,pp b3 0),(8,Nx (i + 1))] [2,3,4,5,6,0] ⟨rfl,rfl,rfl,rfl,rfl,rfl,rfl,trivial⟩ ⟨?_,?_,?_,?_,?_,?_,?_,?_,?_,?_,?_,?_,?_,?_,?_,?_,?_,?_,?_,?_,?_,?_,?_,?_,trivial⟩ ?_
  ·rintro f M - ⟨i0,-⟩
   exact obE oms
  ·rintro f M ⟨k0,-⟩ -
   exact obE oln
  ·rintro f M ⟨k0,-⟩ -
   exact ob0 (up_cons (d := 68) rfl k0) rfl ((ev_f (fun q => q (by first | omega | decide)) (e_neq (a := (((lgH 19 (fun i_ => ((tl.set jd ((i + 1 : Nat) : Int))).getD i_ 0)).length : Nat) : Int)) (b := (19 : Int)) rfl rfl))) (.refl _)
  ·rintro f M ⟨k0,-⟩ -
   exact obE omb
  ·rintro f M ⟨k0,-⟩ ⟨i0,-⟩
   exact obG oms
  ·rintro f M ⟨k0,k1,-⟩ -
   exact obG oln
  ·rintro f M ⟨k0,k1,-⟩ -
   exact obg (L' := M) (v := .bool false) (up_cons (d := 70) (up_cons (d := 72) rfl k0) k1) ((ev_f (fun q => q (by first | omega | decide)) (e_neq (a := ((oz16.length : Nat) : Int)) (b := (1 : Int)) rfl rfl))) rfl rfl rfl rfl (.refl _) (by rfl)
  ·rintro f M ⟨k0,k1,-⟩ -
   exact obE okfb
  ·rintro f M ⟨k0,-⟩ -
   exact obE omb
  ·rintro f M ⟨k0,-⟩ ⟨i0,-⟩
   exact obG oms
  ·rintro f M ⟨k0,k1,-⟩ -
   exact obg (L' := rowF MgF 38 p14 c15 (oz16.map Prod.fst) :: M) (v := .pointer (some ((ba p14).add (0 * 6)))) (up_cons (d := 75) (up_cons (d := 76) rfl k0) k1) (e_indexFlN 0 (F := MgF) (j := 0) (m := oz16.length) (xs := (oz16.map Prod.fst)) rfl (List.length_map _).symm rfl uu23 (by omega) rfl) rfl rfl rfl rfl (perm_front 0 rfl) (by rfl)
  ·rintro f M ⟨k0,k1,-⟩ -
   exact obg (L' := M) (v := .pointer (some ((ba p14).add (0 * 6 + 4)))) (up_cons (d := 75) (up_cons (d := 77) rfl k0) k1) (e_fd rfl uu24.ok) rfl rfl rfl rfl (.refl _) (by rfl)
  ·rintro f M ⟨k0,k1,-⟩ -
   exact obg (L' := rowF MgF 38 p14 c15 (oz16.map Prod.fst) :: M) (v := .agg #[Ix (x19.id),.slice x19.p (x19.n) x19.c]) (up_cons (d := 75) (up_cons (d := 78) rfl k0) k1) (e_load uu7.ok rfl (k_flPart 0 (F := MgF) (o := 4) (us := [Ix (x19.id),.slice x19.p (x19.n) x19.c]) rfl hx20 rfl) rfl) rfl rfl rfl rfl (perm_front 0 rfl) (by rfl)
  ·rintro f M ⟨k0,-⟩ -
   refine obS (up_cons (d := 75) rfl k0) ?_
   refine g_call rfl rfl rfl rfl rfl (cl0 (vs := [.int .i64 (20),.int .i64 (0)]) uu11.ok rfl rfl) ?_
   intro w hw
   obtain ⟨β1,sb,kn,hw1,back⟩ := St.frame_all hw
   refine (big_ok β1 w hw1 20 0).mono ?_
   rintro e w' ⟨p27,c28,rfl,hw'⟩
   refine ⟨_,rfl,_,back _ _ hw',?_⟩
   clear hw hw1 hw' back kn sb
   refine l_nil ?_
   exact f_owes_d (up_cons (d := 75) rfl k0) rfl (perm_front 0 rfl)
  ·rintro f M ⟨k0,k1,k2,-⟩ -
   have hs80 : f 80 = .agg #[.int .i64 (20),.slice (thA (f 80)) (10) (thC (f 80))] := k1
   refine obS (up_cons (d := 75) (up_cons (up_cons (d := 79) rfl k0) hs80) k2) ?_
   refine g_call rfl rfl rfl rfl rfl (cl0 (vs := [.agg #[Ix (x19.id),.slice x19.p (x19.n) x19.c],.agg #[.int .i64 (20),.slice (thA (f 80)) (10) (thC (f 80))]]) uu25.ok rfl rfl) ?_
   intro w hw
   obtain ⟨β1,sb,kn,hw1,back⟩ := St.frame_all hw
   refine (sameE_ok β1 w hw1 x19.id 20 _ _ lgM.e.comps (bigC 0) (kn _ (k_poolS (zs := (MPool.e oz16)) (z := (x19.eh,lgM.e)) 0 rfl hp24 hm23.eh)) (kn _ (k_flN 1 (F := CpF) (m := 10) rfl rfl))).mono ?_
   rintro e w' ⟨rfl,hw'⟩
   refine ⟨_,rfl,_,back _ _ hw',?_⟩
   clear hw hw1 hw' back kn sb
   refine l_nil ?_
   exact f_owes_d (up_cons (d := 75) (up_cons (up_cons (d := 79) rfl k0) hs80) k2) (congrArg Value.bool (decide_eq_true (by rw [hxi] <;> rfl))) ((perm_front 1 rfl).trans (perm_front 1 rfl))
  ·rintro f M ⟨k0,k1,-⟩ -
   exact obG ont
  ·rintro f M ⟨k0,k1,-⟩ -
   exact obE okfb
  ·rintro f M ⟨k0,-⟩ -
   exact obE omb
  ·rintro f M ⟨k0,-⟩ ⟨i0,-⟩
   exact obG oms
  ·rintro f M ⟨k0,k1,-⟩ -
   exact obg (L' := rowF MgF 38 p14 c15 (oz16.map Prod.fst) :: M) (v := .pointer (some ((ba p14).add (0 * 6)))) (up_cons (d := 84) (up_cons (d := 85) rfl k0) k1) (e_indexFlN 0 (F := MgF) (j := 0) (m := oz16.length) (xs := (oz16.map Prod.fst)) rfl (List.length_map _).symm rfl uu23 (by omega) rfl) rfl rfl rfl rfl (perm_front 0 rfl) (by rfl)
  ·rintro f M ⟨k0,k1,-⟩ -
   exact obg (L' := M) (v := .pointer (some ((ba p14).add (0 * 6 + 2)))) (up_cons (d := 84) (up_cons (d := 86) rfl k0) k1) (e_fd rfl uu26.ok) rfl rfl rfl rfl (.refl _) (by rfl)
  ·rintro f M ⟨k0,k1,-⟩ -
   exact obg (L' := rowF MgF 38 p14 c15 (oz16.map Prod.fst) :: M) (v := Ix (x19.number)) (up_cons (d := 84) (up_cons (d := 87) rfl k0) k1) (e_load1 uu18.ok rfl (k_flPart 0 (F := MgF) (o := 2) (us := [Ix (x19.number)]) rfl hx20 rfl)) rfl rfl rfl rfl (perm_front 0 rfl) (by rfl)
  ·rintro f M ⟨k0,k1,-⟩ -
   exact obg (L' := M) (v := .bool false) (up_cons (d := 84) (up_cons (d := 88) rfl k0) k1) ((ev_f (fun q => q (by first | omega | decide)) (e_neq (a := (x19.number)) (b := (1 : Int)) rfl rfl))) rfl rfl rfl rfl (.refl _) (by rfl)
  ·rintro f M ⟨k0,k1,-⟩ -
   exact obE okfb
  rintro fa29 ⟨-,-,-,-,-,-,-,-,-,-,-,-,-,-,-,-,-,-,-,-,-,-,-,k23,-⟩ ⟨j0,j1,j2,j3,j4,j5,-⟩
  refine fre ?_
  refine f_rebase (d := 0) j0 (f_rebase (d := 3) j1 (f_rebase (d := 4) j2 (f_rebase (d := 6) j3 (f_rebase (d := 8) j4 (f_rebase (d := 10) j5 ?_)))))
  refine f_rebase (d := 90) k23 (f_then (c_no rfl (csk (csr (lE oms (lE oln (lE omi (lnf (c_block (c_pi [3,0,1,2,4,5,6] 7 rfl (by kernel_rfl) ?_))))))))))
  refine c_openEnts rfl fun ez30 hez31 heh32 => ?_
  have hez31l : ez30.length = (lgH 19 (fun i_ => ((tl.set jd ((i + 1 : Nat) : Int))).getD i_ 0)).length := by rw [← hez31,List.length_map]
  have hez31k : (ez30.map Prod.fst).length = ez30.length := List.length_map _
  refine rbs 91 (v := sB p12 ez30 c13) (show (sB p12 (lgH 19 (fun i_ => ((tl.set jd ((i + 1 : Nat) : Int))).getD i_ 0)) c13 : Value) = sB p12 ez30 c13 from congrArg (fun z => Value.slice p12 z c13) hez31l.symm) ?_
  refine c_loop (fun (k : Nat) f L => (f 0 = Bx (n) ∧ f 3 = pp S1 0 ∧ f 4 = pp G11 0 ∧ f 6 = pp b3 0 ∧ f 8 = Nx (i + 1) ∧ f 91 = sB p12 ez30 c13 ∧ f 92 = Nx ((lgH 19 (fun i_ => ((tl.set jd ((i + 1 : Nat) : Int))).getD i_ 0)).length) ∧ f 93 = Nx (k)) ∧ L = [rowF EhF 32 p12 c13 (ez30.map Prod.fst),poolR ez30,rowF MgF 38 p14 c15 (oz16.map Prod.fst),poolR (MPool.e oz16),gateR G11 S1 (lgX (tl.set jd ((i + 1 : Nat) : Int))) (n2 + 300) true,rowF CpF 100 p8 c9 (bigC ((i + 1 : Nat) : Int)),rowF IntF 48 (some ⟨b3,0,none⟩) 21 (tl.set jd ((i + 1 : Nat) : Int)),rowF CpF 100 (thA (fa29 80)) (thC (fa29 80)) (bigC 0)] ∧ (k ≤ 19)) (fun k => 19 - k) 0 ?_ ?_
  ·exact ⟨⟨rfl,rfl,rfl,rfl,rfl,rfl,rfl,rfl⟩,rfl,(Nat.zero_le _)⟩
  rintro k f0 L0 ⟨⟨hs0,hs3,hs4,hs6,hs8,hs91,hs92,hs93⟩,hL,hk⟩
  subst L0
  refine rbs 0 hs0 (rbs 3 hs3 (rbs 4 hs4 (rbs 6 hs6 (rbs 8 hs8 (rbs 91 hs91 (rbs 92 hs92 (rbs 93 hs93 (csr (lE olt (lnf (c_seq ?_)))))))))))
  refine c_if _ rfl (fun hc33 => ?_) (fun hc33 => ?_)
  ·refine csk (c_seq (c_block (c_seq ?_)))
   obtain ⟨x34,hx35⟩ : ∃ x_,(ez30.map Prod.fst)[k]? = some x_ := ⟨_,List.getElem?_eq_getElem (by first | omega | decide)⟩
   obtain ⟨e36,hs37,hm38,hp39⟩ := ent_at hez31 heh32 hx35
   obtain ⟨hee,-⟩ := lgH_get hs37
   subst hee
   have hxk : x34.id = ((k + 1 : Nat) : Int) := hm38.id
   have htl2 : ((tl.set jd ((i + 1 : Nat) : Int))).length = 21 := by simp only [sB,List.length_set]; exact htl
   obtain ⟨x40,hx41⟩ : ∃ x_,(tl.set jd ((i + 1 : Nat) : Int))[k + 1]? = some x_ := ⟨_,List.getElem?_eq_getElem (by first | omega | decide)⟩
   have hty := getD_of hx41
   refine c_region (lE omi ?_)
   refine lv (v := .pointer (some ((ba p12).add (k * 2)))) (e_indexFlN 0 (F := EhF) rfl (List.length_map _).symm rfl uu27 (by omega) rfl) ?_
   refine lv (v := .agg #[Ix (x34.id),.slice x34.p (x34.n) x34.c]) (e_load uu7.ok rfl (k_flAt 0 (F := EhF) rfl hx35) rfl) (alE fun b42 => lE oai ?_)
   refine lu (mS 0 (#[Ix (x34.id),.slice x34.p (x34.n) x34.c])) (lnf (c_seq ?_))
   refine cnz [sv 98 (.agg #[Ix (x34.id),.slice x34.p (x34.n) x34.c]) [] [] [0],sv 99 (Nx (k)) [] [] [1],sv 100 (Nx (k + 1)) [1] [1] [],sv 101 (Nx (k)) [] [] [1],sv 102 (Nx (k + 1)) [3] [3] [],sv 103 (.pointer (some ((ba (some ⟨b3,0,none⟩)).add ((k + 1) * 1)))) [3,4] [4] [2],sv 104 (Ix (x40)) [3,4,5] [5] [],⟨[1,2,3,4,5,6],[2,6],[],[105],fun f => f 105 = .agg #[Nx (k + 1),.slice (thA (f 105)) (10) (thC (f 105))]⟩,sv 106 (.bool true) (List.range 8) [0,7] [],sv 107 (.bool false) (List.range 9) [8] []] [u1 [0],u0,u1 [8],u0,u0,u0,u0,u1 [6]] [⟨(some 7),none,[8],[105],fun f => rowF CpF 100 (thA (f 105)) (thC (f 105)) (bigC x40)⟩] [(13,pp b42 0),(12,Nx (k)),(6,pp b3 0),(0,Bx (n)),(3,pp S1 0),(4,pp G11 0),(8,Nx (i + 1)),(91,sB p12 ez30 c13),(92,Nx ((lgH 19 (fun i_ => ((tl.set jd ((i + 1 : Nat) : Int))).getD i_ 0)).length)),(93,Nx (k))] [3,4,5,2,6,7,8,9] ⟨rfl,rfl,rfl,rfl,rfl,rfl,rfl,rfl,rfl,rfl,trivial⟩ ⟨?_,?_,?_,?_,?_,?_,?_,?_,?_,?_,trivial⟩ ?_
   ·rintro f M - ⟨i0,-⟩
    exact obE (olg 0)
   ·rintro f M - ⟨i0,-⟩
    exact obE omi
   ·rintro f M ⟨k0,-⟩ -
    exact ob0 (up_cons (d := 99) rfl k0) rfl (e_add (a := ((k : Nat) : Int)) (b := (1 : Int)) rfl rfl (i64n (by omega) (by omega))) (.refl _)
   ·rintro f M - ⟨i0,-⟩
    exact obE omi
   ·rintro f M ⟨k0,-⟩ -
    exact ob0 (up_cons (d := 101) rfl k0) rfl (e_add (a := ((k : Nat) : Int)) (b := (1 : Int)) rfl rfl (i64n (by omega) (by omega))) (.refl _)
   ·rintro f M ⟨k0,-⟩ ⟨i0,-⟩
    exact ob0 (up_cons (d := 102) (up_cons (d := 6) rfl i0) k0) rfl (e_indexArrI (a := ⟨b3,0,none⟩) (k := k + 1) rfl rfl uu17.ok (by omega)) (.refl _)
   ·rintro f M ⟨k0,-⟩ -
    exact obv (L' := rowF IntF 48 (some ⟨b3,0,none⟩) 21 (tl.set jd ((i + 1 : Nat) : Int)) :: M) (up_cons (d := 103) rfl k0) rfl (e_load1 uu18.ok rfl (k_flAt 0 (F := IntF) rfl hx41)) (perm_front 0 rfl) (by rfl)
   ·rintro f M ⟨k0,k1,-⟩ -
    refine obS (up_cons (d := 104) (up_cons (d := 100) rfl k0) k1) ?_
    refine lcf (cl0 (vs := [Nx (k + 1),Ix (x40)]) uu11.ok rfl rfl) rfl fun w β1 sb kn hw1 back => (big_ok β1 w hw1 ((k + 1 : Nat) : Int) x40).mono ?_
    rintro e w' ⟨p45,c46,rfl,hw'⟩
    refine ⟨_,rfl,_,back _ _ hw',?_⟩
    clear hw1 hw' back kn sb
    refine l_nil ?_
    exact f_owes_d (up_cons (d := 104) (up_cons (d := 100) rfl k0) k1) rfl (perm_front 0 rfl)
   ·rintro f M ⟨k0,k1,-⟩ -
    have hs105 : f 105 = .agg #[Nx (k + 1),.slice (thA (f 105)) (10) (thC (f 105))] := k1
    refine obS (up_cons (up_cons (d := 98) rfl k0) hs105) ?_
    refine lcR clA (fun w β1 sb kn hw1 => sameE_ok β1 w hw1 x34.id ((k + 1 : Nat) : Int) _ _ ((bigE ((k + 1 : Nat) : Int) (((tl.set jd ((i + 1 : Nat) : Int))).getD (k + 1) 0)).comps) (bigC x40) (kn _ (k_poolS (zs := ez30) (z := (x34,(bigE ((k + 1 : Nat) : Int) (((tl.set jd ((i + 1 : Nat) : Int))).getD (k + 1) 0)))) 0 rfl hp39 hm38)) (kn _ (k_flN 1 (F := CpF) (m := 10) rfl rfl))) ?_
    refine l_nil ?_
    exact f_owes_d (up_cons (up_cons (d := 98) rfl k0) hs105) (congrArg Value.bool (decide_eq_true (by rw [hxk,hty] <;> rfl))) ((perm_front 1 rfl).trans (perm_front 1 rfl))
   ·rintro f M ⟨k0,-⟩ -
    exact obE ont
   rintro fa47 ⟨-,-,-,-,-,-,-,-,-,k9,-⟩ ⟨j0,j1,j2,j3,j4,j5,j6,j7,-⟩
   refine fre ?_
   refine f_rebase (d := 0) j0 (f_rebase (d := 3) j1 (f_rebase (d := 4) j2 (f_rebase (d := 6) j3 (f_rebase (d := 8) j4 (f_rebase (d := 91) j5 ?_)))))
   refine f_rebase (d := 92) j6 (f_rebase (d := 93) j7 (f_rebase (d := 107) k9 (f_then (c_no rfl (c_skip (f_block (f_then (c_region ?_))))))))
   refine lv (v := Nx (k + 1)) (e_add rfl rfl (i64n (by omega) (by omega))) (lE omi (l_nil ?_))
   refine f_mask [false,true,true,true,true,true,true,true,true,false] rfl ?_
   exact f_cut ⟨k + 1,⟨⟨rfl,rfl,rfl,rfl,rfl,rfl,rfl,rfl⟩,rfl,(by omega)⟩,(show 19 - (k + 1) < 19 - k from by omega)⟩
  refine c_exit (f_then_exit (f_then_exit (f_exit (f_block (f_then (c_region (lE omi ?_)))))))
  refine lv (v := Nx ((i + 1) + 1)) (e_add rfl rfl (i64n (by omega) (by omega))) (lE oai (l_nil ?_))
  refine f_mask [false,false,false,false,true,false,true,false] rfl ?_
  exact f_cut ⟨(i + 1,(tl.set jd ((i + 1 : Nat) : Int)),G11,(n2 + 300)),⟨⟨rfl,rfl,rfl,rfl,rfl⟩,rfl,⟨by omega,by simp only [sB,List.length_set]; exact htl,by omega⟩⟩,(show 4000 - (i + 1) < 4000 - i from by omega)⟩
 refine c_exit (f_then_exit (f_then_exit (f_exit (ftc (lcR clA (fun w β1 sb kn hw1 => awake_ok β1 w hw1 (Cs.mono _ _ _ _ sb hG)) (lE oab (lnf ?_)))))))
 refine c_ret (ret1 Tryz.results5 rfl ?_)
 intro w hw
 exact ⟨rfl,st_mask [false,false] rfl hw⟩
end Go.Proofs
