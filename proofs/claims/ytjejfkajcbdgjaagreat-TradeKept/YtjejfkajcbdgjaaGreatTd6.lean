/-
 Results of one's own; a house that is there: walked. Printed by a program of my own.
-/
import Derived.Test.YtjejfkajcbdgjaaGreatTd5
import Derived.Test.YtjejfkajcbdgjaaGreatTdMem
import Derived.Test.YtjejfkajcbdgjaaGreatSlA
import Derived.Test.YtjejfkajcbdgjaaGreatSlN
namespace Go.Proofs
open Go Go.Sl Go.Td Go.Jn
instance tt88 : CfC Tryz.prog 57 := ⟨by kernel_rfl⟩
theorem tt89 : Tryz.prog.underlying 23 = some (.pointer (Tryz.prog.pointee 23)) := by kernel_rfl
instance tt90 : FldC Tryz.prog 91 0 0 1 false := ⟨by kernel_rfl⟩
instance tt91 : TyC Tryz.prog 89 false 1 := ⟨by kernel_rfl⟩
theorem tt92 : Tryz.prog.underlying 89 = some (.pointer (Tryz.prog.pointee 89)) := by kernel_rfl
instance tt93 : CfC Tryz.prog 40 := ⟨by kernel_rfl⟩
instance tt94 : FldC Tryz.prog 91 2 9 1 false := ⟨by kernel_rfl⟩
instance tt95 : TyC Tryz.prog 4 false 1 := ⟨by kernel_rfl⟩
theorem own_ok (β : Base) (w : World) (hw : St β [] w) (dn : Bool) (at0 e0 : Int) (v : Value) (xs : List Int) (hs : Sl IntF.R β.heap v xs) (hn : xs.length ≤ 1048576) : Calls Tryz.prog 36 #[.agg #[.bool dn, Ix at0, Ix e0, v]] w fun r w' => ∃ p c, r = .returned (.agg #[.bool dn, Ix at0, Ix e0, sB p xs c]) ∧ St β [rowF IntF 3 p c xs] w' := by
 obtain ⟨va,vc,rfl,vl,vm,ve⟩ := hs.get
 refine enter (n := 8) Tryz.func36 rfl Tryz.ntmps36 rfl ?_ hw
 refine csr (bxa fun b1 => ?_)
 refine alE fun b2 => lnc (lE ofp (lE (ols 1) ?_))
 refine lcf (cl0 (vs := [sB va xs (vc)]) tt88.ok rfl rfl) rfl fun w β1 sb kn hw1 back => (cloneI_ok β1 w hw1 _ xs (Sl.mono _ _ _ _ _ sb (⟨⟨_,_,rfl,vl,vm,ve⟩⟩ : Sl IntF.R _ _ xs)) (by omega)).mono ?_
 rintro e w' ⟨p3,c4,rfl,hw'⟩
 refine ⟨_,rfl,_,back _ _ hw',?_⟩
 clear hw1 hw' back kn sb
 refine lE ofp (lu (mS 2 (#[.bool (dn),Ix (at0),Ix (e0),sB p3 xs c4])) (lnc (lE (olg 2) (lu (mS 1 (#[.bool (dn),Ix (at0),Ix (e0),sB p3 xs c4])) ?_))))
 refine lnf (c_ret ?_)
 refine retG (m := [.agg #[.bool (dn),Ix (at0),Ix (e0),sB p3 xs c4]]) Tryz.results36 ⟨rd_cell tt61.ok rfl (k_pt 1 rfl rfl) rfl,trivial⟩ rfl ?_
 intro w hw
 exact ⟨_,_,rfl,st_mask (L' := [rowF IntF 3 p3 c4 xs]) [true,false,false] rfl hw⟩
theorem hthere_ok (β : Base) (w : World) (hw : St β [] w) (H jb mp mh mm : Nat) (s : KSt) (dn : Bool) (hc : Cs β.heap ⟨H, 0, none⟩ [pp jb 0, .map (some mp), .map (some mh), Ix s.last, Ix s.su.a0, Ix s.su.a1, Ix s.su.a2, Ix s.su.a3, .map (some mm), .bool dn]) : Ret Tryz.prog 40 #[pp H 0] β w (.bool true) := by
 refine enter (n := 12) Tryz.func40 rfl Tryz.ntmps40 rfl ?_ hw
 refine csr (lE oab (lnc (lE omp (lv (v := .bool true) (e_neq_pnil (p := some (⟨H,0,none⟩)) rfl rfl tt89) (lE omb (gE omp (gE onp (gE ofa ?_))))))))
 refine g_val (v := pp jb 0) rfl rfl rfl rfl rfl (e_load1 tt91.ok rfl (Knows.imp (kB hc) (fun _ h => Cs.sub (vs := [pp jb 0]) 0 h rfl))) ?_
 refine g_val (v := .bool true) rfl rfl rfl rfl rfl (e_neq_pnil (p := some (⟨jb,0,none⟩)) rfl rfl tt92) (lE oktb (lE oab (lnf (c_ret ?_))))
 refine ret1 Tryz.results40 rfl ?_
 intro w hw
 exact ⟨rfl,st_mask [] rfl hw⟩
theorem hready_ok (β : Base) (w : World) (hw : St β [] w) (H jb mp mh mm : Nat) (s : KSt) (hc : Cs β.heap ⟨H, 0, none⟩ [pp jb 0, .map (some mp), .map (some mh), Ix s.last, Ix s.su.a0, Ix s.su.a1, Ix s.su.a2, Ix s.su.a3, .map (some mm), .bool false]) : Ret Tryz.prog 32 #[pp H 0] β w (Ix 0) := by
 refine enter (n := 12) Tryz.func32 rfl Tryz.ntmps32 rfl ?_ hw
 refine csr (lE oai (lnf (c_seq (c_block (csr (lE omp (lcR clA (fun w β1 sb kn hw1 => hthere_ok β1 w hw1 _ _ _ _ _ s _ (Cs.mono _ _ _ _ sb hc)) ?_)))))))
 refine lE ont (lE oab (lnf (c_no rfl (csr (lE omp (lE onp (lE ofa ?_)))))))
 refine lv (v := .bool false) (e_load1 tt95.ok rfl (Knows.imp (kB hc) (fun _ h => Cs.sub (vs := [.bool false]) 9 h rfl))) (lE oab (lnf (c_no rfl ?_)))
 refine c_skip (f_block (ftc (lE oai (lnf (c_ret (ret1 Tryz.results32 rfl ?_))))))
 intro w hw
 exact ⟨rfl,st_mask [] rfl hw⟩
end Go.Proofs
