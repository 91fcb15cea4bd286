/-
 What a script's steps are made of: walked. Printed by a program of my own.
-/
import Derived.Test.YtjejfkajcbdgjaaGreatTd14
import Derived.Test.YtjejfkajcbdgjaaGreatTdHouE
import Derived.Test.YtjejfkajcbdgjaaGreatSlA
import Derived.Test.YtjejfkajcbdgjaaGreatSlB
namespace Go.Td
open Go Go.Sl
section
variable {x : KAct}
end
end Go.Td
namespace Go.Proofs
open Go Go.Sl Go.Td Go.Jn
instance tt165 : ZerC Tryz.prog 32 (.agg #[.int .u8 (0), .int .i64 (0), .int .i64 (0), .slice none 0 0]) := ⟨by kernel_rfl⟩
instance tt166 : FldC Tryz.prog 32 0 0 1 false := ⟨by kernel_rfl⟩
instance tt167 : FldC Tryz.prog 32 1 1 1 false := ⟨by kernel_rfl⟩
instance tt168 : CfC Tryz.prog 28 := ⟨by kernel_rfl⟩
instance tt170 : TyC Tryz.prog 32 true 4 := ⟨by kernel_rfl⟩
instance tt171 : FldC Tryz.prog 32 3 3 1 false := ⟨by kernel_rfl⟩
instance tt172 : CfC Tryz.prog 20 := ⟨by kernel_rfl⟩
theorem tt173 : Tryz.prog.underlying 4 = some .bool := by kernel_rfl
instance tt174 : CfC Tryz.prog 16 := ⟨by kernel_rfl⟩
theorem act_ok (β : Base) (w : World) (hw : St β [] w) (k : UInt8) (o p h g : Int) : Ret Tryz.prog 20 #[Bx k, Ix o, Ix p, Ix h, Ix g] β w (.agg (actE ⟨k, o, p, h, ⟨g, 0, 0, 0⟩⟩).toArray) := by
 refine enter (n := 18) Tryz.func20 rfl Tryz.ntmps20 rfl ?_ hw
 refine csr (alE fun b1 => lnc ?_)
 iterate 5 refine lE omi ?_
 refine lv (v := .agg #[Ix (g),.int .i64 (0),.int .i64 (0),.int .i64 (0)]) (e_build_a tt3.ok tt1.ok (vs := [(0,Ix (g))]) (cells := #[Ix (g),.int .i64 (0),.int .i64 (0),.int .i64 (0)]) rfl rfl) ?_
 refine lv (v := .agg #[Bx (k),Ix (o),Ix (p),Ix (h),Ix (g),.int .i64 (0),.int .i64 (0),.int .i64 (0)]) (e_build tt47.ok tt46 (vs := [(0,Bx (k)),(1,Ix (o)),(2,Ix (p)),(3,Ix (h)),(4,.agg #[Ix (g),.int .i64 (0),.int .i64 (0),.int .i64 (0)])]) (cells := #[Bx (k),Ix (o),Ix (p),Ix (h),Ix (g),.int .i64 (0),.int .i64 (0),.int .i64 (0)]) rfl (by kernel_rfl)) ?_
 refine lu (mS 0 (#[Bx (k),Ix (o),Ix (p),Ix (h),Ix (g),.int .i64 (0),.int .i64 (0),.int .i64 (0)])) (lnf (c_ret ?_))
 refine retG (m := [.agg #[Bx (k),Ix (o),Ix (p),Ix (h),Ix (g),.int .i64 (0),.int .i64 (0),.int .i64 (0)]]) Tryz.results20 ⟨rd_cell tt17.ok rfl (k_pt 0 rfl rfl) rfl,trivial⟩ rfl ?_
 intro w hw
 exact ⟨rfl,st_mask [false] rfl hw⟩
theorem samer_ok (β : Base) (w : World) (hw : St β [] w) (d d' : Bool) (a a' e e' : Int) (v u : Value) (xs ys : List Int) (hs : Sl IntF.R β.heap v xs) (ht : Sl IntF.R β.heap u ys) (he : d = d' ∧ a = a' ∧ e = e' ∧ xs = ys) : Ret Tryz.prog 19 #[.agg #[.bool d, Ix a, Ix e, v], .agg #[.bool d', Ix a', Ix e', u]] β w (.bool true) := by
 obtain ⟨va,vc,rfl,vl,vm,ve⟩ := hs.get
 obtain ⟨ua,uc,rfl,ul,um,ue⟩ := ht.get
 refine enter (n := 31) Tryz.func19 rfl Tryz.ntmps19 rfl ?_ hw
 refine csr (bxa fun b1 => ?_)
 refine bxa fun b2 => ?_
 refine lE oab (lnc (lE ofp (lE (olb 1) (lE ofp (lE (olb 0) (lv (v := .bool ((d == d'))) (e_eql_b (a := d) (b := d') rfl rfl tt173) ?_))))))
 refine l_and5 (d == d') (decide ((a) = (a'))) rfl (fun hb3 hk3 => ?_) (fun z4 z5 z6 z7 z8 => ?_)
 ·refine gE ofp (gE (oli 1) (gE ofp (gE (oli 0) (gE oeq_ (lE oktb ?_)))))
  exact hk3 _ _ _ _ _
 refine l_and5 ((d == d') && (decide ((a) = (a')))) (decide ((e) = (e'))) rfl (fun hb9 hk9 => ?_) (fun z10 z11 z12 z13 z14 => ?_)
 ·refine gE ofp (gE (oli 1) (gE ofp (gE (oli 0) (gE oeq_ (lE oktb ?_)))))
  exact hk9 _ _ _ _ _
 refine l_and5 (((d == d') && (decide ((a) = (a')))) && (decide ((e) = (e')))) (decide (xs = ys)) rfl (fun hb15 hk15 => ?_) (fun z16 z17 z18 z19 z20 => ?_)
 ·refine gE ofp (gE (ols 1) (gE ofp (gE (ols 0) (g_call rfl rfl rfl rfl rfl (cl0 (vs := [sB va xs (vc),sB ua ys (uc)]) tt174.ok rfl rfl) ?_))))
  intro w hw
  obtain ⟨β1,sb,kn,hw1,back⟩ := St.frame_all hw
  refine (sameI_ok β1 w hw1 _ _ xs ys (Sl.mono _ _ _ _ _ sb (⟨⟨_,_,rfl,vl,vm,ve⟩⟩ : Sl IntF.R _ _ xs)) (Sl.mono _ _ _ _ _ sb (⟨⟨_,_,rfl,ul,um,ue⟩⟩ : Sl IntF.R _ _ ys))).mono ?_
  rintro e w' ⟨rfl,hw'⟩
  refine ⟨_,rfl,_,back _ _ hw',?_⟩
  clear hw hw1 hw' back kn sb
  refine lE oktb ?_
  exact hk15 _ _ _ _ _
 refine lE oab (lnf (c_ret (ret1 Tryz.results19 rfl ?_)))
 intro w hw
 exact ⟨congrArg (fun b : Bool => Ending.returned (.bool b)) (by obtain ⟨h1,h2,h3,h4⟩ := he; simp [h1,h2,h3,h4]),st_mask [false,false] rfl hw⟩
end Go.Proofs
