/-
 StepWrong,walked. Printed by a program of my own.
-/
import Derived.Test.YtdkibofhppgbjaaGreatDoorSt22
import Derived.Test.YtdkibofhppgbjaaGreatDoorSlB
namespace Go.Proofs
open Go Go.Sl Go.Stp
instance th135 : ZerC Tryz.prog 24 (.agg #[.int .i64 (0), .slice none 0 0]) := ⟨by kernel_rfl⟩
instance th136 : TyC Tryz.prog 24 true 2 := ⟨by kernel_rfl⟩
instance th137 : CfC Tryz.prog 18 := ⟨by kernel_rfl⟩
theorem th138 : stB Tryz.prog 24 [(0, 1), (1, 1)] = true := by kernel_rfl
theorem worldN_ok (β : Base) (w : World) (hw : St β [] w) (tick : Int) (v rv : Value) (gx gy : Int) (es : List KEnt) (rs : List KR) (hs : Sl EntR β.heap v es) (hr : Sl KRR β.heap rv rs) (hn : es.length ≤ 65536) (hrn : rs.length ≤ 65536) (hgx : -9223372036854775808 ≤ gx ∧ gx ≤ 9223372036854775807) (hgy : -9223372036854775808 ≤ gy ∧ gy ≤ 9223372036854775807) (hG : GR β) (hno : ¬ okS (bodiesOf es) (ropesOf (bodiesOf es) rs) gx gy) : Ret Tryz.prog 24 #[.agg #[Ix tick, v], rv, .agg #[Ix gx, Ix gy]] β w (.tuple #[.agg #[.int .i64 (0), .slice none 0 0], .slice none 0 0, .int .i64 (2)]) := by
 refine enter (n := 29) Tryz.func24 rfl Tryz.ntmps24 rfl ?_ hw
 refine csr (bxa fun b1 => ?_)
 refine bxa fun b2 => ?_
 refine alE fun b3 => lE oas (lE oai (lnc (lE (olg 2) (lv e_move (lE (olg 1) ?_)))))
 refine lcf (cl0 (vs := [.agg #[Ix (tick),v],rv,.agg #[Ix (gx),Ix (gy)]]) th137.ok rfl rfl) rfl fun w β1 sb kn hw1 back => (worldB_ok β1 w hw1 _ _ _ (gx) (gy) es rs (Sl.mono _ _ _ _ _ sb hs) (Sl.mono _ _ _ _ _ sb hr) hn hrn).mono ?_
 rintro e w' ⟨p4,c5,p6,c7,rfl,hw'⟩
 refine ⟨_,rfl,_,back _ _ hw',?_⟩
 clear hw1 hw' back kn sb
 refine lcR clA (fun w β1 sb kn hw1 => stepN_ok β1 w hw1 _ _ (gx) (gy) (bodiesOf es) (ropesOf (bodiesOf es) rs) (kn _ (k_flN 0 (F := BodyF) (m := (bodiesOf es).length) (xs := (bodiesOf es)) rfl rfl)) (kn _ (k_flN 1 (F := RopeF) (m := (ropesOf (bodiesOf es) rs).length) (xs := (ropesOf (bodiesOf es) rs)) rfl rfl)) (by omega) (by omega) (GR.mono sb hG) hno) ?_
 refine lE omt (lE oxa (lE oxs (lE oxi (alE fun b8 => lu (mS 0 (#[.slice none 0 0,.slice none 0 0,.int .i64 (0),.int .i64 (0)])) (lE oas (lE oai ?_))))))
 refine lnf (cs2 (c_region (lE omi (lE onq (lnf (c_yes rfl (csr ?_)))))))
 refine lv (v := .agg #[.int .i64 (0),.slice none 0 0]) (e_build th135.ok th138 (vs := []) (cells := #[.int .i64 (0),.slice none 0 0]) rfl rfl) ?_
 refine lE omi (lu (mS 3 (#[.int .i64 (0),.slice none 0 0])) (lE oas (lE oai (lnf (c_ret (f_then_ret ?_))))))
 refine retG (m := [.agg #[.int .i64 (0),.slice none 0 0],.slice none 0 0,.int .i64 (2)]) Tryz.results24 ⟨rd_cell th136.ok rfl (k_pt 3 rfl rfl) rfl,rd_tmp (v := .slice none 0 0) rfl,rd_tmp (v := .int .i64 (2)) rfl,trivial⟩ rfl ?_
 intro w hw
 exact ⟨rfl,st_mask [false,false,false,false,false,false] rfl hw⟩
end Go.Proofs
