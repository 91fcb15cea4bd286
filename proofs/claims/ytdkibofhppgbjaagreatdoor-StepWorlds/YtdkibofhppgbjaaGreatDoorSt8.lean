/-
 The examples of the chapter: boxes,balls,ends. Printed by a program of my own.
-/
import Derived.Test.YtdkibofhppgbjaaGreatDoorSt7
import Derived.Test.YtdkibofhppgbjaaGreatDoorSlB
namespace Go.Proofs
open Go Go.Sl Go.Stp
theorem tf102 : stB Tryz.prog 52 [(0, 1), (1, 2), (3, 2), (5, 1), (6, 1), (7, 1), (8, 1)] = true := by kernel_rfl
instance tf103 : CfC Tryz.prog 31 := ⟨by kernel_rfl⟩
instance tf104 : CfC Tryz.prog 9 := ⟨by kernel_rfl⟩
instance tf105 : UndC Tryz.prog 38 55 := ⟨by kernel_rfl⟩
instance tf106 : TyC Tryz.prog 55 true 3 := ⟨by kernel_rfl⟩
theorem box_ok (β : Base) (w : World) (hw : St β [] w) (i x y p q vx vy : Int) : Ret Tryz.prog 31 #[Ix i, Ix x, Ix y, Ix p, Ix q, Ix vx, Ix vy] β w (.agg #[Ix (i), Ix (x), Ix (y), Ix (vx), Ix (vy), Ix (p), Ix (q), .bool false, .bool false]) := by
 refine enter (n := 25) Tryz.func31 rfl Tryz.ntmps31 rfl ?_ hw
 refine csr (alE fun b1 => lnc (lE omi (lE omi (lE omi ?_))))
 refine lv (v := .agg #[Ix (x),Ix (y)]) (e_build tf17.ok tf16 (vs := [(0,Ix (x)),(1,Ix (y))]) (cells := #[Ix (x),Ix (y)]) rfl rfl) (lE omi (lE omi ?_))
 refine lv (v := .agg #[Ix (vx),Ix (vy)]) (e_build tf17.ok tf16 (vs := [(0,Ix (vx)),(1,Ix (vy))]) (cells := #[Ix (vx),Ix (vy)]) rfl rfl) (lE omi ?_)
 refine lE omi ?_
 refine lv (v := .agg #[Ix (i),Ix (x),Ix (y),Ix (vx),Ix (vy),Ix (p),Ix (q),.bool false,.bool false]) (e_build tf58.ok tf102 (vs := [(0,Ix (i)),(1,.agg #[Ix (x),Ix (y)]),(2,.agg #[Ix (vx),Ix (vy)]),(3,Ix (p)),(4,Ix (q))]) (cells := #[Ix (i),Ix (x),Ix (y),Ix (vx),Ix (vy),Ix (p),Ix (q),.bool false,.bool false]) rfl (by kernel_rfl)) ?_
 refine lu (mS 0 (#[Ix (i),Ix (x),Ix (y),Ix (vx),Ix (vy),Ix (p),Ix (q),.bool false,.bool false])) (lnf (c_ret ?_))
 refine retG (m := [.agg #[Ix (i),Ix (x),Ix (y),Ix (vx),Ix (vy),Ix (p),Ix (q),.bool false,.bool false]]) Tryz.results31 ⟨rd_cell tf22.ok rfl (k_pt 0 rfl rfl) rfl,trivial⟩ rfl ?_
 intro w hw
 exact ⟨rfl,st_mask [false] rfl hw⟩
theorem ball_ok (β : Base) (w : World) (hw : St β [] w) (i x y p vx vy : Int) : Ret Tryz.prog 34 #[Ix i, Ix x, Ix y, Ix p, Ix vx, Ix vy] β w (.agg #[Ix (i), Ix (x), Ix (y), Ix (vx), Ix (vy), Ix (p), Ix (p), .bool true, .bool false]) := by
 refine enter (n := 24) Tryz.func34 rfl Tryz.ntmps34 rfl ?_ hw
 refine csr (alE fun b1 => lnc ?_)
 iterate 7 refine lE omi ?_
 refine lcR clA (fun w β1 sb kn hw1 => box_ok β1 w hw1 (i) (x) (y) (p) (p) (vx) (vy)) (alE fun b2 => ?_)
 refine lu (mS 0 (#[Ix (i),Ix (x),Ix (y),Ix (vx),Ix (vy),Ix (p),Ix (p),.bool false,.bool false])) (lnc (lE ofp ?_))
 refine lu (mS 0 (#[Ix (i),Ix (x),Ix (y),Ix (vx),Ix (vy),Ix (p),Ix (p),.bool true,.bool false])) (lnc (lE (olg 0) ?_))
 refine lu (mS 1 (#[Ix (i),Ix (x),Ix (y),Ix (vx),Ix (vy),Ix (p),Ix (p),.bool true,.bool false])) (lnf (c_ret ?_))
 refine retG (m := [.agg #[Ix (i),Ix (x),Ix (y),Ix (vx),Ix (vy),Ix (p),Ix (p),.bool true,.bool false]]) Tryz.results34 ⟨rd_cell tf22.ok rfl (k_pt 1 rfl rfl) rfl,trivial⟩ rfl ?_
 intro w hw
 exact ⟨rfl,st_mask [false,false] rfl hw⟩
theorem fixed_ok (β : Base) (w : World) (hw : St β [] w) (b : KB) : Ret Tryz.prog 33 #[.agg (bC b)] β w (.agg #[Ix (b.id), Ix (b.x), Ix (b.y), .int .i64 (0), .int .i64 (0), Ix (b.w), Ix (b.h), .bool (b.round), .bool true]) := by
 refine enter (n := 7) Tryz.func33 rfl Tryz.ntmps33 rfl ?_ hw
 refine csr (bxa fun b1 => ?_)
 refine alE fun b2 => lnc ?_
 refine lv (v := .agg #[.int .i64 (0),.int .i64 (0)]) (e_build tf17.ok tf16 (vs := []) (cells := #[.int .i64 (0),.int .i64 (0)]) rfl rfl) (lE ofp ?_)
 refine lu (mS 1 (#[Ix (b.id),Ix (b.x),Ix (b.y),Ix (b.vx),Ix (b.vy),Ix (b.w),Ix (b.h),.bool (b.round),.bool true])) (lE ofp ?_)
 refine lu (mS 1 (#[Ix (b.id),Ix (b.x),Ix (b.y),.int .i64 (0),.int .i64 (0),Ix (b.w),Ix (b.h),.bool (b.round),.bool true])) (lnc (lE (olg 1) ?_))
 refine lu (mS 0 (#[Ix (b.id),Ix (b.x),Ix (b.y),.int .i64 (0),.int .i64 (0),Ix (b.w),Ix (b.h),.bool (b.round),.bool true])) (lnf (c_ret ?_))
 refine retG (m := [.agg #[Ix (b.id),Ix (b.x),Ix (b.y),.int .i64 (0),.int .i64 (0),Ix (b.w),Ix (b.h),.bool (b.round),.bool true]]) Tryz.results33 ⟨rd_cell tf22.ok rfl (k_pt 0 rfl rfl) rfl,trivial⟩ rfl ?_
 intro w hw
 exact ⟨rfl,st_mask [false,false] rfl hw⟩
theorem stepY_ok (β : Base) (w : World) (hw : St β [] w) (v rv : Value) (gx gy : Int) (bs : List KB) (rs : List KR) (hs : Sl KBR β.heap v bs) (hr : Sl KRR β.heap rv rs) (hgx : -9223372036854775808 ≤ gx ∧ gx ≤ 9223372036854775807) (hgy : -9223372036854775808 ≤ gy ∧ gy ≤ 9223372036854775807) (hG : GR β) (h : okS bs rs gx gy) (B : List KB) (S : List KS) (hBS : stepsTo rs gx gy bs bs.length = (B, S)) : Calls Tryz.prog 9 #[.agg #[v, rv, Ix gx, Ix gy]] w fun r w' => ∃ p1 c1 p2 c2 sp sc, r = .returned (.tuple #[.agg #[sB p1 bs c1, sB p2 rs c2, Ix gx, Ix gy], sB sp S sc, .int .i64 (0)]) ∧ St β [rowF BodyF 52 p1 c1 B, rowF RopeF 78 p2 c2 rs, rowF StopF 55 sp sc S] w' := by
 refine (step_ok β w hw v rv gx gy bs rs hs hr hgx hgy hG).mono ?_
 rintro r w' (⟨_,p1,c1,p2,c2,sp,sc,rfl,hw'⟩ | ⟨hn,_⟩)
 ·rw [hBS] at hw' ⊢; exact ⟨p1,c1,p2,c2,sp,sc,rfl,hw'⟩
 exact absurd h hn
theorem stepN_ok (β : Base) (w : World) (hw : St β [] w) (v rv : Value) (gx gy : Int) (bs : List KB) (rs : List KR) (hs : Sl KBR β.heap v bs) (hr : Sl KRR β.heap rv rs) (hgx : -9223372036854775808 ≤ gx ∧ gx ≤ 9223372036854775807) (hgy : -9223372036854775808 ≤ gy ∧ gy ≤ 9223372036854775807) (hG : GR β) (h : ¬ okS bs rs gx gy) : Ret Tryz.prog 9 #[.agg #[v, rv, Ix gx, Ix gy]] β w (.tuple #[.agg #[.slice none 0 0, .slice none 0 0, .int .i64 (0), .int .i64 (0)], .slice none 0 0, .int .i64 (2)]) := by
 refine (step_ok β w hw v rv gx gy bs rs hs hr hgx hgy hG).mono ?_
 rintro r w' (⟨hy,_⟩ | ⟨_,rfl,hw'⟩)
 ·exact absurd hy h
 exact ⟨rfl,hw'⟩
set_option maxHeartbeats 4000000 in
theorem ends1_ok (β : Base) (w : World) (hw : St β [] w) (v rv : Value) (gx gy : Int) (bs : List KB) (rs : List KR) (hs : Sl KBR β.heap v bs) (hr : Sl KRR β.heap rv rs) (hgx : -9223372036854775808 ≤ gx ∧ gx ≤ 9223372036854775807) (hgy : -9223372036854775808 ≤ gy ∧ gy ≤ 9223372036854775807) (hG : GR β) (hokS : okS bs rs gx gy) (B : List KB) (S : List KS) (hBS : stepsTo rs gx gy bs bs.length = (B, S)) (hBl : B.length = bs.length) (b : KB) (hb0 : B[0]? = some b) (z : KS) (hz0 : S[0]? = some z) (hzl : S.length = 1) : Ret Tryz.prog 32 #[.agg #[v, rv, Ix gx, Ix gy]] β w (.tuple #[.agg #[Ix b.x, Ix b.y], .agg #[Ix b.vx, Ix b.vy], .agg #[Ix (z.id), Bx (z.along), Ix (z.by_)]]) := by
 obtain ⟨va,vc,rfl,vl,vm,ve⟩ := hs.get
 obtain ⟨rva,rvc,rfl,rvl,rvm,rve⟩ := hr.get
 have hB0 := (List.getElem?_eq_some_iff.1 hb0).1
 refine enter (n := 66) Tryz.func32 rfl Tryz.ntmps32 rfl ?_ hw
 refine csr (bxa fun b1 => ?_)
 refine alE fun b2 => alE fun b3 => alE fun b4 => lnc (lE (olg 3) ?_)
 refine lcf (cl0 (vs := [.agg #[sB va bs (vc),sB rva rs (rvc),Ix (gx),Ix (gy)]]) tf104.ok rfl rfl) rfl fun w β1 sb kn hw1 back => (stepY_ok β1 w hw1 _ _ gx gy bs rs (Sl.mono _ _ _ _ _ sb (⟨⟨_,_,rfl,vl,vm,ve⟩⟩ : Sl KBR _ _ bs)) (Sl.mono _ _ _ _ _ sb (⟨⟨_,_,rfl,rvl,rvm,rve⟩⟩ : Sl KRR _ _ rs)) hgx hgy (GR.mono sb hG) hokS B S hBS).mono ?_
 rintro e w' ⟨p5,c6,p7,c8,p9,c10,rfl,hw'⟩
 refine ⟨_,rfl,_,back _ _ hw',?_⟩
 clear hw1 hw' back kn sb
 refine lE omt (lE oxa (lE oxs (lE oxi (alE fun b11 => lu (mS 0 (#[sB p5 bs c6,sB p7 rs c8,Ix (gx),Ix (gy)])) (lE oas (lE oai (lnf (cs2 (c_region ?_)))))))))
 refine lE omi (lE onq (lE omb (gE ofp (gE (ols 0) (gE oln (gE ofp (gE (ols 7) (gE oln (gE onq (lE okfb (lE omb ?_)))))))))))
 refine l_split (s := 25) rfl (fun h => ?_) (fun h => ?_)
 exact absurd h (by omega)
 refine gE ofp (gE (ols 0) (gE oln (gE oeq_ (lE okfb (lE omb (l_split (s := 31) rfl (fun h => ?_) (fun h => ?_)))))))
 exact absurd h (by omega)
 refine gE oms (gE oln (gE ogt (lE okfb (lnf (c_if _ rfl (fun hc12 => ?_) (fun hc12 => ?_))))))
 ·exact absurd hc12 (by omega)
 refine csk (cs2 (c_region (lE oms (lE oln (lE oeq_ (lnf (c_if _ rfl (fun hc13 => ?_) (fun hc13 => ?_))))))))
 ·exact absurd hc13 (by omega)
 refine csk (c_seq ?_)
 refine cny [sv 53 (pp b11 0) [] [] [0],sv 54 (sB p5 bs c6) [0] [0] [],sv 55 (.pointer (some ((ba p5).add (0 * 9)))) [0,1] [1] [],sv 56 (.pointer (some ((ba p5).add (0 * 9 + 1)))) [0,1,2] [2] [],sv 57 (.agg #[Ix (b.x),Ix (b.y)]) [0,1,2,3] [3] [],sv 58 (pp b11 0) [] [] [0],sv 59 (sB p5 bs c6) [5] [5] [],sv 60 (.pointer (some ((ba p5).add (0 * 9)))) [5,6] [6] [],sv 61 (.pointer (some ((ba p5).add (0 * 9 + 3)))) [5,6,7] [7] [],sv 62 (.agg #[Ix (b.vx),Ix (b.vy)]) [5,6,7,8] [8] [],sv 63 (sB p9 S c10) [] [] [1],sv 64 (.pointer (some ((ba p9).add (0 * 3)))) [10] [10] [],sv 65 (.agg #[Ix (z.id),Bx (z.along),Ix (z.by_)]) [10,11] [11] [],⟨[0,1,2,3,4],[4],[2],[],fun _ => True⟩,⟨[0,1,2,3,4,5,6,7,8,9,13],[9],[3],[],fun _ => True⟩,⟨(List.range 15),[12],[4],[],fun _ => True⟩] [tk (pt b11 (.cells #[sB p5 bs c6,sB p7 rs c8,Ix (gx),Ix (gy)] 30)) [1,6],tk (rowF BodyF 52 p5 c6 B) [2,4,7,9],tk (rowF RopeF 78 p7 c8 rs) [],tk (rowF StopF 55 p9 c10 S) [11,12],⟨none,(some 15),[15],[],fun _ => pt b4 (.cells #[.int .i64 (0),.int .u8 (0),.int .i64 (0)] 55)⟩,⟨none,(some 14),[14],[],fun _ => pt b3 (.cells #[.int .i64 (0),.int .i64 (0)] 28)⟩,⟨none,(some 13),[13],[],fun _ => pt b2 (.cells #[.int .i64 (0),.int .i64 (0)] 28)⟩,tk (pt b1 (.cells #[sB va bs (vc),sB rva rs (rvc),Ix (gx),Ix (gy)] 30)) [],⟨(some 13),none,[],[],fun _ => pt b2 (.cells #[Ix (b.x),Ix (b.y)] 28)⟩,⟨(some 14),none,[],[],fun _ => pt b3 (.cells #[Ix (b.vx),Ix (b.vy)] 28)⟩,⟨(some 15),none,[],[],fun _ => pt b4 (.cells #[Ix (z.id),Bx (z.along),Ix (z.by_)] 55)⟩] [(5,pp b11 0),(6,sB p9 S c10),(2,pp b2 0),(3,pp b3 0),(4,pp b4 0)] [2,3,4] [] ⟨rfl,rfl,rfl,rfl,rfl,trivial⟩ ⟨?_,?_,?_,?_,?_,?_,?_,?_,?_,?_,?_,?_,?_,?_,?_,?_,trivial⟩ ?_
 ·rintro f M - ⟨i0,-⟩
  exact obE ofp
 ·rintro f M ⟨k0,-⟩ -
  exact obE (ols 0)
 ·rintro f M ⟨k0,-⟩ -
  exact obv (L' := rowF BodyF 52 p5 c6 B :: M) (up_cons (d := 54) rfl k0) rfl (e_indexFlN 0 (F := BodyF) (j := 0) (m := bs.length) (xs := B) rfl (by omega) rfl tf43 (by omega) rfl) (perm_front 0 rfl) (by rfl)
 ·rintro f M ⟨k0,-⟩ -
  exact ob0 (up_cons (d := 55) rfl k0) rfl (e_fd rfl tf6.ok) (.refl _)
 ·rintro f M ⟨k0,-⟩ -
  exact obv (L' := rowF BodyF 52 p5 c6 B :: M) (up_cons (d := 56) rfl k0) rfl (e_load tf15.ok rfl (k_flPart 0 (F := BodyF) (o := 1) (us := [Ix (b.x),Ix (b.y)]) rfl hb0 rfl) rfl) (perm_front 0 rfl) (by rfl)
 ·rintro f M - ⟨i0,-⟩
  exact obE ofp
 ·rintro f M ⟨k0,-⟩ -
  exact obE (ols 0)
 ·rintro f M ⟨k0,-⟩ -
  exact obv (L' := rowF BodyF 52 p5 c6 B :: M) (up_cons (d := 59) rfl k0) rfl (e_indexFlN 0 (F := BodyF) (j := 0) (m := bs.length) (xs := B) rfl (by omega) rfl tf43 (by omega) rfl) (perm_front 0 rfl) (by rfl)
 ·rintro f M ⟨k0,-⟩ -
  exact ob0 (up_cons (d := 60) rfl k0) rfl (e_fd rfl tf9.ok) (.refl _)
 ·rintro f M ⟨k0,-⟩ -
  exact obv (L' := rowF BodyF 52 p5 c6 B :: M) (up_cons (d := 61) rfl k0) rfl (e_load tf15.ok rfl (k_flPart 0 (F := BodyF) (o := 3) (us := [Ix (b.vx),Ix (b.vy)]) rfl hb0 rfl) rfl) (perm_front 0 rfl) (by rfl)
 ·rintro f M - ⟨i0,-⟩
  exact obE oms
 ·rintro f M ⟨k0,-⟩ -
  exact obv (L' := rowF StopF 55 p9 c10 S :: M) (up_cons (d := 63) rfl k0) rfl (e_indexFlN 0 (F := StopF) (j := 0) (m := S.length) (xs := S) rfl rfl rfl tf100 (by omega) rfl) (perm_front 0 rfl) (by rfl)
 ·rintro f M ⟨k0,-⟩ -
  exact obv (L' := rowF StopF 55 p9 c10 S :: M) (up_cons (d := 64) rfl k0) rfl (e_load tf106.ok rfl (k_flAt 0 (F := StopF) rfl hz0) rfl) (perm_front 0 rfl) (by rfl)
 ·rintro f M ⟨k0,-⟩ ⟨i0,-⟩
  refine ob_start (L' := pt b2 (.cells #[.int .i64 (0),.int .i64 (0)] 28) :: M) (by rfl) (up_cons (d := 57) (up_cons (d := 2) rfl i0) k0) ?_
  refine lu (mS 0 (#[Ix (b.x),Ix (b.y)])) (l_nil ?_)
  exact f_owes_n (up_cons (d := 57) (up_cons (d := 2) rfl i0) k0) trivial (perm_front 0 rfl)
 ·rintro f M ⟨k0,-⟩ ⟨i0,-⟩
  refine ob_start (L' := pt b3 (.cells #[.int .i64 (0),.int .i64 (0)] 28) :: M) (by rfl) (up_cons (d := 62) (up_cons (d := 3) rfl i0) k0) ?_
  refine lu (mS 0 (#[Ix (b.vx),Ix (b.vy)])) (l_nil ?_)
  exact f_owes_n (up_cons (d := 62) (up_cons (d := 3) rfl i0) k0) trivial (perm_front 0 rfl)
 ·rintro f M ⟨k0,-⟩ ⟨i0,-⟩
  refine ob_start (L' := pt b4 (.cells #[.int .i64 (0),.int .u8 (0),.int .i64 (0)] 55) :: M) (by rfl) (up_cons (d := 65) (up_cons (d := 4) rfl i0) k0) ?_
  refine lu (mS 0 (#[Ix (z.id),Bx (z.along),Ix (z.by_)])) (l_nil ?_)
  exact f_owes_n (up_cons (d := 65) (up_cons (d := 4) rfl i0) k0) trivial (perm_front 0 rfl)
 rintro fa14 ⟨-,-,-,-,-,-,-,-,-,-,-,-,-,-,-,-,-⟩ ⟨j0,j1,j2,-⟩
 refine f_re (L' := [pt b11 (.cells #[sB p5 bs c6,sB p7 rs c8,Ix (gx),Ix (gy)] 30),rowF BodyF 52 p5 c6 B,rowF RopeF 78 p7 c8 rs,rowF StopF 55 p9 c10 S,pt b1 (.cells #[sB va bs (vc),sB rva rs (rvc),Ix (gx),Ix (gy)] 30),pt b2 (.cells #[Ix (b.x),Ix (b.y)] 28),pt b3 (.cells #[Ix (b.vx),Ix (b.vy)] 28),pt b4 (.cells #[Ix (z.id),Bx (z.along),Ix (z.by_)] 55)]) (by rfl) ?_
 refine f_rebase (d := 2) j0 (f_rebase (d := 3) j1 (f_rebase (d := 4) j2 (ftr ?_)))
 refine retG (m := [.agg #[Ix (b.x),Ix (b.y)],.agg #[Ix (b.vx),Ix (b.vy)],.agg #[Ix (z.id),Bx (z.along),Ix (z.by_)]]) Tryz.results32 ⟨rd_cell tf15.ok rfl (k_pt 5 rfl rfl) rfl,rd_cell tf15.ok rfl (k_pt 6 rfl rfl) rfl,rd_cell tf106.ok rfl (k_pt 7 rfl rfl) rfl,trivial⟩ rfl ?_
 intro w hw
 exact ⟨rfl,st_mask [false,false,false,false,false,false,false,false] rfl hw⟩
set_option maxHeartbeats 4000000 in
theorem ends0_ok (β : Base) (w : World) (hw : St β [] w) (v rv : Value) (gx gy : Int) (bs : List KB) (rs : List KR) (hs : Sl KBR β.heap v bs) (hr : Sl KRR β.heap rv rs) (hgx : -9223372036854775808 ≤ gx ∧ gx ≤ 9223372036854775807) (hgy : -9223372036854775808 ≤ gy ∧ gy ≤ 9223372036854775807) (hG : GR β) (hokS : okS bs rs gx gy) (B : List KB) (S : List KS) (hBS : stepsTo rs gx gy bs bs.length = (B, S)) (hBl : B.length = bs.length) (b : KB) (hb0 : B[0]? = some b) (hzl : S.length = 0) : Ret Tryz.prog 32 #[.agg #[v, rv, Ix gx, Ix gy]] β w (.tuple #[.agg #[Ix b.x, Ix b.y], .agg #[Ix b.vx, Ix b.vy], .agg #[.int .i64 (0), .int .u8 (0), .int .i64 (0)]]) := by
 obtain ⟨va,vc,rfl,vl,vm,ve⟩ := hs.get
 obtain ⟨rva,rvc,rfl,rvl,rvm,rve⟩ := hr.get
 have hB0 := (List.getElem?_eq_some_iff.1 hb0).1
 refine enter (n := 66) Tryz.func32 rfl Tryz.ntmps32 rfl ?_ hw
 refine csr (bxa fun b1 => ?_)
 refine alE fun b2 => alE fun b3 => alE fun b4 => lnc (lE (olg 3) ?_)
 refine lcf (cl0 (vs := [.agg #[sB va bs (vc),sB rva rs (rvc),Ix (gx),Ix (gy)]]) tf104.ok rfl rfl) rfl fun w β1 sb kn hw1 back => (stepY_ok β1 w hw1 _ _ gx gy bs rs (Sl.mono _ _ _ _ _ sb (⟨⟨_,_,rfl,vl,vm,ve⟩⟩ : Sl KBR _ _ bs)) (Sl.mono _ _ _ _ _ sb (⟨⟨_,_,rfl,rvl,rvm,rve⟩⟩ : Sl KRR _ _ rs)) hgx hgy (GR.mono sb hG) hokS B S hBS).mono ?_
 rintro e w' ⟨p5,c6,p7,c8,p9,c10,rfl,hw'⟩
 refine ⟨_,rfl,_,back _ _ hw',?_⟩
 clear hw1 hw' back kn sb
 refine lE omt (lE oxa (lE oxs (lE oxi (alE fun b11 => lu (mS 0 (#[sB p5 bs c6,sB p7 rs c8,Ix (gx),Ix (gy)])) (lE oas (lE oai (lnf (cs2 (c_region ?_)))))))))
 refine lE omi (lE onq (lE omb (gE ofp (gE (ols 0) (gE oln (gE ofp (gE (ols 7) (gE oln (gE onq (lE okfb (lE omb ?_)))))))))))
 refine l_split (s := 25) rfl (fun h => ?_) (fun h => ?_)
 exact absurd h (by omega)
 refine gE ofp (gE (ols 0) (gE oln (gE oeq_ (lE okfb (lE omb (l_split (s := 31) rfl (fun h => ?_) (fun h => ?_)))))))
 exact absurd h (by omega)
 refine gE oms (gE oln (gE ogt (lE okfb (lnf (c_if _ rfl (fun hc12 => ?_) (fun hc12 => ?_))))))
 ·exact absurd hc12 (by omega)
 refine csk (cs2 (c_region (lE oms (lE oln (lE oeq_ (lnf (c_if _ rfl (fun hc13 => ?_) (fun hc13 => ?_))))))))
 ·refine c_seq ?_
  refine cny [sv 42 (pp b11 0) [] [] [0],sv 43 (sB p5 bs c6) [0] [0] [],sv 44 (.pointer (some ((ba p5).add (0 * 9)))) [0,1] [1] [],sv 45 (.pointer (some ((ba p5).add (0 * 9 + 1)))) [0,1,2] [2] [],sv 46 (.agg #[Ix (b.x),Ix (b.y)]) [0,1,2,3] [3] [],sv 47 (pp b11 0) [] [] [0],sv 48 (sB p5 bs c6) [5] [5] [],sv 49 (.pointer (some ((ba p5).add (0 * 9)))) [5,6] [6] [],sv 50 (.pointer (some ((ba p5).add (0 * 9 + 3)))) [5,6,7] [7] [],sv 51 (.agg #[Ix (b.vx),Ix (b.vy)]) [5,6,7,8] [8] [],sv 52 (.agg #[.int .i64 (0),.int .u8 (0),.int .i64 (0)]) [] [] [],⟨[0,1,2,3,4],[4],[1],[],fun _ => True⟩,⟨[0,1,2,3,4,5,6,7,8,9,11],[9],[2],[],fun _ => True⟩,⟨(List.range 13),[10],[3],[],fun _ => True⟩] [tk (pt b11 (.cells #[sB p5 bs c6,sB p7 rs c8,Ix (gx),Ix (gy)] 30)) [1,6],tk (rowF BodyF 52 p5 c6 B) [2,4,7,9],tk (rowF RopeF 78 p7 c8 rs) [],tk (rowF StopF 55 p9 c10 S) [],⟨none,(some 13),[13],[],fun _ => pt b4 (.cells #[.int .i64 (0),.int .u8 (0),.int .i64 (0)] 55)⟩,⟨none,(some 12),[12],[],fun _ => pt b3 (.cells #[.int .i64 (0),.int .i64 (0)] 28)⟩,⟨none,(some 11),[11],[],fun _ => pt b2 (.cells #[.int .i64 (0),.int .i64 (0)] 28)⟩,tk (pt b1 (.cells #[sB va bs (vc),sB rva rs (rvc),Ix (gx),Ix (gy)] 30)) [],⟨(some 11),none,[],[],fun _ => pt b2 (.cells #[Ix (b.x),Ix (b.y)] 28)⟩,⟨(some 12),none,[],[],fun _ => pt b3 (.cells #[Ix (b.vx),Ix (b.vy)] 28)⟩,⟨(some 13),none,[],[],fun _ => pt b4 (.cells #[.int .i64 (0),.int .u8 (0),.int .i64 (0)] 55)⟩] [(5,pp b11 0),(2,pp b2 0),(3,pp b3 0),(4,pp b4 0)] [1,2,3] [] ⟨rfl,rfl,rfl,rfl,trivial⟩ ⟨?_,?_,?_,?_,?_,?_,?_,?_,?_,?_,?_,?_,?_,?_,trivial⟩ ?_
  ·rintro f M - ⟨i0,-⟩
   exact obE ofp
  ·rintro f M ⟨k0,-⟩ -
   exact obE (ols 0)
  ·rintro f M ⟨k0,-⟩ -
   exact obv (L' := rowF BodyF 52 p5 c6 B :: M) (up_cons (d := 43) rfl k0) rfl (e_indexFlN 0 (F := BodyF) (j := 0) (m := bs.length) (xs := B) rfl (by omega) rfl tf43 (by omega) rfl) (perm_front 0 rfl) (by rfl)
  ·rintro f M ⟨k0,-⟩ -
   exact ob0 (up_cons (d := 44) rfl k0) rfl (e_fd rfl tf6.ok) (.refl _)
  ·rintro f M ⟨k0,-⟩ -
   exact obv (L' := rowF BodyF 52 p5 c6 B :: M) (up_cons (d := 45) rfl k0) rfl (e_load tf15.ok rfl (k_flPart 0 (F := BodyF) (o := 1) (us := [Ix (b.x),Ix (b.y)]) rfl hb0 rfl) rfl) (perm_front 0 rfl) (by rfl)
  ·rintro f M - ⟨i0,-⟩
   exact obE ofp
  ·rintro f M ⟨k0,-⟩ -
   exact obE (ols 0)
  ·rintro f M ⟨k0,-⟩ -
   exact obv (L' := rowF BodyF 52 p5 c6 B :: M) (up_cons (d := 48) rfl k0) rfl (e_indexFlN 0 (F := BodyF) (j := 0) (m := bs.length) (xs := B) rfl (by omega) rfl tf43 (by omega) rfl) (perm_front 0 rfl) (by rfl)
  ·rintro f M ⟨k0,-⟩ -
   exact ob0 (up_cons (d := 49) rfl k0) rfl (e_fd rfl tf9.ok) (.refl _)
  ·rintro f M ⟨k0,-⟩ -
   exact obv (L' := rowF BodyF 52 p5 c6 B :: M) (up_cons (d := 50) rfl k0) rfl (e_load tf15.ok rfl (k_flPart 0 (F := BodyF) (o := 3) (us := [Ix (b.vx),Ix (b.vy)]) rfl hb0 rfl) rfl) (perm_front 0 rfl) (by rfl)
  ·rintro f M - -
   exact ob0 rfl rfl (e_build tf99.ok tf98 (vs := []) (cells := #[.int .i64 (0),.int .u8 (0),.int .i64 (0)]) rfl rfl) (.refl _)
  ·rintro f M ⟨k0,-⟩ ⟨i0,-⟩
   refine ob_start (L' := pt b2 (.cells #[.int .i64 (0),.int .i64 (0)] 28) :: M) (by rfl) (up_cons (d := 46) (up_cons (d := 2) rfl i0) k0) ?_
   refine lu (mS 0 (#[Ix (b.x),Ix (b.y)])) (l_nil ?_)
   exact f_owes_n (up_cons (d := 46) (up_cons (d := 2) rfl i0) k0) trivial (perm_front 0 rfl)
  ·rintro f M ⟨k0,-⟩ ⟨i0,-⟩
   refine ob_start (L' := pt b3 (.cells #[.int .i64 (0),.int .i64 (0)] 28) :: M) (by rfl) (up_cons (d := 51) (up_cons (d := 3) rfl i0) k0) ?_
   refine lu (mS 0 (#[Ix (b.vx),Ix (b.vy)])) (l_nil ?_)
   exact f_owes_n (up_cons (d := 51) (up_cons (d := 3) rfl i0) k0) trivial (perm_front 0 rfl)
  ·rintro f M ⟨k0,-⟩ ⟨i0,-⟩
   refine ob_start (L' := pt b4 (.cells #[.int .i64 (0),.int .u8 (0),.int .i64 (0)] 55) :: M) (by rfl) (up_cons (d := 52) (up_cons (d := 4) rfl i0) k0) ?_
   refine lu (mS 0 (#[.int .i64 (0),.int .u8 (0),.int .i64 (0)])) (l_nil ?_)
   exact f_owes_n (up_cons (d := 52) (up_cons (d := 4) rfl i0) k0) trivial (perm_front 0 rfl)
  rintro fa14 ⟨-,-,-,-,-,-,-,-,-,-,-,-,-,-,-⟩ ⟨j0,j1,j2,-⟩
  refine f_re (L' := [pt b11 (.cells #[sB p5 bs c6,sB p7 rs c8,Ix (gx),Ix (gy)] 30),rowF BodyF 52 p5 c6 B,rowF RopeF 78 p7 c8 rs,rowF StopF 55 p9 c10 S,pt b1 (.cells #[sB va bs (vc),sB rva rs (rvc),Ix (gx),Ix (gy)] 30),pt b2 (.cells #[Ix (b.x),Ix (b.y)] 28),pt b3 (.cells #[Ix (b.vx),Ix (b.vy)] 28),pt b4 (.cells #[.int .i64 (0),.int .u8 (0),.int .i64 (0)] 55)]) (by rfl) ?_
  refine f_rebase (d := 2) j0 (f_rebase (d := 3) j1 (f_rebase (d := 4) j2 (ftr (f_then_ret ?_))))
  refine retG (m := [.agg #[Ix (b.x),Ix (b.y)],.agg #[Ix (b.vx),Ix (b.vy)],.agg #[.int .i64 (0),.int .u8 (0),.int .i64 (0)]]) Tryz.results32 ⟨rd_cell tf15.ok rfl (k_pt 5 rfl rfl) rfl,rd_cell tf15.ok rfl (k_pt 6 rfl rfl) rfl,rd_cell tf106.ok rfl (k_pt 7 rfl rfl) rfl,trivial⟩ rfl ?_
  intro w hw
  exact ⟨rfl,st_mask [false,false,false,false,false,false,false,false] rfl hw⟩
 exact absurd (by omega) hc13
end Go.Proofs
