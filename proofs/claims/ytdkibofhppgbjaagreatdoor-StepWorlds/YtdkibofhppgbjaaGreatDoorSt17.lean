/-
 What the law's kit does: lends,keeps,writes over,compares. Printed by a program of my own.
-/
import Derived.Test.YtdkibofhppgbjaaGreatDoorSt16
import Derived.Test.YtdkibofhppgbjaaGreatDoorStLent
import Derived.Test.YtdkibofhppgbjaaGreatDoorSlB
namespace Go.Proofs
open Go Go.Sl Go.Stp
abbrev KSR : Rp KS := StopF.R
instance tf131 : CfC Tryz.prog 174 := ⟨by kernel_rfl⟩
instance tf132 : CfC Tryz.prog 109 := ⟨by kernel_rfl⟩
theorem tf133 : lay Tryz.prog 10000 52 = some [.int .i64, .int .i64, .int .i64, .int .i64, .int .i64, .int .i64, .int .i64, .bool, .bool] := by kernel_rfl
theorem tf134 : isAggT Tryz.prog 52 = true := by kernel_rfl
theorem tf135 : Tryz.prog.eqGuardType Tryz.prog.depth 52 = false := by kernel_rfl
instance tf136 : CfC Tryz.prog 110 := ⟨by kernel_rfl⟩
theorem tf137 : lay Tryz.prog 10000 78 = some [.int .i64, .int .i64, .int .i64] := by kernel_rfl
theorem tf138 : isAggT Tryz.prog 78 = true := by kernel_rfl
theorem tf139 : Tryz.prog.eqGuardType Tryz.prog.depth 78 = false := by kernel_rfl
theorem mark_ok (β : Base) (w : World) (hw : St β [] w) (a i : Int) (ha : -1048576 ≤ a ∧ a ≤ 1048576) (hi : -1048576 ≤ i ∧ i ≤ 1048576) : Ret Tryz.prog 174 #[Ix a, Ix i] β w (Ix (markN a i)) := by
 refine enter (n := 10) Tryz.func174 rfl Tryz.ntmps174 rfl ?_ hw
 refine csr (lE oai (lnc (lE omi (lE opl (lE otm (lE omi (lE opl (lE oai (lnf (c_ret (ret1 Tryz.results174 rfl ?_)))))))))))
 intro w hw
 exact ⟨rfl,st_mask [] rfl hw⟩
theorem markB_ok (β : Base) (w : World) (hw : St β [] w) (a i : Int) (ha : -1048576 ≤ a ∧ a ≤ 1048576) (hi : -1048576 ≤ i ∧ i ≤ 1048576) : Ret Tryz.prog 109 #[Ix a, Ix i] β w (.agg (bC (markB a i))) := by
 refine enter (n := 9) Tryz.func109 rfl Tryz.ntmps109 rfl ?_ hw
 refine csr (alE fun b1 => lnc (lE omi (lE omi (lcR clA (fun w β1 sb kn hw1 => mark_ok β1 w hw1 (a) (i) (by omega) (by omega)) ?_))))
 refine lv (v := .agg #[Ix (markN (a) (i)),.int .i64 (0),.int .i64 (0),.int .i64 (0),.int .i64 (0),.int .i64 (0),.int .i64 (0),.bool false,.bool false]) (e_build tf58.ok tf102 (vs := [(0,Ix (markN (a) (i)))]) (cells := #[Ix (markN (a) (i)),.int .i64 (0),.int .i64 (0),.int .i64 (0),.int .i64 (0),.int .i64 (0),.int .i64 (0),.bool false,.bool false]) rfl (by kernel_rfl)) ?_
 refine lu (mS 0 (#[Ix (markN (a) (i)),.int .i64 (0),.int .i64 (0),.int .i64 (0),.int .i64 (0),.int .i64 (0),.int .i64 (0),.bool false,.bool false])) ?_
 refine lnf (c_ret ?_)
 refine retG (m := [.agg #[Ix (markN (a) (i)),.int .i64 (0),.int .i64 (0),.int .i64 (0),.int .i64 (0),.int .i64 (0),.int .i64 (0),.bool false,.bool false]]) Tryz.results109 ⟨rd_cell tf22.ok rfl (k_pt 0 rfl rfl) rfl,trivial⟩ rfl ?_
 intro w hw
 exact ⟨rfl,st_mask [false] rfl hw⟩
theorem markR_ok (β : Base) (w : World) (hw : St β [] w) (a i : Int) (ha : -1048576 ≤ a ∧ a ≤ 1048576) (hi : -1048576 ≤ i ∧ i ≤ 1048576) : Ret Tryz.prog 110 #[Ix a, Ix i] β w (.agg #[Ix ((markR a i).a), Ix ((markR a i).b), Ix ((markR a i).len)]) := by
 refine enter (n := 9) Tryz.func110 rfl Tryz.ntmps110 rfl ?_ hw
 refine csr (alE fun b1 => lnc (lE omi (lE omi (lcR clA (fun w β1 sb kn hw1 => mark_ok β1 w hw1 (a) (i) (by omega) (by omega)) ?_))))
 refine lv (v := .agg #[.int .i64 (0),.int .i64 (0),Ix (markN (a) (i))]) (e_build tf77.ok tf110 (vs := [(2,Ix (markN (a) (i)))]) (cells := #[.int .i64 (0),.int .i64 (0),Ix (markN (a) (i))]) rfl rfl) ?_
 refine lu (mS 0 (#[.int .i64 (0),.int .i64 (0),Ix (markN (a) (i))])) (lnf (c_ret ?_))
 refine retG (m := [.agg #[.int .i64 (0),.int .i64 (0),Ix (markN (a) (i))]]) Tryz.results110 ⟨rd_cell tf47.ok rfl (k_pt 0 rfl rfl) rfl,trivial⟩ rfl ?_
 intro w hw
 exact ⟨rfl,st_mask [false] rfl hw⟩
set_option maxHeartbeats 4000000 in
theorem lentB_ok (β : Base) (w : World) (hw : St β [] w) (v : Value) (xs : List KB) (hs : Sl KBR β.heap v xs) (hn : xs.length ≤ 1048576) : Calls Tryz.prog 58 #[v] w fun r w' => ∃ p c, r = .returned (sB p xs c) ∧ St β [rowF BodyF 52 p c (lentL (markB 1) xs)] w' := by
 obtain ⟨va,vc,rfl,vl,vm,ve⟩ := hs.get
 refine enter (n := 25) Tryz.func58 rfl Tryz.ntmps58 rfl ?_ hw
 refine csr (lE oas (lnc (lE oms (lE oln (lv (v := Nx (xs.length + 12)) (e_add rfl rfl (i64n (by omega) (by omega))) ?_)))))
 refine l_mv rfl rfl rfl (m_make0 (c := xs.length + 12) tf43 tf83 tf58.ok rfl rfl (by omega) (by unfold maxLen; omega) (by omega)) ?_
 rintro _ _ ⟨b1,rfl,rfl⟩
 refine l_re (L' := [rowF BodyF 52 (some ⟨b1,0,none⟩) (xs.length + 12) []]) (by rfl) (lE oas (lnc (lE oms (lE oms ?_))))
 refine l_mv rfl rfl rfl (m_appendFlN (F := BodyF) 0 tf43 tf83 (p := (some ⟨b1,0,none⟩)) (m := 0) (xs := []) (ys := xs) (ao := va) (k := xs.length) (c := vc) rfl rfl rfl rfl rfl (Knows.of_base (Elems.mono _ _ _) ve) (by first | omega | simp only [List.length_nil,List.length_cons,List.length_append,List.length_set]; omega) (by first | omega | simp only [List.length_nil,List.length_cons,List.length_append,List.length_set]; omega)) ?_
 rintro _ _ ⟨rp2,rc3,rfl,rfl⟩
 refine lE oas (lnf (cs2 (c_region (lE oai (lnf (c_block ?_))))))
 refine c_loop (fun (x_ : Nat × List KB × Option Addr × Nat) f L => match x_ with | (k,ys,p,c) => (f 0 = sB va xs (vc) ∧ f 3 = sB p ys c ∧ f 4 = Nx (k)) ∧ L = [rowF BodyF 52 p c ys] ∧ (k ≤ 12 ∧ ys = (xs ++ (List.range k).map fun i => markB 1 (i : Nat)))) (fun (k,ys,p,c) => 12 - k) (0,xs,rp2,rc3) ?_ ?_
 ·exact ⟨⟨rfl,rfl,rfl⟩,rfl,⟨by omega,by simp⟩⟩
 rintro ⟨k,ys,p,c⟩ f0 L0 ⟨⟨hs0,hs3,hs4⟩,hL,⟨hk,hys⟩⟩
 subst L0
 refine rbs 0 hs0 (rbs 3 hs3 (rbs 4 hs4 ?_))
 have hyl : ys.length = xs.length + k := by rw [hys]; simp
 refine cs2 (c_region (lE omi (lE olt (lnf (c_if _ rfl (fun hc4 => ?_) (fun hc4 => ?_))))))
 ·refine csk (c_seq (c_block (c_region (lE oms (lE omi ?_)))))
  refine lcR clA (fun w β1 sb kn hw1 => markB_ok β1 w hw1 (1 : Int) ((k : Nat) : Int) (by omega) (by omega)) ?_
  refine l_mv rfl rfl rfl (m_slices tf43 tf58.ok (cells := (bC (markB 1 ((k : Nat) : Int)))) rfl rfl rfl (by kernel_rfl)) ?_
  rintro _ _ ⟨b5,rfl,rfl⟩
  refine l_mv rfl rfl rfl (m_appendFlN (F := BodyF) 1 tf43 tf83 (p := p) (m := ys.length) (xs := ys) (ys := [(markB 1 ((k : Nat) : Int))]) (ao := (some ⟨b5,0,none⟩)) (k := 1) (c := 1) rfl rfl rfl rfl rfl (k_ptFl (z := (markB 1 ((k : Nat) : Int))) 0 rfl rfl) (by first | omega | simp only [List.length_nil,List.length_cons,List.length_append,List.length_set]; omega) (by first | omega | simp only [List.length_nil,List.length_cons,List.length_append,List.length_set]; omega)) ?_
  rintro _ _ ⟨rp6,rc7,rfl,rfl⟩
  refine lE oas (l_nil (f_block (f_then (c_region (lE omi (lv (v := Nx (k + 1)) (e_add rfl rfl (i64n (by omega) (by omega))) (lE oai (l_nil ?_))))))))
  refine f_mask [false,true] rfl ?_
  exact f_cut ⟨(k + 1,(ys ++ [(markB 1 ((k : Nat) : Int))]),rp6,rc7),⟨⟨rfl,rfl,rfl⟩,rfl,⟨by omega,by rw [hys]; exact lentL_next (markB 1) xs k⟩⟩,(show 12 - (k + 1) < 12 - k from by omega)⟩
 refine c_exit (f_then_exit (f_then_exit (f_exit (fts (c_rowcap 0 rfl (fun hcl hcm => ?_))))))
 have hyl : ys.length = xs.length + k := by rw [hys]; simp
 refine c_region (lE oms (lE oms (lE oln ?_)))
 refine lv (v := sB p xs c) (e_slice_hi (a := p) (len := ys.length) (cap := c) (h := xs.length) tf43 rfl rfl (by omega)) (lE oas (lnf (c_ret ?_)))
 refine ret1 Tryz.results58 rfl ?_
 intro w hw
 obtain rfl : k = 12 := by omega
 have he : ys = lentL (markB 1) xs := hys
 subst he
 exact ⟨p,c,rfl,st_mask [true] rfl hw⟩
set_option maxHeartbeats 4000000 in
theorem keptB_ok (β : Base) (w : World) (hw : St β [] w) (p : Option Addr) (c : Nat) (v : Value) (xs : List KB) (hx : xs.length ≤ 1048576) (hs : Sl KBR β.heap (sB p (lentL (markB 1) xs) c) (lentL (markB 1) xs)) (hv : Sl KBR β.heap v xs) : Ret Tryz.prog 79 #[sB p xs c, v] β w (.bool true) := by
 obtain ⟨va,vc,rfl,vl,vm,ve⟩ := hv.get
 obtain ⟨_,hpl,hpm,hpe⟩ := hs.parts
 have hll := lentL_len (markB 1) xs
 refine enter (n := 58) Tryz.func79 rfl Tryz.ntmps79 rfl ?_ hw
 refine csr (lE oab (lnf (cs2 (c_region (lE oms (lE oln (lE oms (lE oln (lE onq (lnf (c_if _ rfl (fun hc1 => ?_) (fun hc1 => ?_))))))))))))
 ·exact absurd hc1 (by omega)
 refine csk (csr (lE oms (lE oms (lE oln (lv (v := Nx (xs.length + 12)) (e_add rfl rfl (i64n (by omega) (by omega))) ?_)))))
 refine lv (v := .slice p (((lentL (markB 1) xs)).length) (c)) (ev_eq (by rw [lentL_len]) (e_slice_hi (a := p) (len := xs.length) (cap := c) (h := xs.length + 12) tf43 rfl rfl (by omega))) ?_
 refine lE oas (lnf (cs2 (c_region (lE oai (lnf (c_block ?_))))))
 refine c_loop (fun (k : Nat) f L => (f 1 = sB va xs (vc) ∧ f 5 = sB p ((lentL (markB 1) xs)) (c) ∧ f 6 = Nx (k)) ∧ L = [] ∧ (k ≤ xs.length + 12)) (fun k => xs.length + 12 - k) 0 ?_ ?_
 ·exact ⟨⟨rfl,rfl,rfl⟩,rfl,(by omega)⟩
 rintro k f0 L0 ⟨⟨hs1,hs5,hs6⟩,hL,hk⟩
 subst L0
 refine rbs 1 hs1 (rbs 5 hs5 (rbs 6 hs6 (cs2 (c_region (lE omi (lE oms (lE oln (lE olt (lnf (c_if _ rfl (fun hc2 => ?_) (fun hc2 => ?_)))))))))))
 ·refine csk (c_seq (c_block (c_seq (c_quiet (by kernel_rfl) (by kernel_rfl) (qE omi (qE oms (qE oln (qE olt (qE omb ?_)))))))))
  refine q_split (s := 27) rfl (fun hg3 => ?_) (fun hg3 => ?_)
  ·refine rE oms (rE omi ?_)
   obtain ⟨x4,hx5⟩ := getx (lentL (markB 1) xs) k (by omega)
   obtain ⟨ha6,cs7,hc8,rfl⟩ := hpe _ _ hx5
   refine rE (oia tf43 ha6) (qg_val (v := .agg (bC x4)) rfl rfl rfl rfl rfl (e_load tf22.ok rfl (kB hc8) rfl) (rE oms (rE omi ?_)))
   obtain ⟨x10,hx11⟩ := getx xs k (by omega)
   obtain ⟨ha12,cs13,hc14,rfl⟩ := ve _ _ hx11
   refine rE (oia tf43 ha12) (qg_val (v := .agg (bC x10)) rfl rfl rfl rfl rfl (e_load tf22.ok rfl (kB hc14) rfl) ?_)
   refine qg_val (v := .bool (decide (x4 = x10))) rfl rfl rfl rfl rfl (e_eql_t (xs := (bodyE x4)) (ys := (bodyE x10)) tf133 tf134 tf135 rfl rfl rfl rfl body_eq) ?_
   refine rE ond (qE oktb (qE omb (q_split (s := 39) rfl (fun h => ?_) (fun h => ?_))))
   exact absurd h (Decidable.not_not.2 (lentL_lo hx5 hx11))
   refine rE omi (rE oms (rE oln (rE oge (rE omb (q_split (s := 44) rfl (fun hg16 => ?_) (fun hg16 => ?_))))))
   ·refine rE oms (rE omi (rE (oia tf43 ha6) (qg_val (v := .agg (bC x4)) rfl rfl rfl rfl rfl (e_load tf22.ok rfl (kB hc8) rfl) (rE omi (rE oms (rE oln ?_))))))
    refine qg_val (v := Nx (k - xs.length)) rfl rfl rfl rfl rfl (ev_eq (congrArg (Value.int .i64) (by omega)) (e_sub (a := ((k : Nat) : Int)) (b := ((xs.length : Nat) : Int)) rfl rfl (i64w (by omega)))) ?_
    refine qg_call (v := .agg (bC (markB 1 ((k - xs.length : Nat) : Int)))) rfl rfl rfl rfl rfl (cl0 (vs := [.int .i64 (1),Nx (k - xs.length)]) tf132.ok rfl rfl) (fun w hw => ?_) ?_
    ·obtain ⟨β1,sb,kn,hw1,back⟩ := St.frame_all hw
     exact (markB_ok β1 w hw1 (1 : Int) ((k - xs.length : Nat) : Int) (by omega) (by omega)).mono (fun e w' ⟨he,hw'⟩ => ⟨he,st_mask [] rfl (back _ _ hw')⟩)
    refine qg_val (v := .bool (decide (x4 = (markB 1 ((k - xs.length : Nat) : Int))))) rfl rfl rfl rfl rfl (e_eql_t (xs := (bodyE x4)) (ys := (bodyE (markB 1 ((k - xs.length : Nat) : Int)))) tf133 tf134 tf135 rfl rfl rfl rfl body_eq) ?_
    refine rE ond (rE oktb (qE okfb (q_nil (f_then (c_if _ rfl (fun hc17 => ?_) (fun hc17 => ?_))))))
    ·exact absurd hc17 (Decidable.not_not.2 (lentL_hi hx5 (by omega)))
    refine c_skip (f_block (f_then (c_region (lE omi (lE opn (lE oai (l_nil ?_)))))))
    exact f_cut ⟨k + 1,⟨⟨rfl,rfl,rfl⟩,rfl,(by omega)⟩,(show xs.length + 12 - (k + 1) < xs.length + 12 - k from by omega)⟩
   iterate 11 refine qsE ?_
   refine rE okfb (qE okfb (q_nil (f_then (c_no rfl (c_skip (f_block (f_then (c_region (lE omi ?_)))))))))
   refine lv (v := Nx (k + 1)) (e_add rfl rfl (i64n (by omega) (by omega))) (lE oai (l_nil ?_))
   exact f_cut ⟨k + 1,⟨⟨rfl,rfl,rfl⟩,rfl,(by omega)⟩,(show xs.length + 12 - (k + 1) < xs.length + 12 - k from by omega)⟩
  iterate 10 refine qsE ?_
  refine qE okfb (qE omb (rE omi (rE oms (rE oln (rE oge (rE omb (q_split (s := 44) rfl (fun hg18 => ?_) (fun hg18 => ?_))))))))
  ·refine rE oms (rE omi ?_)
   obtain ⟨x19,hx20⟩ := getx (lentL (markB 1) xs) k (by omega)
   obtain ⟨ha21,cs22,hc23,rfl⟩ := hpe _ _ hx20
   refine rE (oia tf43 ha21) (qg_val (v := .agg (bC x19)) rfl rfl rfl rfl rfl (e_load tf22.ok rfl (kB hc23) rfl) (rE omi (rE oms (rE oln ?_))))
   refine qg_val (v := Nx (k - xs.length)) rfl rfl rfl rfl rfl (ev_eq (congrArg (Value.int .i64) (by omega)) (e_sub (a := ((k : Nat) : Int)) (b := ((xs.length : Nat) : Int)) rfl rfl (i64w (by omega)))) ?_
   refine qg_call (v := .agg (bC (markB 1 ((k - xs.length : Nat) : Int)))) rfl rfl rfl rfl rfl (cl0 (vs := [.int .i64 (1),Nx (k - xs.length)]) tf132.ok rfl rfl) (fun w hw => ?_) ?_
   ·obtain ⟨β1,sb,kn,hw1,back⟩ := St.frame_all hw
    exact (markB_ok β1 w hw1 (1 : Int) ((k - xs.length : Nat) : Int) (by omega) (by omega)).mono (fun e w' ⟨he,hw'⟩ => ⟨he,st_mask [] rfl (back _ _ hw')⟩)
   refine qg_val (v := .bool (decide (x19 = (markB 1 ((k - xs.length : Nat) : Int))))) rfl rfl rfl rfl rfl (e_eql_t (xs := (bodyE x19)) (ys := (bodyE (markB 1 ((k - xs.length : Nat) : Int)))) tf133 tf134 tf135 rfl rfl rfl rfl body_eq) ?_
   refine rE ond (rE oktb (qE okfb (q_nil (f_then (c_if _ rfl (fun hc25 => ?_) (fun hc25 => ?_))))))
   ·exact absurd hc25 (Decidable.not_not.2 (lentL_hi hx20 (by omega)))
   refine c_skip (f_block (f_then (c_region (lE omi (lv (v := Nx (k + 1)) (e_add rfl rfl (i64n (by omega) (by omega))) (lE oai (l_nil ?_)))))))
   exact f_cut ⟨k + 1,⟨⟨rfl,rfl,rfl⟩,rfl,(by omega)⟩,(show xs.length + 12 - (k + 1) < xs.length + 12 - k from by omega)⟩
  iterate 11 refine qsE ?_
  refine rE okfb (qE okfb (q_nil (f_then (c_no rfl (c_skip (f_block (f_then (c_region (lE omi (lE opn (lE oai (l_nil ?_))))))))))))
  exact f_cut ⟨k + 1,⟨⟨rfl,rfl,rfl⟩,rfl,(by omega)⟩,(show xs.length + 12 - (k + 1) < xs.length + 12 - k from by omega)⟩
 refine c_exit (f_then_exit (f_then_exit (f_exit (ftc (lE oab (lnf (c_ret (ret1 Tryz.results79 rfl ?_))))))))
 intro w hw
 exact ⟨rfl,st_mask [] rfl hw⟩
theorem overB_ok (β : Base) (w : World) (p : Option Addr) (c n : Nat) (ys : List KB) (hyl : ys.length = n + 12) (hn : n ≤ 1000000) (hw : St β [rowF BodyF 52 p c ys] w) : Calls Tryz.prog 82 #[.slice p n c] w fun r w' => ∃ zs, r = .returned (.tuple #[]) ∧ St β [rowF BodyF 52 p c zs] w' := by
 refine enter (n := 23) Tryz.func82 rfl Tryz.ntmps82 rfl ?_ hw
 refine c_seq (c_rowcap 0 rfl (fun hcl hcm => ?_))
 have hcm2 : c ≤ 9223372036854775807 := by unfold maxLen at hcm; omega
 refine c_region (lE oms (lE oms (lv (v := Nx (c)) (e_cap (a := p) (n := n) (c := c) rfl tf40.ok) (lE oms (lE oln ?_)))))
 refine lv (v := Nx (n + 12)) (e_add rfl rfl (i64n (by omega) (by omega))) ?_
 refine lv (v := Nx (min c (n + 12))) (ev_eq (congrArg (Value.int .i64) (by omega)) (e_min (a := ((c : Nat) : Int)) (b := ((n + 12 : Nat) : Int)) rfl rfl)) ?_
 refine lv (v := .slice p (min c (n + 12)) c) (e_slice_hi (a := p) (len := n) (cap := c) (h := min c (n + 12)) tf43 rfl rfl (by omega)) (lE oas ?_)
 refine lnc (lE oai (lnf (c_block ?_)))
 refine c_loop (fun (x_ : Nat × List KB) f L => match x_ with | (k,zs) => (f 2 = .slice p (min c (n + 12)) c ∧ f 3 = Nx (k)) ∧ L = [rowF BodyF 52 p c zs] ∧ (k ≤ min c (n + 12) ∧ zs.length = n + 12)) (fun (k,zs) => min c (n + 12) - k) (0,ys) ?_ ?_
 ·exact ⟨⟨rfl,rfl⟩,rfl,⟨by omega,hyl⟩⟩
 rintro ⟨k,zs⟩ f0 L0 ⟨⟨hs2,hs3⟩,hL,⟨hk,hzl⟩⟩
 subst L0
 refine rbs 2 hs2 (rbs 3 hs3 (cs2 (c_region (lE omi (lE oms (lE oln (lE olt (lnf (c_if _ rfl (fun hc1 => ?_) (fun hc1 => ?_))))))))))
 ·refine csk (c_seq (c_block (c_region (lE oms (lE omi (lE omi ?_))))))
  refine lcR clA (fun w β1 sb kn hw1 => markB_ok β1 w hw1 (2 : Int) ((k : Nat) : Int) (by omega) (by omega)) ?_
  refine lv (v := .pointer (some ((ba p).add (k * 9)))) (e_indexFlN 0 (F := BodyF) rfl (by omega) rfl tf43 (by omega) rfl) ?_
  refine lu (m_storeFl 0 (F := BodyF) (p := p) (k := k) (xs := zs) (z := (markB 2 ((k : Nat) : Int))) tf22.ok rfl rfl rfl rfl (by omega)) (l_nil ?_)
  refine f_block (f_then (c_region (lE omi (lv (v := Nx (k + 1)) (e_add rfl rfl (i64n (by omega) (by omega))) (lE oai (l_nil ?_))))))
  exact f_cut ⟨(k + 1,(zs.set k (markB 2 ((k : Nat) : Int)))),⟨⟨rfl,rfl⟩,rfl,⟨by omega,by simp only [sB,List.length_set]; exact hzl⟩⟩,(show min c (n + 12) - (k + 1) < min c (n + 12) - k from by omega)⟩
 refine c_exit (f_then_exit (f_then_exit (f_exit (end0 Tryz.results82 ?_))))
 intro w hw
 exact ⟨zs,rfl,st_mask [true] rfl hw⟩
set_option maxHeartbeats 4000000 in
theorem lentR_ok (β : Base) (w : World) (hw : St β [] w) (v : Value) (xs : List KR) (hs : Sl KRR β.heap v xs) (hn : xs.length ≤ 1048576) : Calls Tryz.prog 59 #[v] w fun r w' => ∃ p c, r = .returned (sB p xs c) ∧ St β [rowF RopeF 78 p c (lentL (markR 1) xs)] w' := by
 obtain ⟨va,vc,rfl,vl,vm,ve⟩ := hs.get
 refine enter (n := 25) Tryz.func59 rfl Tryz.ntmps59 rfl ?_ hw
 refine csr (lE oas (lnc (lE oms (lE oln (lv (v := Nx (xs.length + 12)) (e_add rfl rfl (i64n (by omega) (by omega))) ?_)))))
 refine l_mv rfl rfl rfl (m_make0 (c := xs.length + 12) tf46 tf84 tf77.ok rfl rfl (by omega) (by unfold maxLen; omega) (by omega)) ?_
 rintro _ _ ⟨b1,rfl,rfl⟩
 refine l_re (L' := [rowF RopeF 78 (some ⟨b1,0,none⟩) (xs.length + 12) []]) (by rfl) (lE oas (lnc (lE oms (lE oms ?_))))
 refine l_mv rfl rfl rfl (m_appendFlN (F := RopeF) 0 tf46 tf84 (p := (some ⟨b1,0,none⟩)) (m := 0) (xs := []) (ys := xs) (ao := va) (k := xs.length) (c := vc) rfl rfl rfl rfl rfl (Knows.of_base (Elems.mono _ _ _) ve) (by first | omega | simp only [List.length_nil,List.length_cons,List.length_append,List.length_set]; omega) (by first | omega | simp only [List.length_nil,List.length_cons,List.length_append,List.length_set]; omega)) ?_
 rintro _ _ ⟨rp2,rc3,rfl,rfl⟩
 refine lE oas (lnf (cs2 (c_region (lE oai (lnf (c_block ?_))))))
 refine c_loop (fun (x_ : Nat × List KR × Option Addr × Nat) f L => match x_ with | (k,ys,p,c) => (f 0 = sB va xs (vc) ∧ f 3 = sB p ys c ∧ f 4 = Nx (k)) ∧ L = [rowF RopeF 78 p c ys] ∧ (k ≤ 12 ∧ ys = (xs ++ (List.range k).map fun i => markR 1 (i : Nat)))) (fun (k,ys,p,c) => 12 - k) (0,xs,rp2,rc3) ?_ ?_
 ·exact ⟨⟨rfl,rfl,rfl⟩,rfl,⟨by omega,by simp⟩⟩
 rintro ⟨k,ys,p,c⟩ f0 L0 ⟨⟨hs0,hs3,hs4⟩,hL,⟨hk,hys⟩⟩
 subst L0
 refine rbs 0 hs0 (rbs 3 hs3 (rbs 4 hs4 ?_))
 have hyl : ys.length = xs.length + k := by rw [hys]; simp
 refine cs2 (c_region (lE omi (lE olt (lnf (c_if _ rfl (fun hc4 => ?_) (fun hc4 => ?_))))))
 ·refine csk (c_seq (c_block (c_region (lE oms (lE omi ?_)))))
  refine lcR clA (fun w β1 sb kn hw1 => markR_ok β1 w hw1 (1 : Int) ((k : Nat) : Int) (by omega) (by omega)) ?_
  refine l_mv rfl rfl rfl (m_slices tf46 tf77.ok (cells := #[Ix ((markR 1 ((k : Nat) : Int)).a),Ix ((markR 1 ((k : Nat) : Int)).b),Ix ((markR 1 ((k : Nat) : Int)).len)]) rfl rfl rfl rfl) ?_
  rintro _ _ ⟨b5,rfl,rfl⟩
  refine l_mv rfl rfl rfl (m_appendFlN (F := RopeF) 1 tf46 tf84 (p := p) (m := ys.length) (xs := ys) (ys := [(markR 1 ((k : Nat) : Int))]) (ao := (some ⟨b5,0,none⟩)) (k := 1) (c := 1) rfl rfl rfl rfl rfl (k_ptFl (z := (markR 1 ((k : Nat) : Int))) 0 rfl rfl) (by first | omega | simp only [List.length_nil,List.length_cons,List.length_append,List.length_set]; omega) (by first | omega | simp only [List.length_nil,List.length_cons,List.length_append,List.length_set]; omega)) ?_
  rintro _ _ ⟨rp6,rc7,rfl,rfl⟩
  refine lE oas (l_nil (f_block (f_then (c_region (lE omi (lv (v := Nx (k + 1)) (e_add rfl rfl (i64n (by omega) (by omega))) (lE oai (l_nil ?_))))))))
  refine f_mask [false,true] rfl ?_
  exact f_cut ⟨(k + 1,(ys ++ [(markR 1 ((k : Nat) : Int))]),rp6,rc7),⟨⟨rfl,rfl,rfl⟩,rfl,⟨by omega,by rw [hys]; exact lentL_next (markR 1) xs k⟩⟩,(show 12 - (k + 1) < 12 - k from by omega)⟩
 refine c_exit (f_then_exit (f_then_exit (f_exit (fts (c_rowcap 0 rfl (fun hcl hcm => ?_))))))
 have hyl : ys.length = xs.length + k := by rw [hys]; simp
 refine c_region (lE oms (lE oms (lE oln ?_)))
 refine lv (v := sB p xs c) (e_slice_hi (a := p) (len := ys.length) (cap := c) (h := xs.length) tf46 rfl rfl (by omega)) (lE oas (lnf (c_ret ?_)))
 refine ret1 Tryz.results59 rfl ?_
 intro w hw
 obtain rfl : k = 12 := by omega
 have he : ys = lentL (markR 1) xs := hys
 subst he
 exact ⟨p,c,rfl,st_mask [true] rfl hw⟩
set_option maxHeartbeats 4000000 in
theorem keptR_ok (β : Base) (w : World) (hw : St β [] w) (p : Option Addr) (c : Nat) (v : Value) (xs : List KR) (hx : xs.length ≤ 1048576) (hs : Sl KRR β.heap (sB p (lentL (markR 1) xs) c) (lentL (markR 1) xs)) (hv : Sl KRR β.heap v xs) : Ret Tryz.prog 80 #[sB p xs c, v] β w (.bool true) := by
 obtain ⟨va,vc,rfl,vl,vm,ve⟩ := hv.get
 obtain ⟨_,hpl,hpm,hpe⟩ := hs.parts
 have hll := lentL_len (markR 1) xs
 refine enter (n := 58) Tryz.func80 rfl Tryz.ntmps80 rfl ?_ hw
 refine csr (lE oab (lnf (cs2 (c_region (lE oms (lE oln (lE oms (lE oln (lE onq (lnf (c_if _ rfl (fun hc1 => ?_) (fun hc1 => ?_))))))))))))
 ·exact absurd hc1 (by omega)
 refine csk (csr (lE oms (lE oms (lE oln (lv (v := Nx (xs.length + 12)) (e_add rfl rfl (i64n (by omega) (by omega))) ?_)))))
 refine lv (v := .slice p (((lentL (markR 1) xs)).length) (c)) (ev_eq (by rw [lentL_len]) (e_slice_hi (a := p) (len := xs.length) (cap := c) (h := xs.length + 12) tf46 rfl rfl (by omega))) ?_
 refine lE oas (lnf (cs2 (c_region (lE oai (lnf (c_block ?_))))))
 refine c_loop (fun (k : Nat) f L => (f 1 = sB va xs (vc) ∧ f 5 = sB p ((lentL (markR 1) xs)) (c) ∧ f 6 = Nx (k)) ∧ L = [] ∧ (k ≤ xs.length + 12)) (fun k => xs.length + 12 - k) 0 ?_ ?_
 ·exact ⟨⟨rfl,rfl,rfl⟩,rfl,(by omega)⟩
 rintro k f0 L0 ⟨⟨hs1,hs5,hs6⟩,hL,hk⟩
 subst L0
 refine rbs 1 hs1 (rbs 5 hs5 (rbs 6 hs6 (cs2 (c_region (lE omi (lE oms (lE oln (lE olt (lnf (c_if _ rfl (fun hc2 => ?_) (fun hc2 => ?_)))))))))))
 ·refine csk (c_seq (c_block (c_seq (c_quiet (by kernel_rfl) (by kernel_rfl) (qE omi (qE oms (qE oln (qE olt (qE omb ?_)))))))))
  refine q_split (s := 27) rfl (fun hg3 => ?_) (fun hg3 => ?_)
  ·refine rE oms (rE omi ?_)
   obtain ⟨x4,hx5⟩ := getx (lentL (markR 1) xs) k (by omega)
   obtain ⟨ha6,cs7,hc8,rfl⟩ := hpe _ _ hx5
   refine rE (oia tf46 ha6) (qg_val (v := .agg #[Ix (x4.a),Ix (x4.b),Ix (x4.len)]) rfl rfl rfl rfl rfl (e_load tf47.ok rfl (kB hc8) rfl) (rE oms ?_))
   refine rE omi ?_
   obtain ⟨x10,hx11⟩ := getx xs k (by omega)
   obtain ⟨ha12,cs13,hc14,rfl⟩ := ve _ _ hx11
   refine rE (oia tf46 ha12) (qg_val (v := .agg #[Ix (x10.a),Ix (x10.b),Ix (x10.len)]) rfl rfl rfl rfl rfl (e_load tf47.ok rfl (kB hc14) rfl) ?_)
   refine qg_val (v := .bool (decide (x4 = x10))) rfl rfl rfl rfl rfl (e_eql_t (xs := [Ix (x4.a),Ix (x4.b),Ix (x4.len)]) (ys := [Ix (x10.a),Ix (x10.b),Ix (x10.len)]) tf137 tf138 tf139 rfl rfl rfl rfl rope_eq) ?_
   refine rE ond (qE oktb (qE omb (q_split (s := 39) rfl (fun h => ?_) (fun h => ?_))))
   exact absurd h (Decidable.not_not.2 (lentL_lo hx5 hx11))
   refine rE omi (rE oms (rE oln (rE oge (rE omb (q_split (s := 44) rfl (fun hg16 => ?_) (fun hg16 => ?_))))))
   ·refine rE oms (rE omi (rE (oia tf46 ha6) ?_))
    refine qg_val (v := .agg #[Ix (x4.a),Ix (x4.b),Ix (x4.len)]) rfl rfl rfl rfl rfl (e_load tf47.ok rfl (kB hc8) rfl) (rE omi (rE oms (rE oln ?_)))
    refine qg_val (v := Nx (k - xs.length)) rfl rfl rfl rfl rfl (ev_eq (congrArg (Value.int .i64) (by omega)) (e_sub (a := ((k : Nat) : Int)) (b := ((xs.length : Nat) : Int)) rfl rfl (i64w (by omega)))) ?_
    refine qg_call (v := .agg #[Ix ((markR 1 ((k - xs.length : Nat) : Int)).a),Ix ((markR 1 ((k - xs.length : Nat) : Int)).b),Ix ((markR 1 ((k - xs.length : Nat) : Int)).len)]) rfl rfl rfl rfl rfl (cl0 (vs := [.int .i64 (1),Nx (k - xs.length)]) tf136.ok rfl rfl) (fun w hw => ?_) ?_
    ·obtain ⟨β1,sb,kn,hw1,back⟩ := St.frame_all hw
     exact (markR_ok β1 w hw1 (1 : Int) ((k - xs.length : Nat) : Int) (by omega) (by omega)).mono (fun e w' ⟨he,hw'⟩ => ⟨he,st_mask [] rfl (back _ _ hw')⟩)
    refine qg_val (v := .bool (decide (x4 = (markR 1 ((k - xs.length : Nat) : Int))))) rfl rfl rfl rfl rfl (e_eql_t (xs := [Ix (x4.a),Ix (x4.b),Ix (x4.len)]) (ys := [Ix ((markR 1 ((k - xs.length : Nat) : Int)).a),Ix ((markR 1 ((k - xs.length : Nat) : Int)).b),Ix ((markR 1 ((k - xs.length : Nat) : Int)).len)]) tf137 tf138 tf139 rfl rfl rfl rfl rope_eq) ?_
    refine rE ond (rE oktb (qE okfb (q_nil (f_then (c_if _ rfl (fun hc17 => ?_) (fun hc17 => ?_))))))
    ·exact absurd hc17 (Decidable.not_not.2 (lentL_hi hx5 (by omega)))
    refine c_skip (f_block (f_then (c_region (lE omi (lE opn (lE oai (l_nil ?_)))))))
    exact f_cut ⟨k + 1,⟨⟨rfl,rfl,rfl⟩,rfl,(by omega)⟩,(show xs.length + 12 - (k + 1) < xs.length + 12 - k from by omega)⟩
   iterate 11 refine qsE ?_
   refine rE okfb (qE okfb (q_nil (f_then (c_no rfl (c_skip (f_block (f_then (c_region (lE omi ?_)))))))))
   refine lv (v := Nx (k + 1)) (e_add rfl rfl (i64n (by omega) (by omega))) (lE oai (l_nil ?_))
   exact f_cut ⟨k + 1,⟨⟨rfl,rfl,rfl⟩,rfl,(by omega)⟩,(show xs.length + 12 - (k + 1) < xs.length + 12 - k from by omega)⟩
  iterate 10 refine qsE ?_
  refine qE okfb (qE omb (rE omi (rE oms (rE oln (rE oge (rE omb (q_split (s := 44) rfl (fun hg18 => ?_) (fun hg18 => ?_))))))))
  ·refine rE oms (rE omi ?_)
   obtain ⟨x19,hx20⟩ := getx (lentL (markR 1) xs) k (by omega)
   obtain ⟨ha21,cs22,hc23,rfl⟩ := hpe _ _ hx20
   refine rE (oia tf46 ha21) (qg_val (v := .agg #[Ix (x19.a),Ix (x19.b),Ix (x19.len)]) rfl rfl rfl rfl rfl (e_load tf47.ok rfl (kB hc23) rfl) (rE omi ?_))
   refine rE oms (rE oln ?_)
   refine qg_val (v := Nx (k - xs.length)) rfl rfl rfl rfl rfl (ev_eq (congrArg (Value.int .i64) (by omega)) (e_sub (a := ((k : Nat) : Int)) (b := ((xs.length : Nat) : Int)) rfl rfl (i64w (by omega)))) ?_
   refine qg_call (v := .agg #[Ix ((markR 1 ((k - xs.length : Nat) : Int)).a),Ix ((markR 1 ((k - xs.length : Nat) : Int)).b),Ix ((markR 1 ((k - xs.length : Nat) : Int)).len)]) rfl rfl rfl rfl rfl (cl0 (vs := [.int .i64 (1),Nx (k - xs.length)]) tf136.ok rfl rfl) (fun w hw => ?_) ?_
   ·obtain ⟨β1,sb,kn,hw1,back⟩ := St.frame_all hw
    exact (markR_ok β1 w hw1 (1 : Int) ((k - xs.length : Nat) : Int) (by omega) (by omega)).mono (fun e w' ⟨he,hw'⟩ => ⟨he,st_mask [] rfl (back _ _ hw')⟩)
   refine qg_val (v := .bool (decide (x19 = (markR 1 ((k - xs.length : Nat) : Int))))) rfl rfl rfl rfl rfl (e_eql_t (xs := [Ix (x19.a),Ix (x19.b),Ix (x19.len)]) (ys := [Ix ((markR 1 ((k - xs.length : Nat) : Int)).a),Ix ((markR 1 ((k - xs.length : Nat) : Int)).b),Ix ((markR 1 ((k - xs.length : Nat) : Int)).len)]) tf137 tf138 tf139 rfl rfl rfl rfl rope_eq) ?_
   refine rE ond (rE oktb (qE okfb (q_nil (f_then (c_if _ rfl (fun hc25 => ?_) (fun hc25 => ?_))))))
   ·exact absurd hc25 (Decidable.not_not.2 (lentL_hi hx20 (by omega)))
   refine c_skip (f_block (f_then (c_region (lE omi (lv (v := Nx (k + 1)) (e_add rfl rfl (i64n (by omega) (by omega))) (lE oai (l_nil ?_)))))))
   exact f_cut ⟨k + 1,⟨⟨rfl,rfl,rfl⟩,rfl,(by omega)⟩,(show xs.length + 12 - (k + 1) < xs.length + 12 - k from by omega)⟩
  iterate 11 refine qsE ?_
  refine rE okfb (qE okfb (q_nil (f_then (c_no rfl (c_skip (f_block (f_then (c_region (lE omi (lE opn (lE oai (l_nil ?_))))))))))))
  exact f_cut ⟨k + 1,⟨⟨rfl,rfl,rfl⟩,rfl,(by omega)⟩,(show xs.length + 12 - (k + 1) < xs.length + 12 - k from by omega)⟩
 refine c_exit (f_then_exit (f_then_exit (f_exit (ftc (lE oab (lnf (c_ret (ret1 Tryz.results80 rfl ?_))))))))
 intro w hw
 exact ⟨rfl,st_mask [] rfl hw⟩
theorem overR_ok (β : Base) (w : World) (p : Option Addr) (c n : Nat) (ys : List KR) (hyl : ys.length = n + 12) (hn : n ≤ 1000000) (hw : St β [rowF RopeF 78 p c ys] w) : Calls Tryz.prog 83 #[.slice p n c] w fun r w' => ∃ zs, r = .returned (.tuple #[]) ∧ St β [rowF RopeF 78 p c zs] w' := by
 refine enter (n := 23) Tryz.func83 rfl Tryz.ntmps83 rfl ?_ hw
 refine c_seq (c_rowcap 0 rfl (fun hcl hcm => ?_))
 have hcm2 : c ≤ 9223372036854775807 := by unfold maxLen at hcm; omega
 refine c_region (lE oms (lE oms (lv (v := Nx (c)) (e_cap (a := p) (n := n) (c := c) rfl tf45.ok) (lE oms (lE oln ?_)))))
 refine lv (v := Nx (n + 12)) (e_add rfl rfl (i64n (by omega) (by omega))) ?_
 refine lv (v := Nx (min c (n + 12))) (ev_eq (congrArg (Value.int .i64) (by omega)) (e_min (a := ((c : Nat) : Int)) (b := ((n + 12 : Nat) : Int)) rfl rfl)) ?_
 refine lv (v := .slice p (min c (n + 12)) c) (e_slice_hi (a := p) (len := n) (cap := c) (h := min c (n + 12)) tf46 rfl rfl (by omega)) (lE oas ?_)
 refine lnc (lE oai (lnf (c_block ?_)))
 refine c_loop (fun (x_ : Nat × List KR) f L => match x_ with | (k,zs) => (f 2 = .slice p (min c (n + 12)) c ∧ f 3 = Nx (k)) ∧ L = [rowF RopeF 78 p c zs] ∧ (k ≤ min c (n + 12) ∧ zs.length = n + 12)) (fun (k,zs) => min c (n + 12) - k) (0,ys) ?_ ?_
 ·exact ⟨⟨rfl,rfl⟩,rfl,⟨by omega,hyl⟩⟩
 rintro ⟨k,zs⟩ f0 L0 ⟨⟨hs2,hs3⟩,hL,⟨hk,hzl⟩⟩
 subst L0
 refine rbs 2 hs2 (rbs 3 hs3 (cs2 (c_region (lE omi (lE oms (lE oln (lE olt (lnf (c_if _ rfl (fun hc1 => ?_) (fun hc1 => ?_))))))))))
 ·refine csk (c_seq (c_block (c_region (lE oms (lE omi (lE omi ?_))))))
  refine lcR clA (fun w β1 sb kn hw1 => markR_ok β1 w hw1 (2 : Int) ((k : Nat) : Int) (by omega) (by omega)) ?_
  refine lv (v := .pointer (some ((ba p).add (k * 3)))) (e_indexFlN 0 (F := RopeF) rfl (by omega) rfl tf46 (by omega) rfl) ?_
  refine lu (m_storeFl 0 (F := RopeF) (p := p) (k := k) (xs := zs) (z := (markR 2 ((k : Nat) : Int))) tf47.ok rfl rfl rfl rfl (by omega)) (l_nil ?_)
  refine f_block (f_then (c_region (lE omi (lv (v := Nx (k + 1)) (e_add rfl rfl (i64n (by omega) (by omega))) (lE oai (l_nil ?_))))))
  exact f_cut ⟨(k + 1,(zs.set k (markR 2 ((k : Nat) : Int)))),⟨⟨rfl,rfl⟩,rfl,⟨by omega,by simp only [sB,List.length_set]; exact hzl⟩⟩,(show min c (n + 12) - (k + 1) < min c (n + 12) - k from by omega)⟩
 refine c_exit (f_then_exit (f_then_exit (f_exit (end0 Tryz.results83 ?_))))
 intro w hw
 exact ⟨zs,rfl,st_mask [true] rfl hw⟩
end Go.Proofs
