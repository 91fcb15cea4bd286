/-
 The reader of bits: walked. Printed by a program of my own.
-/
import Derived.Test.YtjejfkajcbdgjaaGreatTd9
import Derived.Test.YtjejfkajcbdgjaaGreatTdHouE
import Derived.Test.YtjejfkajcbdgjaaGreatSlA
import Derived.Test.YtjejfkajcbdgjaaGreatSlN
namespace Go.Proofs
open Go Go.Sl Go.Td Go.Jn
instance tt118 : FldC Tryz.prog 198 1 1 1 false := ⟨by kernel_rfl⟩
instance tt119 : FldC Tryz.prog 198 2 2 1 false := ⟨by kernel_rfl⟩
instance tt120 : UndC Tryz.prog 27 5 := ⟨by kernel_rfl⟩
instance tt121 : CfC Tryz.prog 117 := ⟨by kernel_rfl⟩
instance tt122 : CfC Tryz.prog 118 := ⟨by kernel_rfl⟩
theorem tt123 : Tryz.prog.underlying 165 = some (.pointer (Tryz.prog.pointee 165)) := by kernel_rfl
instance tt124 : FldC Tryz.prog 198 0 0 1 false := ⟨by kernel_rfl⟩
instance tt125 : FldC Tryz.prog 198 3 3 1 false := ⟨by kernel_rfl⟩
instance tt126 : TyC Tryz.prog 34 false 1 := ⟨by kernel_rfl⟩
instance tt127 : CfC Tryz.prog 150 := ⟨by kernel_rfl⟩
instance tt128 : CfC Tryz.prog 149 := ⟨by kernel_rfl⟩
instance tt129 : FldC Tryz.prog 168 0 0 1 false := ⟨by kernel_rfl⟩
instance tt130 : TyC Tryz.prog 165 false 1 := ⟨by kernel_rfl⟩
instance tt131 : CfC Tryz.prog 137 := ⟨by kernel_rfl⟩
instance tt132 : TyC Tryz.prog 168 true 1 := ⟨by kernel_rfl⟩
instance tt133 : CfC Tryz.prog 116 := ⟨by kernel_rfl⟩
theorem tt134 : stB Tryz.prog 198 [(0, 1), (1, 1), (2, 1), (3, 1)] = true := by kernel_rfl
instance tt135 : ZerC Tryz.prog 198 (.agg #[.bool false, .slice none 0 0, .int .i64 (0), .int .i64 (0)]) := ⟨by kernel_rfl⟩
set_option maxHeartbeats 4000000 in
theorem rget_ok (β : Base) (w : World) (rb : Nat) (p : Option Addr) (c : Nat) (xs : List UInt8) (n : Nat) (hw : St β (rdL rb p c xs n) w) (hxl : xs.length ≤ 65536) (k : Nat) (hn : n + k ≤ 8 * xs.length) : Calls Tryz.prog 118 #[pp rb 0, Nx k] w fun r w' => r = .returned (Ux (rdU xs n k)) ∧ St β (rdL rb p c xs (n + k)) w' := by
 refine enter (n := 41) Tryz.func118 rfl Tryz.ntmps118 rfl ?_ hw
 refine csr (lE oai (lnc (lE oai (lnf (cs2 (c_region (lE omi (lE omi (lnf (c_block ?_))))))))))
 refine c_loop (fun (j : Nat) f L => (f 0 = pp rb 0 ∧ f 5 = Ux (rdU xs n j) ∧ f 6 = Nx (k) ∧ f 7 = Nx (j)) ∧ L = [pt rb (.cells #[.bool true,sB p xs c,Nx (n + j),.int .i64 (0)] 198),rowF BytF 5 p c xs] ∧ (j ≤ k)) (fun j => k - j) 0 ?_ ?_
 ·exact ⟨⟨rfl,rfl,rfl,rfl⟩,rfl,Nat.zero_le _⟩
 rintro j f0 L0 ⟨⟨hs0,hs5,hs6,hs7⟩,hL,hj⟩
 subst L0
 refine rbs 0 hs0 (rbs 5 hs5 (rbs 6 hs6 (rbs 7 hs7 (csr (lE olt (lnf (c_seq (c_if _ rfl (fun hc1 => ?_) (fun hc1 => ?_)))))))))
 ·refine csk (c_seq (c_block (c_seq (c_quiet (by kernel_rfl) (by kernel_rfl) (qE omi ?_)))))
  refine q_val (v := Ux ((rdU xs n j) <<< (1 : UInt64))) rfl rfl rfl (e_shl (a := ((rdU xs n j).toNat : Int)) (b := ((1 : Nat) : Int)) rfl rfl (by decide) (ux_shl _ 1 (by decide))) ?_
  refine qE omp (qE onp (qE ofp (qE (ols 0) (qE omp (qE onp (qE ofp (qE (oli 0) ?_)))))))
  refine q_val (v := Nx ((n + j) / 8)) rfl rfl rfl (e_quo (a := ((n + j : Nat) : Int)) (b := (8 : Int)) rfl rfl (by decide) (i64n (nat_tdiv _ 8) (by omega))) ?_
  refine q_val (v := .pointer (some ((ba p).add (((n + j) / 8) * 1)))) rfl rfl rfl (e_indexFlN 1 (F := BytF) rfl rfl rfl tt71 (by omega) rfl) ?_
  obtain ⟨x2,hx3⟩ : ∃ x_,xs[(n + j) / 8]? = some x_ := ⟨_,List.getElem?_eq_getElem (by first | omega | decide)⟩
  refine q_val (v := Bx (x2)) rfl rfl rfl (e_load1 tt5.ok rfl (k_flAt 1 (F := BytF) rfl hx3)) (qE omp (qE onp (qE ofp (qE (oli 0) ?_))))
  refine q_val (v := Nx ((n + j) % 8)) rfl rfl rfl (e_rem (a := ((n + j : Nat) : Int)) (b := (8 : Int)) rfl rfl (by decide) (nat_tmod _ 8)) ?_
  refine q_val (v := Nx (7 - ((n + j) % 8))) rfl rfl rfl (ev_eq (congrArg (Value.int .i64) (by omega)) (e_sub (a := (7 : Int)) (b := (((n + j) % 8 : Nat) : Int)) rfl rfl (i64w (by omega)))) ?_
  refine q_val (v := Bx (x2 >>> UInt8.ofNat (7 - ((n + j) % 8)))) rfl rfl rfl (e_shr (a := ((x2).toNat : Int)) (b := ((7 - ((n + j) % 8) : Nat) : Int)) rfl rfl (by omega) (bx_shr _ (7 - ((n + j) % 8)) (by omega))) ?_
  refine q_val (v := Bx ((x2 >>> UInt8.ofNat (7 - ((n + j) % 8))) &&& (1 : UInt8))) rfl rfl rfl (e_and (a := ((x2 >>> UInt8.ofNat (7 - ((n + j) % 8))).toNat : Int)) (b := (((1 : UInt8)).toNat : Int)) rfl rfl (bx_and _ _)) ?_
  refine q_val (v := Ux (((x2 >>> UInt8.ofNat (7 - ((n + j) % 8))) &&& (1 : UInt8)).toUInt64)) rfl rfl rfl (e_conv (a := (((x2 >>> UInt8.ofNat (7 - ((n + j) % 8))) &&& (1 : UInt8)).toNat : Int)) rfl ⟨_,tt75⟩ tt74 (ux_of8 _)) ?_
  refine q_val (v := Ux (((rdU xs n j) <<< (1 : UInt64)) ||| (((x2 >>> UInt8.ofNat (7 - ((n + j) % 8))) &&& (1 : UInt8)).toUInt64))) rfl rfl rfl (e_or (a := (((rdU xs n j) <<< (1 : UInt64)).toNat : Int)) (b := ((((x2 >>> UInt8.ofNat (7 - ((n + j) % 8))) &&& (1 : UInt8)).toUInt64).toNat : Int)) rfl rfl (ux_or _ _)) ?_
  refine qE oai (q_nil (f_then (c_region (lE omp (lE onp (lE ofp (lE (oli 0) ?_)))))))
  refine lv (v := Nx ((n + j) + 1)) (e_add rfl rfl (i64n (by omega) (by omega))) (lE onp (lE ofp ?_))
  refine lu (mS 0 (#[.bool true,sB p xs c,Nx ((n + j) + 1),.int .i64 (0)])) (l_nil (f_block (f_then (c_region ?_))))
  refine lv (v := Nx (j + 1)) (e_add rfl rfl (i64n (by omega) (by omega))) (lE omi (l_nil ?_))
  exact f_cut ⟨j + 1,⟨⟨rfl,congrArg (fun z : UInt64 => Value.int .u64 (z.toNat : Int)) (rd_step hx3),rfl,rfl⟩,rfl,(by omega)⟩,(show k - (j + 1) < k - j from by omega)⟩
 refine c_exit (f_then_exit (f_then_exit (f_exit (ftc (lE omi (lE oai (lnf (c_ret (ret1 Tryz.results118 rfl ?_)))))))))
 intro w hw
 have hjk : j = k := by omega
 subst hjk
 exact ⟨rfl,hw⟩
theorem rrest_ok (β : Base) (w : World) (hw : St β [] w) (rb : Nat) (p : Option Addr) (m c n : Nat) (hc : Cs β.heap ⟨rb, 0, none⟩ [.bool true, .slice p m c, Nx n, Ix 0]) (hm : m ≤ 65536) (hn : n ≤ 8 * m) : Ret Tryz.prog 117 #[pp rb 0] β w (Nx (8 * m - n)) := by
 refine enter (n := 14) Tryz.func117 rfl Tryz.ntmps117 rfl ?_ hw
 refine csr (lE oai (lnf (c_seq (c_quiet (by kernel_rfl) (by kernel_rfl) (qE omp (qE onp (qE ofa ?_)))))))
 refine q_val (v := .slice p (m) c) rfl rfl rfl (e_load1 tt70.ok rfl (Knows.imp (kB hc) (fun _ h => Cs.sub (vs := [.slice p (m) c]) 1 h rfl))) ?_
 refine qE oln (q_val (v := Nx (8 * m)) rfl rfl rfl (e_mul (a := (8 : Int)) (b := ((m : Nat) : Int)) rfl rfl (i64n (by omega) (by omega))) (qE omp ?_))
 refine qE onp (qE ofa (q_val (v := Nx (n)) rfl rfl rfl (e_load1 tt2.ok rfl (Knows.imp (kB hc) (fun _ h => Cs.sub (vs := [Nx (n)]) 2 h rfl))) ?_))
 refine q_val (v := Nx ((8 * m) - n)) rfl rfl rfl (ev_eq (congrArg (Value.int .i64) (by omega)) (e_sub (a := ((8 * m : Nat) : Int)) (b := ((n : Nat) : Int)) rfl rfl (i64w (by omega)))) ?_
 refine qE oai (q_nil (ftr (ret1 Tryz.results117 rfl ?_)))
 intro w hw
 exact ⟨rfl,st_mask [] rfl hw⟩
theorem rnum_ok (β : Base) (w : World) (rb : Nat) (p : Option Addr) (c : Nat) (xs : List UInt8) (n : Nat) (hw : St β (rdL rb p c xs n) w) (hxl : xs.length ≤ 65536) (k : Nat) (hn : n + k ≤ 8 * xs.length) : Calls Tryz.prog 150 #[pp rb 0, Nx k] w fun r w' => r = .returned (.tuple #[Ux (rdU xs n k), .int .i64 0]) ∧ St β (rdL rb p c xs (n + k)) w' := by
 refine enter (n := 13) Tryz.func150 rfl Tryz.ntmps150 rfl ?_ hw
 refine csr (lE oai (lE oai (lnf (cs2 (c_region (lE omi (lE omp ?_)))))))
 refine lcR clA (fun w β1 sb kn hw1 => rrest_ok β1 w hw1 rb _ _ _ _ (kn _ (k_pt 0 rfl rfl)) hxl (by omega)) (lE ogt (lnf ?_))
 refine c_if _ rfl (fun hc1 => ?_) (fun hc1 => ?_)
 ·exact absurd hc1 (by omega)
 refine csk (csr (lE omp (lE omi (l_call rfl rfl rfl (cl0 (vs := [pp rb 0,Nx (k)]) tt122.ok rfl rfl) ?_))))
 intro w hw
 replace hw := hw.perm (L' := _ :: _ :: []) (by exact ((perm_front 1 rfl).trans (perm_front 1 rfl)))
 obtain ⟨β1,sb,kn,hw1,back⟩ := St.frame (L := [_,_]) (M := []) hw
 refine (rget_ok β1 w rb _ _ xs n hw1 hxl k (by omega)).mono ?_
 rintro e w' ⟨rfl,hw'⟩
 refine ⟨_,rfl,_,back _ _ hw',?_⟩
 clear hw hw1 hw' back kn sb
 refine lE oai (lE oai (lnf (c_ret (ret2 (v := Ux (rdU xs n k)) (v' := .int .i64 (0)) Tryz.results150 rfl rfl ?_))))
 intro w hw
 exact ⟨rfl,hw⟩
set_option maxHeartbeats 4000000 in
theorem rread_ok (β : Base) (w : World) (rb : Nat) (p : Option Addr) (c : Nat) (xs : List UInt8) (n : Nat) (hw : St β (rdL rb p c xs n) w) (hxl : xs.length ≤ 65536) (k : Nat) (hn : n + k ≤ 8 * xs.length) (hk : k ≤ 64) : Calls Tryz.prog 149 #[pp rb 0, Nx k, .int .i64 64, .func (.func 150) #[pp rb 0] #[]] w fun r w' => r = .returned (.tuple #[Ux (rdU xs n k), .int .i64 0]) ∧ St β (rdL rb p c xs (n + k)) w' := by
 refine enter (n := 54) Tryz.func149 rfl Tryz.ntmps149 rfl ?_ hw
 refine csr (lE oai (lE oai (lnf (c_seq (c_block (csr (lE omp (lv (v := .bool false) (e_eql_pnil (p := some (⟨rb,0,none⟩)) rfl rfl tt123) (lE omb ?_)))))))))
 refine gE omp (gE onp (gE ofp (gE (olb 0) (gE ont (lE okfb (lE oab (lnf (c_no rfl (csr (lE omi (lE olt (lE omb ?_))))))))))))
 refine l_split (s := 25) rfl (fun h => ?_) (fun h => ?_)
 exact absurd h (by omega)
 refine gE omi (gE omi (gE ogt (lE okfb (lE oab (lnf (c_if _ rfl (fun hc1 => ?_) (fun hc1 => ?_)))))))
 ·exact absurd hc1 (by omega)
 refine csr (lE omp (lE onp (lE ofp (lE (oli 0) (lE onq (lE oab (lnf (c_no rfl (c_skip (f_block (ftc (lE omf (lE omi ?_)))))))))))))
 refine l_call rfl rfl rfl (cl_value (fst := [pp rb 0]) (cap := []) (vs := [Nx (k)]) (all := [pp rb 0,Nx (k)]) tt127.ok rfl rfl rfl) ?_
 intro w hw
 replace hw := hw.perm (L' := _ :: _ :: []) (by exact ((perm_front 1 rfl).trans (perm_front 1 rfl)))
 obtain ⟨β1,sb,kn,hw1,back⟩ := St.frame (L := [_,_]) (M := []) hw
 refine (rnum_ok β1 w rb _ _ xs n hw1 hxl k (by omega)).mono ?_
 rintro e w' ⟨rfl,hw'⟩
 refine ⟨_,rfl,_,back _ _ hw',?_⟩
 clear hw hw1 hw' back kn sb
 refine lE omt (lE oxi (lE oxi (lE oai (lE oai (lnf (cs2 (c_region (lE omi (lE onq (lnf (c_no rfl (csk (csr (lE omi (lE oai (lE oai (lnf (c_ret ?_))))))))))))))))))
 refine ret2 (v := Ux (rdU xs n k)) (v' := .int .i64 (0)) Tryz.results149 rfl rfl ?_
 intro w hw
 exact ⟨rfl,hw⟩
theorem rgetx_ok (β : Base) (w : World) (rb : Nat) (p : Option Addr) (c : Nat) (xs : List UInt8) (n : Nat) (hw : St β (rdL rb p c xs n) w) (hxl : xs.length ≤ 65536) (k : Nat) (hn : n + k ≤ 8 * xs.length) (hk : k ≤ 64) : Calls Tryz.prog 137 #[pp rb 0, Nx k] w fun r w' => r = .returned (.tuple #[Ux (rdU xs n k), .int .i64 0]) ∧ St β (rdL rb p c xs (n + k)) w' := by
 refine enter (n := 13) Tryz.func137 rfl Tryz.ntmps137 rfl ?_ hw
 refine csr (lE oai (lE oai (lnc (lE omp (lE omi (lE omp (lv (v := .func (.func 150) #[pp rb 0] #[]) (e_func (u := [pp rb 0]) (v := []) rfl rfl) ?_)))))))
 refine l_call rfl rfl rfl (cl0 (vs := [pp rb 0,Nx (k),.int .i64 (64),.func (.func 150) #[pp rb 0] #[]]) tt128.ok rfl rfl) ?_
 intro w hw
 replace hw := hw.perm (L' := _ :: _ :: []) (by exact ((perm_front 1 rfl).trans (perm_front 1 rfl)))
 obtain ⟨β1,sb,kn,hw1,back⟩ := St.frame (L := [_,_]) (M := []) hw
 refine (rread_ok β1 w rb _ _ xs n hw1 hxl k (by omega) hk).mono ?_
 rintro e w' ⟨rfl,hw'⟩
 refine ⟨_,rfl,_,back _ _ hw',?_⟩
 clear hw hw1 hw' back kn sb
 refine lE oxi (lE oxi (lE oai (lE oai (lnf (c_ret (ret2 (v := Ux (rdU xs n k)) (v' := .int .i64 (0)) Tryz.results137 rfl rfl ?_))))))
 intro w hw
 exact ⟨rfl,hw⟩
theorem rgetv_ok (β : Base) (w : World) (rb : Nat) (p : Option Addr) (c : Nat) (xs : List UInt8) (n : Nat) (hw : St β (rdL rb p c xs n) w) (hxl : xs.length ≤ 65536) (k : Nat) (hn : n + k ≤ 8 * xs.length) (hk : k ≤ 64) (u : UInt64) (hu : rdU xs n k = u) : Calls Tryz.prog 137 #[pp rb 0, Nx k] w fun r w' => r = .returned (.tuple #[Ux u, .int .i64 0]) ∧ St β (rdL rb p c xs (n + k)) w' := by
 subst hu
 exact rgetx_ok β w rb p c xs n hw hxl k hn hk
theorem tget_ok (β : Base) (w : World) (rb : Nat) (l : List Bool) (v : Int) (k : Nat) (hfit : Fits v k) (hw : St β [rdrR rb (bitsV (U v) k ++ l)] w) : Calls Tryz.prog 116 #[.agg #[pp rb 0], Nx k] w fun r w' => r = .returned (Ix v) ∧ St β [rdrR rb l] w' := by
 obtain ⟨p,c,xs,n,hrd,hxl,hw⟩ := St.openRd hw
 obtain ⟨hrv,hrd2,hn⟩ := hrd.get hfit.k64 (U_fits hfit.f)
 have hk := hfit.k64
 refine enter (n := 16) Tryz.func116 rfl Tryz.ntmps116 rfl ?_ hw
 refine csr (bxa fun b1 => ?_)
 refine lE oai (lnc (lE ofp (lE (olp 0) (lE omi (l_call rfl rfl rfl (cl0 (vs := [pp rb 0,Nx (k)]) tt131.ok rfl rfl) ?_)))))
 intro w hw
 replace hw := hw.perm (L' := _ :: _ :: _ :: []) (by exact (((perm_front 0 rfl).trans (perm_front 2 rfl)).trans (perm_front 2 rfl)))
 obtain ⟨β1,sb,kn,hw1,back⟩ := St.frame (L := [_,_]) (M := _ :: []) hw
 refine (rgetv_ok β1 w rb _ _ xs n hw1 hxl k (by omega) hk _ hrv).mono ?_
 rintro e w' ⟨rfl,hw'⟩
 refine ⟨_,rfl,_,back _ _ hw',?_⟩
 clear hw hw1 hw' back kn sb
 refine lE omt (lE oxi (lE oxi (lE oai (lE oai (lnc (lE omi (lv (v := Ix (v)) (e_conv (a := ((U v).toNat : Int)) rfl ⟨_,tt74⟩ tt80 (i64_U hfit.w)) ?_)))))))
 refine lE oai (lnf (c_ret (ret1 Tryz.results116 rfl ?_)))
 intro w hw
 replace hw := st_mask (L' := [pt rb (.cells #[.bool true,sB p xs c,Nx (n + k),.int .i64 (0)] 198),rowF BytF 5 p c xs]) [true,true,false] rfl hw
 exact ⟨rfl,St.closeRd (M := []) hrd2 hxl hw⟩
set_option maxHeartbeats 4000000 in
theorem tamr_ok (β : Base) (w : World) (rb : Nat) (l : List Bool) (a : KAm) (k : Nat) (hf : Fits a.a0 k ∧ Fits a.a1 k ∧ Fits a.a2 k ∧ Fits a.a3 k) (hw : St β [rdrR rb (amK a k l)] w) : Calls Tryz.prog 115 #[.agg #[pp rb 0], Nx k] w fun r w' => r = .returned (.agg (amC a)) ∧ St β [rdrR rb l] w' := by
 replace hw : St β [rdrR rb (bitsV (U a.a0) k ++ (bitsV (U a.a1) k ++ (bitsV (U a.a2) k ++ (bitsV (U a.a3) k ++ l))))] w := hw
 refine enter (n := 17) Tryz.func115 rfl Tryz.ntmps115 rfl ?_ hw
 refine csr (bxa fun b1 => ?_)
 refine alE fun b2 => lnc (alE fun b3 => lnf (cs2 (c_region (lE omi (lnf (c_block (c_unroll 5 (un_succ 4 (csr (lE olt (lnf (c_seq (c_yes rfl (csk ?_))))))))))))))
 refine c_seq (c_block (csr (lE omi (lE oai (lnr (lE omi (lE (olg 2) (lE omi ?_))))))))
 refine l_call rfl rfl rfl (cl0 (vs := [.agg #[pp rb 0],Nx (k)]) tt133.ok rfl rfl) ?_
 intro w hw
 replace hw := hw.perm (L' := _ :: _ :: _ :: _ :: []) (by exact ((((perm_front 2 rfl).trans (perm_front 2 rfl)).trans (perm_front 2 rfl)).trans (perm_front 3 rfl)))
 obtain ⟨β1,sb,kn,hw1,back⟩ := St.frame (L := [_]) (M := _ :: _ :: _ :: []) hw
 refine (tget_ok β1 w rb _ a.a0 k hf.1 hw1).mono ?_
 rintro e w' ⟨rfl,hw'⟩
 refine ⟨_,rfl,_,back _ _ hw',?_⟩
 clear hw hw1 hw' back kn sb
 refine lv (v := pp b3 0) (e_indexArrK (b := b3) (o := 0) (k := 0) rfl rfl tt1.ok (by decide)) ?_
 refine lu (mS 1 (#[Ix (a.a0),.int .i64 (0),.int .i64 (0),.int .i64 (0)])) (l_nil (f_block (f_then (c_region (lE opl (lE omi (l_nil (f_cut ?_))))))))
 refine un_succ 3 (csr (lE olt (lnf (c_seq (c_yes rfl (csk (c_seq (c_block (csr (lE omi (lE oai (lnr (lE omi (lE (olg 3) (lE omi ?_)))))))))))))))
 refine l_call rfl rfl rfl (cl0 (vs := [.agg #[pp rb 0],Nx (k)]) tt133.ok rfl rfl) ?_
 intro w hw
 replace hw := hw.perm (L' := _ :: _ :: _ :: _ :: []) (by exact ((((perm_front 3 rfl).trans (perm_front 3 rfl)).trans (perm_front 3 rfl)).trans (perm_front 3 rfl)))
 obtain ⟨β1,sb,kn,hw1,back⟩ := St.frame (L := [_]) (M := _ :: _ :: _ :: []) hw
 refine (tget_ok β1 w rb _ a.a1 k hf.2.1 hw1).mono ?_
 rintro e w' ⟨rfl,hw'⟩
 refine ⟨_,rfl,_,back _ _ hw',?_⟩
 clear hw hw1 hw' back kn sb
 refine lv (v := pp b3 1) (e_indexArrK (b := b3) (o := 0) (k := 1) rfl rfl tt1.ok (by decide)) ?_
 refine lu (mS 1 (#[Ix (a.a0),Ix (a.a1),.int .i64 (0),.int .i64 (0)])) (l_nil (f_block (f_then (c_region (lE opl (lE omi (l_nil (f_cut (un_succ 2 ?_)))))))))
 refine csr (lE olt (lnf (c_seq (c_yes rfl (csk (c_seq (c_block (csr (lE omi (lE oai (lnr (lE omi (lE (olg 3) (lE omi ?_))))))))))))))
 refine l_call rfl rfl rfl (cl0 (vs := [.agg #[pp rb 0],Nx (k)]) tt133.ok rfl rfl) ?_
 intro w hw
 replace hw := hw.perm (L' := _ :: _ :: _ :: _ :: []) (by exact ((((perm_front 3 rfl).trans (perm_front 3 rfl)).trans (perm_front 3 rfl)).trans (perm_front 3 rfl)))
 obtain ⟨β1,sb,kn,hw1,back⟩ := St.frame (L := [_]) (M := _ :: _ :: _ :: []) hw
 refine (tget_ok β1 w rb _ a.a2 k hf.2.2.1 hw1).mono ?_
 rintro e w' ⟨rfl,hw'⟩
 refine ⟨_,rfl,_,back _ _ hw',?_⟩
 clear hw hw1 hw' back kn sb
 refine lv (v := pp b3 2) (e_indexArrK (b := b3) (o := 0) (k := 2) rfl rfl tt1.ok (by decide)) ?_
 refine lu (mS 1 (#[Ix (a.a0),Ix (a.a1),Ix (a.a2),.int .i64 (0)])) (l_nil (f_block (f_then (c_region (lE opl (lE omi (l_nil (f_cut (un_succ 1 (csr ?_))))))))))
 refine lE olt (lnf (c_seq (c_yes rfl (csk (c_seq (c_block (csr (lE omi (lE oai (lnr (lE omi (lE (olg 3) (lE omi ?_)))))))))))))
 refine l_call rfl rfl rfl (cl0 (vs := [.agg #[pp rb 0],Nx (k)]) tt133.ok rfl rfl) ?_
 intro w hw
 replace hw := hw.perm (L' := _ :: _ :: _ :: _ :: []) (by exact ((((perm_front 3 rfl).trans (perm_front 3 rfl)).trans (perm_front 3 rfl)).trans (perm_front 3 rfl)))
 obtain ⟨β1,sb,kn,hw1,back⟩ := St.frame (L := [_]) (M := _ :: _ :: _ :: []) hw
 refine (tget_ok β1 w rb _ a.a3 k hf.2.2.2 hw1).mono ?_
 rintro e w' ⟨rfl,hw'⟩
 refine ⟨_,rfl,_,back _ _ hw',?_⟩
 clear hw hw1 hw' back kn sb
 refine lv (v := pp b3 3) (e_indexArrK (b := b3) (o := 0) (k := 3) rfl rfl tt1.ok (by decide)) (lu (mS 1 (amC a)) (l_nil (f_block (f_then (c_region ?_)))))
 refine lE opl (lE omi (l_nil (f_cut (un_succ 0 (csr (lE olt (lnf (c_seq (c_no rfl (c_exit (f_then_exit (f_then_exit (f_exit (ftc (lE (olg 1) ?_)))))))))))))))
 refine lu (mS 2 (amC a)) (lnf (c_ret (retG (m := [.agg (amC a)]) Tryz.results115 ⟨rd_cell tt0.ok rfl (k_pt 2 rfl rfl) rfl,trivial⟩ rfl ?_)))
 intro w hw
 replace hw := st_mask (L' := [rdrR rb l]) [true,false,false,false] rfl hw
 exact ⟨rfl,hw⟩
set_option maxHeartbeats 4000000 in
theorem rend_ok (β : Base) (w : World) (rb : Nat) (hw : St β [rdrR rb []] w) : Calls Tryz.prog 88 #[pp rb 0] w fun r w' => r = .returned (Ix 0) ∧ St β [rdrR rb []] w' := by
 obtain ⟨p,c,xs,n,hrd,hxl,hw⟩ := St.openRd hw
 obtain ⟨he0,he1,he2⟩ := hrd.end_
 refine enter (n := 45) Tryz.func88 rfl Tryz.ntmps88 rfl ?_ hw
 refine csr (lE oai (lnf (c_seq (c_block (csr (lE omp (lv (v := .bool false) (e_eql_pnil (p := some (⟨rb,0,none⟩)) rfl rfl tt123) (lE omb (gE omp ?_)))))))))
 refine gE onp (gE ofp (gE (olb 0) (gE ont (lE okfb (lE oab (lnf (c_no rfl (csr (lE omp (lE onp (lE ofp (lE (oli 0) (lE onq (lE oab (lnf (c_no rfl ?_))))))))))))))))
 refine c_skip (f_block (ftc (lE omp (lE onp (lE ofp (lE (oli 0) (lE oai (lnf (cs2 (c_region (lE omp ?_)))))))))))
 refine lcR clA (fun w β1 sb kn hw1 => rrest_ok β1 w hw1 rb _ _ _ _ (kn _ (k_pt 0 rfl rfl)) hxl (by omega)) (lE ogt (lE omb ?_))
 refine l_split (s := 31) rfl (fun h => ?_) (fun h => ?_)
 exact absurd h (by omega)
 refine gE omp (gE omp (g_call rfl rfl rfl rfl rfl (cl0 (vs := [pp rb 0]) tt121.ok rfl rfl) ?_))
 intro w hw
 obtain ⟨β1,sb,kn,hw1,back⟩ := St.frame_all hw
 refine (rrest_ok β1 w hw1 rb _ _ _ _ (kn _ (k_pt 0 rfl rfl)) hxl (by omega)).mono ?_
 rintro e w' ⟨rfl,hw'⟩
 refine ⟨_,rfl,_,back _ _ hw',?_⟩
 clear hw hw1 hw' back kn sb
 refine g_call rfl rfl rfl rfl rfl (cl0 (vs := [pp rb 0,Nx (8 * xs.length - n)]) tt122.ok rfl rfl) ?_
 intro w hw
 replace hw := hw.perm (L' := _ :: _ :: []) (by exact ((perm_front 1 rfl).trans (perm_front 1 rfl)))
 obtain ⟨β1,sb,kn,hw1,back⟩ := St.frame (L := [_,_]) (M := []) hw
 refine (rget_ok β1 w rb _ _ xs n hw1 hxl (8 * xs.length - n) (by omega)).mono ?_
 rintro e w' ⟨rfl,hw'⟩
 refine ⟨_,rfl,_,back _ _ hw',?_⟩
 clear hw hw1 hw' back kn sb
 refine gE onq (lE okfb (lnf (c_if _ rfl (fun hc1 => ?_) (fun hc1 => ?_))))
 ·exact absurd hc1 (by rw [he0]; decide)
 refine csk (csr (lE omp (lE omi (lE onp (lE ofp (lu (mS 0 (#[.bool true,sB p xs c,Nx (n),.int .i64 (0)])) (lnc (lE oai (lnf (c_ret ?_))))))))))
 refine ret1 Tryz.results88 rfl ?_
 intro w hw
 exact ⟨rfl,St.closeRd (M := []) hrd hxl hw⟩
theorem newr_ok (β : Base) (w : World) (hw : St β [] w) (v : Value) (bs : List UInt8) (hs : Sl U8R β.heap v bs) (n : Nat) (l : List Bool) (hb : Wr bs n l) (hbl : bs.length ≤ 65536) : Calls Tryz.prog 86 #[v] w fun r w' => ∃ rb, r = .returned (pp rb 0) ∧ St β [rdrR rb l] w' := by
 obtain ⟨va,vc,rfl,vl,vm,ve⟩ := hs.get
 refine enter (n := 7) Tryz.func86 rfl Tryz.ntmps86 rfl ?_ hw
 refine csr (lE oap (lnc (lE oms ?_)))
 refine lcf (cl0 (vs := [sB va bs (vc)]) tt84.ok rfl rfl) rfl fun w β1 sb kn hw1 back => (clone_ok β1 w hw1 bs _ (by omega) (Sl.mono _ _ _ _ _ sb (⟨⟨_,_,rfl,vl,vm,ve⟩⟩ : Sl U8R _ _ bs))).mono ?_
 rintro e w' ⟨p1,c2,rfl,hw'⟩
 refine ⟨_,rfl,_,back _ _ hw',?_⟩
 clear hw1 hw' back kn sb
 refine lv (v := .agg #[.bool true,sB p1 bs c2,.int .i64 (0),.int .i64 (0)]) (e_build tt135.ok tt134 (vs := [(0,.bool true),(1,sB p1 bs c2)]) (cells := #[.bool true,sB p1 bs c2,.int .i64 (0),.int .i64 (0)]) rfl rfl) ?_
 refine bxa fun b3 => ?_
 refine lE oap (lnf (c_ret (ret1 Tryz.results86 rfl ?_)))
 intro w hw
 unfold rB at hw; unfold sB at hw; rw [rowB_eq] at hw
 exact ⟨_,rfl,St.closeRd (M := []) hb.rd hbl hw⟩
end Go.Proofs
