/-
 The writer of bits: walked. Printed by a program of my own.
-/
import Derived.Test.YtjejfkajcbdgjaaGreatTd4
import Derived.Test.YtjejfkajcbdgjaaGreatTdBit
import Derived.Test.YtjejfkajcbdgjaaGreatJn1
import Derived.Test.YtjejfkajcbdgjaaGreatSlA
import Derived.Test.YtjejfkajcbdgjaaGreatSlN
namespace Go.Td
open Go.Sl
abbrev BytF : Fl UInt8 := ⟨1, fun x => [Bx x], fun _ => rfl, fun _ => rfl, by decide⟩
end Go.Td
namespace Go.Proofs
open Go Go.Sl Go.Td Go.Jn
theorem formed_fits {x : KAct} (h : x.formed = true) : (3 = 64 ∨ (0 ≤ ((x.kind.toNat : Nat) : Int) ∧ ((x.kind.toNat : Nat) : Int) < 2 ^ 3 ∧ 3 < 64)) ∧ (17 = 64 ∨ (0 ≤ x.owner ∧ x.owner < 2 ^ 17 ∧ 17 < 64)) ∧ (17 = 64 ∨ (0 ≤ x.other ∧ x.other < 2 ^ 17 ∧ 17 < 64)) ∧ (∀ z ∈ [x.a.a0, x.a.a1, x.a.a2, x.a.a3], 0 ≤ z ∧ z < 2 ^ 31) := by
 have hk := formed_kind h
 have hw := within_bd (formed_within h)
 have hw0 := formed_within h
 have ho : ∀ n : Int,ownB n = true → 1 ≤ n ∧ n ≤ 65536 := fun n hn => by unfold ownB at hn; simpa using hn
 have hp : (0 ≤ x.owner ∧ x.owner < 131072) ∧ (0 ≤ x.other ∧ x.other < 131072) := by
  unfold KAct.formed at h
  split at h
  ·simp only [Bool.and_eq_true,decide_eq_true_eq] at h; have := ho _ h.1.1.1; omega
  ·split at h
   ·simp only [Bool.and_eq_true,decide_eq_true_eq] at h; have := ho _ h.1.1.1.1; have := ho _ h.1.1.1.2; omega
   ·split at h
    ·simp only [Bool.and_eq_true,decide_eq_true_eq] at h; omega
    ·split at h
     ·simp only [Bool.and_eq_true,decide_eq_true_eq] at h; have := ho _ h.1.1.2; omega
     ·cases h
 refine ⟨.inr ⟨by omega,by omega,by decide⟩,.inr ⟨by omega,by omega,by decide⟩,.inr ⟨by omega,by omega,by decide⟩,fun z hz => ?_⟩
 unfold KAm.within inA at hw0
 simp only [sB,rB,Bool.and_eq_true,decide_eq_true_eq] at hw0
 simp only [List.mem_cons,List.not_mem_nil,or_false] at hz
 rcases hz with rfl | rfl | rfl | rfl <;> omega
theorem shr_fits {v : UInt64} {k : Nat} (hv : k = 64 ∨ v.toNat < 2 ^ k) (hk : k < 64) : ¬ ((0 : Int) < ((v >>> UInt64.ofNat k).toNat : Int)) := by
 have h : v.toNat < 2 ^ k := by exact hv.resolve_left (by omega)
 have e : (UInt64.ofNat k).toNat % 64 = k := by simp; omega
 rw [UInt64.toNat_shiftRight,e,Nat.shiftRight_eq_div_pow,Nat.div_eq_of_lt h]
 simp
instance tt68 : FldC Tryz.prog 137 1 1 1 false := ⟨by kernel_rfl⟩
instance tt69 : FldC Tryz.prog 137 0 0 1 false := ⟨by kernel_rfl⟩
instance tt70 : TyC Tryz.prog 27 false 1 := ⟨by kernel_rfl⟩
theorem tt71 : slB Tryz.prog 27 5 1 = true := by kernel_rfl
instance tt72 : ZerC Tryz.prog 5 (.int .u8 (0)) := ⟨by kernel_rfl⟩
theorem tt73 : elB Tryz.prog 5 1 1 = true := by kernel_rfl
theorem tt74 : Tryz.prog.underlying 172 = some (.int .u64) := by kernel_rfl
theorem tt75 : Tryz.prog.underlying 5 = some (.int .u8) := by kernel_rfl
theorem tt76 : Tryz.prog.underlying 182 = some (.pointer (Tryz.prog.pointee 182)) := by kernel_rfl
instance tt77 : CfC Tryz.prog 139 := ⟨by kernel_rfl⟩
instance tt78 : CfC Tryz.prog 140 := ⟨by kernel_rfl⟩
instance tt79 : FldC Tryz.prog 139 0 0 2 true := ⟨by kernel_rfl⟩
theorem tt80 : Tryz.prog.underlying 3 = some (.int .i64) := by kernel_rfl
instance tt81 : CfC Tryz.prog 120 := ⟨by kernel_rfl⟩
instance tt82 : CfC Tryz.prog 95 := ⟨by kernel_rfl⟩
instance tt83 : CfC Tryz.prog 94 := ⟨by kernel_rfl⟩
instance tt84 : CfC Tryz.prog 66 := ⟨by kernel_rfl⟩
instance tt85 : ZerC Tryz.prog 139 (.agg #[.slice none 0 0, .int .i64 (0)]) := ⟨by kernel_rfl⟩
instance tt86 : CfC Tryz.prog 58 := ⟨by kernel_rfl⟩
instance tt87 : CfC Tryz.prog 59 := ⟨by kernel_rfl⟩
set_option maxHeartbeats 4000000 in
theorem wput_ok (β : Base) (w : World) (wb : Nat) (p : Option Addr) (c : Nat) (xs : List UInt8) (n : Nat) (hw : St β [pt wb (.cells #[sB p xs c, Nx n] 139), rowF BytF 5 p c xs] w) (hxl : xs.length = (n + 7) / 8) (v : UInt64) (k : Nat) (hk : k ≤ 64) (hn : n ≤ 1048576) : Calls Tryz.prog 140 #[pp wb 0, .int .u64 (v.toNat : Int), Nx k] w fun r w' => ∃ p c, r = .returned (.tuple #[]) ∧ St β [pt wb (.cells #[sB p (putB v k xs n) c, Nx (n + k)] 139), rowF BytF 5 p c (putB v k xs n)] w' := by
 refine enter (n := 62) Tryz.func140 rfl Tryz.ntmps140 rfl ?_ hw
 refine csr (lE omi (lE omi (lnf (c_block ?_))))
 refine c_loop (fun (x_ : Nat × List UInt8 × Option Addr × Nat) f L => match x_ with | (i,ys,p,c) => (f 0 = pp wb 0 ∧ f 1 = Ux (v) ∧ f 2 = Nx (k) ∧ f 7 = Nx (k) ∧ f 8 = Nx (i)) ∧ L = [pt wb (.cells #[sB p ys c,Nx (n + i)] 139),rowF BytF 5 p c ys] ∧ (i ≤ k ∧ ys.length = (n + i + 7) / 8 ∧ putB v (k - i) ys (n + i) = putB v k xs n)) (fun (i,ys,p,c) => k - i) (0,xs,p,c) ?_ ?_
 ·exact ⟨⟨rfl,rfl,rfl,rfl,rfl⟩,rfl,⟨by omega,hxl,rfl⟩⟩
 rintro ⟨i,ys,p,c⟩ f0 L0 ⟨⟨hs0,hs1,hs2,hs7,hs8⟩,hL,⟨hi,hyl,hput⟩⟩
 subst L0
 refine rbs 0 hs0 (rbs 1 hs1 (rbs 2 hs2 (rbs 7 hs7 (rbs 8 hs8 (csr (lE olt (lnf (c_seq (c_if _ rfl (fun hc1 => ?_) (fun hc1 => ?_))))))))))
 ·refine csk (c_seq (c_block (csr (lE omi (lE oai (lnf (cs2 (c_region (lE omp (lE onp (lE ofp (lE (oli 0) ?_))))))))))))
  refine lv (v := Nx ((n + i) % 8)) (e_rem (a := ((n + i : Nat) : Int)) (b := (8 : Int)) rfl rfl (by decide) (nat_tmod _ 8)) (lE oeq_ (lnf ?_))
  refine c_if _ rfl (fun hc2 => ?_) (fun hc2 => ?_)
  ·refine c_region (lE omp (lE omp (lE onp (lE ofp (lE (ols 0) (l_mv rfl rfl rfl (m_slices tt71 tt72.ok (cells := #[.int .u8 (0)]) rfl rfl rfl rfl) ?_))))))
   rintro _ _ ⟨b3,rfl,rfl⟩
   refine l_mv rfl rfl rfl (m_appendFlN (F := BytF) 2 tt71 tt73 (p := p) (m := ys.length) (xs := ys) (ys := [(0 : UInt8)]) (ao := (some ⟨b3,0,none⟩)) (k := 1) (c := 1) rfl rfl rfl rfl rfl (k_ptFl (z := (0 : UInt8)) 0 rfl rfl) (by first | omega | simp only [List.length_nil,List.length_cons,List.length_append,List.length_set]; omega) (by first | omega | simp only [List.length_nil,List.length_cons,List.length_append,List.length_set]; omega)) ?_
   rintro _ _ ⟨rp4,rc5,rfl,rfl⟩
   refine lE onp (lE ofp (lu (mS 1 (#[sB rp4 (ys ++ [(0 : UInt8)]) rc5,Nx (n + i)])) (lnf (c_seq ?_))))
   generalize hzs : ys ++ [(0 : UInt8)] = zs
   have hq : (n + i) % 8 = 0 := by have := hc2; omega
   have hzl : zs.length = (n + i) / 8 + 1 := by rw [← hzs]; simp; omega
   have hgr : growW ys (n + i) = zs := (grow_yes hq).trans hzs
   obtain ⟨x6,hx7⟩ : ∃ x_,zs[(n + i) / 8]? = some x_ := ⟨_,List.getElem?_eq_getElem (by first | omega | decide)⟩
   refine cnz [sv 26 (pp wb 0) [] [] [0],sv 27 (pp wb 0) [0] [0] [],sv 28 (pp wb 0) [0,1] [1] [],sv 29 (sB rp4 zs rc5) [0,1,2] [2] [],sv 30 (pp wb 0) [] [] [0],sv 31 (pp wb 0) [4] [4] [],sv 32 (pp wb 1) [4,5] [5] [],sv 33 (Nx (n + i)) [4,5,6] [6] [],sv 34 (Nx ((n + i) / 8)) [4,5,6,7] [7] [],sv 35 (.pointer (some ((ba rp4).add (((n + i) / 8) * 1)))) (List.range 9) [3,8] [],sv 36 (Bx (x6)) (List.range 10) [9] [],sv 37 (Ux (v)) [] [] [1],sv 38 (Nx (k)) [] [] [2],sv 39 (Nx (k - 1)) [12] [12] [],sv 40 (Nx (i)) [] [] [3],sv 41 (Nx ((k - 1) - i)) [12,13,14] [13,14] [],sv 42 (Ux (v >>> UInt64.ofNat ((k - 1) - i))) [11,12,13,14,15] [11,15] [],sv 43 (Ux ((v >>> UInt64.ofNat ((k - 1) - i)) &&& (1 : UInt64))) [11,12,13,14,15,16] [16] [],sv 44 (Bx (((v >>> UInt64.ofNat ((k - 1) - i)) &&& (1 : UInt64)).toUInt8)) [11,12,13,14,15,16,17] [17] [],sv 45 (pp wb 0) [] [] [0],sv 46 (pp wb 0) [19] [19] [],sv 47 (pp wb 1) [19,20] [20] [],sv 48 (Nx (n + i)) [19,20,21] [21] [],sv 49 (Nx ((n + i) % 8)) [19,20,21,22] [22] [],sv 50 (Nx (7 - ((n + i) % 8))) [19,20,21,22,23] [23] [],sv 51 (Bx ((((v >>> UInt64.ofNat ((k - 1) - i)) &&& (1 : UInt64)).toUInt8) <<< UInt8.ofNat (7 - ((n + i) % 8)))) [11,12,13,14,15,16,17,18,19,20,21,22,23,24] [18,24] [],sv 52 (Bx (x6 ||| ((((v >>> UInt64.ofNat ((k - 1) - i)) &&& (1 : UInt64)).toUInt8) <<< UInt8.ofNat (7 - ((n + i) % 8))))) (List.range 26) [10,25] [],sv 53 (.pointer (some ((ba rp4).add (((n + i) / 8) * 1)))) (List.range 27) [3,8] [],⟨(List.range 28),[27,26],[],[],fun _ => True⟩] [u0,u1 [3,7,22],(some 28,[9,10,27,28])] [⟨(some 28),none,[],[],fun _ => rowF BytF 5 rp4 rc5 (zs.set ((n + i) / 8) (x6 ||| ((((v >>> UInt64.ofNat ((k - 1) - i)) &&& (1 : UInt64)).toUInt8) <<< UInt8.ofNat (7 - ((n + i) % 8)))))⟩] [(0,pp wb 0),(1,Ux (v)),(2,Nx (k)),(6,Nx (i)),(7,Nx (k)),(8,Nx (i))] [0,1,2,4,5] ⟨rfl,rfl,rfl,rfl,rfl,rfl,trivial⟩ ⟨?_,?_,?_,?_,?_,?_,?_,?_,?_,?_,?_,?_,?_,?_,?_,?_,?_,?_,?_,?_,?_,?_,?_,?_,?_,?_,?_,?_,?_,trivial⟩ ?_
   ·rintro f M - ⟨i0,-⟩
    exact obE omp
   ·rintro f M ⟨k0,-⟩ -
    exact obE onp
   ·rintro f M ⟨k0,-⟩ -
    exact obE ofp
   ·rintro f M ⟨k0,-⟩ -
    exact obE (ols 0)
   ·rintro f M - ⟨i0,-⟩
    exact obE omp
   ·rintro f M ⟨k0,-⟩ -
    exact obE onp
   ·rintro f M ⟨k0,-⟩ -
    exact obE ofp
   ·rintro f M ⟨k0,-⟩ -
    exact obE (oli 0)
   ·rintro f M ⟨k0,-⟩ -
    exact ob0 (up_cons (d := 33) rfl k0) rfl (e_quo (a := ((n + i : Nat) : Int)) (b := (8 : Int)) rfl rfl (by decide) (i64n (nat_tdiv _ 8) (by omega))) (.refl _)
   ·rintro f M ⟨k0,k1,-⟩ -
    exact obv (L' := rowF BytF 5 rp4 rc5 zs :: M) (up_cons (d := 34) (up_cons (d := 29) rfl k0) k1) rfl (e_indexFlN 0 (F := BytF) (j := (n + i) / 8) (m := zs.length) (xs := zs) rfl rfl rfl tt71 (by omega) rfl) (perm_front 0 rfl) (by rfl)
   ·rintro f M ⟨k0,-⟩ -
    exact obv (L' := rowF BytF 5 rp4 rc5 zs :: M) (up_cons (d := 35) rfl k0) rfl (e_load1 tt5.ok rfl (k_flAt 0 (F := BytF) rfl hx7)) (perm_front 0 rfl) (by rfl)
   ·rintro f M - ⟨i0,-⟩
    exact obE omi
   ·rintro f M - ⟨i0,-⟩
    exact obE omi
   ·rintro f M ⟨k0,-⟩ -
    exact ob0 (up_cons (d := 38) rfl k0) rfl (ev_eq (congrArg (Value.int .i64) (by omega)) (e_sub (a := ((k : Nat) : Int)) (b := (1 : Int)) rfl rfl (i64w (by omega)))) (.refl _)
   ·rintro f M - ⟨i0,-⟩
    exact obE omi
   ·rintro f M ⟨k0,k1,-⟩ -
    exact ob0 (up_cons (d := 40) (up_cons (d := 39) rfl k0) k1) rfl (ev_eq (congrArg (Value.int .i64) (by omega)) (e_sub (a := ((k - 1 : Nat) : Int)) (b := ((i : Nat) : Int)) rfl rfl (i64w (by omega)))) (.refl _)
   ·rintro f M ⟨k0,k1,-⟩ -
    exact ob0 (up_cons (d := 41) (up_cons (d := 37) rfl k0) k1) rfl (e_shr (a := ((v).toNat : Int)) (b := (((k - 1) - i : Nat) : Int)) rfl rfl (by omega) (ux_shr _ ((k - 1) - i) (by omega))) (.refl _)
   ·rintro f M ⟨k0,-⟩ -
    exact ob0 (up_cons (d := 42) rfl k0) rfl (e_and (a := ((v >>> UInt64.ofNat ((k - 1) - i)).toNat : Int)) (b := ((1 : UInt64).toNat : Int)) rfl rfl (ux_and _ _)) (.refl _)
   ·rintro f M ⟨k0,-⟩ -
    exact ob0 (up_cons (d := 43) rfl k0) rfl (e_conv (a := (((v >>> UInt64.ofNat ((k - 1) - i)) &&& (1 : UInt64)).toNat : Int)) rfl ⟨_,tt74⟩ tt75 (bx_of64 _)) (.refl _)
   ·rintro f M - ⟨i0,-⟩
    exact obE omp
   ·rintro f M ⟨k0,-⟩ -
    exact obE onp
   ·rintro f M ⟨k0,-⟩ -
    exact obE ofp
   ·rintro f M ⟨k0,-⟩ -
    exact obE (oli 0)
   ·rintro f M ⟨k0,-⟩ -
    exact ob0 (up_cons (d := 48) rfl k0) rfl (e_rem (a := ((n + i : Nat) : Int)) (b := (8 : Int)) rfl rfl (by decide) (nat_tmod _ 8)) (.refl _)
   ·rintro f M ⟨k0,-⟩ -
    exact ob0 (up_cons (d := 49) rfl k0) rfl (ev_eq (congrArg (Value.int .i64) (by omega)) (e_sub (a := (7 : Int)) (b := (((n + i) % 8 : Nat) : Int)) rfl rfl (i64w (by omega)))) (.refl _)
   ·rintro f M ⟨k0,k1,-⟩ -
    exact ob0 (up_cons (d := 50) (up_cons (d := 44) rfl k0) k1) rfl (e_shl (a := ((((v >>> UInt64.ofNat ((k - 1) - i)) &&& (1 : UInt64)).toUInt8).toNat : Int)) (b := ((7 - ((n + i) % 8) : Nat) : Int)) rfl rfl (by omega) (bx_shl _ (7 - ((n + i) % 8)) (by omega))) (.refl _)
   ·rintro f M ⟨k0,k1,-⟩ -
    exact ob0 (up_cons (d := 51) (up_cons (d := 36) rfl k0) k1) rfl (e_or (a := ((x6).toNat : Int)) (b := (((((v >>> UInt64.ofNat ((k - 1) - i)) &&& (1 : UInt64)).toUInt8) <<< UInt8.ofNat (7 - ((n + i) % 8))).toNat : Int)) rfl rfl (bx_or _ _)) (.refl _)
   ·rintro f M ⟨k0,k1,-⟩ -
    exact obv (L' := rowF BytF 5 rp4 rc5 zs :: M) (up_cons (d := 34) (up_cons (d := 29) rfl k0) k1) rfl (e_indexFlN 0 (F := BytF) (j := (n + i) / 8) (m := zs.length) (xs := zs) rfl rfl rfl tt71 (by omega) rfl) (perm_front 0 rfl) (by rfl)
   ·rintro f M ⟨k0,k1,-⟩ -
    refine obS (up_cons (d := 52) (up_cons (d := 53) rfl k0) k1) ?_
    refine lu (m_storeFl 0 (F := BytF) (p := rp4) (k := (n + i) / 8) (xs := zs) (z := (x6 ||| ((((v >>> UInt64.ofNat ((k - 1) - i)) &&& (1 : UInt64)).toUInt8) <<< UInt8.ofNat (7 - ((n + i) % 8))))) tt5.ok rfl rfl rfl rfl (by omega)) ?_
    refine l_nil ?_
    exact f_owes_n (up_cons (d := 52) (up_cons (d := 53) rfl k0) k1) trivial (perm_front 0 rfl)
   rintro fa8 ⟨-,-,-,-,-,-,-,-,-,-,-,-,-,-,-,-,-,-,-,-,-,-,-,-,-,-,-,-,-,-⟩ ⟨j0,j1,j2,j3,j4,-⟩
   refine fre ?_
   refine f_rebase (d := 0) j0 (f_rebase (d := 1) j1 (f_rebase (d := 2) j2 (f_rebase (d := 7) j3 (f_rebase (d := 8) j4 (f_then (c_region (lE omp ?_)))))))
   refine lE onp (lE ofp (lE (oli 1) (lv (v := Nx ((n + i) + 1)) (e_add rfl rfl (i64n (by omega) (by omega))) (lE onp (lE ofp ?_)))))
   refine lu (mS 1 (#[sB rp4 zs rc5,Nx ((n + i) + 1)])) (l_nil (f_block (f_then (c_region ?_))))
   refine lv (v := Nx (i + 1)) (e_add rfl rfl (i64n (by omega) (by omega))) (lE omi (l_nil (f_mask [false,true,true] rfl ?_)))
   exact f_cut ⟨(i + 1,(zs.set ((n + i) / 8) (x6 ||| ((((v >>> UInt64.ofNat ((k - 1) - i)) &&& (1 : UInt64)).toUInt8) <<< UInt8.ofNat (7 - ((n + i) % 8))))),rp4,rc5),⟨⟨rfl,rfl,rfl,rfl,rfl⟩,by simp only [sB,List.length_set]; rfl,⟨by omega,by simp only [sB,List.length_set]; omega,by rw [← put_step (by omega) hgr hx7]; exact hput⟩⟩,(show k - (i + 1) < k - i from by omega)⟩
  refine csk (c_seq ?_)
  have hq : ¬ (n + i) % 8 = 0 := by have := hc2; omega
  have hgr : growW ys (n + i) = ys := grow_no hq
  obtain ⟨x9,hx10⟩ : ∃ x_,ys[(n + i) / 8]? = some x_ := ⟨_,List.getElem?_eq_getElem (by first | omega | decide)⟩
  refine cnz [sv 26 (pp wb 0) [] [] [0],sv 27 (pp wb 0) [0] [0] [],sv 28 (pp wb 0) [0,1] [1] [],sv 29 (sB p ys c) [0,1,2] [2] [],sv 30 (pp wb 0) [] [] [0],sv 31 (pp wb 0) [4] [4] [],sv 32 (pp wb 1) [4,5] [5] [],sv 33 (Nx (n + i)) [4,5,6] [6] [],sv 34 (Nx ((n + i) / 8)) [4,5,6,7] [7] [],sv 35 (.pointer (some ((ba p).add (((n + i) / 8) * 1)))) (List.range 9) [3,8] [],sv 36 (Bx (x9)) (List.range 10) [9] [],sv 37 (Ux (v)) [] [] [1],sv 38 (Nx (k)) [] [] [2],sv 39 (Nx (k - 1)) [12] [12] [],sv 40 (Nx (i)) [] [] [3],sv 41 (Nx ((k - 1) - i)) [12,13,14] [13,14] [],sv 42 (Ux (v >>> UInt64.ofNat ((k - 1) - i))) [11,12,13,14,15] [11,15] [],sv 43 (Ux ((v >>> UInt64.ofNat ((k - 1) - i)) &&& (1 : UInt64))) [11,12,13,14,15,16] [16] [],sv 44 (Bx (((v >>> UInt64.ofNat ((k - 1) - i)) &&& (1 : UInt64)).toUInt8)) [11,12,13,14,15,16,17] [17] [],sv 45 (pp wb 0) [] [] [0],sv 46 (pp wb 0) [19] [19] [],sv 47 (pp wb 1) [19,20] [20] [],sv 48 (Nx (n + i)) [19,20,21] [21] [],sv 49 (Nx ((n + i) % 8)) [19,20,21,22] [22] [],sv 50 (Nx (7 - ((n + i) % 8))) [19,20,21,22,23] [23] [],sv 51 (Bx ((((v >>> UInt64.ofNat ((k - 1) - i)) &&& (1 : UInt64)).toUInt8) <<< UInt8.ofNat (7 - ((n + i) % 8)))) [11,12,13,14,15,16,17,18,19,20,21,22,23,24] [18,24] [],sv 52 (Bx (x9 ||| ((((v >>> UInt64.ofNat ((k - 1) - i)) &&& (1 : UInt64)).toUInt8) <<< UInt8.ofNat (7 - ((n + i) % 8))))) (List.range 26) [10,25] [],sv 53 (.pointer (some ((ba p).add (((n + i) / 8) * 1)))) (List.range 27) [3,8] [],⟨(List.range 28),[27,26],[],[],fun _ => True⟩] [u1 [3,7,22],(some 28,[9,10,27,28])] [⟨(some 28),none,[],[],fun _ => rowF BytF 5 p c (ys.set ((n + i) / 8) (x9 ||| ((((v >>> UInt64.ofNat ((k - 1) - i)) &&& (1 : UInt64)).toUInt8) <<< UInt8.ofNat (7 - ((n + i) % 8)))))⟩] [(0,pp wb 0),(1,Ux (v)),(2,Nx (k)),(6,Nx (i)),(7,Nx (k)),(8,Nx (i))] [0,1,2,4,5] ⟨rfl,rfl,rfl,rfl,rfl,rfl,trivial⟩ ⟨?_,?_,?_,?_,?_,?_,?_,?_,?_,?_,?_,?_,?_,?_,?_,?_,?_,?_,?_,?_,?_,?_,?_,?_,?_,?_,?_,?_,?_,trivial⟩ ?_
  ·rintro f M - ⟨i0,-⟩
   exact obE omp
  ·rintro f M ⟨k0,-⟩ -
   exact obE onp
  ·rintro f M ⟨k0,-⟩ -
   exact obE ofp
  ·rintro f M ⟨k0,-⟩ -
   exact obE (ols 0)
  ·rintro f M - ⟨i0,-⟩
   exact obE omp
  ·rintro f M ⟨k0,-⟩ -
   exact obE onp
  ·rintro f M ⟨k0,-⟩ -
   exact obE ofp
  ·rintro f M ⟨k0,-⟩ -
   exact obE (oli 0)
  ·rintro f M ⟨k0,-⟩ -
   exact ob0 (up_cons (d := 33) rfl k0) rfl (e_quo (a := ((n + i : Nat) : Int)) (b := (8 : Int)) rfl rfl (by decide) (i64n (nat_tdiv _ 8) (by omega))) (.refl _)
  ·rintro f M ⟨k0,k1,-⟩ -
   exact obv (L' := rowF BytF 5 p c ys :: M) (up_cons (d := 34) (up_cons (d := 29) rfl k0) k1) rfl (e_indexFlN 0 (F := BytF) (j := (n + i) / 8) (m := ys.length) (xs := ys) rfl rfl rfl tt71 (by omega) rfl) (perm_front 0 rfl) (by rfl)
  ·rintro f M ⟨k0,-⟩ -
   exact obv (L' := rowF BytF 5 p c ys :: M) (up_cons (d := 35) rfl k0) rfl (e_load1 tt5.ok rfl (k_flAt 0 (F := BytF) rfl hx10)) (perm_front 0 rfl) (by rfl)
  ·rintro f M - ⟨i0,-⟩
   exact obE omi
  ·rintro f M - ⟨i0,-⟩
   exact obE omi
  ·rintro f M ⟨k0,-⟩ -
   exact ob0 (up_cons (d := 38) rfl k0) rfl (ev_eq (congrArg (Value.int .i64) (by omega)) (e_sub (a := ((k : Nat) : Int)) (b := (1 : Int)) rfl rfl (i64w (by omega)))) (.refl _)
  ·rintro f M - ⟨i0,-⟩
   exact obE omi
  ·rintro f M ⟨k0,k1,-⟩ -
   exact ob0 (up_cons (d := 40) (up_cons (d := 39) rfl k0) k1) rfl (ev_eq (congrArg (Value.int .i64) (by omega)) (e_sub (a := ((k - 1 : Nat) : Int)) (b := ((i : Nat) : Int)) rfl rfl (i64w (by omega)))) (.refl _)
  ·rintro f M ⟨k0,k1,-⟩ -
   exact ob0 (up_cons (d := 41) (up_cons (d := 37) rfl k0) k1) rfl (e_shr (a := ((v).toNat : Int)) (b := (((k - 1) - i : Nat) : Int)) rfl rfl (by omega) (ux_shr _ ((k - 1) - i) (by omega))) (.refl _)
  ·rintro f M ⟨k0,-⟩ -
   exact ob0 (up_cons (d := 42) rfl k0) rfl (e_and (a := ((v >>> UInt64.ofNat ((k - 1) - i)).toNat : Int)) (b := ((1 : UInt64).toNat : Int)) rfl rfl (ux_and _ _)) (.refl _)
  ·rintro f M ⟨k0,-⟩ -
   exact ob0 (up_cons (d := 43) rfl k0) rfl (e_conv (a := (((v >>> UInt64.ofNat ((k - 1) - i)) &&& (1 : UInt64)).toNat : Int)) rfl ⟨_,tt74⟩ tt75 (bx_of64 _)) (.refl _)
  ·rintro f M - ⟨i0,-⟩
   exact obE omp
  ·rintro f M ⟨k0,-⟩ -
   exact obE onp
  ·rintro f M ⟨k0,-⟩ -
   exact obE ofp
  ·rintro f M ⟨k0,-⟩ -
   exact obE (oli 0)
  ·rintro f M ⟨k0,-⟩ -
   exact ob0 (up_cons (d := 48) rfl k0) rfl (e_rem (a := ((n + i : Nat) : Int)) (b := (8 : Int)) rfl rfl (by decide) (nat_tmod _ 8)) (.refl _)
  ·rintro f M ⟨k0,-⟩ -
   exact ob0 (up_cons (d := 49) rfl k0) rfl (ev_eq (congrArg (Value.int .i64) (by omega)) (e_sub (a := (7 : Int)) (b := (((n + i) % 8 : Nat) : Int)) rfl rfl (i64w (by omega)))) (.refl _)
  ·rintro f M ⟨k0,k1,-⟩ -
   exact ob0 (up_cons (d := 50) (up_cons (d := 44) rfl k0) k1) rfl (e_shl (a := ((((v >>> UInt64.ofNat ((k - 1) - i)) &&& (1 : UInt64)).toUInt8).toNat : Int)) (b := ((7 - ((n + i) % 8) : Nat) : Int)) rfl rfl (by omega) (bx_shl _ (7 - ((n + i) % 8)) (by omega))) (.refl _)
  ·rintro f M ⟨k0,k1,-⟩ -
   exact ob0 (up_cons (d := 51) (up_cons (d := 36) rfl k0) k1) rfl (e_or (a := ((x9).toNat : Int)) (b := (((((v >>> UInt64.ofNat ((k - 1) - i)) &&& (1 : UInt64)).toUInt8) <<< UInt8.ofNat (7 - ((n + i) % 8))).toNat : Int)) rfl rfl (bx_or _ _)) (.refl _)
  ·rintro f M ⟨k0,k1,-⟩ -
   exact obv (L' := rowF BytF 5 p c ys :: M) (up_cons (d := 34) (up_cons (d := 29) rfl k0) k1) rfl (e_indexFlN 0 (F := BytF) (j := (n + i) / 8) (m := ys.length) (xs := ys) rfl rfl rfl tt71 (by omega) rfl) (perm_front 0 rfl) (by rfl)
  ·rintro f M ⟨k0,k1,-⟩ -
   refine obS (up_cons (d := 52) (up_cons (d := 53) rfl k0) k1) ?_
   refine lu (m_storeFl 0 (F := BytF) (p := p) (k := (n + i) / 8) (xs := ys) (z := (x9 ||| ((((v >>> UInt64.ofNat ((k - 1) - i)) &&& (1 : UInt64)).toUInt8) <<< UInt8.ofNat (7 - ((n + i) % 8))))) tt5.ok rfl rfl rfl rfl (by omega)) ?_
   refine l_nil ?_
   exact f_owes_n (up_cons (d := 52) (up_cons (d := 53) rfl k0) k1) trivial (perm_front 0 rfl)
  rintro fa11 ⟨-,-,-,-,-,-,-,-,-,-,-,-,-,-,-,-,-,-,-,-,-,-,-,-,-,-,-,-,-,-⟩ ⟨j0,j1,j2,j3,j4,-⟩
  refine fre ?_
  refine f_rebase (d := 0) j0 (f_rebase (d := 1) j1 (f_rebase (d := 2) j2 (f_rebase (d := 7) j3 (f_rebase (d := 8) j4 (f_then (c_region (lE omp ?_)))))))
  refine lE onp (lE ofp (lE (oli 0) (lv (v := Nx ((n + i) + 1)) (e_add rfl rfl (i64n (by omega) (by omega))) (lE onp (lE ofp ?_)))))
  refine lu (mS 0 (#[sB p ys c,Nx ((n + i) + 1)])) (l_nil (f_block (f_then (c_region ?_))))
  refine lv (v := Nx (i + 1)) (e_add rfl rfl (i64n (by omega) (by omega))) (lE omi (l_nil ?_))
  exact f_cut ⟨(i + 1,(ys.set ((n + i) / 8) (x9 ||| ((((v >>> UInt64.ofNat ((k - 1) - i)) &&& (1 : UInt64)).toUInt8) <<< UInt8.ofNat (7 - ((n + i) % 8))))),p,c),⟨⟨rfl,rfl,rfl,rfl,rfl⟩,by simp only [sB,List.length_set]; rfl,⟨by omega,by simp only [sB,List.length_set]; omega,by rw [← put_step (by omega) hgr hx10]; exact hput⟩⟩,(show k - (i + 1) < k - i from by omega)⟩
 refine c_exit (f_then_exit (f_then_exit (f_exit (end0 Tryz.results140 ?_))))
 intro w hw
 have hik : i = k := by omega
 rw [hik,Nat.sub_self] at hput
 have hy : ys = putB v k xs n := hput
 rw [hik,hy] at hw
 exact ⟨_,_,rfl,hw⟩
theorem room_ok (β : Base) (w : World) (hw : St β [] w) (wb : Nat) (p : Option Addr) (m c n : Nat) (hc : Cs β.heap ⟨wb, 0, none⟩ [.slice p m c, Nx n]) (k : Nat) (hn : n + k ≤ 1048576) : Ret Tryz.prog 139 #[pp wb 0, Nx k] β w (Ix 0) := by
 refine enter (n := 12) Tryz.func139 rfl Tryz.ntmps139 rfl ?_ hw
 refine csr (lE oai (lnf (cs2 (c_region (lE omp (lE onp (lE ofa ?_)))))))
 refine lv (v := Nx (n)) (e_load1 tt2.ok rfl (Knows.imp (kB hc) (fun _ h => Cs.sub (vs := [Nx (n)]) 1 h rfl))) (lE omi (lE opn (lE ogt (lnf ?_))))
 refine c_if _ rfl (fun hc1 => ?_) (fun hc1 => ?_)
 ·exact absurd hc1 (by omega)
 refine csk (csr (lE oai (lnf (c_ret (ret1 Tryz.results139 rfl ?_)))))
 intro w hw
 exact ⟨rfl,st_mask [] rfl hw⟩
set_option maxHeartbeats 4000000 in
theorem put_ok (β : Base) (w : World) (wb : Nat) (p : Option Addr) (c : Nat) (xs : List UInt8) (n : Nat) (hw : St β [pt wb (.cells #[sB p xs c, Nx n] 139), rowF BytF 5 p c xs] w) (hxl : xs.length = (n + 7) / 8) (v : UInt64) (k : Nat) (hk : k ≤ 64) (hn : n + k ≤ 1048576) (hv : k = 64 ∨ v.toNat < 2 ^ k) : Calls Tryz.prog 120 #[pp wb 0, .int .u64 (v.toNat : Int), Nx k] w fun r w' => ∃ p c, r = .returned (Ix 0) ∧ St β [pt wb (.cells #[sB p (putB v k xs n) c, Nx (n + k)] 139), rowF BytF 5 p c (putB v k xs n)] w' := by
 refine enter (n := 38) Tryz.func120 rfl Tryz.ntmps120 rfl ?_ hw
 refine csr (lE oai (lnf (c_seq (c_block (csr (lE omp (lv (v := .bool false) (e_eql_pnil (p := some (⟨wb,0,none⟩)) rfl rfl tt76) (lE oab (lnf ?_)))))))))
 refine c_no rfl (csr (lE omi (lE olt (lE omb (l_split (s := 14) rfl (fun h => ?_) (fun h => ?_))))))
 exact absurd h (by omega)
 refine gE omi (gE ogt (lE okfb (lE omb (l_split (s := 18) rfl (fun h => ?_) (fun h => ?_)))))
 exact absurd h (by omega)
 refine gE omi (gE olt (gE omb (l_split (s := 21) rfl (fun hg1 => ?_) (fun hg1 => ?_))))
 ·refine gE omi (gE omi ?_)
  refine g_val (v := Ux (v >>> UInt64.ofNat k)) rfl rfl rfl rfl rfl (e_shr (a := ((v).toNat : Int)) (b := ((k : Nat) : Int)) rfl rfl (by omega) (ux_shr _ k (by omega))) ?_
  refine gE ogt (gE oktb (lE okfb (lE oab (lnf (c_if _ rfl (fun hc2 => ?_) (fun hc2 => ?_))))))
  ·exact absurd hc2 (shr_fits hv (by omega))
  refine c_skip (f_block (ftc (lE omp (lE omi (lcR clA (fun w β1 sb kn hw1 => room_ok β1 w hw1 wb _ _ _ n (kn _ (k_pt 0 rfl rfl)) k (by omega)) ?_)))))
  refine lE oai (lnf (cs2 (c_region (lE omi (lE oeq_ (lnf (c_yes rfl (c_region (lE omp (lE omi (lE omi ?_)))))))))))
  refine l_call rfl rfl rfl (cl0 (vs := [pp wb 0,Ux (v),Nx (k)]) tt78.ok rfl rfl) ?_
  intro w hw
  replace hw := hw.perm (L' := _ :: _ :: []) (by exact ((perm_front 1 rfl).trans (perm_front 1 rfl)))
  obtain ⟨β1,sb,kn,hw1,back⟩ := St.frame (L := [_,_]) (M := []) hw
  refine (wput_ok β1 w wb _ _ xs n hw1 hxl v k (by omega) (by omega)).mono ?_
  rintro e w' ⟨p3,c4,rfl,hw'⟩
  refine ⟨_,rfl,_,back _ _ hw',?_⟩
  clear hw hw1 hw' back kn sb
  refine lnc (lE omi (lE oai (lnf (c_ret (ret1 Tryz.results120 rfl ?_)))))
  intro w hw
  exact ⟨_,_,rfl,hw⟩
 refine skE (skE (skE (skE (gE okfb (lE okfb (lE oab (lnf (c_no rfl (c_skip (f_block (ftc (lE omp (lE omi ?_)))))))))))))
 refine lcR clA (fun w β1 sb kn hw1 => room_ok β1 w hw1 wb _ _ _ n (kn _ (k_pt 0 rfl rfl)) k (by omega)) (lE oai (lnf (cs2 (c_region (lE omi ?_)))))
 refine lE oeq_ (lnf (c_yes rfl (c_region (lE omp (lE omi (lE omi (l_call rfl rfl rfl (cl0 (vs := [pp wb 0,Ux (v),Nx (k)]) tt78.ok rfl rfl) ?_)))))))
 intro w hw
 replace hw := hw.perm (L' := _ :: _ :: []) (by exact ((perm_front 1 rfl).trans (perm_front 1 rfl)))
 obtain ⟨β1,sb,kn,hw1,back⟩ := St.frame (L := [_,_]) (M := []) hw
 refine (wput_ok β1 w wb _ _ xs n hw1 hxl v k (by omega) (by omega)).mono ?_
 rintro e w' ⟨p5,c6,rfl,hw'⟩
 refine ⟨_,rfl,_,back _ _ hw',?_⟩
 clear hw hw1 hw' back kn sb
 refine lnc (lE omi (lE oai (lnf (c_ret (ret1 Tryz.results120 rfl ?_)))))
 intro w hw
 exact ⟨_,_,rfl,hw⟩
theorem tput_ok (β : Base) (w : World) (wb : Nat) (p : Option Addr) (c : Nat) (xs : List UInt8) (n : Nat) (hw : St β [pt wb (.cells #[sB p xs c, Nx n] 139), rowF BytF 5 p c xs] w) (hxl : xs.length = (n + 7) / 8) (v : Int) (k : Nat) (hk : k ≤ 64) (hn : n + k ≤ 1048576) (hv : k = 64 ∨ (0 ≤ v ∧ v < 2 ^ k ∧ k < 64)) : Calls Tryz.prog 95 #[pp wb 0, Ix v, Nx k] w fun r w' => ∃ p c, r = .returned (.tuple #[]) ∧ St β [pt wb (.cells #[sB p (putB (U v) k xs n) c, Nx (n + k)] 139), rowF BytF 5 p c (putB (U v) k xs n)] w' := by
 refine enter (n := 13) Tryz.func95 rfl Tryz.ntmps95 rfl ?_ hw
 refine c_region (lE omp (lE onp (lE ofp (lE omi (lv (v := Ux (U (v))) (e_conv (a := (v)) rfl ⟨_,tt80⟩ tt74 (ux_of _)) (lE omi ?_))))))
 refine l_call rfl rfl rfl (cl0 (vs := [pp wb 0,Ux (U (v)),Nx (k)]) tt81.ok rfl rfl) ?_
 intro w hw
 replace hw := hw.perm (L' := _ :: _ :: []) (by exact ((perm_front 1 rfl).trans (perm_front 1 rfl)))
 obtain ⟨β1,sb,kn,hw1,back⟩ := St.frame (L := [_,_]) (M := []) hw
 refine (put_ok β1 w wb _ _ xs n hw1 hxl (U (v)) k (by omega) (by omega) (U_fits hv)).mono ?_
 rintro e w' ⟨p1,c2,rfl,hw'⟩
 refine ⟨_,rfl,_,back _ _ hw',?_⟩
 clear hw hw1 hw' back kn sb
 refine l_nil (end0 Tryz.results95 ?_)
 intro w hw
 exact ⟨_,_,rfl,hw⟩
set_option maxHeartbeats 4000000 in
theorem tam_ok (β : Base) (w : World) (wb : Nat) (p : Option Addr) (c : Nat) (xs : List UInt8) (n : Nat) (hw : St β [pt wb (.cells #[sB p xs c, Nx n] 139), rowF BytF 5 p c xs] w) (hxl : xs.length = (n + 7) / 8) (a : KAm) (k : Nat) (hk : k < 64) (hn : n + 4 * k ≤ 1048576) (hv : ∀ x ∈ [a.a0, a.a1, a.a2, a.a3], 0 ≤ x ∧ x < 2 ^ k) : Calls Tryz.prog 94 #[pp wb 0, .agg (amC a), Nx k] w fun r w' => ∃ p c, r = .returned (.tuple #[]) ∧ St β [pt wb (.cells #[sB p (amB a k xs n) c, Nx (n + k + k + k + k)] 139), rowF BytF 5 p c (amB a k xs n)] w' := by
 have hv0 : k = 64 ∨ (0 ≤ a.a0 ∧ a.a0 < 2 ^ k ∧ k < 64) := .inr ⟨(hv _ (by simp)).1,(hv _ (by simp)).2,hk⟩
 have hv1 : k = 64 ∨ (0 ≤ a.a1 ∧ a.a1 < 2 ^ k ∧ k < 64) := .inr ⟨(hv _ (by simp)).1,(hv _ (by simp)).2,hk⟩
 have hv2 : k = 64 ∨ (0 ≤ a.a2 ∧ a.a2 < 2 ^ k ∧ k < 64) := .inr ⟨(hv _ (by simp)).1,(hv _ (by simp)).2,hk⟩
 have hv3 : k = 64 ∨ (0 ≤ a.a3 ∧ a.a3 < 2 ^ k ∧ k < 64) := .inr ⟨(hv _ (by simp)).1,(hv _ (by simp)).2,hk⟩
 refine enter (n := 17) Tryz.func94 rfl Tryz.ntmps94 rfl ?_ hw
 refine csr (bxa fun b1 => ?_)
 refine lnc (lE (olg 0) (lE omi (lnf (c_block (c_unroll 5 (un_succ 4 (csr (lE olt (lnf (c_seq (c_yes rfl (csk (c_seq (c_block (csr ?_)))))))))))))))
 refine lv (v := Ix (a.a0)) (e_index_a (cs := (amC a)) (k := 0) rfl rfl tt1.ok rfl (by decide) tt2.ok) (lE oai (lnr (lE omp (lE omi (lE omi ?_)))))
 refine l_call rfl rfl rfl (cl0 (vs := [pp wb 0,Ix (a.a0),Nx (k)]) tt82.ok rfl rfl) ?_
 intro w hw
 replace hw := hw.perm (L' := _ :: _ :: _ :: []) (by exact (((perm_front 0 rfl).trans (perm_front 2 rfl)).trans (perm_front 2 rfl)))
 obtain ⟨β1,sb,kn,hw1,back⟩ := St.frame (L := [_,_]) (M := _ :: []) hw
 refine (tput_ok β1 w wb _ _ xs n hw1 hxl a.a0 k (by omega) (by omega) hv0).mono ?_
 rintro e w' ⟨p2,c3,rfl,hw'⟩
 refine ⟨_,rfl,_,back _ _ hw',?_⟩
 clear hw hw1 hw' back kn sb
 refine l_nil (f_block (f_then (c_region (lE opl (lE omi (l_nil (f_cut (un_succ 3 (csr (lE olt (lnf (c_seq (c_yes rfl (csk (c_seq (c_block (csr ?_)))))))))))))))))
 refine lv (v := Ix (a.a1)) (e_index_a (cs := (amC a)) (k := 1) rfl rfl tt1.ok rfl (by decide) tt2.ok) (lE oai (lnr (lE omp (lE omi (lE omi ?_)))))
 refine l_call rfl rfl rfl (cl0 (vs := [pp wb 0,Ix (a.a1),Nx (k)]) tt82.ok rfl rfl) ?_
 intro w hw
 replace hw := hw.perm (L' := _ :: _ :: _ :: []) (by exact (((perm_front 2 rfl).trans (perm_front 2 rfl)).trans (perm_front 2 rfl)))
 obtain ⟨β1,sb,kn,hw1,back⟩ := St.frame (L := [_,_]) (M := _ :: []) hw
 refine (tput_ok β1 w wb _ _ (putB (U a.a0) k xs n) (n + k) hw1 (putB_len hxl) a.a1 k (by omega) (by omega) hv1).mono ?_
 rintro e w' ⟨p4,c5,rfl,hw'⟩
 refine ⟨_,rfl,_,back _ _ hw',?_⟩
 clear hw hw1 hw' back kn sb
 refine l_nil (f_block (f_then (c_region (lE opl (lE omi (l_nil (f_cut (un_succ 2 (csr (lE olt (lnf (c_seq (c_yes rfl (csk (c_seq (c_block (csr ?_)))))))))))))))))
 refine lv (v := Ix (a.a2)) (e_index_a (cs := (amC a)) (k := 2) rfl rfl tt1.ok rfl (by decide) tt2.ok) (lE oai (lnr (lE omp (lE omi (lE omi ?_)))))
 refine l_call rfl rfl rfl (cl0 (vs := [pp wb 0,Ix (a.a2),Nx (k)]) tt82.ok rfl rfl) ?_
 intro w hw
 replace hw := hw.perm (L' := _ :: _ :: _ :: []) (by exact (((perm_front 2 rfl).trans (perm_front 2 rfl)).trans (perm_front 2 rfl)))
 obtain ⟨β1,sb,kn,hw1,back⟩ := St.frame (L := [_,_]) (M := _ :: []) hw
 refine (tput_ok β1 w wb _ _ (putB (U a.a1) k (putB (U a.a0) k xs n) (n + k)) (n + k + k) hw1 (putB_len (putB_len hxl)) a.a2 k (by omega) (by omega) hv2).mono ?_
 rintro e w' ⟨p6,c7,rfl,hw'⟩
 refine ⟨_,rfl,_,back _ _ hw',?_⟩
 clear hw hw1 hw' back kn sb
 refine l_nil (f_block (f_then (c_region (lE opl (lE omi (l_nil (f_cut (un_succ 1 (csr (lE olt (lnf (c_seq (c_yes rfl (csk (c_seq (c_block (csr ?_)))))))))))))))))
 refine lv (v := Ix (a.a3)) (e_index_a (cs := (amC a)) (k := 3) rfl rfl tt1.ok rfl (by decide) tt2.ok) (lE oai (lnr (lE omp (lE omi (lE omi ?_)))))
 refine l_call rfl rfl rfl (cl0 (vs := [pp wb 0,Ix (a.a3),Nx (k)]) tt82.ok rfl rfl) ?_
 intro w hw
 replace hw := hw.perm (L' := _ :: _ :: _ :: []) (by exact (((perm_front 2 rfl).trans (perm_front 2 rfl)).trans (perm_front 2 rfl)))
 obtain ⟨β1,sb,kn,hw1,back⟩ := St.frame (L := [_,_]) (M := _ :: []) hw
 refine (tput_ok β1 w wb _ _ (putB (U a.a2) k (putB (U a.a1) k (putB (U a.a0) k xs n) (n + k)) (n + k + k)) (n + k + k + k) hw1 (putB_len (putB_len (putB_len hxl))) a.a3 k (by omega) (by omega) hv3).mono ?_
 rintro e w' ⟨p8,c9,rfl,hw'⟩
 refine ⟨_,rfl,_,back _ _ hw',?_⟩
 clear hw hw1 hw' back kn sb
 refine l_nil (f_block (f_then (c_region (lE opl (lE omi (l_nil (f_cut (un_succ 0 (csr (lE olt (lnf (c_seq (c_no rfl (c_exit (f_then_exit ?_)))))))))))))))
 refine f_then_exit (f_exit (end0 Tryz.results94 ?_))
 intro w hw
 exact ⟨_,_,rfl,st_mask (L' := [pt wb (.cells #[sB p8 (putB (U a.a3) k (putB (U a.a2) k (putB (U a.a1) k (putB (U a.a0) k xs n) (n + k)) (n + k + k)) (n + k + k + k)) c9,Nx (n + k + k + k + k)] 139),rowF BytF 5 p8 c9 (putB (U a.a3) k (putB (U a.a2) k (putB (U a.a1) k (putB (U a.a0) k xs n) (n + k)) (n + k + k)) (n + k + k + k))]) [true,true,false] rfl hw⟩
set_option maxHeartbeats 4000000 in
theorem deal_ok (β : Base) (w : World) (wb : Nat) (p : Option Addr) (c : Nat) (xs : List UInt8) (n : Nat) (hw : St β [pt wb (.cells #[sB p xs c, Nx n] 139), rowF BytF 5 p c xs] w) (hxl : xs.length = (n + 7) / 8) (au nu : Int) (v : Value) (al : List KAct) (hs : Sl ActF.R β.heap v al) (hfo : ∀ x ∈ al, x.formed = true) (hl : al.length ≤ 16) (hau : 0 ≤ au ∧ au < 128) (hnu : 0 ≤ nu ∧ nu < 2199023255552) (hn : n + (57 + 225 * al.length) ≤ 1048576) : Calls Tryz.prog 58 #[pp wb 0, .agg #[Ix au, Ix nu, v]] w fun r w' => ∃ p c, r = .returned (.tuple #[]) ∧ St β [pt wb (.cells #[sB p (dealB au nu al xs n) c, Nx (n + (57 + 225 * al.length))] 139), rowF BytF 5 p c (dealB au nu al xs n)] w' := by
 obtain ⟨va,vc,rfl,vl,vm,ve⟩ := hs.get
 have hfa : 7 = 64 ∨ (0 ≤ au ∧ au < 2 ^ 7 ∧ 7 < 64) := .inr ⟨hau.1,hau.2,by decide⟩
 have hfn : 41 = 64 ∨ (0 ≤ nu ∧ nu < 2 ^ 41 ∧ 41 < 64) := .inr ⟨hnu.1,hnu.2,by decide⟩
 have hfl : 9 = 64 ∨ (0 ≤ ((al.length : Nat) : Int) ∧ ((al.length : Nat) : Int) < 2 ^ 9 ∧ 9 < 64) := .inr ⟨by omega,by omega,by decide⟩
 refine enter (n := 48) Tryz.func58 rfl Tryz.ntmps58 rfl ?_ hw
 refine csr (bxa fun b1 => ?_)
 refine lnc (lE omp (lE ofp (lE (oli 0) (l_call rfl rfl rfl (cl0 (vs := [pp wb 0,Ix (au),.int .i64 (7)]) tt82.ok rfl rfl) ?_))))
 intro w hw
 replace hw := hw.perm (L' := _ :: _ :: _ :: []) (by exact (((perm_front 0 rfl).trans (perm_front 2 rfl)).trans (perm_front 2 rfl)))
 obtain ⟨β1,sb,kn,hw1,back⟩ := St.frame (L := [_,_]) (M := _ :: []) hw
 refine (tput_ok β1 w wb _ _ xs n hw1 hxl au 7 (by omega) (by omega) hfa).mono ?_
 rintro e w' ⟨p2,c3,rfl,hw'⟩
 refine ⟨_,rfl,_,back _ _ hw',?_⟩
 clear hw hw1 hw' back kn sb
 refine lnc (lE omp (lE ofp (lE (oli 2) (l_call rfl rfl rfl (cl0 (vs := [pp wb 0,Ix (nu),.int .i64 (41)]) tt82.ok rfl rfl) ?_))))
 intro w hw
 replace hw := hw.perm (L' := _ :: _ :: _ :: []) (by exact (((perm_front 2 rfl).trans (perm_front 2 rfl)).trans (perm_front 2 rfl)))
 obtain ⟨β1,sb,kn,hw1,back⟩ := St.frame (L := [_,_]) (M := _ :: []) hw
 refine (tput_ok β1 w wb _ _ (putB (U au) 7 xs n) (n + 7) hw1 (putB_len hxl) nu 41 (by omega) (by omega) hfn).mono ?_
 rintro e w' ⟨p4,c5,rfl,hw'⟩
 refine ⟨_,rfl,_,back _ _ hw',?_⟩
 clear hw hw1 hw' back kn sb
 refine lnc (lE omp (lE ofp (lE (ols 2) (lE oln (l_call rfl rfl rfl (cl0 (vs := [pp wb 0,Nx (al.length),.int .i64 (9)]) tt82.ok rfl rfl) ?_)))))
 intro w hw
 replace hw := hw.perm (L' := _ :: _ :: _ :: []) (by exact (((perm_front 2 rfl).trans (perm_front 2 rfl)).trans (perm_front 2 rfl)))
 obtain ⟨β1,sb,kn,hw1,back⟩ := St.frame (L := [_,_]) (M := _ :: []) hw
 refine (tput_ok β1 w wb _ _ (putB (U nu) 41 (putB (U au) 7 xs n) (n + 7)) (n + 7 + 41) hw1 (putB_len (putB_len hxl)) ((al.length : Nat) : Int) 9 (by omega) (by omega) hfl).mono ?_
 rintro e w' ⟨p6,c7,rfl,hw'⟩
 refine ⟨_,rfl,_,back _ _ hw',?_⟩
 clear hw hw1 hw' back kn sb
 refine lnc (lE ofp (lE (ols 2) (lE oln (lE omi (lnf (c_block ?_))))))
 refine c_loop (fun (x_ : Nat × List UInt8 × Option Addr × Nat) f L => match x_ with | (k,ys,p,c) => (f 0 = pp wb 0 ∧ f 20 = sB va al (vc) ∧ f 21 = Nx (al.length) ∧ f 22 = Nx (k)) ∧ L = [pt wb (.cells #[sB p ys c,Nx (n + 7 + 41 + 9 + 225 * k)] 139),rowF BytF 5 p c ys,pt b1 (.cells #[Ix (au),Ix (nu),sB va al (vc)] 80)] ∧ (k ≤ al.length ∧ ys.length = (n + 7 + 41 + 9 + 225 * k + 7) / 8 ∧ actsB (al.drop k) ys (n + 7 + 41 + 9 + 225 * k) = dealB au nu al xs n)) (fun (k,ys,p,c) => al.length - k) (0,(putB (U ((al.length : Nat) : Int)) 9 (putB (U nu) 41 (putB (U au) 7 xs n) (n + 7)) (n + 7 + 41)),p6,c7) ?_ ?_
 ·exact ⟨⟨rfl,rfl,rfl,rfl⟩,rfl,⟨by omega,putB_len (putB_len (putB_len hxl)),rfl⟩⟩
 rintro ⟨k,ys,p,c⟩ f0 L0 ⟨⟨hs0,hs20,hs21,hs22⟩,hL,⟨hk,hyl,hrun⟩⟩
 subst L0
 refine rbs 0 hs0 (rbs 20 hs20 (rbs 21 hs21 (rbs 22 hs22 (csr (lE olt (lnf (c_seq (c_if _ rfl (fun hc8 => ?_) (fun hc8 => ?_)))))))))
 ·refine csk (c_seq (c_block (csr ?_)))
  obtain ⟨x9,hx10⟩ := getx al k (by omega)
  obtain ⟨ha11,cs12,hc13,rfl⟩ := ve _ _ hx10
  refine lE (oia tt16 ha11) ?_
  refine lv (v := .agg #[Bx (x9.kind),Ix (x9.owner),Ix (x9.other),Ix (x9.hold),Ix (x9.a.a0),Ix (x9.a.a1),Ix (x9.a.a2),Ix (x9.a.a3)]) (e_load tt17.ok rfl (kB hc13) rfl) ?_
  refine alE fun b15 => lu (mS 0 (#[Bx (x9.kind),Ix (x9.owner),Ix (x9.other),Ix (x9.hold),Ix (x9.a.a0),Ix (x9.a.a1),Ix (x9.a.a2),Ix (x9.a.a3)])) ?_
  refine lnf (c_seq ?_)
  obtain ⟨hv1,hv2,hv3,hva⟩ := formed_fits (hfo _ (List.mem_of_getElem? hx10))
  have hklt := (List.getElem?_eq_some_iff.1 hx10).1
  refine c_region (lE omp (lE ofp (lE (oli 0) ?_)))
  refine lv (v := Nx (x9.kind.toNat)) (e_conv (a := ((x9.kind).toNat : Int)) rfl ⟨_,tt75⟩ tt80 (i64n rfl (by have := (x9.kind).toNat_lt; omega))) ?_
  refine l_call rfl rfl rfl (cl0 (vs := [pp wb 0,Nx (x9.kind.toNat),.int .i64 (3)]) tt82.ok rfl rfl) ?_
  intro w hw
  replace hw := hw.perm (L' := _ :: _ :: _ :: _ :: []) (by exact ((((perm_front 3 rfl).trans (perm_front 1 rfl)).trans (perm_front 3 rfl)).trans (perm_front 3 rfl)))
  obtain ⟨β1,sb,kn,hw1,back⟩ := St.frame (L := [_,_]) (M := _ :: _ :: []) hw
  refine (tput_ok β1 w wb _ _ ys (n + 7 + 41 + 9 + 225 * k) hw1 hyl ((x9.kind.toNat : Nat) : Int) 3 (by omega) (by omega) hv1).mono ?_
  rintro e w' ⟨p16,c17,rfl,hw'⟩
  refine ⟨_,rfl,_,back _ _ hw',?_⟩
  clear hw hw1 hw' back kn sb
  refine lnc (lE omp (lE ofp (lE (oli 2) (l_call rfl rfl rfl (cl0 (vs := [pp wb 0,Ix (x9.owner),.int .i64 (17)]) tt82.ok rfl rfl) ?_))))
  intro w hw
  replace hw := hw.perm (L' := _ :: _ :: _ :: _ :: []) (by exact ((((perm_front 3 rfl).trans (perm_front 3 rfl)).trans (perm_front 3 rfl)).trans (perm_front 3 rfl)))
  obtain ⟨β1,sb,kn,hw1,back⟩ := St.frame (L := [_,_]) (M := _ :: _ :: []) hw
  refine (tput_ok β1 w wb _ _ (putB (U ((x9.kind.toNat : Nat) : Int)) 3 ys (n + 7 + 41 + 9 + 225 * k)) (n + 7 + 41 + 9 + 225 * k + 3) hw1 (putB_len hyl) x9.owner 17 (by omega) (by omega) hv2).mono ?_
  rintro e w' ⟨p18,c19,rfl,hw'⟩
  refine ⟨_,rfl,_,back _ _ hw',?_⟩
  clear hw hw1 hw' back kn sb
  refine lnc (lE omp (lE ofp (lE (oli 2) (l_call rfl rfl rfl (cl0 (vs := [pp wb 0,Ix (x9.other),.int .i64 (17)]) tt82.ok rfl rfl) ?_))))
  intro w hw
  replace hw := hw.perm (L' := _ :: _ :: _ :: _ :: []) (by exact ((((perm_front 3 rfl).trans (perm_front 3 rfl)).trans (perm_front 3 rfl)).trans (perm_front 3 rfl)))
  obtain ⟨β1,sb,kn,hw1,back⟩ := St.frame (L := [_,_]) (M := _ :: _ :: []) hw
  refine (tput_ok β1 w wb _ _ (putB (U x9.owner) 17 (putB (U ((x9.kind.toNat : Nat) : Int)) 3 ys (n + 7 + 41 + 9 + 225 * k)) (n + 7 + 41 + 9 + 225 * k + 3)) (n + 7 + 41 + 9 + 225 * k + 3 + 17) hw1 (putB_len (putB_len hyl)) x9.other 17 (by omega) (by omega) hv3).mono ?_
  rintro e w' ⟨p20,c21,rfl,hw'⟩
  refine ⟨_,rfl,_,back _ _ hw',?_⟩
  clear hw hw1 hw' back kn sb
  refine lnc (lE omp (lE ofp (lE (oli 2) (l_call rfl rfl rfl (cl0 (vs := [pp wb 0,Ix (x9.hold),.int .i64 (64)]) tt82.ok rfl rfl) ?_))))
  intro w hw
  replace hw := hw.perm (L' := _ :: _ :: _ :: _ :: []) (by exact ((((perm_front 3 rfl).trans (perm_front 3 rfl)).trans (perm_front 3 rfl)).trans (perm_front 3 rfl)))
  obtain ⟨β1,sb,kn,hw1,back⟩ := St.frame (L := [_,_]) (M := _ :: _ :: []) hw
  refine (tput_ok β1 w wb _ _ (putB (U x9.other) 17 (putB (U x9.owner) 17 (putB (U ((x9.kind.toNat : Nat) : Int)) 3 ys (n + 7 + 41 + 9 + 225 * k)) (n + 7 + 41 + 9 + 225 * k + 3)) (n + 7 + 41 + 9 + 225 * k + 3 + 17)) (n + 7 + 41 + 9 + 225 * k + 3 + 17 + 17) hw1 (putB_len (putB_len (putB_len hyl))) x9.hold 64 (by omega) (by omega) (.inl rfl)).mono ?_
  rintro e w' ⟨p22,c23,rfl,hw'⟩
  refine ⟨_,rfl,_,back _ _ hw',?_⟩
  clear hw hw1 hw' back kn sb
  refine lnr (lE omp (lE ofp (lE (olg 2) (l_call rfl rfl rfl (cl0 (vs := [pp wb 0,.agg (amC x9.a),.int .i64 (31)]) tt83.ok rfl rfl) ?_))))
  intro w hw
  replace hw := hw.perm (L' := _ :: _ :: _ :: _ :: []) (by exact ((((perm_front 3 rfl).trans (perm_front 3 rfl)).trans (perm_front 3 rfl)).trans (perm_front 3 rfl)))
  obtain ⟨β1,sb,kn,hw1,back⟩ := St.frame (L := [_,_]) (M := _ :: _ :: []) hw
  refine (tam_ok β1 w wb _ _ (putB (U x9.hold) 64 (putB (U x9.other) 17 (putB (U x9.owner) 17 (putB (U ((x9.kind.toNat : Nat) : Int)) 3 ys (n + 7 + 41 + 9 + 225 * k)) (n + 7 + 41 + 9 + 225 * k + 3)) (n + 7 + 41 + 9 + 225 * k + 3 + 17)) (n + 7 + 41 + 9 + 225 * k + 3 + 17 + 17)) (n + 7 + 41 + 9 + 225 * k + 3 + 17 + 17 + 64) hw1 (putB_len (putB_len (putB_len (putB_len hyl)))) x9.a 31 (by omega) (by omega) hva).mono ?_
  rintro e w' ⟨p24,c25,rfl,hw'⟩
  refine ⟨_,rfl,_,back _ _ hw',?_⟩
  clear hw hw1 hw' back kn sb
  refine l_nil (f_block (f_then (c_region (lv (v := Nx (k + 1)) (e_add rfl rfl (i64n (by omega) (by omega))) (lE omi (l_nil ?_))))))
  refine f_mask (L' := [pt wb (.cells #[sB p24 (amB x9.a 31 (putB (U x9.hold) 64 (putB (U x9.other) 17 (putB (U x9.owner) 17 (putB (U ((x9.kind.toNat : Nat) : Int)) 3 ys (n + 7 + 41 + 9 + 225 * k)) (n + 7 + 41 + 9 + 225 * k + 3)) (n + 7 + 41 + 9 + 225 * k + 3 + 17)) (n + 7 + 41 + 9 + 225 * k + 3 + 17 + 17)) (n + 7 + 41 + 9 + 225 * k + 3 + 17 + 17 + 64)) c25,Nx (n + 7 + 41 + 9 + 225 * k + 3 + 17 + 17 + 64 + 31 + 31 + 31 + 31)] 139),rowF BytF 5 p24 c25 (amB x9.a 31 (putB (U x9.hold) 64 (putB (U x9.other) 17 (putB (U x9.owner) 17 (putB (U ((x9.kind.toNat : Nat) : Int)) 3 ys (n + 7 + 41 + 9 + 225 * k)) (n + 7 + 41 + 9 + 225 * k + 3)) (n + 7 + 41 + 9 + 225 * k + 3 + 17)) (n + 7 + 41 + 9 + 225 * k + 3 + 17 + 17)) (n + 7 + 41 + 9 + 225 * k + 3 + 17 + 17 + 64)),pt b1 (.cells #[Ix (au),Ix (nu),sB va al (vc)] 80)]) [true,true,false,true] rfl ?_
  exact f_cut ⟨(k + 1,(amB x9.a 31 (putB (U x9.hold) 64 (putB (U x9.other) 17 (putB (U x9.owner) 17 (putB (U ((x9.kind.toNat : Nat) : Int)) 3 ys (n + 7 + 41 + 9 + 225 * k)) (n + 7 + 41 + 9 + 225 * k + 3)) (n + 7 + 41 + 9 + 225 * k + 3 + 17)) (n + 7 + 41 + 9 + 225 * k + 3 + 17 + 17)) (n + 7 + 41 + 9 + 225 * k + 3 + 17 + 17 + 64)),p24,c25),⟨⟨rfl,rfl,rfl,rfl⟩,by rw [show n + 7 + 41 + 9 + 225 * (k + 1) = n + 7 + 41 + 9 + 225 * k + 3 + 17 + 17 + 64 + 31 + 31 + 31 + 31 by omega],⟨by omega,by rw [show n + 7 + 41 + 9 + 225 * (k + 1) = n + 7 + 41 + 9 + 225 * k + 225 by omega]; exact actB_len hyl,by rw [show n + 7 + 41 + 9 + 225 * (k + 1) = n + 7 + 41 + 9 + 225 * k + 225 by omega,← hrun,acts_next hx10]; rfl⟩⟩,(show al.length - (k + 1) < al.length - k from by omega)⟩
 refine c_exit (f_then_exit (f_then_exit (f_exit (end0 Tryz.results58 ?_))))
 intro w hw
 have hke : k = al.length := by omega
 have hy : ys = dealB au nu al xs n := by rw [← hrun,hke,List.drop_length]; rfl
 rw [hke,hy,show n + 7 + 41 + 9 + 225 * al.length = n + (57 + 225 * al.length) by omega] at hw
 exact ⟨_,_,rfl,st_mask (L' := [pt wb (.cells #[sB p (dealB au nu al xs n) c,Nx (n + (57 + 225 * al.length))] 139),rowF BytF 5 p c (dealB au nu al xs n)]) [true,true,false] rfl hw⟩
theorem wbytes_ok (β : Base) (w : World) (wb : Nat) (p : Option Addr) (c : Nat) (xs : List UInt8) (n : Nat) (hw : St β [pt wb (.cells #[sB p xs c, Nx n] 139), rowF BytF 5 p c xs] w) (hxl : xs.length ≤ 1048576) : Calls Tryz.prog 59 #[pp wb 0] w fun r w' => ∃ p c, r = .returned (sB p xs c) ∧ St β [rB p xs c] w' := by
 refine enter (n := 10) Tryz.func59 rfl Tryz.ntmps59 rfl ?_ hw
 refine csr (lE oas (lnf (cs2 (c_region (lE omp (lv (v := .bool false) (e_eql_pnil (p := some (⟨wb,0,none⟩)) rfl rfl tt76) (lnf (c_no rfl (csk (csr ?_))))))))))
 refine lE omp (lE onp (lE ofp (lE (ols 0) ?_)))
 refine lcf (cl0 (vs := [sB p xs c]) tt84.ok rfl rfl) rfl fun w β1 sb kn hw1 back => (clone_ok β1 w hw1 xs _ (by omega) (kn _ (k_flN 1 (F := BytF) (m := xs.length) rfl rfl))).mono ?_
 rintro e w' ⟨p1,c2,rfl,hw'⟩
 refine ⟨_,rfl,_,back _ _ hw',?_⟩
 clear hw1 hw' back kn sb
 refine lE oas (lnf (c_ret (ret1 Tryz.results59 rfl ?_)))
 intro w hw
 exact ⟨_,_,rfl,st_mask (L' := [rB p1 xs c2]) [true,false,false] rfl hw⟩
theorem trecord_ok (β : Base) (w : World) (hw : St β [] w) (au nu : Int) (v : Value) (al : List KAct) (hs : Sl ActF.R β.heap v al) (hfo : ∀ x ∈ al, x.formed = true) (hl : al.length ≤ 16) (hau : 0 ≤ au ∧ au < 128) (hnu : 0 ≤ nu ∧ nu < 2199023255552) : Calls Tryz.prog 37 #[.agg #[Ix au, Ix nu, v]] w fun r w' => ∃ p c, r = .returned (sB p (dealB au nu al [] 0) c) ∧ St β [rB p (dealB au nu al [] 0) c] w' := by
 obtain ⟨va,vc,rfl,vl,vm,ve⟩ := hs.get
 refine enter (n := 8) Tryz.func37 rfl Tryz.ntmps37 rfl ?_ hw
 refine csr (bxa fun b1 => ?_)
 refine lE oas (lnc (alE fun b2 => lnf (c_seq (c_emp (r := rowF BytF 5 none 0 []) (row_nil _ _ _) (c_region (lE (olg 2) ?_))))))
 refine l_call rfl rfl rfl (cl0 (vs := [pp b2 0,.agg #[Ix (au),Ix (nu),sB va al (vc)]]) tt86.ok rfl rfl) ?_
 intro w hw
 replace hw := hw.perm (L' := _ :: _ :: _ :: []) (by exact (((perm_front 2 rfl).trans (perm_front 1 rfl)).trans (perm_front 2 rfl)))
 obtain ⟨β1,sb,kn,hw1,back⟩ := St.frame (L := [_,_]) (M := _ :: []) hw
 refine (deal_ok β1 w b2 none 0 [] 0 hw1 rfl au nu _ al (Sl.mono _ _ _ _ _ sb (⟨⟨_,_,rfl,vl,vm,ve⟩⟩ : Sl ActF.R _ _ al)) hfo hl hau hnu (by omega)).mono ?_
 rintro e w' ⟨p3,c4,rfl,hw'⟩
 refine ⟨_,rfl,_,back _ _ hw',?_⟩
 clear hw hw1 hw' back kn sb
 refine lnc (lE ofp (l_call rfl rfl rfl (cl0 (vs := [pp b2 0]) tt87.ok rfl rfl) ?_))
 intro w hw
 replace hw := hw.perm (L' := _ :: _ :: _ :: []) (by exact (((perm_front 2 rfl).trans (perm_front 2 rfl)).trans (perm_front 2 rfl)))
 obtain ⟨β1,sb,kn,hw1,back⟩ := St.frame (L := [_,_]) (M := _ :: []) hw
 refine (wbytes_ok β1 w b2 _ _ (dealB au nu al [] 0) _ hw1 (by rw [dealB_len (n := 0) rfl]; omega)).mono ?_
 rintro e w' ⟨p5,c6,rfl,hw'⟩
 refine ⟨_,rfl,_,back _ _ hw',?_⟩
 clear hw hw1 hw' back kn sb
 refine lE oas (lnf (c_ret (ret1 Tryz.results37 rfl ?_)))
 intro w hw
 exact ⟨_,_,rfl,st_mask (L' := [rB p5 ((dealB au nu al [] 0)) c6]) [true,false] rfl hw⟩
end Go.Proofs
