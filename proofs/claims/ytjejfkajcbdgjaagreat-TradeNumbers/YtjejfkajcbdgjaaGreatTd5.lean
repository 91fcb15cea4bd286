/-
 The writer of bits: walked. Printed by a program of my own.
-/
import Derived.Test.YtjejfkajcbdgjaaGreatTd4
import Derived.Test.YtjejfkajcbdgjaaGreatTdBit
import Derived.Test.YtjejfkajcbdgjaaGreatJn1
namespace Go.Td
open Go.Sl
abbrev BytF : Fl UInt8 := ⟨1, fun x => [Bx x], fun _ => rfl, fun _ => rfl, by decide⟩
end Go.Td
namespace Go.Proofs
open Go Go.Sl Go.Td Go.Jn
theorem formed_fits {x : KAct} (h : x.formed = true) : (3 = 64 ∨ (0 ≤ ((x.kind.toNat : Nat) : Int) ∧ ((x.kind.toNat : Nat) : Int) < 2 ^ 3 ∧ 3 < 64)) ∧ (17 = 64 ∨ (0 ≤ x.owner ∧ x.owner < 2 ^ 17 ∧ 17 < 64)) ∧ (17 = 64 ∨ (0 ≤ x.other ∧ x.other < 2 ^ 17 ∧ 17 < 64)) ∧ (∀ z ∈ [x.a.a0, x.a.a1, x.a.a2, x.a.a3], 0 ≤ z ∧ z < 2 ^ 31) := by
 have hk := formed_kind h
 have hw := within_bd (formed_within h)
 have hw0 := formed_within h
 have ho : ∀ n : Int, ownB n = true → 1 ≤ n ∧ n ≤ 65536 := fun n hn => by unfold ownB at hn; simpa using hn
 have hp : (0 ≤ x.owner ∧ x.owner < 131072) ∧ (0 ≤ x.other ∧ x.other < 131072) := by
  unfold KAct.formed at h
  split at h
  ·simp only [Bool.and_eq_true, decide_eq_true_eq] at h; have := ho _ h.1.1.1; omega
  ·split at h
   ·simp only [Bool.and_eq_true, decide_eq_true_eq] at h; have := ho _ h.1.1.1.1; have := ho _ h.1.1.1.2; omega
   ·split at h
    ·simp only [Bool.and_eq_true, decide_eq_true_eq] at h; omega
    ·split at h
     ·simp only [Bool.and_eq_true, decide_eq_true_eq] at h; have := ho _ h.1.1.2; omega
     ·cases h
 refine ⟨.inr ⟨by omega, by omega, by decide⟩, .inr ⟨by omega, by omega, by decide⟩, .inr ⟨by omega, by omega, by decide⟩, fun z hz => ?_⟩
 unfold KAm.within inA at hw0
 simp only [Bool.and_eq_true, decide_eq_true_eq] at hw0
 simp only [List.mem_cons, List.not_mem_nil, or_false] at hz
 rcases hz with rfl | rfl | rfl | rfl <;> omega
theorem shr_fits {v : UInt64} {k : Nat} (hv : k = 64 ∨ v.toNat < 2 ^ k) (hk : k < 64) : ¬ ((0 : Int) < ((v >>> UInt64.ofNat k).toNat : Int)) := by
 have h : v.toNat < 2 ^ k := by exact hv.resolve_left (by omega)
 have e : (UInt64.ofNat k).toNat % 64 = k := by simp; omega
 rw [UInt64.toNat_shiftRight, e, Nat.shiftRight_eq_div_pow, Nat.div_eq_of_lt h]
 simp
theorem tt68 : fldB Tryz.prog 137 1 1 1 false = true := by kernel_rfl
theorem tt69 : fldB Tryz.prog 137 0 0 1 false = true := by kernel_rfl
theorem tt70 : tyB Tryz.prog 27 false 1 = true := by kernel_rfl
theorem tt71 : slB Tryz.prog 27 5 1 = true := by kernel_rfl
theorem tt72 : (Tryz.prog.info? 5).bind (·.zero) = some (.int .u8 (0)) := by kernel_rfl
theorem tt73 : elB Tryz.prog 5 1 1 = true := by kernel_rfl
theorem tt74 : Tryz.prog.underlying 172 = some (.int .u64) := by kernel_rfl
theorem tt75 : Tryz.prog.underlying 5 = some (.int .u8) := by kernel_rfl
theorem tt76 : Tryz.prog.underlying 182 = some (.pointer (Tryz.prog.pointee 182)) := by kernel_rfl
theorem tt77 : cfB Tryz.prog 139 = true := by kernel_rfl
theorem tt78 : cfB Tryz.prog 140 = true := by kernel_rfl
theorem tt79 : fldB Tryz.prog 139 0 0 2 true = true := by kernel_rfl
theorem tt80 : Tryz.prog.underlying 3 = some (.int .i64) := by kernel_rfl
theorem tt81 : cfB Tryz.prog 120 = true := by kernel_rfl
theorem tt82 : cfB Tryz.prog 95 = true := by kernel_rfl
theorem tt83 : cfB Tryz.prog 94 = true := by kernel_rfl
theorem tt84 : cfB Tryz.prog 66 = true := by kernel_rfl
theorem tt85 : (Tryz.prog.info? 139).bind (·.zero) = some (.agg #[.slice none 0 0, .int .i64 (0)]) := by kernel_rfl
theorem tt86 : cfB Tryz.prog 58 = true := by kernel_rfl
theorem tt87 : cfB Tryz.prog 59 = true := by kernel_rfl
set_option maxHeartbeats 4000000 in
theorem wput_ok (β : Base) (w : World) (wb : Nat) (p : Option Addr) (c : Nat) (xs : List UInt8) (n : Nat) (hw : St β [pt wb (.cells #[.slice p xs.length c, Nx n] 139), rowF BytF 5 p c xs] w) (hxl : xs.length = (n + 7) / 8) (v : UInt64) (k : Nat) (hk : k ≤ 64) (hn : n ≤ 1048576) : Calls Tryz.prog 140 #[.pointer (some ⟨wb, 0, none⟩), .int .u64 (v.toNat : Int), Nx k] w fun r w' => ∃ p c, r = .returned (.tuple #[]) ∧ St β [pt wb (.cells #[.slice p (putB v k xs n).length c, Nx (n + k)] 139), rowF BytF 5 p c (putB v k xs n)] w' := by
 refine enter (n := 62) Tryz.func140 rfl Tryz.ntmps140 rfl ?_ hw
 refine c_seq ?_
 refine c_region ?_
 refine l_val (v := Nx (k)) rfl rfl rfl (e_move) ?_
 refine l_val (v := .int .i64 (0)) rfl rfl rfl (e_move) ?_
 refine l_nil ?_
 refine f_then ?_
 refine c_block ?_
 refine c_loop (fun (x_ : Nat × List UInt8 × Option Addr × Nat) (f : Fm) (L : List Res) => match x_ with | (i, ys, p, c) => (f 0 = .pointer (some ⟨wb, 0, none⟩) ∧ f 1 = Ux (v) ∧ f 2 = Nx (k) ∧ f 7 = Nx (k) ∧ f 8 = Nx (i)) ∧ L = [pt wb (.cells #[.slice p (ys.length) c, Nx (n + i)] 139), rowF BytF 5 p c ys] ∧ (i ≤ k ∧ ys.length = (n + i + 7) / 8 ∧ putB v (k - i) ys (n + i) = putB v k xs n)) (fun (x_ : Nat × List UInt8 × Option Addr × Nat) => match x_ with | (i, ys, p, c) => k - i) (0, xs, p, c) ?_ ?_
 ·exact ⟨⟨rfl, rfl, rfl, rfl, rfl⟩, rfl, ⟨by omega, hxl, rfl⟩⟩
 rintro ⟨i, ys, p, c⟩ f0 L0 ⟨⟨hs0, hs1, hs2, hs7, hs8⟩, hL, ⟨hi, hyl, hput⟩⟩
 subst L0
 refine rebase (d := 0) hs0 ?_
 refine rebase (d := 1) hs1 ?_
 refine rebase (d := 2) hs2 ?_
 refine rebase (d := 7) hs7 ?_
 refine rebase (d := 8) hs8 ?_
 clear hs0 hs1 hs2 hs7 hs8
 refine c_seq ?_
 refine c_region ?_
 refine l_val (v := .bool (decide (((i : Nat) : Int) < ((k : Nat) : Int)))) rfl rfl rfl (e_lss (a := ((i : Nat) : Int)) (b := ((k : Nat) : Int)) rfl rfl) ?_
 refine l_nil ?_
 refine f_then ?_
 refine c_seq ?_
 refine c_if (((i : Nat) : Int) < ((k : Nat) : Int)) rfl (fun hc1 => ?_) (fun hc1 => ?_)
 ·
  refine c_skip ?_
  refine f_then ?_
  refine c_seq ?_
  refine c_block ?_
  refine c_seq ?_
  refine c_region ?_
  refine l_val (v := Nx (i)) rfl rfl rfl (e_move) ?_
  refine l_val (v := Nx (i)) rfl rfl rfl (e_assign) ?_
  refine l_nil ?_
  refine f_then ?_
  refine c_seq ?_
  refine c_seq ?_
  refine c_region ?_
  refine l_val (v := .pointer (some ⟨wb, 0, none⟩)) rfl rfl rfl (e_move) ?_
  refine l_val (v := .pointer (some ⟨wb, 0, none⟩)) rfl rfl rfl (e_nil (a := ⟨wb, 0, none⟩) rfl) ?_
  refine l_val (v := .pointer (some ⟨wb, 1, none⟩)) rfl rfl rfl (e_fieldPt (b := wb) (o := 0) rfl tt68) ?_
  refine l_val (v := Nx (n + i)) rfl rfl rfl (e_load1 tt2 (v := Nx (n + i)) rfl (k_pt 0 (cs := #[.slice p (ys.length) c, Nx (n + i)]) (vs := [Nx (n + i)]) rfl rfl)) ?_
  refine l_val (v := Nx ((n + i) % 8)) rfl rfl rfl (e_rem (a := ((n + i : Nat) : Int)) (b := (8 : Int)) rfl rfl (by decide) (nat_tmod _ 8)) ?_
  refine l_val (v := .bool (decide ((((n + i) % 8 : Nat) : Int) = (0 : Int)))) rfl rfl rfl (e_eql (a := (((n + i) % 8 : Nat) : Int)) (b := (0 : Int)) rfl rfl) ?_
  refine l_nil ?_
  refine f_then ?_
  refine c_if ((((n + i) % 8 : Nat) : Int) = (0 : Int)) rfl (fun hc2 => ?_) (fun hc2 => ?_)
  ·
   refine c_region ?_
   refine l_val (v := .pointer (some ⟨wb, 0, none⟩)) rfl rfl rfl (e_move) ?_
   refine l_val (v := .pointer (some ⟨wb, 0, none⟩)) rfl rfl rfl (e_move) ?_
   refine l_val (v := .pointer (some ⟨wb, 0, none⟩)) rfl rfl rfl (e_nil (a := ⟨wb, 0, none⟩) rfl) ?_
   refine l_val (v := .pointer (some ⟨wb, 0, none⟩)) rfl rfl rfl (e_fieldPt (b := wb) (o := 0) rfl tt69) ?_
   refine l_val (v := .slice p (ys.length) c) rfl rfl rfl (e_load1 tt70 (v := .slice p (ys.length) c) rfl (k_pt 0 (cs := #[.slice p (ys.length) c, Nx (n + i)]) (vs := [.slice p (ys.length) c]) rfl rfl)) ?_
   refine l_mv rfl rfl rfl (m_slices tt71 tt72 (vs := [(0, .int .u8 (0))]) (cells := #[.int .u8 (0)]) rfl rfl rfl rfl) ?_
   rintro _ _ ⟨b3, rfl, rfl⟩
   refine l_mv rfl rfl rfl (m_appendFlN (F := BytF) 2 tt71 tt73 (p := p) (m := ys.length) (xs := ys) (ys := [(0 : UInt8)]) (ao := (some ⟨b3, 0, none⟩)) (k := 1) (c := 1) rfl rfl rfl rfl rfl (k_ptFl (z := (0 : UInt8)) 0 rfl rfl) (by first | omega | simp only [List.length_nil, List.length_cons, List.length_append, List.length_set]; omega) (by first | omega | simp only [List.length_nil, List.length_cons, List.length_append, List.length_set]; omega)) ?_
   rintro _ _ ⟨rp4, rc5, rfl, rfl⟩
   refine l_val (v := .pointer (some ⟨wb, 0, none⟩)) rfl rfl rfl (e_nil (a := ⟨wb, 0, none⟩) rfl) ?_
   refine l_val (v := .pointer (some ⟨wb, 0, none⟩)) rfl rfl rfl (e_fieldPt (b := wb) (o := 0) rfl tt69) ?_
   refine l_mu rfl rfl (m_store 1 tt70 (b := wb) (o := 0) (T := 139) (cs := #[.slice p (ys.length) c, Nx (n + i)]) (cs' := #[.slice rp4 ((ys ++ [(0 : UInt8)]).length) rc5, Nx (n + i)]) (v := .slice rp4 ((ys ++ [(0 : UInt8)]).length) rc5) rfl rfl rfl rfl rfl rfl rfl) ?_
   refine l_nil ?_
   refine f_then ?_
   refine c_seq ?_
   generalize hzs : ys ++ [(0 : UInt8)] = zs
   have hq : (n + i) % 8 = 0 := by have := hc2; omega
   have hzl : zs.length = (n + i) / 8 + 1 := by rw [← hzs]; simp; omega
   have hgr : growW ys (n + i) = zs := (grow_yes hq).trans hzs
   obtain ⟨x6, hx7⟩ : ∃ x_, zs[(n + i) / 8]? = some x_ := ⟨_, List.getElem?_eq_getElem (by first | omega | decide)⟩
   refine c_any [⟨[], [], [0], [26], fun f => f 26 = .pointer (some ⟨wb, 0, none⟩)⟩, ⟨[0], [0], [], [27], fun f => f 27 = .pointer (some ⟨wb, 0, none⟩)⟩, ⟨[0, 1], [1], [], [28], fun f => f 28 = .pointer (some ⟨wb, 0, none⟩)⟩, ⟨[0, 1, 2], [2], [], [29], fun f => f 29 = .slice rp4 (zs.length) rc5⟩, ⟨[], [], [0], [30], fun f => f 30 = .pointer (some ⟨wb, 0, none⟩)⟩, ⟨[4], [4], [], [31], fun f => f 31 = .pointer (some ⟨wb, 0, none⟩)⟩, ⟨[4, 5], [5], [], [32], fun f => f 32 = .pointer (some ⟨wb, 1, none⟩)⟩, ⟨[4, 5, 6], [6], [], [33], fun f => f 33 = Nx (n + i)⟩, ⟨[4, 5, 6, 7], [7], [], [34], fun f => f 34 = Nx ((n + i) / 8)⟩, ⟨[0, 1, 2, 3, 4, 5, 6, 7, 8], [3, 8], [], [35], fun f => f 35 = .pointer (some ((ba rp4).add (((n + i) / 8) * 1)))⟩, ⟨[0, 1, 2, 3, 4, 5, 6, 7, 8, 9], [9], [], [36], fun f => f 36 = Bx (x6)⟩, ⟨[], [], [1], [37], fun f => f 37 = Ux (v)⟩, ⟨[], [], [2], [38], fun f => f 38 = Nx (k)⟩, ⟨[12], [12], [], [39], fun f => f 39 = Nx (k - 1)⟩, ⟨[], [], [3], [40], fun f => f 40 = Nx (i)⟩, ⟨[12, 13, 14], [13, 14], [], [41], fun f => f 41 = Nx ((k - 1) - i)⟩, ⟨[11, 12, 13, 14, 15], [11, 15], [], [42], fun f => f 42 = Ux (v >>> UInt64.ofNat ((k - 1) - i))⟩, ⟨[11, 12, 13, 14, 15, 16], [16], [], [43], fun f => f 43 = Ux ((v >>> UInt64.ofNat ((k - 1) - i)) &&& (1 : UInt64))⟩, ⟨[11, 12, 13, 14, 15, 16, 17], [17], [], [44], fun f => f 44 = Bx (((v >>> UInt64.ofNat ((k - 1) - i)) &&& (1 : UInt64)).toUInt8)⟩, ⟨[], [], [0], [45], fun f => f 45 = .pointer (some ⟨wb, 0, none⟩)⟩, ⟨[19], [19], [], [46], fun f => f 46 = .pointer (some ⟨wb, 0, none⟩)⟩, ⟨[19, 20], [20], [], [47], fun f => f 47 = .pointer (some ⟨wb, 1, none⟩)⟩, ⟨[19, 20, 21], [21], [], [48], fun f => f 48 = Nx (n + i)⟩, ⟨[19, 20, 21, 22], [22], [], [49], fun f => f 49 = Nx ((n + i) % 8)⟩, ⟨[19, 20, 21, 22, 23], [23], [], [50], fun f => f 50 = Nx (7 - ((n + i) % 8))⟩, ⟨[11, 12, 13, 14, 15, 16, 17, 18, 19, 20, 21, 22, 23, 24], [18, 24], [], [51], fun f => f 51 = Bx ((((v >>> UInt64.ofNat ((k - 1) - i)) &&& (1 : UInt64)).toUInt8) <<< UInt8.ofNat (7 - ((n + i) % 8)))⟩, ⟨[0, 1, 2, 3, 4, 5, 6, 7, 8, 9, 10, 11, 12, 13, 14, 15, 16, 17, 18, 19, 20, 21, 22, 23, 24, 25], [10, 25], [], [52], fun f => f 52 = Bx (x6 ||| ((((v >>> UInt64.ofNat ((k - 1) - i)) &&& (1 : UInt64)).toUInt8) <<< UInt8.ofNat (7 - ((n + i) % 8))))⟩, ⟨[0, 1, 2, 3, 4, 5, 6, 7, 8, 9, 10, 11, 12, 13, 14, 15, 16, 17, 18, 19, 20, 21, 22, 23, 24, 25, 26], [3, 8], [], [53], fun f => f 53 = .pointer (some ((ba rp4).add (((n + i) / 8) * 1)))⟩, ⟨[0, 1, 2, 3, 4, 5, 6, 7, 8, 9, 10, 11, 12, 13, 14, 15, 16, 17, 18, 19, 20, 21, 22, 23, 24, 25, 26, 27], [27, 26], [], [], fun _ => True⟩] [⟨none, none, [], [], fun _ => pt b3 (.cells #[.int .u8 (0)] 5)⟩, ⟨none, none, [3, 7, 22], [], fun _ => pt wb (.cells #[.slice rp4 (zs.length) rc5, Nx (n + i)] 139)⟩, ⟨none, (some 28), [9, 10, 27, 28], [], fun _ => rowF BytF 5 rp4 rc5 zs⟩, ⟨(some 28), none, [], [], fun _ => rowF BytF 5 rp4 rc5 (zs.set ((n + i) / 8) (x6 ||| ((((v >>> UInt64.ofNat ((k - 1) - i)) &&& (1 : UInt64)).toUInt8) <<< UInt8.ofNat (7 - ((n + i) % 8)))))⟩] [(0, .pointer (some ⟨wb, 0, none⟩)), (1, Ux (v)), (2, Nx (k)), (6, Nx (i)), (7, Nx (k)), (8, Nx (i))] [0, 1, 2, 4, 5] [] (by kernel_rfl) (by kernel_rfl) (by kernel_rfl) (by kernel_rfl) rfl ⟨rfl, rfl, rfl, rfl, rfl, rfl, trivial⟩ ⟨?_, ?_, ?_, ?_, ?_, ?_, ?_, ?_, ?_, ?_, ?_, ?_, ?_, ?_, ?_, ?_, ?_, ?_, ?_, ?_, ?_, ?_, ?_, ?_, ?_, ?_, ?_, ?_, ?_, trivial⟩ ?_
   ·rintro f M - ⟨i0, -⟩
    have hs0 : f 0 = .pointer (some ⟨wb, 0, none⟩) := i0
    refine ob_start (L' := M) (by rfl) (up_cons rfl hs0) ?_
    refine l_val (v := .pointer (some ⟨wb, 0, none⟩)) rfl rfl rfl (e_move) ?_
    refine l_nil ?_
    exact f_owes_d (up_cons rfl hs0) rfl (List.Perm.refl _)
   ·rintro f M ⟨k0, -⟩ -
    have hs26 : f 26 = .pointer (some ⟨wb, 0, none⟩) := k0
    refine ob_start (L' := M) (by rfl) (up_cons rfl hs26) ?_
    refine l_val (v := .pointer (some ⟨wb, 0, none⟩)) rfl rfl rfl (e_nil (a := ⟨wb, 0, none⟩) rfl) ?_
    refine l_nil ?_
    exact f_owes_d (up_cons rfl hs26) rfl (List.Perm.refl _)
   ·rintro f M ⟨k0, -⟩ -
    have hs27 : f 27 = .pointer (some ⟨wb, 0, none⟩) := k0
    refine ob_start (L' := M) (by rfl) (up_cons rfl hs27) ?_
    refine l_val (v := .pointer (some ⟨wb, 0, none⟩)) rfl rfl rfl (e_fieldPt (b := wb) (o := 0) rfl tt69) ?_
    refine l_nil ?_
    exact f_owes_d (up_cons rfl hs27) rfl (List.Perm.refl _)
   ·rintro f M ⟨k0, -⟩ -
    have hs28 : f 28 = .pointer (some ⟨wb, 0, none⟩) := k0
    refine ob_start (L' := pt wb (.cells #[.slice rp4 (zs.length) rc5, Nx (n + i)] 139) :: M) (by rfl) (up_cons rfl hs28) ?_
    refine l_val (v := .slice rp4 (zs.length) rc5) rfl rfl rfl (e_load1 tt70 (v := .slice rp4 (zs.length) rc5) rfl (k_pt 0 (cs := #[.slice rp4 (zs.length) rc5, Nx (n + i)]) (vs := [.slice rp4 (zs.length) rc5]) rfl rfl)) ?_
    refine l_nil ?_
    exact f_owes_d (up_cons rfl hs28) rfl (perm_front 0 rfl)
   ·rintro f M - ⟨i0, -⟩
    have hs0 : f 0 = .pointer (some ⟨wb, 0, none⟩) := i0
    refine ob_start (L' := M) (by rfl) (up_cons rfl hs0) ?_
    refine l_val (v := .pointer (some ⟨wb, 0, none⟩)) rfl rfl rfl (e_move) ?_
    refine l_nil ?_
    exact f_owes_d (up_cons rfl hs0) rfl (List.Perm.refl _)
   ·rintro f M ⟨k0, -⟩ -
    have hs30 : f 30 = .pointer (some ⟨wb, 0, none⟩) := k0
    refine ob_start (L' := M) (by rfl) (up_cons rfl hs30) ?_
    refine l_val (v := .pointer (some ⟨wb, 0, none⟩)) rfl rfl rfl (e_nil (a := ⟨wb, 0, none⟩) rfl) ?_
    refine l_nil ?_
    exact f_owes_d (up_cons rfl hs30) rfl (List.Perm.refl _)
   ·rintro f M ⟨k0, -⟩ -
    have hs31 : f 31 = .pointer (some ⟨wb, 0, none⟩) := k0
    refine ob_start (L' := M) (by rfl) (up_cons rfl hs31) ?_
    refine l_val (v := .pointer (some ⟨wb, 1, none⟩)) rfl rfl rfl (e_fieldPt (b := wb) (o := 0) rfl tt68) ?_
    refine l_nil ?_
    exact f_owes_d (up_cons rfl hs31) rfl (List.Perm.refl _)
   ·rintro f M ⟨k0, -⟩ -
    have hs32 : f 32 = .pointer (some ⟨wb, 1, none⟩) := k0
    refine ob_start (L' := pt wb (.cells #[.slice rp4 (zs.length) rc5, Nx (n + i)] 139) :: M) (by rfl) (up_cons rfl hs32) ?_
    refine l_val (v := Nx (n + i)) rfl rfl rfl (e_load1 tt2 (v := Nx (n + i)) rfl (k_pt 0 (cs := #[.slice rp4 (zs.length) rc5, Nx (n + i)]) (vs := [Nx (n + i)]) rfl rfl)) ?_
    refine l_nil ?_
    exact f_owes_d (up_cons rfl hs32) rfl (perm_front 0 rfl)
   ·rintro f M ⟨k0, -⟩ -
    have hs33 : f 33 = Nx (n + i) := k0
    refine ob_start (L' := M) (by rfl) (up_cons rfl hs33) ?_
    refine l_val (v := Nx ((n + i) / 8)) rfl rfl rfl (e_quo (a := ((n + i : Nat) : Int)) (b := (8 : Int)) rfl rfl (by decide) (i64n (nat_tdiv _ 8) (by omega))) ?_
    refine l_nil ?_
    exact f_owes_d (up_cons rfl hs33) rfl (List.Perm.refl _)
   ·rintro f M ⟨k0, k1, -⟩ -
    have hs29 : f 29 = .slice rp4 (zs.length) rc5 := k0
    have hs34 : f 34 = Nx ((n + i) / 8) := k1
    refine ob_start (L' := rowF BytF 5 rp4 rc5 zs :: M) (by rfl) (up_cons (up_cons rfl hs29) hs34) ?_
    refine l_val (v := .pointer (some ((ba rp4).add (((n + i) / 8) * 1)))) rfl rfl rfl (e_indexFlN 0 (F := BytF) (j := (n + i) / 8) (m := zs.length) (xs := zs) rfl rfl rfl tt71 (by omega) rfl) ?_
    refine l_nil ?_
    exact f_owes_d (up_cons (up_cons rfl hs29) hs34) rfl (perm_front 0 rfl)
   ·rintro f M ⟨k0, -⟩ -
    have hs35 : f 35 = .pointer (some ((ba rp4).add (((n + i) / 8) * 1))) := k0
    refine ob_start (L' := rowF BytF 5 rp4 rc5 zs :: M) (by rfl) (up_cons rfl hs35) ?_
    refine l_val (v := Bx (x6)) rfl rfl rfl (e_load1 tt5 (v := Bx (x6)) rfl (k_flAt 0 (F := BytF) rfl hx7)) ?_
    refine l_nil ?_
    exact f_owes_d (up_cons rfl hs35) rfl (perm_front 0 rfl)
   ·rintro f M - ⟨i0, -⟩
    have hs1 : f 1 = Ux (v) := i0
    refine ob_start (L' := M) (by rfl) (up_cons rfl hs1) ?_
    refine l_val (v := Ux (v)) rfl rfl rfl (e_move) ?_
    refine l_nil ?_
    exact f_owes_d (up_cons rfl hs1) rfl (List.Perm.refl _)
   ·rintro f M - ⟨i0, -⟩
    have hs2 : f 2 = Nx (k) := i0
    refine ob_start (L' := M) (by rfl) (up_cons rfl hs2) ?_
    refine l_val (v := Nx (k)) rfl rfl rfl (e_move) ?_
    refine l_nil ?_
    exact f_owes_d (up_cons rfl hs2) rfl (List.Perm.refl _)
   ·rintro f M ⟨k0, -⟩ -
    have hs38 : f 38 = Nx (k) := k0
    refine ob_start (L' := M) (by rfl) (up_cons rfl hs38) ?_
    refine l_val (v := Nx (k - 1)) rfl rfl rfl (ev_eq (congrArg (Value.int .i64) (by omega)) (e_sub (a := ((k : Nat) : Int)) (b := (1 : Int)) rfl rfl (i64w (by omega)))) ?_
    refine l_nil ?_
    exact f_owes_d (up_cons rfl hs38) rfl (List.Perm.refl _)
   ·rintro f M - ⟨i0, -⟩
    have hs6 : f 6 = Nx (i) := i0
    refine ob_start (L' := M) (by rfl) (up_cons rfl hs6) ?_
    refine l_val (v := Nx (i)) rfl rfl rfl (e_move) ?_
    refine l_nil ?_
    exact f_owes_d (up_cons rfl hs6) rfl (List.Perm.refl _)
   ·rintro f M ⟨k0, k1, -⟩ -
    have hs39 : f 39 = Nx (k - 1) := k0
    have hs40 : f 40 = Nx (i) := k1
    refine ob_start (L' := M) (by rfl) (up_cons (up_cons rfl hs39) hs40) ?_
    refine l_val (v := Nx ((k - 1) - i)) rfl rfl rfl (ev_eq (congrArg (Value.int .i64) (by omega)) (e_sub (a := ((k - 1 : Nat) : Int)) (b := ((i : Nat) : Int)) rfl rfl (i64w (by omega)))) ?_
    refine l_nil ?_
    exact f_owes_d (up_cons (up_cons rfl hs39) hs40) rfl (List.Perm.refl _)
   ·rintro f M ⟨k0, k1, -⟩ -
    have hs37 : f 37 = Ux (v) := k0
    have hs41 : f 41 = Nx ((k - 1) - i) := k1
    refine ob_start (L' := M) (by rfl) (up_cons (up_cons rfl hs37) hs41) ?_
    refine l_val (v := Ux (v >>> UInt64.ofNat ((k - 1) - i))) rfl rfl rfl (e_shr (a := ((v).toNat : Int)) (b := (((k - 1) - i : Nat) : Int)) rfl rfl (by omega) (ux_shr _ ((k - 1) - i) (by omega))) ?_
    refine l_nil ?_
    exact f_owes_d (up_cons (up_cons rfl hs37) hs41) rfl (List.Perm.refl _)
   ·rintro f M ⟨k0, -⟩ -
    have hs42 : f 42 = Ux (v >>> UInt64.ofNat ((k - 1) - i)) := k0
    refine ob_start (L' := M) (by rfl) (up_cons rfl hs42) ?_
    refine l_val (v := Ux ((v >>> UInt64.ofNat ((k - 1) - i)) &&& (1 : UInt64))) rfl rfl rfl (e_and (a := ((v >>> UInt64.ofNat ((k - 1) - i)).toNat : Int)) (b := ((1 : UInt64).toNat : Int)) rfl rfl (ux_and _ _)) ?_
    refine l_nil ?_
    exact f_owes_d (up_cons rfl hs42) rfl (List.Perm.refl _)
   ·rintro f M ⟨k0, -⟩ -
    have hs43 : f 43 = Ux ((v >>> UInt64.ofNat ((k - 1) - i)) &&& (1 : UInt64)) := k0
    refine ob_start (L' := M) (by rfl) (up_cons rfl hs43) ?_
    refine l_val (v := Bx (((v >>> UInt64.ofNat ((k - 1) - i)) &&& (1 : UInt64)).toUInt8)) rfl rfl rfl (e_conv (a := (((v >>> UInt64.ofNat ((k - 1) - i)) &&& (1 : UInt64)).toNat : Int)) rfl ⟨_, tt74⟩ tt75 (bx_of64 _)) ?_
    refine l_nil ?_
    exact f_owes_d (up_cons rfl hs43) rfl (List.Perm.refl _)
   ·rintro f M - ⟨i0, -⟩
    have hs0 : f 0 = .pointer (some ⟨wb, 0, none⟩) := i0
    refine ob_start (L' := M) (by rfl) (up_cons rfl hs0) ?_
    refine l_val (v := .pointer (some ⟨wb, 0, none⟩)) rfl rfl rfl (e_move) ?_
    refine l_nil ?_
    exact f_owes_d (up_cons rfl hs0) rfl (List.Perm.refl _)
   ·rintro f M ⟨k0, -⟩ -
    have hs45 : f 45 = .pointer (some ⟨wb, 0, none⟩) := k0
    refine ob_start (L' := M) (by rfl) (up_cons rfl hs45) ?_
    refine l_val (v := .pointer (some ⟨wb, 0, none⟩)) rfl rfl rfl (e_nil (a := ⟨wb, 0, none⟩) rfl) ?_
    refine l_nil ?_
    exact f_owes_d (up_cons rfl hs45) rfl (List.Perm.refl _)
   ·rintro f M ⟨k0, -⟩ -
    have hs46 : f 46 = .pointer (some ⟨wb, 0, none⟩) := k0
    refine ob_start (L' := M) (by rfl) (up_cons rfl hs46) ?_
    refine l_val (v := .pointer (some ⟨wb, 1, none⟩)) rfl rfl rfl (e_fieldPt (b := wb) (o := 0) rfl tt68) ?_
    refine l_nil ?_
    exact f_owes_d (up_cons rfl hs46) rfl (List.Perm.refl _)
   ·rintro f M ⟨k0, -⟩ -
    have hs47 : f 47 = .pointer (some ⟨wb, 1, none⟩) := k0
    refine ob_start (L' := pt wb (.cells #[.slice rp4 (zs.length) rc5, Nx (n + i)] 139) :: M) (by rfl) (up_cons rfl hs47) ?_
    refine l_val (v := Nx (n + i)) rfl rfl rfl (e_load1 tt2 (v := Nx (n + i)) rfl (k_pt 0 (cs := #[.slice rp4 (zs.length) rc5, Nx (n + i)]) (vs := [Nx (n + i)]) rfl rfl)) ?_
    refine l_nil ?_
    exact f_owes_d (up_cons rfl hs47) rfl (perm_front 0 rfl)
   ·rintro f M ⟨k0, -⟩ -
    have hs48 : f 48 = Nx (n + i) := k0
    refine ob_start (L' := M) (by rfl) (up_cons rfl hs48) ?_
    refine l_val (v := Nx ((n + i) % 8)) rfl rfl rfl (e_rem (a := ((n + i : Nat) : Int)) (b := (8 : Int)) rfl rfl (by decide) (nat_tmod _ 8)) ?_
    refine l_nil ?_
    exact f_owes_d (up_cons rfl hs48) rfl (List.Perm.refl _)
   ·rintro f M ⟨k0, -⟩ -
    have hs49 : f 49 = Nx ((n + i) % 8) := k0
    refine ob_start (L' := M) (by rfl) (up_cons rfl hs49) ?_
    refine l_val (v := Nx (7 - ((n + i) % 8))) rfl rfl rfl (ev_eq (congrArg (Value.int .i64) (by omega)) (e_sub (a := (7 : Int)) (b := (((n + i) % 8 : Nat) : Int)) rfl rfl (i64w (by omega)))) ?_
    refine l_nil ?_
    exact f_owes_d (up_cons rfl hs49) rfl (List.Perm.refl _)
   ·rintro f M ⟨k0, k1, -⟩ -
    have hs44 : f 44 = Bx (((v >>> UInt64.ofNat ((k - 1) - i)) &&& (1 : UInt64)).toUInt8) := k0
    have hs50 : f 50 = Nx (7 - ((n + i) % 8)) := k1
    refine ob_start (L' := M) (by rfl) (up_cons (up_cons rfl hs44) hs50) ?_
    refine l_val (v := Bx ((((v >>> UInt64.ofNat ((k - 1) - i)) &&& (1 : UInt64)).toUInt8) <<< UInt8.ofNat (7 - ((n + i) % 8)))) rfl rfl rfl (e_shl (a := ((((v >>> UInt64.ofNat ((k - 1) - i)) &&& (1 : UInt64)).toUInt8).toNat : Int)) (b := ((7 - ((n + i) % 8) : Nat) : Int)) rfl rfl (by omega) (bx_shl _ (7 - ((n + i) % 8)) (by omega))) ?_
    refine l_nil ?_
    exact f_owes_d (up_cons (up_cons rfl hs44) hs50) rfl (List.Perm.refl _)
   ·rintro f M ⟨k0, k1, -⟩ -
    have hs36 : f 36 = Bx (x6) := k0
    have hs51 : f 51 = Bx ((((v >>> UInt64.ofNat ((k - 1) - i)) &&& (1 : UInt64)).toUInt8) <<< UInt8.ofNat (7 - ((n + i) % 8))) := k1
    refine ob_start (L' := M) (by rfl) (up_cons (up_cons rfl hs36) hs51) ?_
    refine l_val (v := Bx (x6 ||| ((((v >>> UInt64.ofNat ((k - 1) - i)) &&& (1 : UInt64)).toUInt8) <<< UInt8.ofNat (7 - ((n + i) % 8))))) rfl rfl rfl (e_or (a := ((x6).toNat : Int)) (b := (((((v >>> UInt64.ofNat ((k - 1) - i)) &&& (1 : UInt64)).toUInt8) <<< UInt8.ofNat (7 - ((n + i) % 8))).toNat : Int)) rfl rfl (bx_or _ _)) ?_
    refine l_nil ?_
    exact f_owes_d (up_cons (up_cons rfl hs36) hs51) rfl (List.Perm.refl _)
   ·rintro f M ⟨k0, k1, -⟩ -
    have hs29 : f 29 = .slice rp4 (zs.length) rc5 := k0
    have hs34 : f 34 = Nx ((n + i) / 8) := k1
    refine ob_start (L' := rowF BytF 5 rp4 rc5 zs :: M) (by rfl) (up_cons (up_cons rfl hs29) hs34) ?_
    refine l_val (v := .pointer (some ((ba rp4).add (((n + i) / 8) * 1)))) rfl rfl rfl (e_indexFlN 0 (F := BytF) (j := (n + i) / 8) (m := zs.length) (xs := zs) rfl rfl rfl tt71 (by omega) rfl) ?_
    refine l_nil ?_
    exact f_owes_d (up_cons (up_cons rfl hs29) hs34) rfl (perm_front 0 rfl)
   ·rintro f M ⟨k0, k1, -⟩ -
    have hs53 : f 53 = .pointer (some ((ba rp4).add (((n + i) / 8) * 1))) := k0
    have hs52 : f 52 = Bx (x6 ||| ((((v >>> UInt64.ofNat ((k - 1) - i)) &&& (1 : UInt64)).toUInt8) <<< UInt8.ofNat (7 - ((n + i) % 8)))) := k1
    refine ob_start (L' := rowF BytF 5 rp4 rc5 zs :: M) (by rfl) (up_cons (up_cons rfl hs53) hs52) ?_
    refine l_mu rfl rfl (m_storeFl 0 (F := BytF) (p := rp4) (k := (n + i) / 8) (xs := zs) (z := (x6 ||| ((((v >>> UInt64.ofNat ((k - 1) - i)) &&& (1 : UInt64)).toUInt8) <<< UInt8.ofNat (7 - ((n + i) % 8))))) tt5 rfl rfl rfl rfl (by omega)) ?_
    refine l_nil ?_
    exact f_owes_n (up_cons (up_cons rfl hs53) hs52) trivial (perm_front 0 rfl)
   rintro fa8 ⟨-, -, -, -, -, -, -, -, -, -, -, -, -, -, -, -, -, -, -, -, -, -, -, -, -, -, -, -, -, -⟩ ⟨j0, j1, j2, j3, j4, -⟩
   refine f_re (L' := [pt b3 (.cells #[.int .u8 (0)] 5), pt wb (.cells #[.slice rp4 (zs.length) rc5, Nx (n + i)] 139), rowF BytF 5 rp4 rc5 (zs.set ((n + i) / 8) (x6 ||| ((((v >>> UInt64.ofNat ((k - 1) - i)) &&& (1 : UInt64)).toUInt8) <<< UInt8.ofNat (7 - ((n + i) % 8)))))]) (by rfl) ?_
   refine f_rebase (d := 0) (v := .pointer (some ⟨wb, 0, none⟩)) j0 ?_
   refine f_rebase (d := 1) (v := Ux (v)) j1 ?_
   refine f_rebase (d := 2) (v := Nx (k)) j2 ?_
   refine f_rebase (d := 7) (v := Nx (k)) j3 ?_
   refine f_rebase (d := 8) (v := Nx (i)) j4 ?_
   refine f_then ?_
   refine c_region ?_
   refine l_val (v := .pointer (some ⟨wb, 0, none⟩)) rfl rfl rfl (e_move) ?_
   refine l_val (v := .pointer (some ⟨wb, 0, none⟩)) rfl rfl rfl (e_nil (a := ⟨wb, 0, none⟩) rfl) ?_
   refine l_val (v := .pointer (some ⟨wb, 1, none⟩)) rfl rfl rfl (e_fieldPt (b := wb) (o := 0) rfl tt68) ?_
   refine l_val (v := Nx (n + i)) rfl rfl rfl (e_load1 tt2 (v := Nx (n + i)) rfl (k_pt 1 (cs := #[.slice rp4 (zs.length) rc5, Nx (n + i)]) (vs := [Nx (n + i)]) rfl rfl)) ?_
   refine l_val (v := Nx ((n + i) + 1)) rfl rfl rfl (e_add (a := ((n + i : Nat) : Int)) (b := (1 : Int)) rfl rfl (i64n (by omega) (by omega))) ?_
   refine l_val (v := .pointer (some ⟨wb, 0, none⟩)) rfl rfl rfl (e_nil (a := ⟨wb, 0, none⟩) rfl) ?_
   refine l_val (v := .pointer (some ⟨wb, 1, none⟩)) rfl rfl rfl (e_fieldPt (b := wb) (o := 0) rfl tt68) ?_
   refine l_mu rfl rfl (m_store 1 tt2 (b := wb) (o := 1) (T := 139) (cs := #[.slice rp4 (zs.length) rc5, Nx (n + i)]) (cs' := #[.slice rp4 (zs.length) rc5, Nx ((n + i) + 1)]) (v := Nx ((n + i) + 1)) rfl rfl rfl rfl rfl rfl rfl) ?_
   refine l_nil ?_
   refine f_block ?_
   refine f_then ?_
   refine c_region ?_
   refine l_val (v := Nx (i + 1)) rfl rfl rfl (e_add (a := ((i : Nat) : Int)) (b := (1 : Int)) rfl rfl (i64n (by omega) (by omega))) ?_
   refine l_val (v := Nx (i + 1)) rfl rfl rfl (e_move) ?_
   refine l_nil ?_
   refine f_mask (L' := [pt wb (.cells #[.slice rp4 (zs.length) rc5, Nx ((n + i) + 1)] 139), rowF BytF 5 rp4 rc5 (zs.set ((n + i) / 8) (x6 ||| ((((v >>> UInt64.ofNat ((k - 1) - i)) &&& (1 : UInt64)).toUInt8) <<< UInt8.ofNat (7 - ((n + i) % 8)))))]) [false, true, true] rfl ?_
   exact f_cut ⟨(i + 1, (zs.set ((n + i) / 8) (x6 ||| ((((v >>> UInt64.ofNat ((k - 1) - i)) &&& (1 : UInt64)).toUInt8) <<< UInt8.ofNat (7 - ((n + i) % 8))))), rp4, rc5), ⟨⟨rfl, rfl, rfl, rfl, rfl⟩, by rw [List.length_set]; rfl, ⟨by omega, by rw [List.length_set]; omega, by rw [← put_step (by omega) hgr hx7]; exact hput⟩⟩, (show k - (i + 1) < k - i from by omega)⟩
  ·
   refine c_skip ?_
   refine f_then ?_
   refine c_seq ?_
   have hq : ¬ (n + i) % 8 = 0 := by have := hc2; omega
   have hgr : growW ys (n + i) = ys := grow_no hq
   obtain ⟨x9, hx10⟩ : ∃ x_, ys[(n + i) / 8]? = some x_ := ⟨_, List.getElem?_eq_getElem (by first | omega | decide)⟩
   refine c_any [⟨[], [], [0], [26], fun f => f 26 = .pointer (some ⟨wb, 0, none⟩)⟩, ⟨[0], [0], [], [27], fun f => f 27 = .pointer (some ⟨wb, 0, none⟩)⟩, ⟨[0, 1], [1], [], [28], fun f => f 28 = .pointer (some ⟨wb, 0, none⟩)⟩, ⟨[0, 1, 2], [2], [], [29], fun f => f 29 = .slice p (ys.length) c⟩, ⟨[], [], [0], [30], fun f => f 30 = .pointer (some ⟨wb, 0, none⟩)⟩, ⟨[4], [4], [], [31], fun f => f 31 = .pointer (some ⟨wb, 0, none⟩)⟩, ⟨[4, 5], [5], [], [32], fun f => f 32 = .pointer (some ⟨wb, 1, none⟩)⟩, ⟨[4, 5, 6], [6], [], [33], fun f => f 33 = Nx (n + i)⟩, ⟨[4, 5, 6, 7], [7], [], [34], fun f => f 34 = Nx ((n + i) / 8)⟩, ⟨[0, 1, 2, 3, 4, 5, 6, 7, 8], [3, 8], [], [35], fun f => f 35 = .pointer (some ((ba p).add (((n + i) / 8) * 1)))⟩, ⟨[0, 1, 2, 3, 4, 5, 6, 7, 8, 9], [9], [], [36], fun f => f 36 = Bx (x9)⟩, ⟨[], [], [1], [37], fun f => f 37 = Ux (v)⟩, ⟨[], [], [2], [38], fun f => f 38 = Nx (k)⟩, ⟨[12], [12], [], [39], fun f => f 39 = Nx (k - 1)⟩, ⟨[], [], [3], [40], fun f => f 40 = Nx (i)⟩, ⟨[12, 13, 14], [13, 14], [], [41], fun f => f 41 = Nx ((k - 1) - i)⟩, ⟨[11, 12, 13, 14, 15], [11, 15], [], [42], fun f => f 42 = Ux (v >>> UInt64.ofNat ((k - 1) - i))⟩, ⟨[11, 12, 13, 14, 15, 16], [16], [], [43], fun f => f 43 = Ux ((v >>> UInt64.ofNat ((k - 1) - i)) &&& (1 : UInt64))⟩, ⟨[11, 12, 13, 14, 15, 16, 17], [17], [], [44], fun f => f 44 = Bx (((v >>> UInt64.ofNat ((k - 1) - i)) &&& (1 : UInt64)).toUInt8)⟩, ⟨[], [], [0], [45], fun f => f 45 = .pointer (some ⟨wb, 0, none⟩)⟩, ⟨[19], [19], [], [46], fun f => f 46 = .pointer (some ⟨wb, 0, none⟩)⟩, ⟨[19, 20], [20], [], [47], fun f => f 47 = .pointer (some ⟨wb, 1, none⟩)⟩, ⟨[19, 20, 21], [21], [], [48], fun f => f 48 = Nx (n + i)⟩, ⟨[19, 20, 21, 22], [22], [], [49], fun f => f 49 = Nx ((n + i) % 8)⟩, ⟨[19, 20, 21, 22, 23], [23], [], [50], fun f => f 50 = Nx (7 - ((n + i) % 8))⟩, ⟨[11, 12, 13, 14, 15, 16, 17, 18, 19, 20, 21, 22, 23, 24], [18, 24], [], [51], fun f => f 51 = Bx ((((v >>> UInt64.ofNat ((k - 1) - i)) &&& (1 : UInt64)).toUInt8) <<< UInt8.ofNat (7 - ((n + i) % 8)))⟩, ⟨[0, 1, 2, 3, 4, 5, 6, 7, 8, 9, 10, 11, 12, 13, 14, 15, 16, 17, 18, 19, 20, 21, 22, 23, 24, 25], [10, 25], [], [52], fun f => f 52 = Bx (x9 ||| ((((v >>> UInt64.ofNat ((k - 1) - i)) &&& (1 : UInt64)).toUInt8) <<< UInt8.ofNat (7 - ((n + i) % 8))))⟩, ⟨[0, 1, 2, 3, 4, 5, 6, 7, 8, 9, 10, 11, 12, 13, 14, 15, 16, 17, 18, 19, 20, 21, 22, 23, 24, 25, 26], [3, 8], [], [53], fun f => f 53 = .pointer (some ((ba p).add (((n + i) / 8) * 1)))⟩, ⟨[0, 1, 2, 3, 4, 5, 6, 7, 8, 9, 10, 11, 12, 13, 14, 15, 16, 17, 18, 19, 20, 21, 22, 23, 24, 25, 26, 27], [27, 26], [], [], fun _ => True⟩] [⟨none, none, [3, 7, 22], [], fun _ => pt wb (.cells #[.slice p (ys.length) c, Nx (n + i)] 139)⟩, ⟨none, (some 28), [9, 10, 27, 28], [], fun _ => rowF BytF 5 p c ys⟩, ⟨(some 28), none, [], [], fun _ => rowF BytF 5 p c (ys.set ((n + i) / 8) (x9 ||| ((((v >>> UInt64.ofNat ((k - 1) - i)) &&& (1 : UInt64)).toUInt8) <<< UInt8.ofNat (7 - ((n + i) % 8)))))⟩] [(0, .pointer (some ⟨wb, 0, none⟩)), (1, Ux (v)), (2, Nx (k)), (6, Nx (i)), (7, Nx (k)), (8, Nx (i))] [0, 1, 2, 4, 5] [] (by kernel_rfl) (by kernel_rfl) (by kernel_rfl) (by kernel_rfl) rfl ⟨rfl, rfl, rfl, rfl, rfl, rfl, trivial⟩ ⟨?_, ?_, ?_, ?_, ?_, ?_, ?_, ?_, ?_, ?_, ?_, ?_, ?_, ?_, ?_, ?_, ?_, ?_, ?_, ?_, ?_, ?_, ?_, ?_, ?_, ?_, ?_, ?_, ?_, trivial⟩ ?_
   ·rintro f M - ⟨i0, -⟩
    have hs0 : f 0 = .pointer (some ⟨wb, 0, none⟩) := i0
    refine ob_start (L' := M) (by rfl) (up_cons rfl hs0) ?_
    refine l_val (v := .pointer (some ⟨wb, 0, none⟩)) rfl rfl rfl (e_move) ?_
    refine l_nil ?_
    exact f_owes_d (up_cons rfl hs0) rfl (List.Perm.refl _)
   ·rintro f M ⟨k0, -⟩ -
    have hs26 : f 26 = .pointer (some ⟨wb, 0, none⟩) := k0
    refine ob_start (L' := M) (by rfl) (up_cons rfl hs26) ?_
    refine l_val (v := .pointer (some ⟨wb, 0, none⟩)) rfl rfl rfl (e_nil (a := ⟨wb, 0, none⟩) rfl) ?_
    refine l_nil ?_
    exact f_owes_d (up_cons rfl hs26) rfl (List.Perm.refl _)
   ·rintro f M ⟨k0, -⟩ -
    have hs27 : f 27 = .pointer (some ⟨wb, 0, none⟩) := k0
    refine ob_start (L' := M) (by rfl) (up_cons rfl hs27) ?_
    refine l_val (v := .pointer (some ⟨wb, 0, none⟩)) rfl rfl rfl (e_fieldPt (b := wb) (o := 0) rfl tt69) ?_
    refine l_nil ?_
    exact f_owes_d (up_cons rfl hs27) rfl (List.Perm.refl _)
   ·rintro f M ⟨k0, -⟩ -
    have hs28 : f 28 = .pointer (some ⟨wb, 0, none⟩) := k0
    refine ob_start (L' := pt wb (.cells #[.slice p (ys.length) c, Nx (n + i)] 139) :: M) (by rfl) (up_cons rfl hs28) ?_
    refine l_val (v := .slice p (ys.length) c) rfl rfl rfl (e_load1 tt70 (v := .slice p (ys.length) c) rfl (k_pt 0 (cs := #[.slice p (ys.length) c, Nx (n + i)]) (vs := [.slice p (ys.length) c]) rfl rfl)) ?_
    refine l_nil ?_
    exact f_owes_d (up_cons rfl hs28) rfl (perm_front 0 rfl)
   ·rintro f M - ⟨i0, -⟩
    have hs0 : f 0 = .pointer (some ⟨wb, 0, none⟩) := i0
    refine ob_start (L' := M) (by rfl) (up_cons rfl hs0) ?_
    refine l_val (v := .pointer (some ⟨wb, 0, none⟩)) rfl rfl rfl (e_move) ?_
    refine l_nil ?_
    exact f_owes_d (up_cons rfl hs0) rfl (List.Perm.refl _)
   ·rintro f M ⟨k0, -⟩ -
    have hs30 : f 30 = .pointer (some ⟨wb, 0, none⟩) := k0
    refine ob_start (L' := M) (by rfl) (up_cons rfl hs30) ?_
    refine l_val (v := .pointer (some ⟨wb, 0, none⟩)) rfl rfl rfl (e_nil (a := ⟨wb, 0, none⟩) rfl) ?_
    refine l_nil ?_
    exact f_owes_d (up_cons rfl hs30) rfl (List.Perm.refl _)
   ·rintro f M ⟨k0, -⟩ -
    have hs31 : f 31 = .pointer (some ⟨wb, 0, none⟩) := k0
    refine ob_start (L' := M) (by rfl) (up_cons rfl hs31) ?_
    refine l_val (v := .pointer (some ⟨wb, 1, none⟩)) rfl rfl rfl (e_fieldPt (b := wb) (o := 0) rfl tt68) ?_
    refine l_nil ?_
    exact f_owes_d (up_cons rfl hs31) rfl (List.Perm.refl _)
   ·rintro f M ⟨k0, -⟩ -
    have hs32 : f 32 = .pointer (some ⟨wb, 1, none⟩) := k0
    refine ob_start (L' := pt wb (.cells #[.slice p (ys.length) c, Nx (n + i)] 139) :: M) (by rfl) (up_cons rfl hs32) ?_
    refine l_val (v := Nx (n + i)) rfl rfl rfl (e_load1 tt2 (v := Nx (n + i)) rfl (k_pt 0 (cs := #[.slice p (ys.length) c, Nx (n + i)]) (vs := [Nx (n + i)]) rfl rfl)) ?_
    refine l_nil ?_
    exact f_owes_d (up_cons rfl hs32) rfl (perm_front 0 rfl)
   ·rintro f M ⟨k0, -⟩ -
    have hs33 : f 33 = Nx (n + i) := k0
    refine ob_start (L' := M) (by rfl) (up_cons rfl hs33) ?_
    refine l_val (v := Nx ((n + i) / 8)) rfl rfl rfl (e_quo (a := ((n + i : Nat) : Int)) (b := (8 : Int)) rfl rfl (by decide) (i64n (nat_tdiv _ 8) (by omega))) ?_
    refine l_nil ?_
    exact f_owes_d (up_cons rfl hs33) rfl (List.Perm.refl _)
   ·rintro f M ⟨k0, k1, -⟩ -
    have hs29 : f 29 = .slice p (ys.length) c := k0
    have hs34 : f 34 = Nx ((n + i) / 8) := k1
    refine ob_start (L' := rowF BytF 5 p c ys :: M) (by rfl) (up_cons (up_cons rfl hs29) hs34) ?_
    refine l_val (v := .pointer (some ((ba p).add (((n + i) / 8) * 1)))) rfl rfl rfl (e_indexFlN 0 (F := BytF) (j := (n + i) / 8) (m := ys.length) (xs := ys) rfl rfl rfl tt71 (by omega) rfl) ?_
    refine l_nil ?_
    exact f_owes_d (up_cons (up_cons rfl hs29) hs34) rfl (perm_front 0 rfl)
   ·rintro f M ⟨k0, -⟩ -
    have hs35 : f 35 = .pointer (some ((ba p).add (((n + i) / 8) * 1))) := k0
    refine ob_start (L' := rowF BytF 5 p c ys :: M) (by rfl) (up_cons rfl hs35) ?_
    refine l_val (v := Bx (x9)) rfl rfl rfl (e_load1 tt5 (v := Bx (x9)) rfl (k_flAt 0 (F := BytF) rfl hx10)) ?_
    refine l_nil ?_
    exact f_owes_d (up_cons rfl hs35) rfl (perm_front 0 rfl)
   ·rintro f M - ⟨i0, -⟩
    have hs1 : f 1 = Ux (v) := i0
    refine ob_start (L' := M) (by rfl) (up_cons rfl hs1) ?_
    refine l_val (v := Ux (v)) rfl rfl rfl (e_move) ?_
    refine l_nil ?_
    exact f_owes_d (up_cons rfl hs1) rfl (List.Perm.refl _)
   ·rintro f M - ⟨i0, -⟩
    have hs2 : f 2 = Nx (k) := i0
    refine ob_start (L' := M) (by rfl) (up_cons rfl hs2) ?_
    refine l_val (v := Nx (k)) rfl rfl rfl (e_move) ?_
    refine l_nil ?_
    exact f_owes_d (up_cons rfl hs2) rfl (List.Perm.refl _)
   ·rintro f M ⟨k0, -⟩ -
    have hs38 : f 38 = Nx (k) := k0
    refine ob_start (L' := M) (by rfl) (up_cons rfl hs38) ?_
    refine l_val (v := Nx (k - 1)) rfl rfl rfl (ev_eq (congrArg (Value.int .i64) (by omega)) (e_sub (a := ((k : Nat) : Int)) (b := (1 : Int)) rfl rfl (i64w (by omega)))) ?_
    refine l_nil ?_
    exact f_owes_d (up_cons rfl hs38) rfl (List.Perm.refl _)
   ·rintro f M - ⟨i0, -⟩
    have hs6 : f 6 = Nx (i) := i0
    refine ob_start (L' := M) (by rfl) (up_cons rfl hs6) ?_
    refine l_val (v := Nx (i)) rfl rfl rfl (e_move) ?_
    refine l_nil ?_
    exact f_owes_d (up_cons rfl hs6) rfl (List.Perm.refl _)
   ·rintro f M ⟨k0, k1, -⟩ -
    have hs39 : f 39 = Nx (k - 1) := k0
    have hs40 : f 40 = Nx (i) := k1
    refine ob_start (L' := M) (by rfl) (up_cons (up_cons rfl hs39) hs40) ?_
    refine l_val (v := Nx ((k - 1) - i)) rfl rfl rfl (ev_eq (congrArg (Value.int .i64) (by omega)) (e_sub (a := ((k - 1 : Nat) : Int)) (b := ((i : Nat) : Int)) rfl rfl (i64w (by omega)))) ?_
    refine l_nil ?_
    exact f_owes_d (up_cons (up_cons rfl hs39) hs40) rfl (List.Perm.refl _)
   ·rintro f M ⟨k0, k1, -⟩ -
    have hs37 : f 37 = Ux (v) := k0
    have hs41 : f 41 = Nx ((k - 1) - i) := k1
    refine ob_start (L' := M) (by rfl) (up_cons (up_cons rfl hs37) hs41) ?_
    refine l_val (v := Ux (v >>> UInt64.ofNat ((k - 1) - i))) rfl rfl rfl (e_shr (a := ((v).toNat : Int)) (b := (((k - 1) - i : Nat) : Int)) rfl rfl (by omega) (ux_shr _ ((k - 1) - i) (by omega))) ?_
    refine l_nil ?_
    exact f_owes_d (up_cons (up_cons rfl hs37) hs41) rfl (List.Perm.refl _)
   ·rintro f M ⟨k0, -⟩ -
    have hs42 : f 42 = Ux (v >>> UInt64.ofNat ((k - 1) - i)) := k0
    refine ob_start (L' := M) (by rfl) (up_cons rfl hs42) ?_
    refine l_val (v := Ux ((v >>> UInt64.ofNat ((k - 1) - i)) &&& (1 : UInt64))) rfl rfl rfl (e_and (a := ((v >>> UInt64.ofNat ((k - 1) - i)).toNat : Int)) (b := ((1 : UInt64).toNat : Int)) rfl rfl (ux_and _ _)) ?_
    refine l_nil ?_
    exact f_owes_d (up_cons rfl hs42) rfl (List.Perm.refl _)
   ·rintro f M ⟨k0, -⟩ -
    have hs43 : f 43 = Ux ((v >>> UInt64.ofNat ((k - 1) - i)) &&& (1 : UInt64)) := k0
    refine ob_start (L' := M) (by rfl) (up_cons rfl hs43) ?_
    refine l_val (v := Bx (((v >>> UInt64.ofNat ((k - 1) - i)) &&& (1 : UInt64)).toUInt8)) rfl rfl rfl (e_conv (a := (((v >>> UInt64.ofNat ((k - 1) - i)) &&& (1 : UInt64)).toNat : Int)) rfl ⟨_, tt74⟩ tt75 (bx_of64 _)) ?_
    refine l_nil ?_
    exact f_owes_d (up_cons rfl hs43) rfl (List.Perm.refl _)
   ·rintro f M - ⟨i0, -⟩
    have hs0 : f 0 = .pointer (some ⟨wb, 0, none⟩) := i0
    refine ob_start (L' := M) (by rfl) (up_cons rfl hs0) ?_
    refine l_val (v := .pointer (some ⟨wb, 0, none⟩)) rfl rfl rfl (e_move) ?_
    refine l_nil ?_
    exact f_owes_d (up_cons rfl hs0) rfl (List.Perm.refl _)
   ·rintro f M ⟨k0, -⟩ -
    have hs45 : f 45 = .pointer (some ⟨wb, 0, none⟩) := k0
    refine ob_start (L' := M) (by rfl) (up_cons rfl hs45) ?_
    refine l_val (v := .pointer (some ⟨wb, 0, none⟩)) rfl rfl rfl (e_nil (a := ⟨wb, 0, none⟩) rfl) ?_
    refine l_nil ?_
    exact f_owes_d (up_cons rfl hs45) rfl (List.Perm.refl _)
   ·rintro f M ⟨k0, -⟩ -
    have hs46 : f 46 = .pointer (some ⟨wb, 0, none⟩) := k0
    refine ob_start (L' := M) (by rfl) (up_cons rfl hs46) ?_
    refine l_val (v := .pointer (some ⟨wb, 1, none⟩)) rfl rfl rfl (e_fieldPt (b := wb) (o := 0) rfl tt68) ?_
    refine l_nil ?_
    exact f_owes_d (up_cons rfl hs46) rfl (List.Perm.refl _)
   ·rintro f M ⟨k0, -⟩ -
    have hs47 : f 47 = .pointer (some ⟨wb, 1, none⟩) := k0
    refine ob_start (L' := pt wb (.cells #[.slice p (ys.length) c, Nx (n + i)] 139) :: M) (by rfl) (up_cons rfl hs47) ?_
    refine l_val (v := Nx (n + i)) rfl rfl rfl (e_load1 tt2 (v := Nx (n + i)) rfl (k_pt 0 (cs := #[.slice p (ys.length) c, Nx (n + i)]) (vs := [Nx (n + i)]) rfl rfl)) ?_
    refine l_nil ?_
    exact f_owes_d (up_cons rfl hs47) rfl (perm_front 0 rfl)
   ·rintro f M ⟨k0, -⟩ -
    have hs48 : f 48 = Nx (n + i) := k0
    refine ob_start (L' := M) (by rfl) (up_cons rfl hs48) ?_
    refine l_val (v := Nx ((n + i) % 8)) rfl rfl rfl (e_rem (a := ((n + i : Nat) : Int)) (b := (8 : Int)) rfl rfl (by decide) (nat_tmod _ 8)) ?_
    refine l_nil ?_
    exact f_owes_d (up_cons rfl hs48) rfl (List.Perm.refl _)
   ·rintro f M ⟨k0, -⟩ -
    have hs49 : f 49 = Nx ((n + i) % 8) := k0
    refine ob_start (L' := M) (by rfl) (up_cons rfl hs49) ?_
    refine l_val (v := Nx (7 - ((n + i) % 8))) rfl rfl rfl (ev_eq (congrArg (Value.int .i64) (by omega)) (e_sub (a := (7 : Int)) (b := (((n + i) % 8 : Nat) : Int)) rfl rfl (i64w (by omega)))) ?_
    refine l_nil ?_
    exact f_owes_d (up_cons rfl hs49) rfl (List.Perm.refl _)
   ·rintro f M ⟨k0, k1, -⟩ -
    have hs44 : f 44 = Bx (((v >>> UInt64.ofNat ((k - 1) - i)) &&& (1 : UInt64)).toUInt8) := k0
    have hs50 : f 50 = Nx (7 - ((n + i) % 8)) := k1
    refine ob_start (L' := M) (by rfl) (up_cons (up_cons rfl hs44) hs50) ?_
    refine l_val (v := Bx ((((v >>> UInt64.ofNat ((k - 1) - i)) &&& (1 : UInt64)).toUInt8) <<< UInt8.ofNat (7 - ((n + i) % 8)))) rfl rfl rfl (e_shl (a := ((((v >>> UInt64.ofNat ((k - 1) - i)) &&& (1 : UInt64)).toUInt8).toNat : Int)) (b := ((7 - ((n + i) % 8) : Nat) : Int)) rfl rfl (by omega) (bx_shl _ (7 - ((n + i) % 8)) (by omega))) ?_
    refine l_nil ?_
    exact f_owes_d (up_cons (up_cons rfl hs44) hs50) rfl (List.Perm.refl _)
   ·rintro f M ⟨k0, k1, -⟩ -
    have hs36 : f 36 = Bx (x9) := k0
    have hs51 : f 51 = Bx ((((v >>> UInt64.ofNat ((k - 1) - i)) &&& (1 : UInt64)).toUInt8) <<< UInt8.ofNat (7 - ((n + i) % 8))) := k1
    refine ob_start (L' := M) (by rfl) (up_cons (up_cons rfl hs36) hs51) ?_
    refine l_val (v := Bx (x9 ||| ((((v >>> UInt64.ofNat ((k - 1) - i)) &&& (1 : UInt64)).toUInt8) <<< UInt8.ofNat (7 - ((n + i) % 8))))) rfl rfl rfl (e_or (a := ((x9).toNat : Int)) (b := (((((v >>> UInt64.ofNat ((k - 1) - i)) &&& (1 : UInt64)).toUInt8) <<< UInt8.ofNat (7 - ((n + i) % 8))).toNat : Int)) rfl rfl (bx_or _ _)) ?_
    refine l_nil ?_
    exact f_owes_d (up_cons (up_cons rfl hs36) hs51) rfl (List.Perm.refl _)
   ·rintro f M ⟨k0, k1, -⟩ -
    have hs29 : f 29 = .slice p (ys.length) c := k0
    have hs34 : f 34 = Nx ((n + i) / 8) := k1
    refine ob_start (L' := rowF BytF 5 p c ys :: M) (by rfl) (up_cons (up_cons rfl hs29) hs34) ?_
    refine l_val (v := .pointer (some ((ba p).add (((n + i) / 8) * 1)))) rfl rfl rfl (e_indexFlN 0 (F := BytF) (j := (n + i) / 8) (m := ys.length) (xs := ys) rfl rfl rfl tt71 (by omega) rfl) ?_
    refine l_nil ?_
    exact f_owes_d (up_cons (up_cons rfl hs29) hs34) rfl (perm_front 0 rfl)
   ·rintro f M ⟨k0, k1, -⟩ -
    have hs53 : f 53 = .pointer (some ((ba p).add (((n + i) / 8) * 1))) := k0
    have hs52 : f 52 = Bx (x9 ||| ((((v >>> UInt64.ofNat ((k - 1) - i)) &&& (1 : UInt64)).toUInt8) <<< UInt8.ofNat (7 - ((n + i) % 8)))) := k1
    refine ob_start (L' := rowF BytF 5 p c ys :: M) (by rfl) (up_cons (up_cons rfl hs53) hs52) ?_
    refine l_mu rfl rfl (m_storeFl 0 (F := BytF) (p := p) (k := (n + i) / 8) (xs := ys) (z := (x9 ||| ((((v >>> UInt64.ofNat ((k - 1) - i)) &&& (1 : UInt64)).toUInt8) <<< UInt8.ofNat (7 - ((n + i) % 8))))) tt5 rfl rfl rfl rfl (by omega)) ?_
    refine l_nil ?_
    exact f_owes_n (up_cons (up_cons rfl hs53) hs52) trivial (perm_front 0 rfl)
   rintro fa11 ⟨-, -, -, -, -, -, -, -, -, -, -, -, -, -, -, -, -, -, -, -, -, -, -, -, -, -, -, -, -, -⟩ ⟨j0, j1, j2, j3, j4, -⟩
   refine f_re (L' := [pt wb (.cells #[.slice p (ys.length) c, Nx (n + i)] 139), rowF BytF 5 p c (ys.set ((n + i) / 8) (x9 ||| ((((v >>> UInt64.ofNat ((k - 1) - i)) &&& (1 : UInt64)).toUInt8) <<< UInt8.ofNat (7 - ((n + i) % 8)))))]) (by rfl) ?_
   refine f_rebase (d := 0) (v := .pointer (some ⟨wb, 0, none⟩)) j0 ?_
   refine f_rebase (d := 1) (v := Ux (v)) j1 ?_
   refine f_rebase (d := 2) (v := Nx (k)) j2 ?_
   refine f_rebase (d := 7) (v := Nx (k)) j3 ?_
   refine f_rebase (d := 8) (v := Nx (i)) j4 ?_
   refine f_then ?_
   refine c_region ?_
   refine l_val (v := .pointer (some ⟨wb, 0, none⟩)) rfl rfl rfl (e_move) ?_
   refine l_val (v := .pointer (some ⟨wb, 0, none⟩)) rfl rfl rfl (e_nil (a := ⟨wb, 0, none⟩) rfl) ?_
   refine l_val (v := .pointer (some ⟨wb, 1, none⟩)) rfl rfl rfl (e_fieldPt (b := wb) (o := 0) rfl tt68) ?_
   refine l_val (v := Nx (n + i)) rfl rfl rfl (e_load1 tt2 (v := Nx (n + i)) rfl (k_pt 0 (cs := #[.slice p (ys.length) c, Nx (n + i)]) (vs := [Nx (n + i)]) rfl rfl)) ?_
   refine l_val (v := Nx ((n + i) + 1)) rfl rfl rfl (e_add (a := ((n + i : Nat) : Int)) (b := (1 : Int)) rfl rfl (i64n (by omega) (by omega))) ?_
   refine l_val (v := .pointer (some ⟨wb, 0, none⟩)) rfl rfl rfl (e_nil (a := ⟨wb, 0, none⟩) rfl) ?_
   refine l_val (v := .pointer (some ⟨wb, 1, none⟩)) rfl rfl rfl (e_fieldPt (b := wb) (o := 0) rfl tt68) ?_
   refine l_mu rfl rfl (m_store 0 tt2 (b := wb) (o := 1) (T := 139) (cs := #[.slice p (ys.length) c, Nx (n + i)]) (cs' := #[.slice p (ys.length) c, Nx ((n + i) + 1)]) (v := Nx ((n + i) + 1)) rfl rfl rfl rfl rfl rfl rfl) ?_
   refine l_nil ?_
   refine f_block ?_
   refine f_then ?_
   refine c_region ?_
   refine l_val (v := Nx (i + 1)) rfl rfl rfl (e_add (a := ((i : Nat) : Int)) (b := (1 : Int)) rfl rfl (i64n (by omega) (by omega))) ?_
   refine l_val (v := Nx (i + 1)) rfl rfl rfl (e_move) ?_
   refine l_nil ?_
   exact f_cut ⟨(i + 1, (ys.set ((n + i) / 8) (x9 ||| ((((v >>> UInt64.ofNat ((k - 1) - i)) &&& (1 : UInt64)).toUInt8) <<< UInt8.ofNat (7 - ((n + i) % 8))))), p, c), ⟨⟨rfl, rfl, rfl, rfl, rfl⟩, by rw [List.length_set]; rfl, ⟨by omega, by rw [List.length_set]; omega, by rw [← put_step (by omega) hgr hx10]; exact hput⟩⟩, (show k - (i + 1) < k - i from by omega)⟩
 ·
  refine c_exit ?_
  refine f_then_exit ?_
  refine f_then_exit ?_
  refine f_exit ?_
  refine end0 Tryz.results140 ?_
  intro w hw
  have hik : i = k := by omega
  rw [hik, Nat.sub_self] at hput
  have hy : ys = putB v k xs n := hput
  rw [hik, hy] at hw
  exact ⟨_, _, rfl, hw⟩
theorem room_ok (β : Base) (w : World) (hw : St β [] w) (wb : Nat) (p : Option Addr) (m c n : Nat) (hc : Cs β.heap ⟨wb, 0, none⟩ [.slice p m c, Nx n]) (k : Nat) (hn : n + k ≤ 1048576) : Calls Tryz.prog 139 #[.pointer (some ⟨wb, 0, none⟩), Nx k] w fun r w' => r = .returned (Ix 0) ∧ St β [] w' := by
 refine enter (n := 12) Tryz.func139 rfl Tryz.ntmps139 rfl ?_ hw
 refine c_seq ?_
 refine c_region ?_
 refine l_val (v := .int .i64 (0)) rfl rfl rfl (e_assign) ?_
 refine l_nil ?_
 refine f_then ?_
 refine c_seq ?_
 refine c_seq ?_
 refine c_region ?_
 refine l_val (v := .pointer (some (⟨wb, 0, none⟩))) rfl rfl rfl (e_move) ?_
 refine l_val (v := .pointer (some (⟨wb, 0, none⟩))) rfl rfl rfl (e_nil (a := ⟨wb, 0, none⟩) rfl) ?_
 refine l_val (v := .pointer (some ((⟨wb, 0, none⟩ : Addr).add 1))) rfl rfl rfl (e_fieldAddr (a := ⟨wb, 0, none⟩) rfl tt68) ?_
 refine l_val (v := Nx (n)) rfl rfl rfl (e_load1 tt2 (v := Nx (n)) rfl (Knows.imp (Knows.of_base (Cs.mono _ _) hc) (fun _ h => Cs.sub (vs := [Nx (n)]) 1 h rfl))) ?_
 refine l_val (v := Nx (k)) rfl rfl rfl (e_move) ?_
 refine l_val (v := Nx (n + k)) rfl rfl rfl (e_add (a := ((n : Nat) : Int)) (b := ((k : Nat) : Int)) rfl rfl (i64n (by omega) (by omega))) ?_
 refine l_val (v := .bool (decide ((1048576 : Int) < ((n + k : Nat) : Int)))) rfl rfl rfl (e_gtr (a := ((n + k : Nat) : Int)) (b := (1048576 : Int)) rfl rfl) ?_
 refine l_nil ?_
 refine f_then ?_
 refine c_if ((1048576 : Int) < ((n + k : Nat) : Int)) rfl (fun hc1 => ?_) (fun hc1 => ?_)
 ·
  exact absurd hc1 (by omega)
 ·
  refine c_skip ?_
  refine f_then ?_
  refine c_seq ?_
  refine c_region ?_
  refine l_val (v := .int .i64 (0)) rfl rfl rfl (e_assign) ?_
  refine l_nil ?_
  refine f_then ?_
  refine c_ret ?_
  refine ret1 Tryz.results139 (v := .int .i64 (0)) rfl ?_
  intro w hw
  exact ⟨rfl, st_mask [] rfl hw⟩
set_option maxHeartbeats 4000000 in
theorem put_ok (β : Base) (w : World) (wb : Nat) (p : Option Addr) (c : Nat) (xs : List UInt8) (n : Nat) (hw : St β [pt wb (.cells #[.slice p xs.length c, Nx n] 139), rowF BytF 5 p c xs] w) (hxl : xs.length = (n + 7) / 8) (v : UInt64) (k : Nat) (hk : k ≤ 64) (hn : n + k ≤ 1048576) (hv : k = 64 ∨ v.toNat < 2 ^ k) : Calls Tryz.prog 120 #[.pointer (some ⟨wb, 0, none⟩), .int .u64 (v.toNat : Int), Nx k] w fun r w' => ∃ p c, r = .returned (Ix 0) ∧ St β [pt wb (.cells #[.slice p (putB v k xs n).length c, Nx (n + k)] 139), rowF BytF 5 p c (putB v k xs n)] w' := by
 refine enter (n := 38) Tryz.func120 rfl Tryz.ntmps120 rfl ?_ hw
 refine c_seq ?_
 refine c_region ?_
 refine l_val (v := .int .i64 (0)) rfl rfl rfl (e_assign) ?_
 refine l_nil ?_
 refine f_then ?_
 refine c_seq ?_
 refine c_block ?_
 refine c_seq ?_
 refine c_region ?_
 refine l_val (v := .pointer (some ⟨wb, 0, none⟩)) rfl rfl rfl (e_move) ?_
 refine l_val (v := .bool false) rfl rfl rfl (e_eql_pnil (p := some (⟨wb, 0, none⟩)) rfl rfl tt76) ?_
 refine l_val (v := .bool false) rfl rfl rfl (e_assign) ?_
 refine l_nil ?_
 refine f_then ?_
 refine c_no rfl ?_
 refine c_seq ?_
 refine c_region ?_
 refine l_val (v := Nx (k)) rfl rfl rfl (e_move) ?_
 refine l_val (v := .bool (decide (((k : Nat) : Int) < (0 : Int)))) rfl rfl rfl (e_lss (a := ((k : Nat) : Int)) (b := (0 : Int)) rfl rfl) ?_
 refine l_val (v := .bool (decide (((k : Nat) : Int) < (0 : Int)))) rfl rfl rfl (e_move) ?_
 refine l_split (s := 14) (p := ((k : Nat) : Int) < (0 : Int)) rfl (fun h => ?_) (fun h => ?_)
 exact absurd h (by omega)
 refine g_val (v := Nx (k)) rfl rfl rfl rfl rfl (e_move) ?_
 refine g_val (v := .bool (decide ((64 : Int) < ((k : Nat) : Int)))) rfl rfl rfl rfl rfl (e_gtr (a := ((k : Nat) : Int)) (b := (64 : Int)) rfl rfl) ?_
 refine l_val (v := .bool (decide ((64 : Int) < ((k : Nat) : Int)))) rfl rfl rfl (e_pick_f rfl) ?_
 refine l_val (v := .bool (decide ((64 : Int) < ((k : Nat) : Int)))) rfl rfl rfl (e_move) ?_
 refine l_split (s := 18) (p := (64 : Int) < ((k : Nat) : Int)) rfl (fun h => ?_) (fun h => ?_)
 exact absurd h (by omega)
 refine g_val (v := Nx (k)) rfl rfl rfl rfl rfl (e_move) ?_
 refine g_val (v := .bool (decide (((k : Nat) : Int) < (64 : Int)))) rfl rfl rfl rfl rfl (e_lss (a := ((k : Nat) : Int)) (b := (64 : Int)) rfl rfl) ?_
 refine g_val (v := .bool (decide (((k : Nat) : Int) < (64 : Int)))) rfl rfl rfl rfl rfl (e_move) ?_
 refine l_split (s := 21) (p := ((k : Nat) : Int) < (64 : Int)) rfl (fun hg1 => ?_) (fun hg1 => ?_)
 ·
  refine g_val (v := Ux (v)) rfl rfl rfl rfl rfl (e_move) ?_
  refine g_val (v := Nx (k)) rfl rfl rfl rfl rfl (e_move) ?_
  refine g_val (v := Ux (v >>> UInt64.ofNat k)) rfl rfl rfl rfl rfl (e_shr (a := ((v).toNat : Int)) (b := ((k : Nat) : Int)) rfl rfl (by omega) (ux_shr _ k (by omega))) ?_
  refine g_val (v := .bool (decide ((0 : Int) < ((v >>> UInt64.ofNat k).toNat : Int)))) rfl rfl rfl rfl rfl (e_gtr (a := ((v >>> UInt64.ofNat k).toNat : Int)) (b := (0 : Int)) rfl rfl) ?_
  refine g_val (v := .bool (decide ((0 : Int) < ((v >>> UInt64.ofNat k).toNat : Int)))) rfl rfl rfl rfl rfl (e_pick_t rfl) ?_
  refine l_val (v := .bool (decide ((0 : Int) < ((v >>> UInt64.ofNat k).toNat : Int)))) rfl rfl rfl (e_pick_f rfl) ?_
  refine l_val (v := .bool (decide ((0 : Int) < ((v >>> UInt64.ofNat k).toNat : Int)))) rfl rfl rfl (e_assign) ?_
  refine l_nil ?_
  refine f_then ?_
  refine c_if ((0 : Int) < ((v >>> UInt64.ofNat k).toNat : Int)) rfl (fun hc2 => ?_) (fun hc2 => ?_)
  ·
   exact absurd hc2 (shr_fits hv (by omega))
  ·
   refine c_skip ?_
   refine f_block ?_
   refine f_then ?_
   refine c_seq ?_
   refine c_region ?_
   refine l_val (v := .pointer (some ⟨wb, 0, none⟩)) rfl rfl rfl (e_move) ?_
   refine l_val (v := Nx (k)) rfl rfl rfl (e_move) ?_
   refine l_call rfl rfl rfl (cl_value (fst := []) (cap := []) (vs := [.pointer (some ⟨wb, 0, none⟩), Nx (k)]) (all := [.pointer (some ⟨wb, 0, none⟩), Nx (k)]) tt77 rfl rfl rfl) ?_
   intro w hw
   obtain ⟨β1, sb, kn, hw1, back⟩ := St.frame_all hw
   refine (room_ok β1 w hw1 wb _ _ _ n (kn _ (k_pt 0 (vs := [.slice p (xs.length) c, Nx (n)]) rfl rfl)) k (by omega)).mono ?_
   rintro e w' ⟨rfl, hw'⟩
   refine ⟨_, rfl, _, back _ _ hw', ?_⟩
   clear hw hw1 hw' back kn sb
   refine l_val (v := .int .i64 (0)) rfl rfl rfl (e_assign) ?_
   refine l_nil ?_
   refine f_then ?_
   refine c_seq ?_
   refine c_seq ?_
   refine c_region ?_
   refine l_val (v := .int .i64 (0)) rfl rfl rfl (e_move) ?_
   refine l_val (v := .bool true) rfl rfl rfl (e_eql (a := (0 : Int)) (b := (0 : Int)) rfl rfl) ?_
   refine l_nil ?_
   refine f_then ?_
   refine c_yes rfl ?_
   refine c_region ?_
   refine l_val (v := .pointer (some ⟨wb, 0, none⟩)) rfl rfl rfl (e_move) ?_
   refine l_val (v := Ux (v)) rfl rfl rfl (e_move) ?_
   refine l_val (v := Nx (k)) rfl rfl rfl (e_move) ?_
   refine l_call rfl rfl rfl (cl_value (fst := []) (cap := []) (vs := [.pointer (some ⟨wb, 0, none⟩), Ux (v), Nx (k)]) (all := [.pointer (some ⟨wb, 0, none⟩), Ux (v), Nx (k)]) tt78 rfl rfl rfl) ?_
   intro w hw
   replace hw := hw.perm (L' := _ :: _ :: []) (by exact ((perm_front 1 rfl).trans (perm_front 1 rfl)))
   obtain ⟨β1, sb, kn, hw1, back⟩ := St.frame (L := [_, _]) (M := []) hw
   refine (wput_ok β1 w wb _ _ xs n hw1 hxl v k (by omega) (by omega)).mono ?_
   rintro e w' ⟨p3, c4, rfl, hw'⟩
   refine ⟨_, rfl, _, back _ _ hw', ?_⟩
   clear hw hw1 hw' back kn sb
   refine l_nil ?_
   refine f_then ?_
   refine c_seq ?_
   refine c_region ?_
   refine l_val (v := .int .i64 (0)) rfl rfl rfl (e_move) ?_
   refine l_val (v := .int .i64 (0)) rfl rfl rfl (e_assign) ?_
   refine l_nil ?_
   refine f_then ?_
   refine c_ret ?_
   refine ret1 Tryz.results120 (v := .int .i64 (0)) rfl ?_
   intro w hw
   exact ⟨_, _, rfl, hw⟩
 ·
  refine l_skip rfl rfl rfl rfl rfl rfl ?_
  refine l_skip rfl rfl rfl rfl rfl rfl ?_
  refine l_skip rfl rfl rfl rfl rfl rfl ?_
  refine l_skip rfl rfl rfl rfl rfl rfl ?_
  refine g_val (v := .bool false) rfl rfl rfl rfl rfl (e_pick_f rfl) ?_
  refine l_val (v := .bool false) rfl rfl rfl (e_pick_f rfl) ?_
  refine l_val (v := .bool false) rfl rfl rfl (e_assign) ?_
  refine l_nil ?_
  refine f_then ?_
  refine c_no rfl ?_
  refine c_skip ?_
  refine f_block ?_
  refine f_then ?_
  refine c_seq ?_
  refine c_region ?_
  refine l_val (v := .pointer (some ⟨wb, 0, none⟩)) rfl rfl rfl (e_move) ?_
  refine l_val (v := Nx (k)) rfl rfl rfl (e_move) ?_
  refine l_call rfl rfl rfl (cl_value (fst := []) (cap := []) (vs := [.pointer (some ⟨wb, 0, none⟩), Nx (k)]) (all := [.pointer (some ⟨wb, 0, none⟩), Nx (k)]) tt77 rfl rfl rfl) ?_
  intro w hw
  obtain ⟨β1, sb, kn, hw1, back⟩ := St.frame_all hw
  refine (room_ok β1 w hw1 wb _ _ _ n (kn _ (k_pt 0 (vs := [.slice p (xs.length) c, Nx (n)]) rfl rfl)) k (by omega)).mono ?_
  rintro e w' ⟨rfl, hw'⟩
  refine ⟨_, rfl, _, back _ _ hw', ?_⟩
  clear hw hw1 hw' back kn sb
  refine l_val (v := .int .i64 (0)) rfl rfl rfl (e_assign) ?_
  refine l_nil ?_
  refine f_then ?_
  refine c_seq ?_
  refine c_seq ?_
  refine c_region ?_
  refine l_val (v := .int .i64 (0)) rfl rfl rfl (e_move) ?_
  refine l_val (v := .bool true) rfl rfl rfl (e_eql (a := (0 : Int)) (b := (0 : Int)) rfl rfl) ?_
  refine l_nil ?_
  refine f_then ?_
  refine c_yes rfl ?_
  refine c_region ?_
  refine l_val (v := .pointer (some ⟨wb, 0, none⟩)) rfl rfl rfl (e_move) ?_
  refine l_val (v := Ux (v)) rfl rfl rfl (e_move) ?_
  refine l_val (v := Nx (k)) rfl rfl rfl (e_move) ?_
  refine l_call rfl rfl rfl (cl_value (fst := []) (cap := []) (vs := [.pointer (some ⟨wb, 0, none⟩), Ux (v), Nx (k)]) (all := [.pointer (some ⟨wb, 0, none⟩), Ux (v), Nx (k)]) tt78 rfl rfl rfl) ?_
  intro w hw
  replace hw := hw.perm (L' := _ :: _ :: []) (by exact ((perm_front 1 rfl).trans (perm_front 1 rfl)))
  obtain ⟨β1, sb, kn, hw1, back⟩ := St.frame (L := [_, _]) (M := []) hw
  refine (wput_ok β1 w wb _ _ xs n hw1 hxl v k (by omega) (by omega)).mono ?_
  rintro e w' ⟨p5, c6, rfl, hw'⟩
  refine ⟨_, rfl, _, back _ _ hw', ?_⟩
  clear hw hw1 hw' back kn sb
  refine l_nil ?_
  refine f_then ?_
  refine c_seq ?_
  refine c_region ?_
  refine l_val (v := .int .i64 (0)) rfl rfl rfl (e_move) ?_
  refine l_val (v := .int .i64 (0)) rfl rfl rfl (e_assign) ?_
  refine l_nil ?_
  refine f_then ?_
  refine c_ret ?_
  refine ret1 Tryz.results120 (v := .int .i64 (0)) rfl ?_
  intro w hw
  exact ⟨_, _, rfl, hw⟩
theorem tput_ok (β : Base) (w : World) (wb : Nat) (p : Option Addr) (c : Nat) (xs : List UInt8) (n : Nat) (hw : St β [pt wb (.cells #[.slice p xs.length c, Nx n] 139), rowF BytF 5 p c xs] w) (hxl : xs.length = (n + 7) / 8) (v : Int) (k : Nat) (hk : k ≤ 64) (hn : n + k ≤ 1048576) (hv : k = 64 ∨ (0 ≤ v ∧ v < 2 ^ k ∧ k < 64)) : Calls Tryz.prog 95 #[.pointer (some ⟨wb, 0, none⟩), Ix v, Nx k] w fun r w' => ∃ p c, r = .returned (.tuple #[]) ∧ St β [pt wb (.cells #[.slice p (putB (U v) k xs n).length c, Nx (n + k)] 139), rowF BytF 5 p c (putB (U v) k xs n)] w' := by
 refine enter (n := 13) Tryz.func95 rfl Tryz.ntmps95 rfl ?_ hw
 refine c_region ?_
 refine l_val (v := .pointer (some ⟨wb, 0, none⟩)) rfl rfl rfl (e_move) ?_
 refine l_val (v := .pointer (some ⟨wb, 0, none⟩)) rfl rfl rfl (e_nil (a := ⟨wb, 0, none⟩) rfl) ?_
 refine l_val (v := .pointer (some ⟨wb, 0, none⟩)) rfl rfl rfl (e_fieldPt (b := wb) (o := 0) rfl tt79) ?_
 refine l_val (v := Ix (v)) rfl rfl rfl (e_move) ?_
 refine l_val (v := Ux (U (v))) rfl rfl rfl (e_conv (a := (v)) rfl ⟨_, tt80⟩ tt74 (ux_of _)) ?_
 refine l_val (v := Nx (k)) rfl rfl rfl (e_move) ?_
 refine l_call rfl rfl rfl (cl_value (fst := []) (cap := []) (vs := [.pointer (some ⟨wb, 0, none⟩), Ux (U (v)), Nx (k)]) (all := [.pointer (some ⟨wb, 0, none⟩), Ux (U (v)), Nx (k)]) tt81 rfl rfl rfl) ?_
 intro w hw
 replace hw := hw.perm (L' := _ :: _ :: []) (by exact ((perm_front 1 rfl).trans (perm_front 1 rfl)))
 obtain ⟨β1, sb, kn, hw1, back⟩ := St.frame (L := [_, _]) (M := []) hw
 refine (put_ok β1 w wb _ _ xs n hw1 hxl (U (v)) k (by omega) (by omega) (U_fits hv)).mono ?_
 rintro e w' ⟨p1, c2, rfl, hw'⟩
 refine ⟨_, rfl, _, back _ _ hw', ?_⟩
 clear hw hw1 hw' back kn sb
 refine l_nil ?_
 refine end0 Tryz.results95 ?_
 intro w hw
 exact ⟨_, _, rfl, hw⟩
set_option maxHeartbeats 4000000 in
theorem tam_ok (β : Base) (w : World) (wb : Nat) (p : Option Addr) (c : Nat) (xs : List UInt8) (n : Nat) (hw : St β [pt wb (.cells #[.slice p xs.length c, Nx n] 139), rowF BytF 5 p c xs] w) (hxl : xs.length = (n + 7) / 8) (a : KAm) (k : Nat) (hk : k < 64) (hn : n + 4 * k ≤ 1048576) (hv : ∀ x ∈ [a.a0, a.a1, a.a2, a.a3], 0 ≤ x ∧ x < 2 ^ k) : Calls Tryz.prog 94 #[.pointer (some ⟨wb, 0, none⟩), .agg (amC a), Nx k] w fun r w' => ∃ p c, r = .returned (.tuple #[]) ∧ St β [pt wb (.cells #[.slice p (amB a k xs n).length c, Nx (n + k + k + k + k)] 139), rowF BytF 5 p c (amB a k xs n)] w' := by
 have hv0 : k = 64 ∨ (0 ≤ a.a0 ∧ a.a0 < 2 ^ k ∧ k < 64) := .inr ⟨(hv _ (by simp)).1, (hv _ (by simp)).2, hk⟩
 have hv1 : k = 64 ∨ (0 ≤ a.a1 ∧ a.a1 < 2 ^ k ∧ k < 64) := .inr ⟨(hv _ (by simp)).1, (hv _ (by simp)).2, hk⟩
 have hv2 : k = 64 ∨ (0 ≤ a.a2 ∧ a.a2 < 2 ^ k ∧ k < 64) := .inr ⟨(hv _ (by simp)).1, (hv _ (by simp)).2, hk⟩
 have hv3 : k = 64 ∨ (0 ≤ a.a3 ∧ a.a3 < 2 ^ k ∧ k < 64) := .inr ⟨(hv _ (by simp)).1, (hv _ (by simp)).2, hk⟩
 refine enter (n := 17) Tryz.func94 rfl Tryz.ntmps94 rfl ?_ hw
 refine c_seq ?_
 refine c_region ?_
 refine l_mv rfl rfl rfl (m_box (v := .agg (amC a)) rfl) ?_
 rintro _ _ ⟨b1, rfl, rfl⟩
 refine l_nil ?_
 refine f_then ?_
 refine c_seq ?_
 refine c_region ?_
 refine l_val (v := .agg (amC a)) rfl rfl rfl (e_load tt0 (cs := (amE a)) rfl (k_pt 0 (cs := (amC a)) (vs := (amE a)) rfl rfl) rfl) ?_
 refine l_val (v := .int .i64 (0)) rfl rfl rfl (e_move) ?_
 refine l_nil ?_
 refine f_then ?_
 refine c_block ?_
 refine c_unroll 5 ?_
 refine un_succ 4 ?_
 refine c_seq ?_
 refine c_region ?_
 refine l_val (v := .bool true) rfl rfl rfl (e_lss (a := (0 : Int)) (b := (4 : Int)) rfl rfl) ?_
 refine l_nil ?_
 refine f_then ?_
 refine c_seq ?_
 refine c_yes rfl ?_
 refine c_skip ?_
 refine f_then ?_
 refine c_seq ?_
 refine c_block ?_
 refine c_seq ?_
 refine c_region ?_
 refine l_val (v := Ix (a.a0)) rfl rfl rfl (e_index_a (cs := (amC a)) (k := 0) rfl rfl tt1 rfl (by decide) tt2) ?_
 refine l_val (v := Ix (a.a0)) rfl rfl rfl (e_assign) ?_
 refine l_nil ?_
 refine f_then ?_
 refine c_region ?_
 refine l_val (v := .pointer (some ⟨wb, 0, none⟩)) rfl rfl rfl (e_move) ?_
 refine l_val (v := Ix (a.a0)) rfl rfl rfl (e_move) ?_
 refine l_val (v := Nx (k)) rfl rfl rfl (e_move) ?_
 refine l_call rfl rfl rfl (cl_value (fst := []) (cap := []) (vs := [.pointer (some ⟨wb, 0, none⟩), Ix (a.a0), Nx (k)]) (all := [.pointer (some ⟨wb, 0, none⟩), Ix (a.a0), Nx (k)]) tt82 rfl rfl rfl) ?_
 intro w hw
 replace hw := hw.perm (L' := _ :: _ :: _ :: []) (by exact (((perm_front 0 rfl).trans (perm_front 2 rfl)).trans (perm_front 2 rfl)))
 obtain ⟨β1, sb, kn, hw1, back⟩ := St.frame (L := [_, _]) (M := _ :: []) hw
 refine (tput_ok β1 w wb _ _ xs n hw1 hxl a.a0 k (by omega) (by omega) hv0).mono ?_
 rintro e w' ⟨p2, c3, rfl, hw'⟩
 refine ⟨_, rfl, _, back _ _ hw', ?_⟩
 clear hw hw1 hw' back kn sb
 refine l_nil ?_
 refine f_block ?_
 refine f_then ?_
 refine c_region ?_
 refine l_val (v := .int .i64 (1)) rfl rfl rfl (e_add (a := (0 : Int)) (b := (1 : Int)) rfl rfl (by decide)) ?_
 refine l_val (v := .int .i64 (1)) rfl rfl rfl (e_move) ?_
 refine l_nil ?_
 refine f_cut ?_
 refine un_succ 3 ?_
 refine c_seq ?_
 refine c_region ?_
 refine l_val (v := .bool true) rfl rfl rfl (e_lss (a := (1 : Int)) (b := (4 : Int)) rfl rfl) ?_
 refine l_nil ?_
 refine f_then ?_
 refine c_seq ?_
 refine c_yes rfl ?_
 refine c_skip ?_
 refine f_then ?_
 refine c_seq ?_
 refine c_block ?_
 refine c_seq ?_
 refine c_region ?_
 refine l_val (v := Ix (a.a1)) rfl rfl rfl (e_index_a (cs := (amC a)) (k := 1) rfl rfl tt1 rfl (by decide) tt2) ?_
 refine l_val (v := Ix (a.a1)) rfl rfl rfl (e_assign) ?_
 refine l_nil ?_
 refine f_then ?_
 refine c_region ?_
 refine l_val (v := .pointer (some ⟨wb, 0, none⟩)) rfl rfl rfl (e_move) ?_
 refine l_val (v := Ix (a.a1)) rfl rfl rfl (e_move) ?_
 refine l_val (v := Nx (k)) rfl rfl rfl (e_move) ?_
 refine l_call rfl rfl rfl (cl_value (fst := []) (cap := []) (vs := [.pointer (some ⟨wb, 0, none⟩), Ix (a.a1), Nx (k)]) (all := [.pointer (some ⟨wb, 0, none⟩), Ix (a.a1), Nx (k)]) tt82 rfl rfl rfl) ?_
 intro w hw
 replace hw := hw.perm (L' := _ :: _ :: _ :: []) (by exact (((perm_front 2 rfl).trans (perm_front 2 rfl)).trans (perm_front 2 rfl)))
 obtain ⟨β1, sb, kn, hw1, back⟩ := St.frame (L := [_, _]) (M := _ :: []) hw
 refine (tput_ok β1 w wb _ _ (putB (U a.a0) k xs n) (n + k) hw1 (putB_len hxl) a.a1 k (by omega) (by omega) hv1).mono ?_
 rintro e w' ⟨p4, c5, rfl, hw'⟩
 refine ⟨_, rfl, _, back _ _ hw', ?_⟩
 clear hw hw1 hw' back kn sb
 refine l_nil ?_
 refine f_block ?_
 refine f_then ?_
 refine c_region ?_
 refine l_val (v := .int .i64 (2)) rfl rfl rfl (e_add (a := (1 : Int)) (b := (1 : Int)) rfl rfl (by decide)) ?_
 refine l_val (v := .int .i64 (2)) rfl rfl rfl (e_move) ?_
 refine l_nil ?_
 refine f_cut ?_
 refine un_succ 2 ?_
 refine c_seq ?_
 refine c_region ?_
 refine l_val (v := .bool true) rfl rfl rfl (e_lss (a := (2 : Int)) (b := (4 : Int)) rfl rfl) ?_
 refine l_nil ?_
 refine f_then ?_
 refine c_seq ?_
 refine c_yes rfl ?_
 refine c_skip ?_
 refine f_then ?_
 refine c_seq ?_
 refine c_block ?_
 refine c_seq ?_
 refine c_region ?_
 refine l_val (v := Ix (a.a2)) rfl rfl rfl (e_index_a (cs := (amC a)) (k := 2) rfl rfl tt1 rfl (by decide) tt2) ?_
 refine l_val (v := Ix (a.a2)) rfl rfl rfl (e_assign) ?_
 refine l_nil ?_
 refine f_then ?_
 refine c_region ?_
 refine l_val (v := .pointer (some ⟨wb, 0, none⟩)) rfl rfl rfl (e_move) ?_
 refine l_val (v := Ix (a.a2)) rfl rfl rfl (e_move) ?_
 refine l_val (v := Nx (k)) rfl rfl rfl (e_move) ?_
 refine l_call rfl rfl rfl (cl_value (fst := []) (cap := []) (vs := [.pointer (some ⟨wb, 0, none⟩), Ix (a.a2), Nx (k)]) (all := [.pointer (some ⟨wb, 0, none⟩), Ix (a.a2), Nx (k)]) tt82 rfl rfl rfl) ?_
 intro w hw
 replace hw := hw.perm (L' := _ :: _ :: _ :: []) (by exact (((perm_front 2 rfl).trans (perm_front 2 rfl)).trans (perm_front 2 rfl)))
 obtain ⟨β1, sb, kn, hw1, back⟩ := St.frame (L := [_, _]) (M := _ :: []) hw
 refine (tput_ok β1 w wb _ _ (putB (U a.a1) k (putB (U a.a0) k xs n) (n + k)) (n + k + k) hw1 (putB_len (putB_len hxl)) a.a2 k (by omega) (by omega) hv2).mono ?_
 rintro e w' ⟨p6, c7, rfl, hw'⟩
 refine ⟨_, rfl, _, back _ _ hw', ?_⟩
 clear hw hw1 hw' back kn sb
 refine l_nil ?_
 refine f_block ?_
 refine f_then ?_
 refine c_region ?_
 refine l_val (v := .int .i64 (3)) rfl rfl rfl (e_add (a := (2 : Int)) (b := (1 : Int)) rfl rfl (by decide)) ?_
 refine l_val (v := .int .i64 (3)) rfl rfl rfl (e_move) ?_
 refine l_nil ?_
 refine f_cut ?_
 refine un_succ 1 ?_
 refine c_seq ?_
 refine c_region ?_
 refine l_val (v := .bool true) rfl rfl rfl (e_lss (a := (3 : Int)) (b := (4 : Int)) rfl rfl) ?_
 refine l_nil ?_
 refine f_then ?_
 refine c_seq ?_
 refine c_yes rfl ?_
 refine c_skip ?_
 refine f_then ?_
 refine c_seq ?_
 refine c_block ?_
 refine c_seq ?_
 refine c_region ?_
 refine l_val (v := Ix (a.a3)) rfl rfl rfl (e_index_a (cs := (amC a)) (k := 3) rfl rfl tt1 rfl (by decide) tt2) ?_
 refine l_val (v := Ix (a.a3)) rfl rfl rfl (e_assign) ?_
 refine l_nil ?_
 refine f_then ?_
 refine c_region ?_
 refine l_val (v := .pointer (some ⟨wb, 0, none⟩)) rfl rfl rfl (e_move) ?_
 refine l_val (v := Ix (a.a3)) rfl rfl rfl (e_move) ?_
 refine l_val (v := Nx (k)) rfl rfl rfl (e_move) ?_
 refine l_call rfl rfl rfl (cl_value (fst := []) (cap := []) (vs := [.pointer (some ⟨wb, 0, none⟩), Ix (a.a3), Nx (k)]) (all := [.pointer (some ⟨wb, 0, none⟩), Ix (a.a3), Nx (k)]) tt82 rfl rfl rfl) ?_
 intro w hw
 replace hw := hw.perm (L' := _ :: _ :: _ :: []) (by exact (((perm_front 2 rfl).trans (perm_front 2 rfl)).trans (perm_front 2 rfl)))
 obtain ⟨β1, sb, kn, hw1, back⟩ := St.frame (L := [_, _]) (M := _ :: []) hw
 refine (tput_ok β1 w wb _ _ (putB (U a.a2) k (putB (U a.a1) k (putB (U a.a0) k xs n) (n + k)) (n + k + k)) (n + k + k + k) hw1 (putB_len (putB_len (putB_len hxl))) a.a3 k (by omega) (by omega) hv3).mono ?_
 rintro e w' ⟨p8, c9, rfl, hw'⟩
 refine ⟨_, rfl, _, back _ _ hw', ?_⟩
 clear hw hw1 hw' back kn sb
 refine l_nil ?_
 refine f_block ?_
 refine f_then ?_
 refine c_region ?_
 refine l_val (v := .int .i64 (4)) rfl rfl rfl (e_add (a := (3 : Int)) (b := (1 : Int)) rfl rfl (by decide)) ?_
 refine l_val (v := .int .i64 (4)) rfl rfl rfl (e_move) ?_
 refine l_nil ?_
 refine f_cut ?_
 refine un_succ 0 ?_
 refine c_seq ?_
 refine c_region ?_
 refine l_val (v := .bool false) rfl rfl rfl (e_lss (a := (4 : Int)) (b := (4 : Int)) rfl rfl) ?_
 refine l_nil ?_
 refine f_then ?_
 refine c_seq ?_
 refine c_no rfl ?_
 refine c_exit ?_
 refine f_then_exit ?_
 refine f_then_exit ?_
 refine f_exit ?_
 refine end0 Tryz.results94 ?_
 intro w hw
 exact ⟨_, _, rfl, st_mask (L' := [pt wb (.cells #[.slice p8 ((putB (U a.a3) k (putB (U a.a2) k (putB (U a.a1) k (putB (U a.a0) k xs n) (n + k)) (n + k + k)) (n + k + k + k)).length) c9, Nx (n + k + k + k + k)] 139), rowF BytF 5 p8 c9 (putB (U a.a3) k (putB (U a.a2) k (putB (U a.a1) k (putB (U a.a0) k xs n) (n + k)) (n + k + k)) (n + k + k + k))]) [true, true, false] rfl hw⟩
set_option maxHeartbeats 4000000 in
theorem deal_ok (β : Base) (w : World) (wb : Nat) (p : Option Addr) (c : Nat) (xs : List UInt8) (n : Nat) (hw : St β [pt wb (.cells #[.slice p xs.length c, Nx n] 139), rowF BytF 5 p c xs] w) (hxl : xs.length = (n + 7) / 8) (au nu : Int) (v : Value) (al : List KAct) (hs : Sl ActF.R β.heap v al) (hfo : ∀ x ∈ al, x.formed = true) (hl : al.length ≤ 16) (hau : 0 ≤ au ∧ au < 128) (hnu : 0 ≤ nu ∧ nu < 2199023255552) (hn : n + (57 + 225 * al.length) ≤ 1048576) : Calls Tryz.prog 58 #[.pointer (some ⟨wb, 0, none⟩), .agg #[Ix au, Ix nu, v]] w fun r w' => ∃ p c, r = .returned (.tuple #[]) ∧ St β [pt wb (.cells #[.slice p (dealB au nu al xs n).length c, Nx (n + (57 + 225 * al.length))] 139), rowF BytF 5 p c (dealB au nu al xs n)] w' := by
 obtain ⟨va, vc, rfl, vl, vm, ve⟩ := hs.get
 have hfa : 7 = 64 ∨ (0 ≤ au ∧ au < 2 ^ 7 ∧ 7 < 64) := .inr ⟨hau.1, hau.2, by decide⟩
 have hfn : 41 = 64 ∨ (0 ≤ nu ∧ nu < 2 ^ 41 ∧ 41 < 64) := .inr ⟨hnu.1, hnu.2, by decide⟩
 have hfl : 9 = 64 ∨ (0 ≤ ((al.length : Nat) : Int) ∧ ((al.length : Nat) : Int) < 2 ^ 9 ∧ 9 < 64) := .inr ⟨by omega, by omega, by decide⟩
 refine enter (n := 48) Tryz.func58 rfl Tryz.ntmps58 rfl ?_ hw
 refine c_seq ?_
 refine c_region ?_
 refine l_mv rfl rfl rfl (m_box (v := .agg #[Ix (au), Ix (nu), .slice va (al.length) (vc)]) rfl) ?_
 rintro _ _ ⟨b1, rfl, rfl⟩
 refine l_nil ?_
 refine f_then ?_
 refine c_seq ?_
 refine c_region ?_
 refine l_val (v := .pointer (some ⟨wb, 0, none⟩)) rfl rfl rfl (e_move) ?_
 refine l_val (v := .pointer (some ⟨b1, 0, none⟩)) rfl rfl rfl (e_fieldPt (b := b1) (o := 0) rfl tt20) ?_
 refine l_val (v := Ix (au)) rfl rfl rfl (e_load1 tt2 (v := Ix (au)) rfl (k_pt 0 (cs := #[Ix (au), Ix (nu), .slice va (al.length) (vc)]) (vs := [Ix (au)]) rfl rfl)) ?_
 refine l_call rfl rfl rfl (cl_value (fst := []) (cap := []) (vs := [.pointer (some ⟨wb, 0, none⟩), Ix (au), .int .i64 (7)]) (all := [.pointer (some ⟨wb, 0, none⟩), Ix (au), .int .i64 (7)]) tt82 rfl rfl rfl) ?_
 intro w hw
 replace hw := hw.perm (L' := _ :: _ :: _ :: []) (by exact (((perm_front 0 rfl).trans (perm_front 2 rfl)).trans (perm_front 2 rfl)))
 obtain ⟨β1, sb, kn, hw1, back⟩ := St.frame (L := [_, _]) (M := _ :: []) hw
 refine (tput_ok β1 w wb _ _ xs n hw1 hxl au 7 (by omega) (by omega) hfa).mono ?_
 rintro e w' ⟨p2, c3, rfl, hw'⟩
 refine ⟨_, rfl, _, back _ _ hw', ?_⟩
 clear hw hw1 hw' back kn sb
 refine l_nil ?_
 refine f_then ?_
 refine c_seq ?_
 refine c_region ?_
 refine l_val (v := .pointer (some ⟨wb, 0, none⟩)) rfl rfl rfl (e_move) ?_
 refine l_val (v := .pointer (some ⟨b1, 1, none⟩)) rfl rfl rfl (e_fieldPt (b := b1) (o := 0) rfl tt21) ?_
 refine l_val (v := Ix (nu)) rfl rfl rfl (e_load1 tt2 (v := Ix (nu)) rfl (k_pt 2 (cs := #[Ix (au), Ix (nu), .slice va (al.length) (vc)]) (vs := [Ix (nu)]) rfl rfl)) ?_
 refine l_call rfl rfl rfl (cl_value (fst := []) (cap := []) (vs := [.pointer (some ⟨wb, 0, none⟩), Ix (nu), .int .i64 (41)]) (all := [.pointer (some ⟨wb, 0, none⟩), Ix (nu), .int .i64 (41)]) tt82 rfl rfl rfl) ?_
 intro w hw
 replace hw := hw.perm (L' := _ :: _ :: _ :: []) (by exact (((perm_front 2 rfl).trans (perm_front 2 rfl)).trans (perm_front 2 rfl)))
 obtain ⟨β1, sb, kn, hw1, back⟩ := St.frame (L := [_, _]) (M := _ :: []) hw
 refine (tput_ok β1 w wb _ _ (putB (U au) 7 xs n) (n + 7) hw1 (putB_len hxl) nu 41 (by omega) (by omega) hfn).mono ?_
 rintro e w' ⟨p4, c5, rfl, hw'⟩
 refine ⟨_, rfl, _, back _ _ hw', ?_⟩
 clear hw hw1 hw' back kn sb
 refine l_nil ?_
 refine f_then ?_
 refine c_seq ?_
 refine c_region ?_
 refine l_val (v := .pointer (some ⟨wb, 0, none⟩)) rfl rfl rfl (e_move) ?_
 refine l_val (v := .pointer (some ⟨b1, 2, none⟩)) rfl rfl rfl (e_fieldPt (b := b1) (o := 0) rfl tt22) ?_
 refine l_val (v := .slice va (al.length) (vc)) rfl rfl rfl (e_load1 tt23 (v := .slice va (al.length) (vc)) rfl (k_pt 2 (cs := #[Ix (au), Ix (nu), .slice va (al.length) (vc)]) (vs := [.slice va (al.length) (vc)]) rfl rfl)) ?_
 refine l_val (v := Nx (al.length)) rfl rfl rfl (e_len (a := va) (n := al.length) (c := vc) rfl tt15) ?_
 refine l_call rfl rfl rfl (cl_value (fst := []) (cap := []) (vs := [.pointer (some ⟨wb, 0, none⟩), Nx (al.length), .int .i64 (9)]) (all := [.pointer (some ⟨wb, 0, none⟩), Nx (al.length), .int .i64 (9)]) tt82 rfl rfl rfl) ?_
 intro w hw
 replace hw := hw.perm (L' := _ :: _ :: _ :: []) (by exact (((perm_front 2 rfl).trans (perm_front 2 rfl)).trans (perm_front 2 rfl)))
 obtain ⟨β1, sb, kn, hw1, back⟩ := St.frame (L := [_, _]) (M := _ :: []) hw
 refine (tput_ok β1 w wb _ _ (putB (U nu) 41 (putB (U au) 7 xs n) (n + 7)) (n + 7 + 41) hw1 (putB_len (putB_len hxl)) ((al.length : Nat) : Int) 9 (by omega) (by omega) hfl).mono ?_
 rintro e w' ⟨p6, c7, rfl, hw'⟩
 refine ⟨_, rfl, _, back _ _ hw', ?_⟩
 clear hw hw1 hw' back kn sb
 refine l_nil ?_
 refine f_then ?_
 refine c_seq ?_
 refine c_region ?_
 refine l_val (v := .pointer (some ⟨b1, 2, none⟩)) rfl rfl rfl (e_fieldPt (b := b1) (o := 0) rfl tt22) ?_
 refine l_val (v := .slice va (al.length) (vc)) rfl rfl rfl (e_load1 tt23 (v := .slice va (al.length) (vc)) rfl (k_pt 2 (cs := #[Ix (au), Ix (nu), .slice va (al.length) (vc)]) (vs := [.slice va (al.length) (vc)]) rfl rfl)) ?_
 refine l_val (v := Nx (al.length)) rfl rfl rfl (e_len (a := va) (n := al.length) (c := vc) rfl tt15) ?_
 refine l_val (v := .int .i64 (0)) rfl rfl rfl (e_move) ?_
 refine l_nil ?_
 refine f_then ?_
 refine c_block ?_
 refine c_loop (fun (x_ : Nat × List UInt8 × Option Addr × Nat) (f : Fm) (L : List Res) => match x_ with | (k, ys, p, c) => (f 0 = .pointer (some ⟨wb, 0, none⟩) ∧ f 20 = .slice va (al.length) (vc) ∧ f 21 = Nx (al.length) ∧ f 22 = Nx (k)) ∧ L = [pt wb (.cells #[.slice p (ys.length) c, Nx (n + 7 + 41 + 9 + 225 * k)] 139), rowF BytF 5 p c ys, pt b1 (.cells #[Ix (au), Ix (nu), .slice va (al.length) (vc)] 80)] ∧ (k ≤ al.length ∧ ys.length = (n + 7 + 41 + 9 + 225 * k + 7) / 8 ∧ actsB (al.drop k) ys (n + 7 + 41 + 9 + 225 * k) = dealB au nu al xs n)) (fun (x_ : Nat × List UInt8 × Option Addr × Nat) => match x_ with | (k, ys, p, c) => al.length - k) (0, (putB (U ((al.length : Nat) : Int)) 9 (putB (U nu) 41 (putB (U au) 7 xs n) (n + 7)) (n + 7 + 41)), p6, c7) ?_ ?_
 ·exact ⟨⟨rfl, rfl, rfl, rfl⟩, rfl, ⟨by omega, putB_len (putB_len (putB_len hxl)), rfl⟩⟩
 rintro ⟨k, ys, p, c⟩ f0 L0 ⟨⟨hs0, hs20, hs21, hs22⟩, hL, ⟨hk, hyl, hrun⟩⟩
 subst L0
 refine rebase (d := 0) hs0 ?_
 refine rebase (d := 20) hs20 ?_
 refine rebase (d := 21) hs21 ?_
 refine rebase (d := 22) hs22 ?_
 clear hs0 hs20 hs21 hs22
 refine c_seq ?_
 refine c_region ?_
 refine l_val (v := .bool (decide (((k : Nat) : Int) < ((al.length : Nat) : Int)))) rfl rfl rfl (e_lss (a := ((k : Nat) : Int)) (b := ((al.length : Nat) : Int)) rfl rfl) ?_
 refine l_nil ?_
 refine f_then ?_
 refine c_seq ?_
 refine c_if (((k : Nat) : Int) < ((al.length : Nat) : Int)) rfl (fun hc8 => ?_) (fun hc8 => ?_)
 ·
  refine c_skip ?_
  refine f_then ?_
  refine c_seq ?_
  refine c_block ?_
  refine c_seq ?_
  refine c_region ?_
  obtain ⟨x9, hx10⟩ : ∃ x_, (al)[k]? = some x_ := ⟨_, List.getElem?_eq_getElem (by omega)⟩
  obtain ⟨ha11, cs12, hc13, rfl⟩ := ve _ _ hx10
  refine l_val (v := .pointer (some ((ba va).add (k * 8)))) rfl rfl rfl (e_indexAddr (k := k) (len := al.length) (cap := vc) (a := va) rfl rfl tt16 (by omega) ha11) ?_
  refine l_val (v := .agg #[Bx (x9.kind), Ix (x9.owner), Ix (x9.other), Ix (x9.hold), Ix (x9.a.a0), Ix (x9.a.a1), Ix (x9.a.a2), Ix (x9.a.a3)]) rfl rfl rfl (e_load tt17 (cs := [Bx (x9.kind), Ix (x9.owner), Ix (x9.other), Ix (x9.hold), Ix (x9.a.a0), Ix (x9.a.a1), Ix (x9.a.a2), Ix (x9.a.a3)]) rfl (Knows.of_base (Cs.mono _ _) hc13) rfl) ?_
  refine l_mv rfl rfl rfl (m_alloc tt47) ?_
  rintro _ _ ⟨b15, rfl, rfl⟩
  refine l_mu rfl rfl (m_store 0 tt17 (b := b15) (o := 0) (T := 47) (cs := #[.int .u8 (0), .int .i64 (0), .int .i64 (0), .int .i64 (0), .int .i64 (0), .int .i64 (0), .int .i64 (0), .int .i64 (0)]) (cs' := #[Bx (x9.kind), Ix (x9.owner), Ix (x9.other), Ix (x9.hold), Ix (x9.a.a0), Ix (x9.a.a1), Ix (x9.a.a2), Ix (x9.a.a3)]) (v := .agg #[Bx (x9.kind), Ix (x9.owner), Ix (x9.other), Ix (x9.hold), Ix (x9.a.a0), Ix (x9.a.a1), Ix (x9.a.a2), Ix (x9.a.a3)]) rfl rfl rfl rfl rfl rfl rfl) ?_
  refine l_nil ?_
  refine f_then ?_
  refine c_seq ?_
  obtain ⟨hv1, hv2, hv3, hva⟩ := formed_fits (hfo _ (List.mem_of_getElem? hx10))
  have hklt := (List.getElem?_eq_some_iff.1 hx10).1
  refine c_region ?_
  refine l_val (v := .pointer (some ⟨wb, 0, none⟩)) rfl rfl rfl (e_move) ?_
  refine l_val (v := .pointer (some ⟨b15, 0, none⟩)) rfl rfl rfl (e_fieldPt (b := b15) (o := 0) rfl tt4) ?_
  refine l_val (v := Bx (x9.kind)) rfl rfl rfl (e_load1 tt5 (v := Bx (x9.kind)) rfl (k_pt 0 (cs := #[Bx (x9.kind), Ix (x9.owner), Ix (x9.other), Ix (x9.hold), Ix (x9.a.a0), Ix (x9.a.a1), Ix (x9.a.a2), Ix (x9.a.a3)]) (vs := [Bx (x9.kind)]) rfl rfl)) ?_
  refine l_val (v := Nx (x9.kind.toNat)) rfl rfl rfl (e_conv (a := ((x9.kind).toNat : Int)) rfl ⟨_, tt75⟩ tt80 (i64n rfl (by have := (x9.kind).toNat_lt; omega))) ?_
  refine l_call rfl rfl rfl (cl_value (fst := []) (cap := []) (vs := [.pointer (some ⟨wb, 0, none⟩), Nx (x9.kind.toNat), .int .i64 (3)]) (all := [.pointer (some ⟨wb, 0, none⟩), Nx (x9.kind.toNat), .int .i64 (3)]) tt82 rfl rfl rfl) ?_
  intro w hw
  replace hw := hw.perm (L' := _ :: _ :: _ :: _ :: []) (by exact ((((perm_front 3 rfl).trans (perm_front 1 rfl)).trans (perm_front 3 rfl)).trans (perm_front 3 rfl)))
  obtain ⟨β1, sb, kn, hw1, back⟩ := St.frame (L := [_, _]) (M := _ :: _ :: []) hw
  refine (tput_ok β1 w wb _ _ ys (n + 7 + 41 + 9 + 225 * k) hw1 hyl ((x9.kind.toNat : Nat) : Int) 3 (by omega) (by omega) hv1).mono ?_
  rintro e w' ⟨p16, c17, rfl, hw'⟩
  refine ⟨_, rfl, _, back _ _ hw', ?_⟩
  clear hw hw1 hw' back kn sb
  refine l_nil ?_
  refine f_then ?_
  refine c_seq ?_
  refine c_region ?_
  refine l_val (v := .pointer (some ⟨wb, 0, none⟩)) rfl rfl rfl (e_move) ?_
  refine l_val (v := .pointer (some ⟨b15, 1, none⟩)) rfl rfl rfl (e_fieldPt (b := b15) (o := 0) rfl tt6) ?_
  refine l_val (v := Ix (x9.owner)) rfl rfl rfl (e_load1 tt2 (v := Ix (x9.owner)) rfl (k_pt 2 (cs := #[Bx (x9.kind), Ix (x9.owner), Ix (x9.other), Ix (x9.hold), Ix (x9.a.a0), Ix (x9.a.a1), Ix (x9.a.a2), Ix (x9.a.a3)]) (vs := [Ix (x9.owner)]) rfl rfl)) ?_
  refine l_call rfl rfl rfl (cl_value (fst := []) (cap := []) (vs := [.pointer (some ⟨wb, 0, none⟩), Ix (x9.owner), .int .i64 (17)]) (all := [.pointer (some ⟨wb, 0, none⟩), Ix (x9.owner), .int .i64 (17)]) tt82 rfl rfl rfl) ?_
  intro w hw
  replace hw := hw.perm (L' := _ :: _ :: _ :: _ :: []) (by exact ((((perm_front 3 rfl).trans (perm_front 3 rfl)).trans (perm_front 3 rfl)).trans (perm_front 3 rfl)))
  obtain ⟨β1, sb, kn, hw1, back⟩ := St.frame (L := [_, _]) (M := _ :: _ :: []) hw
  refine (tput_ok β1 w wb _ _ (putB (U ((x9.kind.toNat : Nat) : Int)) 3 ys (n + 7 + 41 + 9 + 225 * k)) (n + 7 + 41 + 9 + 225 * k + 3) hw1 (putB_len hyl) x9.owner 17 (by omega) (by omega) hv2).mono ?_
  rintro e w' ⟨p18, c19, rfl, hw'⟩
  refine ⟨_, rfl, _, back _ _ hw', ?_⟩
  clear hw hw1 hw' back kn sb
  refine l_nil ?_
  refine f_then ?_
  refine c_seq ?_
  refine c_region ?_
  refine l_val (v := .pointer (some ⟨wb, 0, none⟩)) rfl rfl rfl (e_move) ?_
  refine l_val (v := .pointer (some ⟨b15, 2, none⟩)) rfl rfl rfl (e_fieldPt (b := b15) (o := 0) rfl tt8) ?_
  refine l_val (v := Ix (x9.other)) rfl rfl rfl (e_load1 tt2 (v := Ix (x9.other)) rfl (k_pt 2 (cs := #[Bx (x9.kind), Ix (x9.owner), Ix (x9.other), Ix (x9.hold), Ix (x9.a.a0), Ix (x9.a.a1), Ix (x9.a.a2), Ix (x9.a.a3)]) (vs := [Ix (x9.other)]) rfl rfl)) ?_
  refine l_call rfl rfl rfl (cl_value (fst := []) (cap := []) (vs := [.pointer (some ⟨wb, 0, none⟩), Ix (x9.other), .int .i64 (17)]) (all := [.pointer (some ⟨wb, 0, none⟩), Ix (x9.other), .int .i64 (17)]) tt82 rfl rfl rfl) ?_
  intro w hw
  replace hw := hw.perm (L' := _ :: _ :: _ :: _ :: []) (by exact ((((perm_front 3 rfl).trans (perm_front 3 rfl)).trans (perm_front 3 rfl)).trans (perm_front 3 rfl)))
  obtain ⟨β1, sb, kn, hw1, back⟩ := St.frame (L := [_, _]) (M := _ :: _ :: []) hw
  refine (tput_ok β1 w wb _ _ (putB (U x9.owner) 17 (putB (U ((x9.kind.toNat : Nat) : Int)) 3 ys (n + 7 + 41 + 9 + 225 * k)) (n + 7 + 41 + 9 + 225 * k + 3)) (n + 7 + 41 + 9 + 225 * k + 3 + 17) hw1 (putB_len (putB_len hyl)) x9.other 17 (by omega) (by omega) hv3).mono ?_
  rintro e w' ⟨p20, c21, rfl, hw'⟩
  refine ⟨_, rfl, _, back _ _ hw', ?_⟩
  clear hw hw1 hw' back kn sb
  refine l_nil ?_
  refine f_then ?_
  refine c_seq ?_
  refine c_region ?_
  refine l_val (v := .pointer (some ⟨wb, 0, none⟩)) rfl rfl rfl (e_move) ?_
  refine l_val (v := .pointer (some ⟨b15, 3, none⟩)) rfl rfl rfl (e_fieldPt (b := b15) (o := 0) rfl tt9) ?_
  refine l_val (v := Ix (x9.hold)) rfl rfl rfl (e_load1 tt2 (v := Ix (x9.hold)) rfl (k_pt 2 (cs := #[Bx (x9.kind), Ix (x9.owner), Ix (x9.other), Ix (x9.hold), Ix (x9.a.a0), Ix (x9.a.a1), Ix (x9.a.a2), Ix (x9.a.a3)]) (vs := [Ix (x9.hold)]) rfl rfl)) ?_
  refine l_call rfl rfl rfl (cl_value (fst := []) (cap := []) (vs := [.pointer (some ⟨wb, 0, none⟩), Ix (x9.hold), .int .i64 (64)]) (all := [.pointer (some ⟨wb, 0, none⟩), Ix (x9.hold), .int .i64 (64)]) tt82 rfl rfl rfl) ?_
  intro w hw
  replace hw := hw.perm (L' := _ :: _ :: _ :: _ :: []) (by exact ((((perm_front 3 rfl).trans (perm_front 3 rfl)).trans (perm_front 3 rfl)).trans (perm_front 3 rfl)))
  obtain ⟨β1, sb, kn, hw1, back⟩ := St.frame (L := [_, _]) (M := _ :: _ :: []) hw
  refine (tput_ok β1 w wb _ _ (putB (U x9.other) 17 (putB (U x9.owner) 17 (putB (U ((x9.kind.toNat : Nat) : Int)) 3 ys (n + 7 + 41 + 9 + 225 * k)) (n + 7 + 41 + 9 + 225 * k + 3)) (n + 7 + 41 + 9 + 225 * k + 3 + 17)) (n + 7 + 41 + 9 + 225 * k + 3 + 17 + 17) hw1 (putB_len (putB_len (putB_len hyl))) x9.hold 64 (by omega) (by omega) (.inl rfl)).mono ?_
  rintro e w' ⟨p22, c23, rfl, hw'⟩
  refine ⟨_, rfl, _, back _ _ hw', ?_⟩
  clear hw hw1 hw' back kn sb
  refine l_nil ?_
  refine f_then ?_
  refine c_region ?_
  refine l_val (v := .pointer (some ⟨wb, 0, none⟩)) rfl rfl rfl (e_move) ?_
  refine l_val (v := .pointer (some ⟨b15, 4, none⟩)) rfl rfl rfl (e_fieldPt (b := b15) (o := 0) rfl tt10) ?_
  refine l_val (v := .agg (amC x9.a)) rfl rfl rfl (e_load tt0 (cs := (amE x9.a)) rfl (k_pt 2 (cs := #[Bx (x9.kind), Ix (x9.owner), Ix (x9.other), Ix (x9.hold), Ix (x9.a.a0), Ix (x9.a.a1), Ix (x9.a.a2), Ix (x9.a.a3)]) (vs := (amE x9.a)) rfl rfl) rfl) ?_
  refine l_call rfl rfl rfl (cl_value (fst := []) (cap := []) (vs := [.pointer (some ⟨wb, 0, none⟩), .agg (amC x9.a), .int .i64 (31)]) (all := [.pointer (some ⟨wb, 0, none⟩), .agg (amC x9.a), .int .i64 (31)]) tt83 rfl rfl rfl) ?_
  intro w hw
  replace hw := hw.perm (L' := _ :: _ :: _ :: _ :: []) (by exact ((((perm_front 3 rfl).trans (perm_front 3 rfl)).trans (perm_front 3 rfl)).trans (perm_front 3 rfl)))
  obtain ⟨β1, sb, kn, hw1, back⟩ := St.frame (L := [_, _]) (M := _ :: _ :: []) hw
  refine (tam_ok β1 w wb _ _ (putB (U x9.hold) 64 (putB (U x9.other) 17 (putB (U x9.owner) 17 (putB (U ((x9.kind.toNat : Nat) : Int)) 3 ys (n + 7 + 41 + 9 + 225 * k)) (n + 7 + 41 + 9 + 225 * k + 3)) (n + 7 + 41 + 9 + 225 * k + 3 + 17)) (n + 7 + 41 + 9 + 225 * k + 3 + 17 + 17)) (n + 7 + 41 + 9 + 225 * k + 3 + 17 + 17 + 64) hw1 (putB_len (putB_len (putB_len (putB_len hyl)))) x9.a 31 (by omega) (by omega) hva).mono ?_
  rintro e w' ⟨p24, c25, rfl, hw'⟩
  refine ⟨_, rfl, _, back _ _ hw', ?_⟩
  clear hw hw1 hw' back kn sb
  refine l_nil ?_
  refine f_block ?_
  refine f_then ?_
  refine c_region ?_
  refine l_val (v := Nx (k + 1)) rfl rfl rfl (e_add (a := ((k : Nat) : Int)) (b := (1 : Int)) rfl rfl (i64n (by omega) (by omega))) ?_
  refine l_val (v := Nx (k + 1)) rfl rfl rfl (e_move) ?_
  refine l_nil ?_
  refine f_mask (L' := [pt wb (.cells #[.slice p24 ((amB x9.a 31 (putB (U x9.hold) 64 (putB (U x9.other) 17 (putB (U x9.owner) 17 (putB (U ((x9.kind.toNat : Nat) : Int)) 3 ys (n + 7 + 41 + 9 + 225 * k)) (n + 7 + 41 + 9 + 225 * k + 3)) (n + 7 + 41 + 9 + 225 * k + 3 + 17)) (n + 7 + 41 + 9 + 225 * k + 3 + 17 + 17)) (n + 7 + 41 + 9 + 225 * k + 3 + 17 + 17 + 64)).length) c25, Nx (n + 7 + 41 + 9 + 225 * k + 3 + 17 + 17 + 64 + 31 + 31 + 31 + 31)] 139), rowF BytF 5 p24 c25 (amB x9.a 31 (putB (U x9.hold) 64 (putB (U x9.other) 17 (putB (U x9.owner) 17 (putB (U ((x9.kind.toNat : Nat) : Int)) 3 ys (n + 7 + 41 + 9 + 225 * k)) (n + 7 + 41 + 9 + 225 * k + 3)) (n + 7 + 41 + 9 + 225 * k + 3 + 17)) (n + 7 + 41 + 9 + 225 * k + 3 + 17 + 17)) (n + 7 + 41 + 9 + 225 * k + 3 + 17 + 17 + 64)), pt b1 (.cells #[Ix (au), Ix (nu), .slice va (al.length) (vc)] 80)]) [true, true, false, true] rfl ?_
  exact f_cut ⟨(k + 1, (amB x9.a 31 (putB (U x9.hold) 64 (putB (U x9.other) 17 (putB (U x9.owner) 17 (putB (U ((x9.kind.toNat : Nat) : Int)) 3 ys (n + 7 + 41 + 9 + 225 * k)) (n + 7 + 41 + 9 + 225 * k + 3)) (n + 7 + 41 + 9 + 225 * k + 3 + 17)) (n + 7 + 41 + 9 + 225 * k + 3 + 17 + 17)) (n + 7 + 41 + 9 + 225 * k + 3 + 17 + 17 + 64)), p24, c25), ⟨⟨rfl, rfl, rfl, rfl⟩, by rw [show n + 7 + 41 + 9 + 225 * (k + 1) = n + 7 + 41 + 9 + 225 * k + 3 + 17 + 17 + 64 + 31 + 31 + 31 + 31 by omega], ⟨by omega, by rw [show n + 7 + 41 + 9 + 225 * (k + 1) = n + 7 + 41 + 9 + 225 * k + 225 by omega]; exact actB_len hyl, by rw [show n + 7 + 41 + 9 + 225 * (k + 1) = n + 7 + 41 + 9 + 225 * k + 225 by omega, ← hrun, acts_next hx10]; rfl⟩⟩, (show al.length - (k + 1) < al.length - k from by omega)⟩
 ·
  refine c_exit ?_
  refine f_then_exit ?_
  refine f_then_exit ?_
  refine f_exit ?_
  refine end0 Tryz.results58 ?_
  intro w hw
  have hke : k = al.length := by omega
  have hy : ys = dealB au nu al xs n := by rw [← hrun, hke, List.drop_length]; rfl
  rw [hke, hy, show n + 7 + 41 + 9 + 225 * al.length = n + (57 + 225 * al.length) by omega] at hw
  exact ⟨_, _, rfl, st_mask (L' := [pt wb (.cells #[.slice p ((dealB au nu al xs n).length) c, Nx (n + (57 + 225 * al.length))] 139), rowF BytF 5 p c (dealB au nu al xs n)]) [true, true, false] rfl hw⟩
theorem wbytes_ok (β : Base) (w : World) (wb : Nat) (p : Option Addr) (c : Nat) (xs : List UInt8) (n : Nat) (hw : St β [pt wb (.cells #[.slice p xs.length c, Nx n] 139), rowF BytF 5 p c xs] w) (hxl : xs.length ≤ 1048576) : Calls Tryz.prog 59 #[.pointer (some ⟨wb, 0, none⟩)] w fun r w' => ∃ p c, r = .returned (.slice p xs.length c) ∧ St β [row (.slice p xs.length c) 5 1 xs.length (BX xs)] w' := by
 refine enter (n := 10) Tryz.func59 rfl Tryz.ntmps59 rfl ?_ hw
 refine c_seq ?_
 refine c_region ?_
 refine l_val (v := .slice none 0 0) rfl rfl rfl (e_assign) ?_
 refine l_nil ?_
 refine f_then ?_
 refine c_seq ?_
 refine c_seq ?_
 refine c_region ?_
 refine l_val (v := .pointer (some ⟨wb, 0, none⟩)) rfl rfl rfl (e_move) ?_
 refine l_val (v := .bool false) rfl rfl rfl (e_eql_pnil (p := some (⟨wb, 0, none⟩)) rfl rfl tt76) ?_
 refine l_nil ?_
 refine f_then ?_
 refine c_no rfl ?_
 refine c_skip ?_
 refine f_then ?_
 refine c_seq ?_
 refine c_region ?_
 refine l_val (v := .pointer (some ⟨wb, 0, none⟩)) rfl rfl rfl (e_move) ?_
 refine l_val (v := .pointer (some ⟨wb, 0, none⟩)) rfl rfl rfl (e_nil (a := ⟨wb, 0, none⟩) rfl) ?_
 refine l_val (v := .pointer (some ⟨wb, 0, none⟩)) rfl rfl rfl (e_fieldPt (b := wb) (o := 0) rfl tt69) ?_
 refine l_val (v := .slice p (xs.length) c) rfl rfl rfl (e_load1 tt70 (v := .slice p (xs.length) c) rfl (k_pt 0 (cs := #[.slice p (xs.length) c, Nx (n)]) (vs := [.slice p (xs.length) c]) rfl rfl)) ?_
 refine l_call rfl rfl rfl (cl_value (fst := []) (cap := []) (vs := [.slice p (xs.length) c]) (all := [.slice p (xs.length) c]) tt84 rfl rfl rfl) ?_
 intro w hw
 obtain ⟨β1, sb, kn, hw1, back⟩ := St.frame_all hw
 refine (clone_ok β1 w hw1 xs _ (by omega) (kn _ (k_flN 1 (F := BytF) (m := xs.length) rfl rfl))).mono ?_
 rintro e w' ⟨p1, c2, rfl, hw'⟩
 refine ⟨_, rfl, _, back _ _ hw', ?_⟩
 clear hw hw1 hw' back kn sb
 refine l_val (v := .slice p1 (xs).length c2) rfl rfl rfl (e_assign) ?_
 refine l_nil ?_
 refine f_then ?_
 refine c_ret ?_
 refine ret1 Tryz.results59 (v := .slice p1 (xs).length c2) rfl ?_
 intro w hw
 exact ⟨_, _, rfl, st_mask (L' := [row (.slice p1 (xs).length c2) 5 1 ((xs).length) (BX xs)]) [true, false, false] rfl hw⟩
theorem trecord_ok (β : Base) (w : World) (hw : St β [] w) (au nu : Int) (v : Value) (al : List KAct) (hs : Sl ActF.R β.heap v al) (hfo : ∀ x ∈ al, x.formed = true) (hl : al.length ≤ 16) (hau : 0 ≤ au ∧ au < 128) (hnu : 0 ≤ nu ∧ nu < 2199023255552) : Calls Tryz.prog 37 #[.agg #[Ix au, Ix nu, v]] w fun r w' => ∃ p c, r = .returned (.slice p (dealB au nu al [] 0).length c) ∧ St β [row (.slice p (dealB au nu al [] 0).length c) 5 1 (dealB au nu al [] 0).length (BX (dealB au nu al [] 0))] w' := by
 obtain ⟨va, vc, rfl, vl, vm, ve⟩ := hs.get
 refine enter (n := 8) Tryz.func37 rfl Tryz.ntmps37 rfl ?_ hw
 refine c_seq ?_
 refine c_region ?_
 refine l_mv rfl rfl rfl (m_box (v := .agg #[Ix (au), Ix (nu), .slice va (al.length) (vc)]) rfl) ?_
 rintro _ _ ⟨b1, rfl, rfl⟩
 refine l_val (v := .slice none 0 0) rfl rfl rfl (e_assign) ?_
 refine l_nil ?_
 refine f_then ?_
 refine c_seq ?_
 refine c_region ?_
 refine l_mv rfl rfl rfl (m_alloc tt85) ?_
 rintro _ _ ⟨b2, rfl, rfl⟩
 refine l_nil ?_
 refine f_then ?_
 refine c_seq ?_
 refine c_emp (r := rowF BytF 5 none 0 []) (row_nil _ _ _) ?_
 refine c_region ?_
 refine l_val (v := .agg #[Ix (au), Ix (nu), .slice va (al.length) (vc)]) rfl rfl rfl (e_load tt65 (cs := [Ix (au), Ix (nu), .slice va (al.length) (vc)]) rfl (k_pt 2 (cs := #[Ix (au), Ix (nu), .slice va (al.length) (vc)]) (vs := [Ix (au), Ix (nu), .slice va (al.length) (vc)]) rfl rfl) rfl) ?_
 refine l_call rfl rfl rfl (cl_value (fst := []) (cap := []) (vs := [.pointer (some ⟨b2, 0, none⟩), .agg #[Ix (au), Ix (nu), .slice va (al.length) (vc)]]) (all := [.pointer (some ⟨b2, 0, none⟩), .agg #[Ix (au), Ix (nu), .slice va (al.length) (vc)]]) tt86 rfl rfl rfl) ?_
 intro w hw
 replace hw := hw.perm (L' := _ :: _ :: _ :: []) (by exact (((perm_front 2 rfl).trans (perm_front 1 rfl)).trans (perm_front 2 rfl)))
 obtain ⟨β1, sb, kn, hw1, back⟩ := St.frame (L := [_, _]) (M := _ :: []) hw
 refine (deal_ok β1 w b2 none 0 [] 0 hw1 rfl au nu _ al (Sl.mono _ _ _ _ _ sb (⟨⟨_, _, rfl, vl, vm, ve⟩⟩ : Sl ActF.R _ _ al)) hfo hl hau hnu (by omega)).mono ?_
 rintro e w' ⟨p3, c4, rfl, hw'⟩
 refine ⟨_, rfl, _, back _ _ hw', ?_⟩
 clear hw hw1 hw' back kn sb
 refine l_nil ?_
 refine f_then ?_
 refine c_seq ?_
 refine c_region ?_
 refine l_val (v := .pointer (some ⟨b2, 0, none⟩)) rfl rfl rfl (e_fieldPt (b := b2) (o := 0) rfl tt79) ?_
 refine l_call rfl rfl rfl (cl_value (fst := []) (cap := []) (vs := [.pointer (some ⟨b2, 0, none⟩)]) (all := [.pointer (some ⟨b2, 0, none⟩)]) tt87 rfl rfl rfl) ?_
 intro w hw
 replace hw := hw.perm (L' := _ :: _ :: _ :: []) (by exact (((perm_front 2 rfl).trans (perm_front 2 rfl)).trans (perm_front 2 rfl)))
 obtain ⟨β1, sb, kn, hw1, back⟩ := St.frame (L := [_, _]) (M := _ :: []) hw
 refine (wbytes_ok β1 w b2 _ _ (dealB au nu al [] 0) _ hw1 (by rw [dealB_len (n := 0) rfl]; omega)).mono ?_
 rintro e w' ⟨p5, c6, rfl, hw'⟩
 refine ⟨_, rfl, _, back _ _ hw', ?_⟩
 clear hw hw1 hw' back kn sb
 refine l_val (v := .slice p5 ((dealB au nu al [] 0)).length c6) rfl rfl rfl (e_assign) ?_
 refine l_nil ?_
 refine f_then ?_
 refine c_ret ?_
 refine ret1 Tryz.results37 (v := .slice p5 ((dealB au nu al [] 0)).length c6) rfl ?_
 intro w hw
 exact ⟨_, _, rfl, st_mask (L' := [row (.slice p5 ((dealB au nu al [] 0)).length c6) 5 1 (((dealB au nu al [] 0)).length) (BX (dealB au nu al [] 0))]) [true, false] rfl hw⟩
end Go.Proofs
