/-
 The chapter's examples, walked. Printed by a program of my own.
-/
import Derived.Test.YtkpdcajddpiknaaJn8
import Derived.Test.YtkpdcajddpiknaaSlC
namespace Go.Proofs
open Go Go.Sl Go.Jn
def aK0 : KS := ⟨[], [], [], -1⟩
def aI0 : KI := ⟨0, 0, [], [], 0⟩
def aK1 : KS := cutS aK0 0 0
def aK2 : KS := apS aK1 aI0 [97, 98]
def aI2 : KI := apI aI0 [97, 98]
def aK3 : KS := ckS aK2 1 1 [115]
def aI3 : KI := ckI aI2 [115]
def aT0 : KS := ⟨[], [], [], 10⟩
def aT1 : KS := cutS aT0 0 0
def aT2 : KS := apS aT1 aI0 [97, 98]
def aT3 : KS := { aT2 with power := 1 }
def aT4 : KS := cutS aT3 0 0
instance (k : KS) (m : Nat) : Decidable (k.fits m) := by unfold KS.fits; infer_instance
theorem awb {xs : Bs} {k : Nat} {c : UInt8} (hc : xs[k]? = some c) (h : xs[k]? = some 1) : ((c).toNat : Int) = (1 : Int) := by
 rw [h] at hc; injection hc with hc; subst hc; rfl
theorem l_openStore {P : Program} {ro : Option Nat} {n : Nat} {ds : List Deferred} {β : Base} {Q : Exit → Act → World → Prop} {f : Fm} {L : List Res} {ops : Array Oper} {rest : List Oper} {S : Nat} {k : KS} {M : List Res} (hL : L = storeR S k :: M)
  (K : ∀ pH pA pB cH cA cB, RunL P ro n ds β ops Q rest f (stL S pH pA pB cH cA cB k ++ M)) : RunL P ro n ds β ops Q rest f L := fun a w ha hw => by
 subst hL
 obtain ⟨pH, pA, pB, cH, cA, cB, h⟩ := St.openStore hw
 exact K pH pA pB cH cA cB a w ha h
theorem tf105 : stB Try.prog 32 [(0, 1), (1, 1), (2, 1), (3, 1)] = true := by kernel_rfl
theorem tf106 : (Try.prog.info? 32).bind (·.zero) = some (.agg #[.slice none 0 0, .slice none 0 0, .slice none 0 0, .int .i64 (0)]) := by kernel_rfl
set_option maxHeartbeats 4000000 in
theorem awake_ok (β : Base) (w : World) (hw : St β [] w) : Calls Try.prog 12 #[] w fun r w' => r = .returned (.bool true) ∧ St β [] w' := by
 refine enter (n := 157) Try.func12 rfl Try.ntmps12 rfl ?_ hw
 refine csr ?_
 refine lv (v := .bool false) e_assign ?_
 refine lnc ?_
 refine lv (v := .agg #[.slice none 0 0, .slice none 0 0, .slice none 0 0, .int .i64 (-1)]) (e_build tf106 tf105 (vs := [(3, .int .i64 (-1))]) (cells := #[.slice none 0 0, .slice none 0 0, .slice none 0 0, .int .i64 (-1)]) rfl rfl) ?_
 refine l_mv rfl rfl rfl (m_box (v := .agg #[.slice none 0 0, .slice none 0 0, .slice none 0 0, .int .i64 (-1)]) rfl) ?_
 rintro _ _ ⟨b1, rfl, rfl⟩
 refine lv (v := pp b1 0) e_assign ?_
 refine lnf ?_
 refine c_seq ?_
 refine c_emp (r := row (.slice none 0 0) 5 1 0 (BX [])) (row_nil _ _ _) ?_
 refine c_emp (r := row (.slice none 0 0) 5 1 0 (BX [])) (row_nil _ _ _) ?_
 refine c_emp (r := row (.slice none 0 0) 5 1 0 (BX [])) (row_nil _ _ _) ?_
 refine c_pi [3, 0, 1, 2] 4 rfl (by kernel_rfl) ?_
 refine c_closeStore (S := b1) (k := aK0) (pH := none) (pA := none) (pB := none) (cH := 0) (cA := 0) (cB := 0) (M := ([])) (by rfl) ?_
 refine c_region ?_
 refine lv (v := pp b1 0) e_move ?_
 refine l_call rfl rfl rfl (cl0 (vs := [pp b1 0]) tf104 rfl rfl) ?_
 intro w hw
 replace hw := hw.perm (L' := _ :: []) (by exact (perm_front 0 rfl))
 obtain ⟨β1, sb, kn, hw1, back⟩ := St.frame (L := [_]) (M := []) hw
 refine (open_ok β1 w b1 aK0 (by decide +kernel) (by decide) aI0 (by decide +kernel) (by decide +kernel) hw1).mono ?_
 rintro e w' ⟨J2, rfl, hw'⟩
 refine ⟨_, rfl, _, back _ _ hw', ?_⟩
 clear hw hw1 hw' back kn sb
 refine lv (v := .tuple #[pp J2 0, .int .i64 (0)]) e_move ?_
 refine lv (v := pp J2 0) (e_extract (vs := #[pp J2 0, .int .i64 (0)]) rfl rfl) ?_
 refine lv (v := .int .i64 (0)) (e_extract (vs := #[pp J2 0, .int .i64 (0)]) rfl rfl) ?_
 refine lv (v := pp J2 0) e_assign ?_
 refine lv (v := .int .i64 (0)) e_assign ?_
 refine lnf ?_
 refine cs2 ?_
 refine c_region ?_
 refine lv (v := .int .i64 (0)) e_move ?_
 refine lv (v := .bool false) (e_neq (a := (0 : Int)) (b := (0 : Int)) rfl rfl) ?_
 refine lv (v := .bool false) e_move ?_
 refine g_val (v := pp J2 0) rfl rfl rfl rfl rfl e_move ?_
 refine g_val (v := .bool false) rfl rfl rfl rfl rfl (e_eql_pnil (p := some (⟨J2, 0, none⟩)) rfl rfl tf36) ?_
 refine lv (v := .bool false) (e_pick_f rfl) ?_
 refine lnf ?_
 refine c_no rfl ?_
 refine csk ?_
 refine c_seq ?_
 refine c_re (L' := [jourR J2 b1 aI0 false, storeR b1 aK1]) (by rfl) ?_
 refine c_region ?_
 refine lv (v := pp J2 0) e_move ?_
 refine l_mv rfl rfl rfl (m_slices tf12 tf14 (cells := #[.int .u8 (97), .int .u8 (98)]) rfl rfl rfl rfl) ?_
 rintro _ _ ⟨b3, rfl, rfl⟩
 refine l_mv rfl rfl rfl (m_mark 0 rfl rfl tf11 tf8) ?_
 rintro _ _ ⟨rfl, rfl⟩
 refine l_call rfl rfl rfl (cl0 (vs := [pp J2 0, .slice (some ⟨b3, 0, none⟩) 2 2]) tf102 rfl rfl) ?_
 intro w hw
 replace hw := hw.perm (L' := _ :: _ :: _ :: []) (by exact (((perm_front 0 rfl).trans (perm_front 2 rfl)).trans (perm_front 2 rfl)))
 obtain ⟨β1, sb, kn, hw1, back⟩ := St.frame (L := [_, _]) (M := _ :: []) hw
 refine (append_ok β1 w J2 b1 aK1 aI0 [(97 : UInt8), (98 : UInt8)] (by decide) (by decide +kernel) (by decide) (by decide) (by decide) (by decide) (by decide) (by decide +kernel) _ (⟨⟨_, _, rfl, by simp, by simp, kn _ (k_ptE 0 (xs := [(97 : UInt8), (98 : UInt8)]) rfl)⟩⟩ : Sl U8R _ _ _) hw1).mono ?_
 rintro e w' ⟨rfl, hw'⟩
 refine ⟨_, rfl, _, back _ _ hw', ?_⟩
 clear hw hw1 hw' back kn sb
 refine lv (v := .tuple #[Nx (aI0.next), .int .i64 (0)]) e_move ?_
 refine lv (v := Nx (aI0.next)) (e_extract (vs := #[Nx (aI0.next), .int .i64 (0)]) rfl rfl) ?_
 refine lv (v := .int .i64 (0)) (e_extract (vs := #[Nx (aI0.next), .int .i64 (0)]) rfl rfl) ?_
 refine lv (v := Nx (aI0.next)) e_assign ?_
 refine lv (v := .int .i64 (0)) e_assign ?_
 refine lnf ?_
 refine cs2 ?_
 refine c_re (L' := [jourR J2 b1 aI2 false, storeR b1 aK2, pt b3 (.cells #[.int .u8 (97), .int .u8 (98)] 5 (2, 2 + 1))]) (by rfl) ?_
 have hla : aK2.a.length = 26 := by decide +kernel
 refine c_pi [1, 0, 2] 3 rfl (by kernel_rfl) ?_
 refine c_openStore rfl (fun pH4 pA5 pB6 cH7 cA8 cB9 => ?_)
 refine c_rowcap 1 rfl (fun hcl10 hcm11 => ?_)
 refine c_rowcap 2 rfl (fun hcl12 hcm13 => ?_)
 refine c_rowcap 3 rfl (fun hcl14 hcm15 => ?_)
 refine c_region ?_
 refine lv (v := .int .i64 (0)) e_move ?_
 refine lv (v := .bool false) (e_neq (a := (0 : Int)) (b := (0 : Int)) rfl rfl) ?_
 refine lv (v := .bool false) e_move ?_
 refine g_val (v := Nx (aI0.next)) rfl rfl rfl rfl rfl e_move ?_
 refine g_val rfl rfl rfl rfl rfl (e_neq (a := ((aI0.next : Nat) : Int)) (b := (0 : Int)) rfl rfl) ?_
 refine lv (v := .bool (decide (((aI0.next : Nat) : Int) ≠ (0 : Int)))) (e_pick_f rfl) ?_
 refine lv (v := .bool (decide (((aI0.next : Nat) : Int) ≠ (0 : Int)))) e_move ?_
 refine l_split (s := 33) (p := ((aI0.next : Nat) : Int) ≠ (0 : Int)) rfl (fun h => ?_) (fun h => ?_)
 exact absurd h (Decidable.not_not.2 (by decide))
 refine g_val (v := pp b1 0) rfl rfl rfl rfl rfl e_move ?_
 refine g_val (v := pp b1 0) rfl rfl rfl rfl rfl (e_nil (a := ⟨b1, 0, none⟩) rfl) ?_
 refine g_val (v := pp b1 1) rfl rfl rfl rfl rfl (e_fieldPt rfl tf22) ?_
 refine g_val (v := sB pA5 aK2.a cA8) rfl rfl rfl rfl rfl (e_load1 tf21 rfl (k_pt 0 rfl rfl)) ?_
 refine g_val (v := Nx ((aK2.a).length)) rfl rfl rfl rfl rfl (e_len (a := pA5) (n := (aK2.a).length) (c := cA8) rfl tf11) ?_
 refine g_val rfl rfl rfl rfl rfl (e_neq (a := (((aK2.a).length : Nat) : Int)) (b := (26 : Int)) rfl rfl) ?_
 refine lv (v := .bool (decide ((((aK2.a).length : Nat) : Int) ≠ (26 : Int)))) (e_pick_f rfl) ?_
 refine lv (v := .bool (decide ((((aK2.a).length : Nat) : Int) ≠ (26 : Int)))) e_move ?_
 refine l_split (s := 41) (p := (((aK2.a).length : Nat) : Int) ≠ (26 : Int)) rfl (fun h => ?_) (fun h => ?_)
 exact absurd h (by omega)
 refine g_val (v := pp b1 0) rfl rfl rfl rfl rfl e_move ?_
 refine g_val (v := pp b1 0) rfl rfl rfl rfl rfl (e_nil (a := ⟨b1, 0, none⟩) rfl) ?_
 refine g_val (v := pp b1 1) rfl rfl rfl rfl rfl (e_fieldPt rfl tf22) ?_
 refine g_val (v := sB pA5 aK2.a cA8) rfl rfl rfl rfl rfl (e_load1 tf21 rfl (k_pt 0 rfl rfl)) ?_
 refine g_val (v := .slice pA5 (18) cA8) rfl rfl rfl rfl rfl (e_slice_hi (a := pA5) (len := (aK2.a).length) (cap := cA8) (h := 18) tf12 rfl rfl (by omega)) ?_
 refine g_val (v := .string (str (aK2.a.take 18))) rfl rfl rfl rfl rfl (e_bytesStr (a := pA5) (bs := (aK2.a.take 18)) (m := 18) (c := cA8) rfl (by first | rfl | simp) tf11 tf8 tf7 (Knows.imp (k_rowE 2 rfl) fun _ h => Elems.take _ h)) ?_
 refine g_val (v := .bool (decide ((str (aK2.a.take 18)) ≠ (⟨#[0, 0, 0, 2, 255, 255, 255, 253, 0, 0, 0, 0, 0, 0, 0, 0, 97, 98]⟩)))) rfl rfl rfl rfl rfl (e_neq_s (a := (str (aK2.a.take 18))) (b := (⟨#[0, 0, 0, 2, 255, 255, 255, 253, 0, 0, 0, 0, 0, 0, 0, 0, 97, 98]⟩)) rfl rfl) ?_
 refine lv (v := .bool (decide ((str (aK2.a.take 18)) ≠ (⟨#[0, 0, 0, 2, 255, 255, 255, 253, 0, 0, 0, 0, 0, 0, 0, 0, 97, 98]⟩)))) (e_pick_f rfl) ?_
 refine lnf ?_
 refine c_if ((str (aK2.a.take 18)) ≠ (⟨#[0, 0, 0, 2, 255, 255, 255, 253, 0, 0, 0, 0, 0, 0, 0, 0, 97, 98]⟩)) rfl (fun hc16 => ?_) (fun hc16 => ?_)
 ·exact absurd hc16 (Decidable.not_not.2 (by decide +kernel))
 refine csk ?_
 refine cs2 ?_
 refine c_pi [0, 1, 2, 3, 4, 5] 6 rfl (by kernel_rfl) ?_
 refine c_closeStore (S := b1) (k := aK2) (pH := pH4) (pA := pA5) (pB := pB6) (cH := cH7) (cA := cA8) (cB := cB9) (M := (jourR J2 b1 aI2 false :: pt b3 (.cells #[.int .u8 (97), .int .u8 (98)] 5 (2, 2 + 1)) :: [])) rfl ?_
 have hlb : aK3.b.length = 25 := by decide +kernel
 have hlh : aK3.head.length = 32 := by decide +kernel
 refine c_region ?_
 refine lv (v := pp J2 0) e_move ?_
 refine l_mv rfl rfl rfl (m_slices tf12 tf14 (cells := #[.int .u8 (115)]) rfl rfl rfl rfl) ?_
 rintro _ _ ⟨b17, rfl, rfl⟩
 refine l_mv rfl rfl rfl (m_mark 0 rfl rfl tf11 tf8) ?_
 rintro _ _ ⟨rfl, rfl⟩
 refine l_call rfl rfl rfl (cl0 (vs := [pp J2 0, .slice (some ⟨b17, 0, none⟩) 1 1]) tf103 rfl rfl) ?_
 intro w hw
 replace hw := hw.perm (L' := _ :: _ :: _ :: _ :: []) (by exact ((((perm_front 3 rfl).trans (perm_front 1 rfl)).trans (perm_front 2 rfl)).trans (perm_front 3 rfl)))
 obtain ⟨β1, sb, kn, hw1, back⟩ := St.frame (L := [_, _]) (M := _ :: _ :: []) hw
 refine (checkp_ok β1 w J2 b1 aK2 aI2 [(115 : UInt8)] (by decide) (by decide +kernel) (by decide) (by decide +kernel) _ (⟨⟨_, _, rfl, by simp, by simp, kn _ (k_ptE 0 (xs := [(115 : UInt8)]) rfl)⟩⟩ : Sl U8R _ _ _) hw1).mono ?_
 rintro e w' ⟨rfl, hw'⟩
 refine ⟨_, rfl, _, back _ _ hw', ?_⟩
 clear hw hw1 hw' back kn sb
 refine l_re (L' := [jourR J2 b1 aI3 false, storeR b1 aK3, pt b17 (.cells #[.int .u8 (115)] 5 (1, 1 + 1)), pt b3 (.cells #[.int .u8 (97), .int .u8 (98)] 5 (2, 2 + 1))]) (by rfl) ?_
 refine l_perm (L' := [storeR b1 aK3, jourR J2 b1 aI3 false, pt b17 (.cells #[.int .u8 (115)] 5 (1, 1 + 1)), pt b3 (.cells #[.int .u8 (97), .int .u8 (98)] 5 (2, 2 + 1))]) (by exact (perm_ix [1, 0, 2, 3] 4 rfl (by kernel_rfl) (by kernel_rfl))) ?_
 refine l_openStore rfl (fun pH18 pA19 pB20 cH21 cA22 cB23 => ?_)
 refine lv (v := .bool false) (e_neq (a := (0 : Int)) (b := (0 : Int)) rfl rfl) ?_
 refine lv (v := .bool false) e_move ?_
 refine g_val (v := pp b1 0) rfl rfl rfl rfl rfl e_move ?_
 refine g_val (v := pp b1 0) rfl rfl rfl rfl rfl (e_nil (a := ⟨b1, 0, none⟩) rfl) ?_
 refine g_val (v := pp b1 2) rfl rfl rfl rfl rfl (e_fieldPt rfl tf23) ?_
 refine g_val (v := sB pB20 aK3.b cB23) rfl rfl rfl rfl rfl (e_load1 tf21 rfl (k_pt 0 rfl rfl)) ?_
 refine g_val (v := Nx ((aK3.b).length)) rfl rfl rfl rfl rfl (e_len (a := pB20) (n := (aK3.b).length) (c := cB23) rfl tf11) ?_
 refine g_val rfl rfl rfl rfl rfl (e_neq (a := (((aK3.b).length : Nat) : Int)) (b := (25 : Int)) rfl rfl) ?_
 refine lv (v := .bool (decide ((((aK3.b).length : Nat) : Int) ≠ (25 : Int)))) (e_pick_f rfl) ?_
 refine lv (v := .bool (decide ((((aK3.b).length : Nat) : Int) ≠ (25 : Int)))) e_move ?_
 refine l_split (s := 63) (p := (((aK3.b).length : Nat) : Int) ≠ (25 : Int)) rfl (fun h => ?_) (fun h => ?_)
 exact absurd h (by omega)
 refine g_val (v := pp b1 0) rfl rfl rfl rfl rfl e_move ?_
 refine g_val (v := pp b1 0) rfl rfl rfl rfl rfl (e_nil (a := ⟨b1, 0, none⟩) rfl) ?_
 refine g_val (v := pp b1 2) rfl rfl rfl rfl rfl (e_fieldPt rfl tf23) ?_
 refine g_val (v := sB pB20 aK3.b cB23) rfl rfl rfl rfl rfl (e_load1 tf21 rfl (k_pt 0 rfl rfl)) ?_
 refine g_val (v := .pointer (some ((ba pB20).add (15 * 1)))) rfl rfl rfl rfl rfl (e_indexRow 3 (j := 15) (len := (aK3.b).length) (cap := cB23) (p := pB20) rfl rfl tf12 (by omega) (by omega) rfl) ?_
 obtain ⟨c24, hc25⟩ : ∃ c, aK3.b[15]? = some c := ⟨_, List.getElem?_eq_getElem (by omega)⟩
 refine g_val (v := Bx (c24)) rfl rfl rfl rfl rfl (e_load1 tf13 rfl (k_row 3 (o := 15 * 1) (us := [Bx (c24)]) rfl (bx_at hc25) (Nat.succ_pos _))) ?_
 refine g_val rfl rfl rfl rfl rfl (e_neq (a := ((c24).toNat : Int)) (b := (1 : Int)) rfl rfl) ?_
 refine lv (v := .bool (decide (((c24).toNat : Int) ≠ (1 : Int)))) (e_pick_f rfl) ?_
 refine lv (v := .bool (decide (((c24).toNat : Int) ≠ (1 : Int)))) e_move ?_
 refine l_split (s := 72) (p := ((c24).toNat : Int) ≠ (1 : Int)) rfl (fun h => ?_) (fun h => ?_)
 exact absurd h (Decidable.not_not.2 (awb hc25 (by decide +kernel)))
 refine g_val (v := pp b1 0) rfl rfl rfl rfl rfl e_move ?_
 refine g_val (v := pp b1 0) rfl rfl rfl rfl rfl (e_nil (a := ⟨b1, 0, none⟩) rfl) ?_
 refine g_val (v := pp b1 0) rfl rfl rfl rfl rfl (e_fieldPt rfl tf20) ?_
 refine g_val (v := sB pH18 aK3.head cH21) rfl rfl rfl rfl rfl (e_load1 tf21 rfl (k_pt 0 rfl rfl)) ?_
 refine g_val (v := Nx ((aK3.head).length)) rfl rfl rfl rfl rfl (e_len (a := pH18) (n := (aK3.head).length) (c := cH21) rfl tf11) ?_
 refine g_val rfl rfl rfl rfl rfl (e_neq (a := (((aK3.head).length : Nat) : Int)) (b := (32 : Int)) rfl rfl) ?_
 refine lv (v := .bool (decide ((((aK3.head).length : Nat) : Int) ≠ (32 : Int)))) (e_pick_f rfl) ?_
 refine lv (v := .bool (decide ((((aK3.head).length : Nat) : Int) ≠ (32 : Int)))) e_move ?_
 refine l_split (s := 80) (p := (((aK3.head).length : Nat) : Int) ≠ (32 : Int)) rfl (fun h => ?_) (fun h => ?_)
 exact absurd h (by omega)
 refine g_val (v := pp b1 0) rfl rfl rfl rfl rfl e_move ?_
 refine g_val (v := pp b1 0) rfl rfl rfl rfl rfl (e_nil (a := ⟨b1, 0, none⟩) rfl) ?_
 refine g_val (v := pp b1 0) rfl rfl rfl rfl rfl (e_fieldPt rfl tf20) ?_
 refine g_val (v := sB pH18 aK3.head cH21) rfl rfl rfl rfl rfl (e_load1 tf21 rfl (k_pt 0 rfl rfl)) ?_
 refine g_val (v := .pointer (some ((ba pH18).add (23 * 1)))) rfl rfl rfl rfl rfl (e_indexRow 1 (j := 23) (len := (aK3.head).length) (cap := cH21) (p := pH18) rfl rfl tf12 (by omega) (by omega) rfl) ?_
 obtain ⟨c26, hc27⟩ : ∃ c, aK3.head[23]? = some c := ⟨_, List.getElem?_eq_getElem (by omega)⟩
 refine g_val (v := Bx (c26)) rfl rfl rfl rfl rfl (e_load1 tf13 rfl (k_row 1 (o := 23 * 1) (us := [Bx (c26)]) rfl (bx_at hc27) (Nat.succ_pos _))) ?_
 refine g_val rfl rfl rfl rfl rfl (e_neq (a := ((c26).toNat : Int)) (b := (1 : Int)) rfl rfl) ?_
 refine lv (v := .bool (decide (((c26).toNat : Int) ≠ (1 : Int)))) (e_pick_f rfl) ?_
 refine lv (v := .bool (decide (((c26).toNat : Int) ≠ (1 : Int)))) e_move ?_
 refine l_split (s := 89) (p := ((c26).toNat : Int) ≠ (1 : Int)) rfl (fun h => ?_) (fun h => ?_)
 exact absurd h (Decidable.not_not.2 (awb hc27 (by decide +kernel)))
 refine g_val (v := pp J2 0) rfl rfl rfl rfl rfl e_move ?_
 refine g_call rfl rfl rfl rfl rfl (cl0 (vs := [pp J2 0]) tf90 rfl rfl) ?_
 intro w hw
 obtain ⟨β1, sb, kn, hw1, back⟩ := St.frame_all hw
 refine (next_ok β1 w hw1 J2 b1 aI3 false (kn _ (Knows.of_res 4 rfl (JF.mono _ _ _ _) fun _ h => jour_jf h))).mono ?_
 rintro e w' ⟨rfl, hw'⟩
 refine ⟨_, rfl, _, back _ _ hw', ?_⟩
 clear hw hw1 hw' back kn sb
 refine g_val rfl rfl rfl rfl rfl (e_neq (a := ((aI3.next : Nat) : Int)) (b := (1 : Int)) rfl rfl) ?_
 refine lv (v := .bool (decide (((aI3.next : Nat) : Int) ≠ (1 : Int)))) (e_pick_f rfl) ?_
 refine lv (v := .bool (decide (((aI3.next : Nat) : Int) ≠ (1 : Int)))) e_move ?_
 refine l_split (s := 94) (p := ((aI3.next : Nat) : Int) ≠ (1 : Int)) rfl (fun h => ?_) (fun h => ?_)
 exact absurd h (Decidable.not_not.2 (by decide))
 refine g_val (v := pp J2 0) rfl rfl rfl rfl rfl e_move ?_
 refine g_call rfl rfl rfl rfl rfl (cl0 (vs := [pp J2 0]) tf88 rfl rfl) ?_
 intro w hw
 obtain ⟨β1, sb, kn, hw1, back⟩ := St.frame_all hw
 refine (epochm_ok β1 w hw1 J2 b1 aI3 false (kn _ (Knows.of_res 4 rfl (JF.mono _ _ _ _) fun _ h => jour_jf h))).mono ?_
 rintro e w' ⟨rfl, hw'⟩
 refine ⟨_, rfl, _, back _ _ hw', ?_⟩
 clear hw hw1 hw' back kn sb
 refine g_val rfl rfl rfl rfl rfl (e_neq (a := ((aI3.epoch : Nat) : Int)) (b := (1 : Int)) rfl rfl) ?_
 refine lv (v := .bool (decide (((aI3.epoch : Nat) : Int) ≠ (1 : Int)))) (e_pick_f rfl) ?_
 refine lnf ?_
 refine c_if (((aI3.epoch : Nat) : Int) ≠ (1 : Int)) rfl (fun hc28 => ?_) (fun hc28 => ?_)
 ·exact absurd hc28 (Decidable.not_not.2 (by decide))
 refine csk ?_
 refine csr ?_
 refine lv (v := .agg #[.slice none 0 0, .slice none 0 0, .slice none 0 0, .int .i64 (10)]) (e_build tf106 tf105 (vs := [(3, .int .i64 (10))]) (cells := #[.slice none 0 0, .slice none 0 0, .slice none 0 0, .int .i64 (10)]) rfl rfl) ?_
 refine l_mv rfl rfl rfl (m_box (v := .agg #[.slice none 0 0, .slice none 0 0, .slice none 0 0, .int .i64 (10)]) rfl) ?_
 rintro _ _ ⟨b29, rfl, rfl⟩
 refine lv (v := pp b29 0) e_assign ?_
 refine lnf ?_
 refine c_seq ?_
 refine c_emp (r := row (.slice none 0 0) 5 1 0 (BX [])) (row_nil _ _ _) ?_
 refine c_emp (r := row (.slice none 0 0) 5 1 0 (BX [])) (row_nil _ _ _) ?_
 refine c_emp (r := row (.slice none 0 0) 5 1 0 (BX [])) (row_nil _ _ _) ?_
 refine c_pi [3, 0, 1, 2, 4, 5, 6, 7, 8, 9, 10] 11 rfl (by kernel_rfl) ?_
 refine c_closeStore (S := b29) (k := aT0) (pH := none) (pA := none) (pB := none) (cH := 0) (cA := 0) (cB := 0) (M := (pt b1 (.cells #[sB pH18 aK3.head cH21, sB pA19 aK3.a cA22, sB pB20 aK3.b cB23, Ix (aK3.power)] 32) :: rB pH18 aK3.head cH21 :: rB pA19 aK3.a cA22 :: rB pB20 aK3.b cB23 :: jourR J2 b1 aI3 false :: pt b17 (.cells #[.int .u8 (115)] 5 (1, 1 + 1)) :: pt b3 (.cells #[.int .u8 (97), .int .u8 (98)] 5 (2, 2 + 1)) :: [])) (by rfl) ?_
 refine c_region ?_
 refine lv (v := pp b29 0) e_move ?_
 refine l_call rfl rfl rfl (cl0 (vs := [pp b29 0]) tf104 rfl rfl) ?_
 intro w hw
 replace hw := hw.perm (L' := _ :: _ :: _ :: _ :: _ :: _ :: _ :: _ :: []) (by exact ((((((((perm_front 7 rfl).trans (perm_front 7 rfl)).trans (perm_front 7 rfl)).trans (perm_front 7 rfl)).trans (perm_front 7 rfl)).trans (perm_front 7 rfl)).trans (perm_front 7 rfl)).trans (perm_front 7 rfl)))
 obtain ⟨β1, sb, kn, hw1, back⟩ := St.frame (L := [_]) (M := _ :: _ :: _ :: _ :: _ :: _ :: _ :: []) hw
 refine (open_ok β1 w b29 aT0 (by decide +kernel) (by decide) aI0 (by decide +kernel) (by decide +kernel) hw1).mono ?_
 rintro e w' ⟨J30, rfl, hw'⟩
 refine ⟨_, rfl, _, back _ _ hw', ?_⟩
 clear hw hw1 hw' back kn sb
 refine lv (v := .tuple #[pp J30 0, .int .i64 (0)]) e_move ?_
 refine lv (v := pp J30 0) (e_extract (vs := #[pp J30 0, .int .i64 (0)]) rfl rfl) ?_
 refine lv (v := .int .i64 (0)) (e_extract (vs := #[pp J30 0, .int .i64 (0)]) rfl rfl) ?_
 refine lv (v := pp J30 0) e_assign ?_
 refine lv (v := .int .i64 (0)) e_assign ?_
 refine lnf ?_
 refine cs2 ?_
 refine c_region ?_
 refine lv (v := .int .i64 (0)) e_move ?_
 refine lv (v := .bool false) (e_neq (a := (0 : Int)) (b := (0 : Int)) rfl rfl) ?_
 refine lnf ?_
 refine c_no rfl ?_
 refine csk ?_
 refine c_seq ?_
 refine c_re (L' := [jourR J30 b29 aI0 false, storeR b29 aT1, pt b1 (.cells #[sB pH18 aK3.head cH21, sB pA19 aK3.a cA22, sB pB20 aK3.b cB23, Ix (aK3.power)] 32), rB pH18 aK3.head cH21, rB pA19 aK3.a cA22, rB pB20 aK3.b cB23, jourR J2 b1 aI3 false, pt b17 (.cells #[.int .u8 (115)] 5 (1, 1 + 1)), pt b3 (.cells #[.int .u8 (97), .int .u8 (98)] 5 (2, 2 + 1))]) (by rfl) ?_
 refine c_region ?_
 refine lv (v := pp J30 0) e_move ?_
 refine l_mv rfl rfl rfl (m_slices tf12 tf14 (cells := #[.int .u8 (97), .int .u8 (98)]) rfl rfl rfl rfl) ?_
 rintro _ _ ⟨b31, rfl, rfl⟩
 refine l_mv rfl rfl rfl (m_mark 0 rfl rfl tf11 tf8) ?_
 rintro _ _ ⟨rfl, rfl⟩
 refine l_call rfl rfl rfl (cl0 (vs := [pp J30 0, .slice (some ⟨b31, 0, none⟩) 2 2]) tf102 rfl rfl) ?_
 intro w hw
 replace hw := hw.perm (L' := _ :: _ :: _ :: _ :: _ :: _ :: _ :: _ :: _ :: _ :: []) (by exact ((((((((((perm_front 9 rfl).trans (perm_front 9 rfl)).trans (perm_front 9 rfl)).trans (perm_front 9 rfl)).trans (perm_front 9 rfl)).trans (perm_front 9 rfl)).trans (perm_front 9 rfl)).trans (perm_front 7 rfl)).trans (perm_front 9 rfl)).trans (perm_front 9 rfl)))
 obtain ⟨β1, sb, kn, hw1, back⟩ := St.frame (L := [_, _]) (M := _ :: _ :: _ :: _ :: _ :: _ :: _ :: _ :: []) hw
 refine (append_fail β1 w J30 b29 aT1 aI0 [(97 : UInt8), (98 : UInt8)] (by decide) (by decide +kernel) (by decide) (by decide) (by decide) (by decide) (by decide) (by decide +kernel) _ (⟨⟨_, _, rfl, by simp, by simp, kn _ (k_ptE 0 (xs := [(97 : UInt8), (98 : UInt8)]) rfl)⟩⟩ : Sl U8R _ _ _) hw1).mono ?_
 rintro e w' ⟨rfl, hw'⟩
 refine ⟨_, rfl, _, back _ _ hw', ?_⟩
 clear hw hw1 hw' back kn sb
 refine lv (v := .tuple #[.int .i64 (0), .int .i64 (310)]) e_move ?_
 refine lv (v := .int .i64 (0)) (e_extract (vs := #[.int .i64 (0), .int .i64 (310)]) rfl rfl) ?_
 refine lv (v := .int .i64 (310)) (e_extract (vs := #[.int .i64 (0), .int .i64 (310)]) rfl rfl) ?_
 refine lv (v := .int .i64 (310)) e_assign ?_
 refine lnf ?_
 refine cs2 ?_
 refine c_re (L' := [jourR J30 b29 aI0 true, storeR b29 aT2, pt b31 (.cells #[.int .u8 (97), .int .u8 (98)] 5 (2, 2 + 1)), pt b1 (.cells #[sB pH18 aK3.head cH21, sB pA19 aK3.a cA22, sB pB20 aK3.b cB23, Ix (aK3.power)] 32), rB pH18 aK3.head cH21, rB pA19 aK3.a cA22, rB pB20 aK3.b cB23, jourR J2 b1 aI3 false, pt b17 (.cells #[.int .u8 (115)] 5 (1, 1 + 1)), pt b3 (.cells #[.int .u8 (97), .int .u8 (98)] 5 (2, 2 + 1))]) (by rfl) ?_
 have hlt : aT2.a.length = 10 := by decide +kernel
 refine c_pi [1, 0, 2, 3, 4, 5, 6, 7, 8, 9] 10 rfl (by kernel_rfl) ?_
 refine c_openStore rfl (fun pH32 pA33 pB34 cH35 cA36 cB37 => ?_)
 refine c_rowcap 1 rfl (fun hcl38 hcm39 => ?_)
 refine c_rowcap 2 rfl (fun hcl40 hcm41 => ?_)
 refine c_rowcap 3 rfl (fun hcl42 hcm43 => ?_)
 refine c_region ?_
 refine lv (v := .int .i64 (310)) e_move ?_
 refine lv (v := .bool false) (e_neq (a := (310 : Int)) (b := (310 : Int)) rfl rfl) ?_
 refine lv (v := .bool false) e_move ?_
 refine g_val (v := pp b29 0) rfl rfl rfl rfl rfl e_move ?_
 refine g_val (v := pp b29 0) rfl rfl rfl rfl rfl (e_nil (a := ⟨b29, 0, none⟩) rfl) ?_
 refine g_val (v := pp b29 1) rfl rfl rfl rfl rfl (e_fieldPt rfl tf22) ?_
 refine g_val (v := sB pA33 aT2.a cA36) rfl rfl rfl rfl rfl (e_load1 tf21 rfl (k_pt 0 rfl rfl)) ?_
 refine g_val (v := Nx ((aT2.a).length)) rfl rfl rfl rfl rfl (e_len (a := pA33) (n := (aT2.a).length) (c := cA36) rfl tf11) ?_
 refine g_val rfl rfl rfl rfl rfl (e_neq (a := (((aT2.a).length : Nat) : Int)) (b := (10 : Int)) rfl rfl) ?_
 refine lv (v := .bool (decide ((((aT2.a).length : Nat) : Int) ≠ (10 : Int)))) (e_pick_f rfl) ?_
 refine lnf ?_
 refine c_if ((((aT2.a).length : Nat) : Int) ≠ (10 : Int)) rfl (fun hc44 => ?_) (fun hc44 => ?_)
 ·exact absurd hc44 (by omega)
 refine csk ?_
 refine cs2 ?_
 refine c_pi [0, 1, 2, 3, 4, 5, 6, 7, 8, 9, 10, 11, 12] 13 rfl (by kernel_rfl) ?_
 refine c_closeStore (S := b29) (k := aT2) (pH := pH32) (pA := pA33) (pB := pB34) (cH := cH35) (cA := cA36) (cB := cB37) (M := (jourR J30 b29 aI0 true :: pt b31 (.cells #[.int .u8 (97), .int .u8 (98)] 5 (2, 2 + 1)) :: pt b1 (.cells #[sB pH18 aK3.head cH21, sB pA19 aK3.a cA22, sB pB20 aK3.b cB23, Ix (aK3.power)] 32) :: rB pH18 aK3.head cH21 :: rB pA19 aK3.a cA22 :: rB pB20 aK3.b cB23 :: jourR J2 b1 aI3 false :: pt b17 (.cells #[.int .u8 (115)] 5 (1, 1 + 1)) :: pt b3 (.cells #[.int .u8 (97), .int .u8 (98)] 5 (2, 2 + 1)) :: [])) rfl ?_
 refine c_region ?_
 refine lv (v := pp b29 0) e_move ?_
 refine l_call rfl rfl rfl (cl0 (vs := [pp b29 0]) tf104 rfl rfl) ?_
 intro w hw
 replace hw := hw.perm (L' := _ :: _ :: _ :: _ :: _ :: _ :: _ :: _ :: _ :: _ :: []) (by exact ((((((((((perm_front 9 rfl).trans (perm_front 9 rfl)).trans (perm_front 9 rfl)).trans (perm_front 9 rfl)).trans (perm_front 9 rfl)).trans (perm_front 9 rfl)).trans (perm_front 9 rfl)).trans (perm_front 9 rfl)).trans (perm_front 9 rfl)).trans (perm_front 9 rfl)))
 obtain ⟨β1, sb, kn, hw1, back⟩ := St.frame (L := [_]) (M := _ :: _ :: _ :: _ :: _ :: _ :: _ :: _ :: _ :: []) hw
 refine (open_pow β1 w b29 aT2 (by decide +kernel) (by decide +kernel) aI0 (by decide +kernel) (by decide +kernel) hw1).mono ?_
 rintro e w' ⟨rfl, hw'⟩
 refine ⟨_, rfl, _, back _ _ hw', ?_⟩
 clear hw hw1 hw' back kn sb
 refine lv (v := .tuple #[.pointer none, .int .i64 (310)]) e_move ?_
 refine lv (v := .pointer none) (e_extract (vs := #[.pointer none, .int .i64 (310)]) rfl rfl) ?_
 refine lv (v := .int .i64 (310)) (e_extract (vs := #[.pointer none, .int .i64 (310)]) rfl rfl) ?_
 refine lv (v := .int .i64 (310)) e_assign ?_
 refine lnc ?_
 refine lv (v := .int .i64 (310)) e_move ?_
 refine lv (v := .bool false) (e_neq (a := (310 : Int)) (b := (310 : Int)) rfl rfl) ?_
 refine lnf ?_
 refine c_no rfl ?_
 refine csk ?_
 refine c_seq ?_
 refine c_pi [0, 1, 2, 3, 4, 5, 6, 7, 8, 9] 10 rfl (by kernel_rfl) ?_
 refine c_openStore rfl (fun pH45 pA46 pB47 cH48 cA49 cB50 => ?_)
 refine c_rowcap 1 rfl (fun hcl51 hcm52 => ?_)
 refine c_rowcap 2 rfl (fun hcl53 hcm54 => ?_)
 refine c_rowcap 3 rfl (fun hcl55 hcm56 => ?_)
 refine c_region ?_
 refine lv (v := pp b29 0) e_move ?_
 refine lv (v := pp b29 0) (e_nil (a := ⟨b29, 0, none⟩) rfl) ?_
 refine lv (v := pp b29 3) (e_fieldPt rfl tf24) ?_
 refine lu (m_store 0 tf25 (cs' := #[sB pH45 aT2.head cH48, sB pA46 aT2.a cA49, sB pB47 aT2.b cB50, .int .i64 (1)]) rfl rfl rfl rfl rfl rfl rfl) ?_
 refine lnf ?_
 refine c_seq ?_
 refine c_pi [0, 1, 2, 3, 4, 5, 6, 7, 8, 9, 10, 11, 12] 13 rfl (by kernel_rfl) ?_
 refine c_closeStore (S := b29) (k := aT3) (pH := pH45) (pA := pA46) (pB := pB47) (cH := cH48) (cA := cA49) (cB := cB50) (M := (jourR J30 b29 aI0 true :: pt b31 (.cells #[.int .u8 (97), .int .u8 (98)] 5 (2, 2 + 1)) :: pt b1 (.cells #[sB pH18 aK3.head cH21, sB pA19 aK3.a cA22, sB pB20 aK3.b cB23, Ix (aK3.power)] 32) :: rB pH18 aK3.head cH21 :: rB pA19 aK3.a cA22 :: rB pB20 aK3.b cB23 :: jourR J2 b1 aI3 false :: pt b17 (.cells #[.int .u8 (115)] 5 (1, 1 + 1)) :: pt b3 (.cells #[.int .u8 (97), .int .u8 (98)] 5 (2, 2 + 1)) :: [])) rfl ?_
 refine c_region ?_
 refine lv (v := pp b29 0) e_move ?_
 refine l_call rfl rfl rfl (cl0 (vs := [pp b29 0]) tf104 rfl rfl) ?_
 intro w hw
 replace hw := hw.perm (L' := _ :: _ :: _ :: _ :: _ :: _ :: _ :: _ :: _ :: _ :: []) (by exact ((((((((((perm_front 9 rfl).trans (perm_front 9 rfl)).trans (perm_front 9 rfl)).trans (perm_front 9 rfl)).trans (perm_front 9 rfl)).trans (perm_front 9 rfl)).trans (perm_front 9 rfl)).trans (perm_front 9 rfl)).trans (perm_front 9 rfl)).trans (perm_front 9 rfl)))
 obtain ⟨β1, sb, kn, hw1, back⟩ := St.frame (L := [_]) (M := _ :: _ :: _ :: _ :: _ :: _ :: _ :: _ :: _ :: []) hw
 refine (open_ok β1 w b29 aT3 (by decide +kernel) (by decide +kernel) aI0 (by decide +kernel) (by decide +kernel) hw1).mono ?_
 rintro e w' ⟨J57, rfl, hw'⟩
 refine ⟨_, rfl, _, back _ _ hw', ?_⟩
 clear hw hw1 hw' back kn sb
 refine lv (v := .tuple #[pp J57 0, .int .i64 (0)]) e_move ?_
 refine lv (v := pp J57 0) (e_extract (vs := #[pp J57 0, .int .i64 (0)]) rfl rfl) ?_
 refine lv (v := .int .i64 (0)) (e_extract (vs := #[pp J57 0, .int .i64 (0)]) rfl rfl) ?_
 refine lv (v := .int .i64 (0)) e_assign ?_
 refine lnf ?_
 refine c_seq ?_
 refine c_re (L' := [jourR J57 b29 aI0 false, storeR b29 aT4, jourR J30 b29 aI0 true, pt b31 (.cells #[.int .u8 (97), .int .u8 (98)] 5 (2, 2 + 1)), pt b1 (.cells #[sB pH18 aK3.head cH21, sB pA19 aK3.a cA22, sB pB20 aK3.b cB23, Ix (aK3.power)] 32), rB pH18 aK3.head cH21, rB pA19 aK3.a cA22, rB pB20 aK3.b cB23, jourR J2 b1 aI3 false, pt b17 (.cells #[.int .u8 (115)] 5 (1, 1 + 1)), pt b3 (.cells #[.int .u8 (97), .int .u8 (98)] 5 (2, 2 + 1))]) (by rfl) ?_
 have hl4 : aT4.a.length = 0 := by decide +kernel
 have hp4 : aT4.power = 0 := by decide +kernel
 refine c_pi [1, 0, 2, 3, 4, 5, 6, 7, 8, 9, 10] 11 rfl (by kernel_rfl) ?_
 refine c_openStore rfl (fun pH58 pA59 pB60 cH61 cA62 cB63 => ?_)
 refine c_rowcap 1 rfl (fun hcl64 hcm65 => ?_)
 refine c_rowcap 2 rfl (fun hcl66 hcm67 => ?_)
 refine c_rowcap 3 rfl (fun hcl68 hcm69 => ?_)
 refine c_region ?_
 refine lv (v := .int .i64 (0)) e_move ?_
 refine lv (v := .bool true) (e_eql (a := (0 : Int)) (b := (0 : Int)) rfl rfl) ?_
 refine lv (v := .bool true) e_move ?_
 refine g_val (v := pp b29 0) rfl rfl rfl rfl rfl e_move ?_
 refine g_val (v := pp b29 0) rfl rfl rfl rfl rfl (e_nil (a := ⟨b29, 0, none⟩) rfl) ?_
 refine g_val (v := pp b29 1) rfl rfl rfl rfl rfl (e_fieldPt rfl tf22) ?_
 refine g_val (v := sB pA59 aT4.a cA62) rfl rfl rfl rfl rfl (e_load1 tf21 rfl (k_pt 0 rfl rfl)) ?_
 refine g_val (v := Nx ((aT4.a).length)) rfl rfl rfl rfl rfl (e_len (a := pA59) (n := (aT4.a).length) (c := cA62) rfl tf11) ?_
 refine g_val rfl rfl rfl rfl rfl (e_eql (a := (((aT4.a).length : Nat) : Int)) (b := (0 : Int)) rfl rfl) ?_
 refine lv (v := .bool (decide ((((aT4.a).length : Nat) : Int) = (0 : Int)))) (e_pick_t rfl) ?_
 refine lv (v := .bool (decide ((((aT4.a).length : Nat) : Int) = (0 : Int)))) e_move ?_
 refine l_split (s := 150) (p := (((aT4.a).length : Nat) : Int) = (0 : Int)) rfl (fun h => ?_) (fun h => ?_)
 rotate_left; exact absurd (by omega) h
 refine g_val (v := pp b29 0) rfl rfl rfl rfl rfl e_move ?_
 refine g_val (v := pp b29 0) rfl rfl rfl rfl rfl (e_nil (a := ⟨b29, 0, none⟩) rfl) ?_
 refine g_val (v := pp b29 3) rfl rfl rfl rfl rfl (e_fieldPt rfl tf24) ?_
 refine g_val (v := Ix (aT4.power)) rfl rfl rfl rfl rfl (e_load1 tf25 rfl (k_pt 0 rfl rfl)) ?_
 refine g_val rfl rfl rfl rfl rfl (e_eql (a := (aT4.power)) (b := (0 : Int)) rfl rfl) ?_
 refine lv (v := .bool (decide ((aT4.power) = (0 : Int)))) (e_pick_t rfl) ?_
 refine lv (v := .bool (decide ((aT4.power) = (0 : Int)))) e_assign ?_
 refine lnf ?_
 refine c_ret ?_
 refine ret1 Try.results12 (v := .bool (decide ((aT4.power) = (0 : Int)))) rfl ?_
 intro w hw
 exact ⟨by rw [hp4]; rfl, st_mask [false, false, false, false, false, false, false, false, false, false, false, false, false, false] rfl hw⟩
end Go.Proofs
