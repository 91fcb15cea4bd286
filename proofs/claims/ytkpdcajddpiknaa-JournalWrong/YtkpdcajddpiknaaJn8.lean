/-
 Steps of a script, and what a Journal is held against, walked. Printed by a program of my own.
-/
import Derived.Test.YtkpdcajddpiknaaJn7
namespace Go.Proofs
open Go Go.Sl Go.Jn
theorem tf88 : cfB Try.prog 41 = true := by kernel_rfl
theorem tf90 : cfB Try.prog 19 = true := by kernel_rfl
theorem tf92 : cfB Try.prog 42 = true := by kernel_rfl
theorem tf94 : cfB Try.prog 43 = true := by kernel_rfl
theorem tf102 : cfB Try.prog 17 = true := by kernel_rfl
theorem tf103 : cfB Try.prog 20 = true := by kernel_rfl
theorem tf104 : cfB Try.prog 40 = true := by kernel_rfl
theorem again_ok (β : Base) (w : World) (S : Nat) (k : KS) (hok : (powS k).okP) (i : KI) (hri : readI k = some i) (hw : St β [storeR S k] w) : Calls Try.prog 16 #[.pointer (some ⟨S, 0, none⟩)] w fun r w' => ∃ J, r = .returned (.tuple #[.pointer (some ⟨J, 0, none⟩), .bool true]) ∧ St β [jourR J S i false, storeR S (cutS (powS k) i.epoch i.size)] w' := by
 refine enter (n := 21) Try.func16 rfl Try.ntmps16 rfl ?_ hw
 refine c_seq ?_
 refine c_region ?_
 refine l_val (v := .pointer none) rfl rfl rfl (e_assign) ?_
 refine l_val (v := .bool false) rfl rfl rfl (e_assign) ?_
 refine l_nil ?_
 refine f_then ?_
 refine c_seq ?_
 refine c_perm (L' := [storeR S k]) (by exact (perm_front 0 rfl)) ?_
 refine c_openStore rfl (fun pH1 pA2 pB3 cH4 cA5 cB6 => ?_)
 refine c_region ?_
 refine l_val (v := .pointer (some ⟨S, 0, none⟩)) rfl rfl rfl (e_move) ?_
 refine l_val (v := .pointer (some ⟨S, 0, none⟩)) rfl rfl rfl (e_nil (a := ⟨S, 0, none⟩) rfl) ?_
 refine l_val (v := .pointer (some ⟨S, 3, none⟩)) rfl rfl rfl (e_fieldPt (b := S) (o := 0) rfl tf24) ?_
 refine l_mu rfl rfl (m_store 0 tf25 (b := S) (o := 3) (T := 32) (cs := #[.slice pH1 (k.head).length cH4, .slice pA2 (k.a).length cA5, .slice pB3 (k.b).length cB6, Ix (k.power)]) (cs' := #[.slice pH1 (k.head).length cH4, .slice pA2 (k.a).length cA5, .slice pB3 (k.b).length cB6, .int .i64 (-1)]) (v := .int .i64 (-1)) rfl rfl rfl rfl rfl rfl rfl) ?_
 refine l_nil ?_
 refine f_then ?_
 refine c_seq ?_
 refine c_perm (L' := [pt S (.cells #[.slice pH1 (k.head).length cH4, .slice pA2 (k.a).length cA5, .slice pB3 (k.b).length cB6, .int .i64 (-1)] 32), row (.slice pH1 (k.head).length cH4) 5 1 ((k.head).length) (BX k.head), row (.slice pA2 (k.a).length cA5) 5 1 ((k.a).length) (BX k.a), row (.slice pB3 (k.b).length cB6) 5 1 ((k.b).length) (BX k.b)]) (by exact ((((perm_front 3 rfl).trans (perm_front 3 rfl)).trans (perm_front 3 rfl)).trans (perm_front 3 rfl))) ?_
 refine c_closeStore (S := S) (k := (powS k)) (pH := pH1) (pA := pA2) (pB := pB3) (cH := cH4) (cA := cA5) (cB := cB6) (M := ([])) rfl ?_
 refine c_region ?_
 refine l_val (v := .pointer (some ⟨S, 0, none⟩)) rfl rfl rfl (e_move) ?_
 refine l_call rfl rfl rfl (cl_value (fst := []) (cap := []) (vs := [.pointer (some ⟨S, 0, none⟩)]) (all := [.pointer (some ⟨S, 0, none⟩)]) tf104 rfl rfl rfl) ?_
 intro w hw
 replace hw := hw.perm (L' := _ :: []) (by exact (perm_front 0 rfl))
 obtain ⟨β1, sb, kn, hw1, back⟩ := St.frame (L := [_]) (M := []) hw
 refine (open_ok β1 w S (powS k) hok (show (-1 : Int) ≤ _ by decide) i hri (.inr (show (-1 : Int) ≠ 0 by decide)) hw1).mono ?_
 rintro e w' ⟨J7, rfl, hw'⟩
 refine ⟨_, rfl, _, back _ _ hw', ?_⟩
 clear hw hw1 hw' back kn sb
 refine l_val (v := .tuple #[.pointer (some ⟨J7, 0, none⟩), .int .i64 (0)]) rfl rfl rfl (e_move) ?_
 refine l_val (v := .pointer (some ⟨J7, 0, none⟩)) rfl rfl rfl (e_extract (vs := #[.pointer (some ⟨J7, 0, none⟩), .int .i64 (0)]) rfl rfl) ?_
 refine l_val (v := .int .i64 (0)) rfl rfl rfl (e_extract (vs := #[.pointer (some ⟨J7, 0, none⟩), .int .i64 (0)]) rfl rfl) ?_
 refine l_val (v := .pointer (some ⟨J7, 0, none⟩)) rfl rfl rfl (e_assign) ?_
 refine l_val (v := .int .i64 (0)) rfl rfl rfl (e_assign) ?_
 refine l_nil ?_
 refine f_then ?_
 refine c_seq ?_
 refine c_region ?_
 refine l_val (v := .pointer (some ⟨J7, 0, none⟩)) rfl rfl rfl (e_move) ?_
 refine l_val (v := .int .i64 (0)) rfl rfl rfl (e_move) ?_
 refine l_val (v := .bool true) rfl rfl rfl (e_eql (a := (0 : Int)) (b := (0 : Int)) rfl rfl) ?_
 refine l_val (v := .bool true) rfl rfl rfl (e_move) ?_
 refine g_val (v := .pointer (some ⟨J7, 0, none⟩)) rfl rfl rfl rfl rfl (e_move) ?_
 refine g_val (v := .bool true) rfl rfl rfl rfl rfl (e_neq_pnil (p := some (⟨J7, 0, none⟩)) rfl rfl tf36) ?_
 refine l_val (v := .bool true) rfl rfl rfl (e_pick_t rfl) ?_
 refine l_val (v := .pointer (some ⟨J7, 0, none⟩)) rfl rfl rfl (e_assign) ?_
 refine l_val (v := .bool true) rfl rfl rfl (e_assign) ?_
 refine l_nil ?_
 refine f_then ?_
 refine c_ret ?_
 refine ret2 (v := .pointer (some ⟨J7, 0, none⟩)) (v' := .bool true) Try.results16 rfl rfl ?_
 intro w hw
 exact ⟨_, rfl, st_mask [true, true] rfl (hw.perm (L' := [jourR J7 S i false, storeR S (cutS (powS k) i.epoch i.size)]) (by exact ((perm_front 1 rfl).trans (perm_front 1 rfl))))⟩
end Go.Proofs
