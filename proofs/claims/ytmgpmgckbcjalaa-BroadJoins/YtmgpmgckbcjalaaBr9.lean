/-
  Forms, lists, filled spaces, differences of lists: walked. Printed by a program of my own.
-/
import Derived.Test.YtmgpmgckbcjalaaBr8
import Derived.Test.YtmgpmgckbcjalaaBrLaw
namespace Go.Brd
def pickI (x : Int) : Int := if Int.tmod x 801 < 0 then Int.tmod x 801 + 801 else Int.tmod x 801
theorem tmod_lo (x : Int) : -801 < Int.tmod x 801 := Int.lt_tmod_of_pos x (by decide)
theorem tmod_hi (x : Int) : Int.tmod x 801 < 801 := Int.tmod_lt_of_pos x (by decide)
theorem pick_eq {x y : Int} (h : (Int.tmod x 801 < 0 ∧ y = Int.tmod x 801 + 801) ∨ (¬ Int.tmod x 801 < 0 ∧ y = Int.tmod x 801)) : y = pickI x := by unfold pickI; split <;> omega
end Go.Brd
namespace Go.Proofs
open Go Go.Sl Go.Brd
theorem tf86 : fldB Try.prog 43 0 0 1 false = true := by kernel_rfl
theorem tf87 : tyB Try.prog 5 false 1 = true := by kernel_rfl
theorem tf88 : Try.prog.underlying 5 = some (.int .u8) := by kernel_rfl
theorem tf89 : Try.prog.underlying 3 = some (.int .i64) := by kernel_rfl
theorem tf90 : fldB Try.prog 43 1 1 1 false = true := by kernel_rfl
theorem tf91 : fldB Try.prog 43 2 2 1 false = true := by kernel_rfl
theorem tf92 : fldB Try.prog 43 3 3 1 false = true := by kernel_rfl
theorem tf95 : tyB Try.prog 43 true 4 = true := by kernel_rfl
theorem tf96 : cfB Try.prog 17 = true := by kernel_rfl
theorem made_ok (β : Base) (w : World) (hw : St β [] w) (f : KF) : Calls Try.prog 17 #[.agg #[Bx (f.x), Bx (f.y), Bx (f.w), Bx (f.h)]] w fun r w' => r = .returned (.agg (aC (madeA f))) ∧ St β [] w' := by
  have hfw := u8_lt f.w
  have hfh := u8_lt f.h
  refine enter (n := 32) Try.func17 rfl Try.ntmps17 rfl ?_ hw
  refine c_seq ?_
  refine c_region ?_
  refine l_mv rfl rfl rfl (m_box (v := .agg #[Bx (f.x), Bx (f.y), Bx (f.w), Bx (f.h)]) rfl) ?_
  rintro _ _ ⟨b1, rfl, rfl⟩
  refine l_mv rfl rfl rfl (m_alloc tf6) ?_
  rintro _ _ ⟨b2, rfl, rfl⟩
  refine l_nil ?_
  refine f_then ?_
  refine c_seq ?_
  refine c_region ?_
  refine l_val (v := .pointer (some ⟨b1, 0, none⟩)) rfl rfl rfl (e_fieldPt (b := b1) (o := 0) rfl tf86) ?_
  refine l_val (v := Bx (f.x)) rfl rfl rfl (e_load1 tf87 (v := Bx (f.x)) rfl (k_pt 1 (cs := #[Bx (f.x), Bx (f.y), Bx (f.w), Bx (f.h)]) (vs := [Bx (f.x)]) rfl rfl)) ?_
  refine l_val (v := Nx (f.x.toNat)) rfl rfl rfl (e_conv (a := ((f.x).toNat : Int)) rfl ⟨_, tf88⟩ tf89 (i64n rfl (by have := (f.x).toNat_lt; omega))) ?_
  refine l_val (v := Nx (f.x.toNat % 128)) rfl rfl rfl (e_rem (a := ((f.x.toNat : Nat) : Int)) (b := (128 : Int)) rfl rfl (by decide) (nat_tmod _ 128)) ?_
  refine l_val (v := Ix (((f.x.toNat % 128 : Nat) : Int) - (64 : Int))) rfl rfl rfl (e_sub (a := ((f.x.toNat % 128 : Nat) : Int)) (b := (64 : Int)) rfl rfl (i64w (by omega))) ?_
  refine l_val (v := .pointer (some ⟨b1, 1, none⟩)) rfl rfl rfl (e_fieldPt (b := b1) (o := 0) rfl tf90) ?_
  refine l_val (v := Bx (f.y)) rfl rfl rfl (e_load1 tf87 (v := Bx (f.y)) rfl (k_pt 1 (cs := #[Bx (f.x), Bx (f.y), Bx (f.w), Bx (f.h)]) (vs := [Bx (f.y)]) rfl rfl)) ?_
  refine l_val (v := Nx (f.y.toNat)) rfl rfl rfl (e_conv (a := ((f.y).toNat : Int)) rfl ⟨_, tf88⟩ tf89 (i64n rfl (by have := (f.y).toNat_lt; omega))) ?_
  refine l_val (v := Nx (f.y.toNat % 128)) rfl rfl rfl (e_rem (a := ((f.y.toNat : Nat) : Int)) (b := (128 : Int)) rfl rfl (by decide) (nat_tmod _ 128)) ?_
  refine l_val (v := Ix (((f.y.toNat % 128 : Nat) : Int) - (64 : Int))) rfl rfl rfl (e_sub (a := ((f.y.toNat % 128 : Nat) : Int)) (b := (64 : Int)) rfl rfl (i64w (by omega))) ?_
  refine l_val (v := .pointer (some ⟨b1, 0, none⟩)) rfl rfl rfl (e_fieldPt (b := b1) (o := 0) rfl tf86) ?_
  refine l_val (v := Bx (f.x)) rfl rfl rfl (e_load1 tf87 (v := Bx (f.x)) rfl (k_pt 1 (cs := #[Bx (f.x), Bx (f.y), Bx (f.w), Bx (f.h)]) (vs := [Bx (f.x)]) rfl rfl)) ?_
  refine l_val (v := Nx (f.x.toNat)) rfl rfl rfl (e_conv (a := ((f.x).toNat : Int)) rfl ⟨_, tf88⟩ tf89 (i64n rfl (by have := (f.x).toNat_lt; omega))) ?_
  refine l_val (v := Nx (f.x.toNat % 128)) rfl rfl rfl (e_rem (a := ((f.x.toNat : Nat) : Int)) (b := (128 : Int)) rfl rfl (by decide) (nat_tmod _ 128)) ?_
  refine l_val (v := Ix (((f.x.toNat % 128 : Nat) : Int) - (64 : Int))) rfl rfl rfl (e_sub (a := ((f.x.toNat % 128 : Nat) : Int)) (b := (64 : Int)) rfl rfl (i64w (by omega))) ?_
  refine l_val (v := .pointer (some ⟨b1, 2, none⟩)) rfl rfl rfl (e_fieldPt (b := b1) (o := 0) rfl tf91) ?_
  refine l_val (v := Bx (f.w)) rfl rfl rfl (e_load1 tf87 (v := Bx (f.w)) rfl (k_pt 1 (cs := #[Bx (f.x), Bx (f.y), Bx (f.w), Bx (f.h)]) (vs := [Bx (f.w)]) rfl rfl)) ?_
  refine l_val (v := Nx (f.w.toNat)) rfl rfl rfl (e_conv (a := ((f.w).toNat : Int)) rfl ⟨_, tf88⟩ tf89 (i64n rfl (by have := (f.w).toNat_lt; omega))) ?_
  refine l_val (v := Ix ((((f.x.toNat % 128 : Nat) : Int) - (64 : Int)) + ((f.w.toNat : Nat) : Int))) rfl rfl rfl (e_add (a := (((f.x.toNat % 128 : Nat) : Int) - (64 : Int))) (b := ((f.w.toNat : Nat) : Int)) rfl rfl (i64w (by omega))) ?_
  refine l_val (v := .pointer (some ⟨b1, 1, none⟩)) rfl rfl rfl (e_fieldPt (b := b1) (o := 0) rfl tf90) ?_
  refine l_val (v := Bx (f.y)) rfl rfl rfl (e_load1 tf87 (v := Bx (f.y)) rfl (k_pt 1 (cs := #[Bx (f.x), Bx (f.y), Bx (f.w), Bx (f.h)]) (vs := [Bx (f.y)]) rfl rfl)) ?_
  refine l_val (v := Nx (f.y.toNat)) rfl rfl rfl (e_conv (a := ((f.y).toNat : Int)) rfl ⟨_, tf88⟩ tf89 (i64n rfl (by have := (f.y).toNat_lt; omega))) ?_
  refine l_val (v := Nx (f.y.toNat % 128)) rfl rfl rfl (e_rem (a := ((f.y.toNat : Nat) : Int)) (b := (128 : Int)) rfl rfl (by decide) (nat_tmod _ 128)) ?_
  refine l_val (v := Ix (((f.y.toNat % 128 : Nat) : Int) - (64 : Int))) rfl rfl rfl (e_sub (a := ((f.y.toNat % 128 : Nat) : Int)) (b := (64 : Int)) rfl rfl (i64w (by omega))) ?_
  refine l_val (v := .pointer (some ⟨b1, 3, none⟩)) rfl rfl rfl (e_fieldPt (b := b1) (o := 0) rfl tf92) ?_
  refine l_val (v := Bx (f.h)) rfl rfl rfl (e_load1 tf87 (v := Bx (f.h)) rfl (k_pt 1 (cs := #[Bx (f.x), Bx (f.y), Bx (f.w), Bx (f.h)]) (vs := [Bx (f.h)]) rfl rfl)) ?_
  refine l_val (v := Nx (f.h.toNat)) rfl rfl rfl (e_conv (a := ((f.h).toNat : Int)) rfl ⟨_, tf88⟩ tf89 (i64n rfl (by have := (f.h).toNat_lt; omega))) ?_
  refine l_val (v := Ix ((((f.y.toNat % 128 : Nat) : Int) - (64 : Int)) + ((f.h.toNat : Nat) : Int))) rfl rfl rfl (e_add (a := (((f.y.toNat % 128 : Nat) : Int) - (64 : Int))) (b := ((f.h.toNat : Nat) : Int)) rfl rfl (i64w (by omega))) ?_
  refine l_call rfl rfl rfl (cl_value (fst := []) (cap := []) (vs := [Ix (((f.x.toNat % 128 : Nat) : Int) - (64 : Int)), Ix (((f.y.toNat % 128 : Nat) : Int) - (64 : Int)), Ix ((((f.x.toNat % 128 : Nat) : Int) - (64 : Int)) + ((f.w.toNat : Nat) : Int)), Ix ((((f.y.toNat % 128 : Nat) : Int) - (64 : Int)) + ((f.h.toNat : Nat) : Int))]) (all := [Ix (((f.x.toNat % 128 : Nat) : Int) - (64 : Int)), Ix (((f.y.toNat % 128 : Nat) : Int) - (64 : Int)), Ix ((((f.x.toNat % 128 : Nat) : Int) - (64 : Int)) + ((f.w.toNat : Nat) : Int)), Ix ((((f.y.toNat % 128 : Nat) : Int) - (64 : Int)) + ((f.h.toNat : Nat) : Int))]) tf71 rfl rfl rfl) ?_
  intro w hw
  obtain ⟨β1, sb, kn, hw1, back⟩ := St.frame_all hw
  refine (area_ok β1 w hw1 (((f.x.toNat % 128 : Nat) : Int) - (64 : Int)) (((f.y.toNat % 128 : Nat) : Int) - (64 : Int)) ((((f.x.toNat % 128 : Nat) : Int) - (64 : Int)) + ((f.w.toNat : Nat) : Int)) ((((f.y.toNat % 128 : Nat) : Int) - (64 : Int)) + ((f.h.toNat : Nat) : Int))).mono ?_
  rintro e w' ⟨rfl, hw'⟩
  refine ⟨_, rfl, _, back _ _ hw', ?_⟩
  clear hw hw1 hw' back kn sb
  refine l_mu rfl rfl (m_store 0 tf10 (b := b2) (o := 0) (T := 25) (cs := #[.int .i64 (0), .int .i64 (0), .int .i64 (0), .int .i64 (0)]) (cs' := #[Ix (((f.x.toNat % 128 : Nat) : Int) - (64 : Int)), Ix (((f.y.toNat % 128 : Nat) : Int) - (64 : Int)), Ix ((((f.x.toNat % 128 : Nat) : Int) - (64 : Int)) + ((f.w.toNat : Nat) : Int)), Ix ((((f.y.toNat % 128 : Nat) : Int) - (64 : Int)) + ((f.h.toNat : Nat) : Int))]) (v := .agg #[Ix (((f.x.toNat % 128 : Nat) : Int) - (64 : Int)), Ix (((f.y.toNat % 128 : Nat) : Int) - (64 : Int)), Ix ((((f.x.toNat % 128 : Nat) : Int) - (64 : Int)) + ((f.w.toNat : Nat) : Int)), Ix ((((f.y.toNat % 128 : Nat) : Int) - (64 : Int)) + ((f.h.toNat : Nat) : Int))]) rfl rfl rfl rfl rfl rfl rfl) ?_
  refine l_nil ?_
  refine f_then ?_
  refine c_ret ?_
  refine retG (l := [.cell 2 25]) (m := [.agg #[Ix (((f.x.toNat % 128 : Nat) : Int) - (64 : Int)), Ix (((f.y.toNat % 128 : Nat) : Int) - (64 : Int)), Ix ((((f.x.toNat % 128 : Nat) : Int) - (64 : Int)) + ((f.w.toNat : Nat) : Int)), Ix ((((f.y.toNat % 128 : Nat) : Int) - (64 : Int)) + ((f.h.toNat : Nat) : Int))]]) (v := .agg #[Ix (((f.x.toNat % 128 : Nat) : Int) - (64 : Int)), Ix (((f.y.toNat % 128 : Nat) : Int) - (64 : Int)), Ix ((((f.x.toNat % 128 : Nat) : Int) - (64 : Int)) + ((f.w.toNat : Nat) : Int)), Ix ((((f.y.toNat % 128 : Nat) : Int) - (64 : Int)) + ((f.h.toNat : Nat) : Int))]) Try.results17 ⟨rd_cell tf10 (cs := [Ix (((f.x.toNat % 128 : Nat) : Int) - (64 : Int)), Ix (((f.y.toNat % 128 : Nat) : Int) - (64 : Int)), Ix ((((f.x.toNat % 128 : Nat) : Int) - (64 : Int)) + ((f.w.toNat : Nat) : Int)), Ix ((((f.y.toNat % 128 : Nat) : Int) - (64 : Int)) + ((f.h.toNat : Nat) : Int))]) rfl (k_pt 0 (cs := #[Ix (((f.x.toNat % 128 : Nat) : Int) - (64 : Int)), Ix (((f.y.toNat % 128 : Nat) : Int) - (64 : Int)), Ix ((((f.x.toNat % 128 : Nat) : Int) - (64 : Int)) + ((f.w.toNat : Nat) : Int)), Ix ((((f.y.toNat % 128 : Nat) : Int) - (64 : Int)) + ((f.h.toNat : Nat) : Int))]) (vs := [Ix (((f.x.toNat % 128 : Nat) : Int) - (64 : Int)), Ix (((f.y.toNat % 128 : Nat) : Int) - (64 : Int)), Ix ((((f.x.toNat % 128 : Nat) : Int) - (64 : Int)) + ((f.w.toNat : Nat) : Int)), Ix ((((f.y.toNat % 128 : Nat) : Int) - (64 : Int)) + ((f.h.toNat : Nat) : Int))]) rfl rfl) rfl, trivial⟩ rfl ?_
  intro w hw
  exact ⟨rfl, st_mask [false, false] rfl hw⟩
set_option maxHeartbeats 4000000 in
theorem touch_ok (β : Base) (w : World) (hw : St β [] w) (a b : KA) : Calls Try.prog 16 #[.agg (aC a), .agg (aC b)] w fun r w' => r = .returned (.bool (decide (touchA a b))) ∧ St β [] w' := by
  refine enter (n := 39) Try.func16 rfl Try.ntmps16 rfl ?_ hw
  refine c_seq ?_
  refine c_region ?_
  refine l_mv rfl rfl rfl (m_box (v := .agg (aC a)) rfl) ?_
  rintro _ _ ⟨b1, rfl, rfl⟩
  refine l_mv rfl rfl rfl (m_box (v := .agg (aC b)) rfl) ?_
  rintro _ _ ⟨b2, rfl, rfl⟩
  refine l_val (v := .bool false) rfl rfl rfl (e_assign) ?_
  refine l_nil ?_
  refine f_then ?_
  refine c_seq ?_
  refine c_region ?_
  refine l_val (v := .pointer (some ⟨b1, 0, none⟩)) rfl rfl rfl (e_fieldPt (b := b1) (o := 0) rfl tf0) ?_
  refine l_val (v := .pointer (some ⟨b1, 0, none⟩)) rfl rfl rfl (e_fieldPt (b := b1) (o := 0) rfl tf1) ?_
  refine l_val (v := Ix (a.lx)) rfl rfl rfl (e_load1 tf2 (v := Ix (a.lx)) rfl (k_pt 1 (cs := (aC a)) (vs := [Ix (a.lx)]) rfl rfl)) ?_
  refine l_val (v := .pointer (some ⟨b2, 2, none⟩)) rfl rfl rfl (e_fieldPt (b := b2) (o := 0) rfl tf3) ?_
  refine l_val (v := .pointer (some ⟨b2, 2, none⟩)) rfl rfl rfl (e_fieldPt (b := b2) (o := 2) rfl tf1) ?_
  refine l_val (v := Ix (b.hx)) rfl rfl rfl (e_load1 tf2 (v := Ix (b.hx)) rfl (k_pt 0 (cs := (aC b)) (vs := [Ix (b.hx)]) rfl rfl)) ?_
  refine l_val (v := .bool (decide ((a.lx) ≤ (b.hx)))) rfl rfl rfl (e_leq (a := (a.lx)) (b := (b.hx)) rfl rfl) ?_
  refine l_val (v := .bool (decide ((a.lx) ≤ (b.hx)))) rfl rfl rfl (e_move) ?_
  refine l_split (s := 12) (p := (a.lx) ≤ (b.hx)) rfl (fun hg3 => ?_) (fun hg3 => ?_)
  ·
    refine g_val (v := .pointer (some ⟨b2, 0, none⟩)) rfl rfl rfl rfl rfl (e_fieldPt (b := b2) (o := 0) rfl tf0) ?_
    refine g_val (v := .pointer (some ⟨b2, 0, none⟩)) rfl rfl rfl rfl rfl (e_fieldPt (b := b2) (o := 0) rfl tf1) ?_
    refine g_val (v := Ix (b.lx)) rfl rfl rfl rfl rfl (e_load1 tf2 (v := Ix (b.lx)) rfl (k_pt 0 (cs := (aC b)) (vs := [Ix (b.lx)]) rfl rfl)) ?_
    refine g_val (v := .pointer (some ⟨b1, 2, none⟩)) rfl rfl rfl rfl rfl (e_fieldPt (b := b1) (o := 0) rfl tf3) ?_
    refine g_val (v := .pointer (some ⟨b1, 2, none⟩)) rfl rfl rfl rfl rfl (e_fieldPt (b := b1) (o := 2) rfl tf1) ?_
    refine g_val (v := Ix (a.hx)) rfl rfl rfl rfl rfl (e_load1 tf2 (v := Ix (a.hx)) rfl (k_pt 1 (cs := (aC a)) (vs := [Ix (a.hx)]) rfl rfl)) ?_
    refine g_val (v := .bool (decide ((b.lx) ≤ (a.hx)))) rfl rfl rfl rfl rfl (e_leq (a := (b.lx)) (b := (a.hx)) rfl rfl) ?_
    refine l_val (v := .bool (decide ((b.lx) ≤ (a.hx)))) rfl rfl rfl (e_pick_t rfl) ?_
    refine l_val (v := .bool (decide ((b.lx) ≤ (a.hx)))) rfl rfl rfl (e_move) ?_
    refine l_split (s := 21) (p := (b.lx) ≤ (a.hx)) rfl (fun hg4 => ?_) (fun hg4 => ?_)
    ·
      refine g_val (v := .pointer (some ⟨b1, 0, none⟩)) rfl rfl rfl rfl rfl (e_fieldPt (b := b1) (o := 0) rfl tf0) ?_
      refine g_val (v := .pointer (some ⟨b1, 1, none⟩)) rfl rfl rfl rfl rfl (e_fieldPt (b := b1) (o := 0) rfl tf5) ?_
      refine g_val (v := Ix (a.ly)) rfl rfl rfl rfl rfl (e_load1 tf2 (v := Ix (a.ly)) rfl (k_pt 1 (cs := (aC a)) (vs := [Ix (a.ly)]) rfl rfl)) ?_
      refine g_val (v := .pointer (some ⟨b2, 2, none⟩)) rfl rfl rfl rfl rfl (e_fieldPt (b := b2) (o := 0) rfl tf3) ?_
      refine g_val (v := .pointer (some ⟨b2, 3, none⟩)) rfl rfl rfl rfl rfl (e_fieldPt (b := b2) (o := 2) rfl tf5) ?_
      refine g_val (v := Ix (b.hy)) rfl rfl rfl rfl rfl (e_load1 tf2 (v := Ix (b.hy)) rfl (k_pt 0 (cs := (aC b)) (vs := [Ix (b.hy)]) rfl rfl)) ?_
      refine g_val (v := .bool (decide ((a.ly) ≤ (b.hy)))) rfl rfl rfl rfl rfl (e_leq (a := (a.ly)) (b := (b.hy)) rfl rfl) ?_
      refine l_val (v := .bool (decide ((a.ly) ≤ (b.hy)))) rfl rfl rfl (e_pick_t rfl) ?_
      refine l_val (v := .bool (decide ((a.ly) ≤ (b.hy)))) rfl rfl rfl (e_move) ?_
      refine l_split (s := 30) (p := (a.ly) ≤ (b.hy)) rfl (fun hg5 => ?_) (fun hg5 => ?_)
      ·
        refine g_val (v := .pointer (some ⟨b2, 0, none⟩)) rfl rfl rfl rfl rfl (e_fieldPt (b := b2) (o := 0) rfl tf0) ?_
        refine g_val (v := .pointer (some ⟨b2, 1, none⟩)) rfl rfl rfl rfl rfl (e_fieldPt (b := b2) (o := 0) rfl tf5) ?_
        refine g_val (v := Ix (b.ly)) rfl rfl rfl rfl rfl (e_load1 tf2 (v := Ix (b.ly)) rfl (k_pt 0 (cs := (aC b)) (vs := [Ix (b.ly)]) rfl rfl)) ?_
        refine g_val (v := .pointer (some ⟨b1, 2, none⟩)) rfl rfl rfl rfl rfl (e_fieldPt (b := b1) (o := 0) rfl tf3) ?_
        refine g_val (v := .pointer (some ⟨b1, 3, none⟩)) rfl rfl rfl rfl rfl (e_fieldPt (b := b1) (o := 2) rfl tf5) ?_
        refine g_val (v := Ix (a.hy)) rfl rfl rfl rfl rfl (e_load1 tf2 (v := Ix (a.hy)) rfl (k_pt 1 (cs := (aC a)) (vs := [Ix (a.hy)]) rfl rfl)) ?_
        refine g_val (v := .bool (decide ((b.ly) ≤ (a.hy)))) rfl rfl rfl rfl rfl (e_leq (a := (b.ly)) (b := (a.hy)) rfl rfl) ?_
        refine l_val (v := .bool (decide ((b.ly) ≤ (a.hy)))) rfl rfl rfl (e_pick_t rfl) ?_
        refine l_val (v := .bool (decide ((b.ly) ≤ (a.hy)))) rfl rfl rfl (e_assign) ?_
        refine l_nil ?_
        refine f_then ?_
        refine c_ret ?_
        refine ret1 Try.results16 (v := .bool (decide ((b.ly) ≤ (a.hy)))) rfl ?_
        intro w hw
        exact ⟨congrArg (fun b : Bool => Ending.returned (.bool b)) (decide_eq_decide.2 ⟨fun q => by unfold touchA; omega, fun q => by unfold touchA at q; omega⟩), st_mask [false, false] rfl hw⟩
      ·
        refine l_skip rfl rfl rfl rfl rfl rfl ?_
        refine l_skip rfl rfl rfl rfl rfl rfl ?_
        refine l_skip rfl rfl rfl rfl rfl rfl ?_
        refine l_skip rfl rfl rfl rfl rfl rfl ?_
        refine l_skip rfl rfl rfl rfl rfl rfl ?_
        refine l_skip rfl rfl rfl rfl rfl rfl ?_
        refine l_skip rfl rfl rfl rfl rfl rfl ?_
        refine l_val (v := .bool false) rfl rfl rfl (e_pick_f rfl) ?_
        refine l_val (v := .bool false) rfl rfl rfl (e_assign) ?_
        refine l_nil ?_
        refine f_then ?_
        refine c_ret ?_
        refine ret1 Try.results16 (v := .bool false) rfl ?_
        intro w hw
        exact ⟨congrArg (fun b : Bool => Ending.returned (.bool b)) ((decide_eq_false (fun q => by unfold touchA at q; omega)).symm), st_mask [false, false] rfl hw⟩
    ·
      refine l_skip rfl rfl rfl rfl rfl rfl ?_
      refine l_skip rfl rfl rfl rfl rfl rfl ?_
      refine l_skip rfl rfl rfl rfl rfl rfl ?_
      refine l_skip rfl rfl rfl rfl rfl rfl ?_
      refine l_skip rfl rfl rfl rfl rfl rfl ?_
      refine l_skip rfl rfl rfl rfl rfl rfl ?_
      refine l_skip rfl rfl rfl rfl rfl rfl ?_
      refine l_val (v := .bool false) rfl rfl rfl (e_pick_f rfl) ?_
      refine l_val (v := .bool false) rfl rfl rfl (e_move) ?_
      refine l_skip rfl rfl rfl rfl rfl rfl ?_
      refine l_skip rfl rfl rfl rfl rfl rfl ?_
      refine l_skip rfl rfl rfl rfl rfl rfl ?_
      refine l_skip rfl rfl rfl rfl rfl rfl ?_
      refine l_skip rfl rfl rfl rfl rfl rfl ?_
      refine l_skip rfl rfl rfl rfl rfl rfl ?_
      refine l_skip rfl rfl rfl rfl rfl rfl ?_
      refine l_val (v := .bool false) rfl rfl rfl (e_pick_f rfl) ?_
      refine l_val (v := .bool false) rfl rfl rfl (e_assign) ?_
      refine l_nil ?_
      refine f_then ?_
      refine c_ret ?_
      refine ret1 Try.results16 (v := .bool false) rfl ?_
      intro w hw
      exact ⟨congrArg (fun b : Bool => Ending.returned (.bool b)) ((decide_eq_false (fun q => by unfold touchA at q; omega)).symm), st_mask [false, false] rfl hw⟩
  ·
    refine l_skip rfl rfl rfl rfl rfl rfl ?_
    refine l_skip rfl rfl rfl rfl rfl rfl ?_
    refine l_skip rfl rfl rfl rfl rfl rfl ?_
    refine l_skip rfl rfl rfl rfl rfl rfl ?_
    refine l_skip rfl rfl rfl rfl rfl rfl ?_
    refine l_skip rfl rfl rfl rfl rfl rfl ?_
    refine l_skip rfl rfl rfl rfl rfl rfl ?_
    refine l_val (v := .bool false) rfl rfl rfl (e_pick_f rfl) ?_
    refine l_val (v := .bool false) rfl rfl rfl (e_move) ?_
    refine l_skip rfl rfl rfl rfl rfl rfl ?_
    refine l_skip rfl rfl rfl rfl rfl rfl ?_
    refine l_skip rfl rfl rfl rfl rfl rfl ?_
    refine l_skip rfl rfl rfl rfl rfl rfl ?_
    refine l_skip rfl rfl rfl rfl rfl rfl ?_
    refine l_skip rfl rfl rfl rfl rfl rfl ?_
    refine l_skip rfl rfl rfl rfl rfl rfl ?_
    refine l_val (v := .bool false) rfl rfl rfl (e_pick_f rfl) ?_
    refine l_val (v := .bool false) rfl rfl rfl (e_move) ?_
    refine l_skip rfl rfl rfl rfl rfl rfl ?_
    refine l_skip rfl rfl rfl rfl rfl rfl ?_
    refine l_skip rfl rfl rfl rfl rfl rfl ?_
    refine l_skip rfl rfl rfl rfl rfl rfl ?_
    refine l_skip rfl rfl rfl rfl rfl rfl ?_
    refine l_skip rfl rfl rfl rfl rfl rfl ?_
    refine l_skip rfl rfl rfl rfl rfl rfl ?_
    refine l_val (v := .bool false) rfl rfl rfl (e_pick_f rfl) ?_
    refine l_val (v := .bool false) rfl rfl rfl (e_assign) ?_
    refine l_nil ?_
    refine f_then ?_
    refine c_ret ?_
    refine ret1 Try.results16 (v := .bool false) rfl ?_
    intro w hw
    exact ⟨congrArg (fun b : Bool => Ending.returned (.bool b)) ((decide_eq_false (fun q => by unfold touchA at q; omega)).symm), st_mask [false, false] rfl hw⟩
theorem pick_ok (β : Base) (w : World) (hw : St β [] w) (x : Int) : Calls Try.prog 23 #[Ix x, .int .i64 801] w fun r w' => ∃ y : Int, r = .returned (Ix y) ∧ y = pickI x ∧ 0 ≤ y ∧ y ≤ 800 ∧ St β [] w' := by
  have hx1 := tmod_lo x
  have hx2 := tmod_hi x
  refine enter (n := 16) Try.func23 rfl Try.ntmps23 rfl ?_ hw
  refine c_seq ?_
  refine c_region ?_
  refine l_val (v := .int .i64 (0)) rfl rfl rfl (e_assign) ?_
  refine l_nil ?_
  refine f_then ?_
  refine c_seq ?_
  refine c_seq ?_
  refine c_region ?_
  refine l_val (v := .int .i64 (801)) rfl rfl rfl (e_move) ?_
  refine l_val (v := .bool false) rfl rfl rfl (e_lss (a := (801 : Int)) (b := (1 : Int)) rfl rfl) ?_
  refine l_nil ?_
  refine f_then ?_
  refine c_no rfl ?_
  refine c_skip ?_
  refine f_then ?_
  refine c_seq ?_
  refine c_region ?_
  refine l_val (v := Ix (x)) rfl rfl rfl (e_move) ?_
  refine l_val (v := .int .i64 (801)) rfl rfl rfl (e_move) ?_
  refine l_val (v := Ix (Int.tmod (x) 801)) rfl rfl rfl (e_rem (a := (x)) (b := (801 : Int)) rfl rfl (by decide) rfl) ?_
  refine l_val (v := Ix (Int.tmod (x) 801)) rfl rfl rfl (e_assign) ?_
  refine l_nil ?_
  refine f_then ?_
  refine c_seq ?_
  refine c_seq ?_
  refine c_region ?_
  refine l_val (v := Ix (Int.tmod (x) 801)) rfl rfl rfl (e_move) ?_
  refine l_val (v := .bool (decide ((Int.tmod (x) 801) < (0 : Int)))) rfl rfl rfl (e_lss (a := (Int.tmod (x) 801)) (b := (0 : Int)) rfl rfl) ?_
  refine l_nil ?_
  refine f_then ?_
  refine c_if ((Int.tmod (x) 801) < (0 : Int)) rfl (fun hc1 => ?_) (fun hc1 => ?_)
  ·
    refine c_region ?_
    refine l_val (v := Ix (Int.tmod (x) 801)) rfl rfl rfl (e_move) ?_
    refine l_val (v := .int .i64 (801)) rfl rfl rfl (e_move) ?_
    refine l_val (v := Ix ((Int.tmod (x) 801) + (801 : Int))) rfl rfl rfl (e_add (a := (Int.tmod (x) 801)) (b := (801 : Int)) rfl rfl (i64w (by omega))) ?_
    refine l_val (v := Ix ((Int.tmod (x) 801) + (801 : Int))) rfl rfl rfl (e_assign) ?_
    refine l_nil ?_
    refine f_then ?_
    refine c_seq ?_
    refine c_region ?_
    refine l_val (v := Ix ((Int.tmod (x) 801) + (801 : Int))) rfl rfl rfl (e_move) ?_
    refine l_val (v := Ix ((Int.tmod (x) 801) + (801 : Int))) rfl rfl rfl (e_assign) ?_
    refine l_nil ?_
    refine f_then ?_
    refine c_ret ?_
    refine ret1 Try.results23 (v := Ix ((Int.tmod (x) 801) + (801 : Int))) rfl ?_
    intro w hw
    exact ⟨_, rfl, pick_eq (by omega), by omega, by omega, st_mask [] rfl hw⟩
  ·
    refine c_skip ?_
    refine f_then ?_
    refine c_seq ?_
    refine c_region ?_
    refine l_val (v := Ix (Int.tmod (x) 801)) rfl rfl rfl (e_move) ?_
    refine l_val (v := Ix (Int.tmod (x) 801)) rfl rfl rfl (e_assign) ?_
    refine l_nil ?_
    refine f_then ?_
    refine c_ret ?_
    refine ret1 Try.results23 (v := Ix (Int.tmod (x) 801)) rfl ?_
    intro w hw
    exact ⟨_, rfl, pick_eq (by omega), by omega, by omega, st_mask [] rfl hw⟩
end Go.Proofs
