/-
 The reference's layers 5 and 7,walked. Printed by a program of my own.
-/
import Derived.Test.YtdkibofhppgbjaaGreatDoorSt9
import Derived.Test.YtdkibofhppgbjaaGreatDoorSlB
namespace Go.Proofs
open Go Go.Sl Go.Stp
def fark (x l h : Int) : Int := if x < l then l - x else if h < x then x - h else 0
theorem fark_bd (x l h : Int) (h1 : -4194304 ≤ l - x ∧ l - x ≤ 4194304) (h2 : -4194304 ≤ x - h ∧ x - h ≤ 4194304) : 0 ≤ fark x l h * fark x l h ∧ fark x l h * fark x l h ≤ 17592186044416 := by
 have e : -4194304 ≤ fark x l h ∧ fark x l h ≤ 4194304 := by unfold fark; split <;> (try split) <;> omega
 exact sq_bd (B := 4194304) e.1 e.2
theorem fark_eq {x y w : Int} (hw : 0 ≤ w) : fark y (x - w) (x + w) = max (Stp.abs (x - y) - w) 0 := by unfold fark Stp.abs; split <;> (try split) <;> omega
def far5 (a b : KB) : Int := if a.round = false ∧ b.round = false then max (max (a.x - a.w) (b.x - b.w) - min (a.x + a.w) (b.x + b.w)) (max (a.y - a.h) (b.y - b.h) - min (a.y + a.h) (b.y + b.h)) else Stp.far a b
theorem far5_round {a b : KB} (h : a.round = true ∨ b.round = true) : far5 a b = Stp.far a b := if_neg fun ⟨x, y⟩ => by rcases h with h | h <;> simp_all
theorem far5_comm {a b : KB} (h : a.round = true ∨ b.round = true) : far5 a b = far5 b a := by rw [far5_round h, far5_round h.symm]; exact far_comm a b
theorem far5_neg {a b : KB} (ha : okB a) (hb : okB b) : far5 a b < 0 ↔ Stp.far a b < 0 := by
 by_cases h : a.round = true ∨ b.round = true
 ·rw [far5_round h]
 have h1 : a.round = false := by cases e : a.round with | false => rfl | true => exact absurd (.inl e) h
 have h2 : b.round = false := by cases e : b.round with | false => rfl | true => exact absurd (.inr e) h
 rw [show far5 a b = _ from if_pos ⟨h1,h2⟩]
 have a6 := ha.2.2.2.2.2.1; have a7 := ha.2.2.2.2.2.2.1; have b6 := hb.2.2.2.2.2.1; have b7 := hb.2.2.2.2.2.2.1
 unfold Stp.far
 rw [room_ff h1 h2]
 unfold Stp.abs; omega
theorem sq5_tt {a b : KB} (ha : a.round = true) (hb : b.round = true) (_ : okB a) (_ : okB b) : (a.x - b.x) * (a.x - b.x) + (a.y - b.y) * (a.y - b.y) - (a.w + b.w) * (a.w + b.w) = far5 a b := by
 rw [far5_round (.inl ha)]
 unfold Stp.far
 rw [room_tt ha hb]
 have e : ∀ z : Int,Stp.abs z * Stp.abs z = z * z := fun z => by
  unfold Stp.abs
  by_cases h : 0 ≤ z
  ·rw [show max z (-z) = z by omega]
  ·rw [show max z (-z) = -z by omega,Int.neg_mul_neg]
 rw [e,e]
theorem sq5_ft {a b : KB} (ha : a.round = false) (hb : b.round = true) (h1 : okB a) (_ : okB b) : fark b.x (a.x - a.w) (a.x + a.w) * fark b.x (a.x - a.w) (a.x + a.w) + fark b.y (a.y - a.h) (a.y + a.h) * fark b.y (a.y - a.h) (a.y + a.h) - b.w * b.w = far5 a b := by
 rw [far5_round (.inr hb)]
 unfold Stp.far
 rw [room_ft ha hb,fark_eq (by have := h1.2.2.2.2.2.1; omega),fark_eq (by have := h1.2.2.2.2.2.2.1; omega)]
theorem sq5_ff {a b : KB} (ha : a.round = false) (hb : b.round = false) (_ : okB a) (_ : okB b) : max (max (a.x - a.w) (b.x - b.w) - min (a.x + a.w) (b.x + b.w)) (max (a.y - a.h) (b.y - b.h) - min (a.y + a.h) (b.y + b.h)) = far5 a b := (if_pos ⟨ha, hb⟩).symm
instance tf114 : CfC Tryz.prog 176 := ⟨by kernel_rfl⟩
instance tf115 : CfC Tryz.prog 114 := ⟨by kernel_rfl⟩
instance tf116 : CfC Tryz.prog 245 := ⟨by kernel_rfl⟩
instance tf117 : CfC Tryz.prog 246 := ⟨by kernel_rfl⟩
instance tf118 : CfC Tryz.prog 237 := ⟨by kernel_rfl⟩
instance tf119 : CfC Tryz.prog 115 := ⟨by kernel_rfl⟩
instance tf120 : CfC Tryz.prog 116 := ⟨by kernel_rfl⟩
theorem within_ok (β : Base) (w : World) (hw : St β [] w) (x m : Int) (hm : 0 ≤ m ∧ m ≤ 1099511627776) : Ret Tryz.prog 176 #[Ix x, Ix m] β w (.bool (decide (-m ≤ x ∧ x ≤ m))) := by
 refine enter (n := 14) Tryz.func176 rfl Tryz.ntmps176 rfl ?_ hw
 refine csr (lE oab (lnc (lE omi (lE omi (lv (v := Ix (0 - (m))) (e_neg (a := (m)) rfl (i64w (by omega))) (lE oge (lE omb ?_)))))))
 refine l_split (s := 9) rfl (fun hg1 => ?_) (fun hg1 => ?_)
 ·refine gE omi (gE omi (gE ole (lE oktb (lE oab (lnf (c_ret (ret1 Tryz.results176 rfl ?_)))))))
  intro w hw
  exact ⟨congrArg (fun b : Bool => Ending.returned (.bool b)) (show decide ((x) ≤ (m)) = _ by first | (rw [eq_comm,decide_eq_false_iff_not]; omega) | exact decide_eq_decide.2 (by omega)),st_mask [] rfl hw⟩
 refine skE (skE (skE (lE okfb (lE oab (lnf (c_ret (ret1 Tryz.results176 rfl ?_)))))))
 intro w hw
 exact ⟨congrArg (fun b : Bool => Ending.returned (.bool b)) (show false = _ by first | (rw [eq_comm,decide_eq_false_iff_not]; omega) | exact decide_eq_decide.2 (by omega)),st_mask [] rfl hw⟩
set_option maxHeartbeats 4000000 in
theorem valid5_ok (β : Base) (w : World) (hw : St β [] w) (b : KB) : Ret Tryz.prog 114 #[.agg (bC b)] β w (.bool (decide (okB b))) := by
 refine enter (n := 83) Tryz.func114 rfl Tryz.ntmps114 rfl ?_ hw
 refine csr (bxa fun b1 => ?_)
 refine lE oab (lnf (cs2 (c_region (lE ofp (lE (oli 0) (lE olt (lE omb (l_split (s := 6) rfl (fun hg2 => ?_) (fun hg2 => ?_)))))))))
 ·refine skE (skE (skE (lE oktb (lE omb ?_))))
  iterate 5 refine skE ?_
  refine lE oktb (lE omb ?_)
  iterate 5 refine skE ?_
  refine lE oktb (lE omb ?_)
  iterate 5 refine skE ?_
  refine lE oktb (lE omb ?_)
  iterate 5 refine skE ?_
  refine lE oktb (lnf (c_yes rfl (csr (lE oab (lnf (c_ret (f_then_ret (ret1 Tryz.results114 rfl ?_))))))))
  intro w hw
  exact ⟨congrArg (fun b : Bool => Ending.returned (.bool b)) (show false = _ by rw [eq_comm,decide_eq_false_iff_not]; intro hok; obtain ⟨h1,h2,h3,h4,h5,h6,h7,h8,h9⟩ := hok; first | omega | (simp_all; done) | (simp_all; omega)),st_mask [false] rfl hw⟩
 refine gE ofp (gE (oli 0) (gE ogt (lE okfb (lE omb (l_split (s := 11) rfl (fun hg3 => ?_) (fun hg3 => ?_))))))
 ·iterate 5 refine skE ?_
  refine lE oktb (lE omb ?_)
  iterate 5 refine skE ?_
  refine lE oktb (lE omb ?_)
  iterate 5 refine skE ?_
  refine lE oktb (lE omb ?_)
  iterate 5 refine skE ?_
  refine lE oktb (lnf (c_yes rfl (csr (lE oab (lnf (c_ret (f_then_ret (ret1 Tryz.results114 rfl ?_))))))))
  intro w hw
  exact ⟨congrArg (fun b : Bool => Ending.returned (.bool b)) (show false = _ by rw [eq_comm,decide_eq_false_iff_not]; intro hok; obtain ⟨h1,h2,h3,h4,h5,h6,h7,h8,h9⟩ := hok; first | omega | (simp_all; done) | (simp_all; omega)),st_mask [false] rfl hw⟩
 refine gE ofp (gE ofp (gE (oli 0) (g_call rfl rfl rfl rfl rfl (cl0 (vs := [Ix (b.x),.int .i64 (1048576)]) tf114.ok rfl rfl) ?_)))
 intro w hw
 obtain ⟨β1,sb,kn,hw1,back⟩ := St.frame_all hw
 refine (within_ok β1 w hw1 (b.x) (1048576) (by decide)).mono ?_
 rintro e w' ⟨rfl,hw'⟩
 refine ⟨_,rfl,_,back _ _ hw',?_⟩
 clear hw hw1 hw' back kn sb
 refine gE ond (lE okfb (lE omb (l_split (s := 18) rfl (fun hg4 => ?_) (fun hg4 => ?_))))
 ·iterate 5 refine skE ?_
  refine lE oktb (lE omb ?_)
  iterate 5 refine skE ?_
  refine lE oktb (lE omb ?_)
  iterate 5 refine skE ?_
  refine lE oktb (lnf (c_yes rfl (csr (lE oab (lnf (c_ret (f_then_ret (ret1 Tryz.results114 rfl ?_))))))))
  intro w hw
  exact ⟨congrArg (fun b : Bool => Ending.returned (.bool b)) (show false = _ by rw [eq_comm,decide_eq_false_iff_not]; intro hok; obtain ⟨h1,h2,h3,h4,h5,h6,h7,h8,h9⟩ := hok; first | omega | (simp_all; done) | (simp_all; omega)),st_mask [false] rfl hw⟩
 refine gE ofp (gE ofp (gE (oli 0) (g_call rfl rfl rfl rfl rfl (cl0 (vs := [Ix (b.y),.int .i64 (1048576)]) tf114.ok rfl rfl) ?_)))
 intro w hw
 obtain ⟨β1,sb,kn,hw1,back⟩ := St.frame_all hw
 refine (within_ok β1 w hw1 (b.y) (1048576) (by decide)).mono ?_
 rintro e w' ⟨rfl,hw'⟩
 refine ⟨_,rfl,_,back _ _ hw',?_⟩
 clear hw hw1 hw' back kn sb
 refine gE ond (lE okfb (lE omb (l_split (s := 25) rfl (fun hg5 => ?_) (fun hg5 => ?_))))
 ·iterate 5 refine skE ?_
  refine lE oktb (lE omb ?_)
  iterate 5 refine skE ?_
  refine lE oktb (lnf (c_yes rfl (csr (lE oab (lnf (c_ret (f_then_ret (ret1 Tryz.results114 rfl ?_))))))))
  intro w hw
  exact ⟨congrArg (fun b : Bool => Ending.returned (.bool b)) (show false = _ by rw [eq_comm,decide_eq_false_iff_not]; intro hok; obtain ⟨h1,h2,h3,h4,h5,h6,h7,h8,h9⟩ := hok; first | omega | (simp_all; done) | (simp_all; omega)),st_mask [false] rfl hw⟩
 refine gE ofp (gE ofp (gE (oli 0) (g_call rfl rfl rfl rfl rfl (cl0 (vs := [Ix (b.vx),.int .i64 (4096)]) tf114.ok rfl rfl) ?_)))
 intro w hw
 obtain ⟨β1,sb,kn,hw1,back⟩ := St.frame_all hw
 refine (within_ok β1 w hw1 (b.vx) (4096) (by decide)).mono ?_
 rintro e w' ⟨rfl,hw'⟩
 refine ⟨_,rfl,_,back _ _ hw',?_⟩
 clear hw hw1 hw' back kn sb
 refine gE ond (lE okfb (lE omb (l_split (s := 32) rfl (fun hg6 => ?_) (fun hg6 => ?_))))
 ·iterate 5 refine skE ?_
  refine lE oktb (lnf (c_yes rfl (csr (lE oab (lnf (c_ret (f_then_ret (ret1 Tryz.results114 rfl ?_))))))))
  intro w hw
  exact ⟨congrArg (fun b : Bool => Ending.returned (.bool b)) (show false = _ by rw [eq_comm,decide_eq_false_iff_not]; intro hok; obtain ⟨h1,h2,h3,h4,h5,h6,h7,h8,h9⟩ := hok; first | omega | (simp_all; done) | (simp_all; omega)),st_mask [false] rfl hw⟩
 refine gE ofp (gE ofp (gE (oli 0) (g_call rfl rfl rfl rfl rfl (cl0 (vs := [Ix (b.vy),.int .i64 (4096)]) tf114.ok rfl rfl) ?_)))
 intro w hw
 obtain ⟨β1,sb,kn,hw1,back⟩ := St.frame_all hw
 refine (within_ok β1 w hw1 (b.vy) (4096) (by decide)).mono ?_
 rintro e w' ⟨rfl,hw'⟩
 refine ⟨_,rfl,_,back _ _ hw',?_⟩
 clear hw hw1 hw' back kn sb
 refine gE ond (lE okfb (lnf (c_if _ rfl (fun hc7 => ?_) (fun hc7 => ?_))))
 ·refine csr (lE oab (lnf (c_ret (f_then_ret (ret1 Tryz.results114 rfl ?_)))))
  intro w hw
  exact ⟨congrArg (fun b : Bool => Ending.returned (.bool b)) (show false = _ by rw [eq_comm,decide_eq_false_iff_not]; intro hok; obtain ⟨h1,h2,h3,h4,h5,h6,h7,h8,h9⟩ := hok; first | omega | (simp_all; done) | (simp_all; omega)),st_mask [false] rfl hw⟩
 refine csk (cs2 (c_region (lE ofp (lE (oli 0) (lE olt (lE omb (l_split (s := 42) rfl (fun hg8 => ?_) (fun hg8 => ?_))))))))
 ·refine skE (skE (skE (lE oktb (lE omb (skE (skE (skE (lE oktb (lE omb (skE (skE (skE (lE oktb (lE omb (skE (skE (skE (l_skip_u rfl rfl rfl rfl rfl ?_))))))))))))))))))
  refine l_skip_u rfl rfl rfl rfl rfl (l_skip_u rfl rfl rfl rfl rfl (l_skip_u rfl rfl rfl rfl rfl (l_skip_u rfl rfl rfl rfl rfl (skE (lE oktb (lnf ?_))))))
  refine c_yes rfl (csr (lE oab (lnf (c_ret (f_then_ret (ret1 Tryz.results114 rfl ?_))))))
  intro w hw
  exact ⟨congrArg (fun b : Bool => Ending.returned (.bool b)) (show false = _ by rw [eq_comm,decide_eq_false_iff_not]; intro hok; obtain ⟨h1,h2,h3,h4,h5,h6,h7,h8,h9⟩ := hok; first | omega | (simp_all; done) | (simp_all; omega)),st_mask [false] rfl hw⟩
 refine gE ofp (gE (oli 0) (gE ogt (lE okfb (lE omb (l_split (s := 47) rfl (fun hg9 => ?_) (fun hg9 => ?_))))))
 ·refine skE (skE (skE (lE oktb (lE omb (skE (skE (skE (lE oktb (lE omb (skE (skE (skE (l_skip_u rfl rfl rfl rfl rfl (l_skip_u rfl rfl rfl rfl rfl ?_))))))))))))))
  refine l_skip_u rfl rfl rfl rfl rfl (l_skip_u rfl rfl rfl rfl rfl (l_skip_u rfl rfl rfl rfl rfl (skE (lE oktb (lnf (c_yes rfl (csr (lE oab (lnf ?_)))))))))
  refine c_ret (f_then_ret (ret1 Tryz.results114 rfl ?_))
  intro w hw
  exact ⟨congrArg (fun b : Bool => Ending.returned (.bool b)) (show false = _ by rw [eq_comm,decide_eq_false_iff_not]; intro hok; obtain ⟨h1,h2,h3,h4,h5,h6,h7,h8,h9⟩ := hok; first | omega | (simp_all; done) | (simp_all; omega)),st_mask [false] rfl hw⟩
 refine gE ofp (gE (oli 0) (gE olt (lE okfb (lE omb (l_split (s := 52) rfl (fun hg10 => ?_) (fun hg10 => ?_))))))
 ·refine skE (skE (skE (lE oktb (lE omb (skE (skE (skE (l_skip_u rfl rfl rfl rfl rfl (l_skip_u rfl rfl rfl rfl rfl (l_skip_u rfl rfl rfl rfl rfl ?_))))))))))
  refine l_skip_u rfl rfl rfl rfl rfl (l_skip_u rfl rfl rfl rfl rfl (skE (lE oktb (lnf (c_yes rfl (csr (lE oab (lnf (c_ret (f_then_ret ?_))))))))))
  refine ret1 Tryz.results114 rfl ?_
  intro w hw
  exact ⟨congrArg (fun b : Bool => Ending.returned (.bool b)) (show false = _ by rw [eq_comm,decide_eq_false_iff_not]; intro hok; obtain ⟨h1,h2,h3,h4,h5,h6,h7,h8,h9⟩ := hok; first | omega | (simp_all; done) | (simp_all; omega)),st_mask [false] rfl hw⟩
 refine gE ofp (gE (oli 0) (gE ogt (lE okfb (lE omb (l_split (s := 57) rfl (fun hg11 => ?_) (fun hg11 => ?_))))))
 ·refine skE (skE (skE (l_skip_u rfl rfl rfl rfl rfl (l_skip_u rfl rfl rfl rfl rfl (l_skip_u rfl rfl rfl rfl rfl (l_skip_u rfl rfl rfl rfl rfl ?_))))))
  refine l_skip_u rfl rfl rfl rfl rfl (skE (lE oktb (lnf (c_yes rfl (csr (lE oab (lnf (c_ret (f_then_ret (ret1 Tryz.results114 rfl ?_))))))))))
  intro w hw
  exact ⟨congrArg (fun b : Bool => Ending.returned (.bool b)) (show false = _ by rw [eq_comm,decide_eq_false_iff_not]; intro hok; obtain ⟨h1,h2,h3,h4,h5,h6,h7,h8,h9⟩ := hok; first | omega | (simp_all; done) | (simp_all; omega)),st_mask [false] rfl hw⟩
 refine gE ofp (gE (olb 0) (gE omb (l_splitb (s := 60) (b := b.round) rfl (fun hg12 => ?_) (fun hg12 => ?_))))
 ·refine gE ofp (gE (oli 0) (gE ofp (gE (oli 0) (gE onq (gE oktb (lE okfb (lnf (c_if _ rfl (fun hc13 => ?_) (fun hc13 => ?_)))))))))
  ·refine csr (lE oab (lnf (c_ret (f_then_ret (ret1 Tryz.results114 rfl ?_)))))
   intro w hw
   exact ⟨congrArg (fun b : Bool => Ending.returned (.bool b)) (show false = _ by rw [eq_comm,decide_eq_false_iff_not]; intro hok; obtain ⟨h1,h2,h3,h4,h5,h6,h7,h8,h9⟩ := hok; first | omega | (simp_all; done) | (simp_all; omega)),st_mask [false] rfl hw⟩
  refine csk (csr (lE ofp (lE (olb 0) (lE ont (lE omb (l_splitb (s := 71) (b := !b.fixed) rfl (fun hg14 => ?_) (fun hg14 => ?_)))))))
  ·iterate 5 refine skE ?_
   refine l_skip_u rfl rfl rfl rfl rfl (l_skip_u rfl rfl rfl rfl rfl (l_skip_u rfl rfl rfl rfl rfl (l_skip_u rfl rfl rfl rfl rfl (skE (lE oktb ?_)))))
   refine lE oab (lnf (c_ret (ret1 Tryz.results114 rfl ?_)))
   intro w hw
   exact ⟨congrArg (fun b : Bool => Ending.returned (.bool b)) (show true = _ by have hall : okB b ↔ (b.fixed = true → b.vx = 0 ∧ b.vy = 0) := ⟨fun h => h.2.2.2.2.2.2.2.2,fun h => ⟨by omega,by omega,by omega,by omega,by omega,by omega,by omega,by (first | omega | (intro hr; first | omega | simp_all)),h⟩⟩; rw [show decide (okB b) = decide (b.fixed = true → b.vx = 0 ∧ b.vy = 0) from decide_eq_decide.2 hall]; first | simp_all | (simp_all; omega)),st_mask [false] rfl hw⟩
  refine gE ofp (gE ofp (gE (oli 0) (gE oeq_ (gE omb (l_split (s := 76) rfl (fun hg15 => ?_) (fun hg15 => ?_))))))
  ·refine gE ofp (gE ofp (gE (oli 0) (gE oeq_ (gE oktb (lE okfb (lE oab (lnf (c_ret (ret1 Tryz.results114 rfl ?_)))))))))
   intro w hw
   exact ⟨congrArg (fun b : Bool => Ending.returned (.bool b)) (show decide ((b.vy) = (0 : Int)) = _ by have hall : okB b ↔ (b.fixed = true → b.vx = 0 ∧ b.vy = 0) := ⟨fun h => h.2.2.2.2.2.2.2.2,fun h => ⟨by omega,by omega,by omega,by omega,by omega,by omega,by omega,by (first | omega | (intro hr; first | omega | simp_all)),h⟩⟩; rw [show decide (okB b) = decide (b.fixed = true → b.vx = 0 ∧ b.vy = 0) from decide_eq_decide.2 hall]; first | simp_all | (simp_all; omega)),st_mask [false] rfl hw⟩
  refine skE (skE (skE (skE (gE okfb (lE okfb (lE oab (lnf (c_ret (ret1 Tryz.results114 rfl ?_)))))))))
  intro w hw
  exact ⟨congrArg (fun b : Bool => Ending.returned (.bool b)) (show false = _ by rw [eq_comm,decide_eq_false_iff_not]; intro hok; obtain ⟨h1,h2,h3,h4,h5,h6,h7,h8,h9⟩ := hok; first | omega | (simp_all; done) | (simp_all; omega)),st_mask [false] rfl hw⟩
 iterate 5 refine skE ?_
 refine gE okfb (lE okfb (lnf (c_no rfl (csk (csr (lE ofp (lE (olb 0) (lE ont (lE omb ?_)))))))))
 refine l_splitb (s := 71) (b := !b.fixed) rfl (fun hg16 => ?_) (fun hg16 => ?_)
 ·iterate 5 refine skE ?_
  refine l_skip_u rfl rfl rfl rfl rfl (l_skip_u rfl rfl rfl rfl rfl (l_skip_u rfl rfl rfl rfl rfl (l_skip_u rfl rfl rfl rfl rfl (skE (lE oktb ?_)))))
  refine lE oab (lnf (c_ret (ret1 Tryz.results114 rfl ?_)))
  intro w hw
  exact ⟨congrArg (fun b : Bool => Ending.returned (.bool b)) (show true = _ by have hall : okB b ↔ (b.fixed = true → b.vx = 0 ∧ b.vy = 0) := ⟨fun h => h.2.2.2.2.2.2.2.2,fun h => ⟨by omega,by omega,by omega,by omega,by omega,by omega,by omega,by (first | omega | (intro hr; first | omega | simp_all)),h⟩⟩; rw [show decide (okB b) = decide (b.fixed = true → b.vx = 0 ∧ b.vy = 0) from decide_eq_decide.2 hall]; first | simp_all | (simp_all; omega)),st_mask [false] rfl hw⟩
 refine gE ofp (gE ofp (gE (oli 0) (gE oeq_ (gE omb (l_split (s := 76) rfl (fun hg17 => ?_) (fun hg17 => ?_))))))
 ·refine gE ofp (gE ofp (gE (oli 0) (gE oeq_ (gE oktb (lE okfb (lE oab (lnf (c_ret (ret1 Tryz.results114 rfl ?_)))))))))
  intro w hw
  exact ⟨congrArg (fun b : Bool => Ending.returned (.bool b)) (show decide ((b.vy) = (0 : Int)) = _ by have hall : okB b ↔ (b.fixed = true → b.vx = 0 ∧ b.vy = 0) := ⟨fun h => h.2.2.2.2.2.2.2.2,fun h => ⟨by omega,by omega,by omega,by omega,by omega,by omega,by omega,by (first | omega | (intro hr; first | omega | simp_all)),h⟩⟩; rw [show decide (okB b) = decide (b.fixed = true → b.vx = 0 ∧ b.vy = 0) from decide_eq_decide.2 hall]; first | simp_all | (simp_all; omega)),st_mask [false] rfl hw⟩
 refine skE (skE (skE (skE (gE okfb (lE okfb (lE oab (lnf (c_ret (ret1 Tryz.results114 rfl ?_)))))))))
 intro w hw
 exact ⟨congrArg (fun b : Bool => Ending.returned (.bool b)) (show false = _ by rw [eq_comm,decide_eq_false_iff_not]; intro hok; obtain ⟨h1,h2,h3,h4,h5,h6,h7,h8,h9⟩ := hok; first | omega | (simp_all; done) | (simp_all; omega)),st_mask [false] rfl hw⟩
set_option maxHeartbeats 4000000 in
theorem bounds5_ok (β : Base) (w : World) (hw : St β [] w) (b : KB) (hb : okB b) : Ret Tryz.prog 245 #[.agg (bC b)] β w (.tuple #[.agg #[Ix (b.x - b.w), Ix (b.y - b.h)], .agg #[Ix (b.x + b.w), Ix (b.y + b.h)]]) := by
 have gb2 := hb.2.1
 have gb3 := hb.2.2.1
 have gb6 := hb.2.2.2.2.2.1
 have gb7 := hb.2.2.2.2.2.2.1
 refine enter (n := 35) Tryz.func245 rfl Tryz.ntmps245 rfl ?_ hw
 refine csr (bxa fun b1 => ?_)
 refine alE fun b2 => alE fun b3 => lnf (cs2 (c_region (lE (olg 2) (lcR clA (fun w β1 sb kn hw1 => valid5_ok β1 w hw1 b) (lE ond (lnf ?_))))))
 refine c_if _ rfl (fun hc4 => ?_) (fun hc4 => ?_)
 ·exact absurd hc4 (fun h => h hb)
 refine csk (c_seq ?_)
 refine cny [sv 9 (pp b1 1) [] [] [0],sv 10 (pp b1 1) [0] [0] [],sv 11 (Ix (b.x)) [0,1] [1] [],sv 12 (pp b1 5) [] [] [0],sv 13 (Ix (b.w)) [3] [3] [],sv 14 (Ix ((b.x) - (b.w))) [0,1,2,3,4] [2,4] [],sv 15 (pp b1 1) [] [] [0],sv 16 (pp b1 2) [6] [6] [],sv 17 (Ix (b.y)) [6,7] [7] [],sv 18 (pp b1 6) [] [] [0],sv 19 (Ix (b.h)) [9] [9] [],sv 20 (Ix ((b.y) - (b.h))) [6,7,8,9,10] [8,10] [],sv 21 (.agg #[Ix ((b.x) - (b.w)),Ix ((b.y) - (b.h))]) (List.range 12) [5,11] [],sv 22 (pp b1 1) [] [] [0],sv 23 (pp b1 1) [13] [13] [],sv 24 (Ix (b.x)) [13,14] [14] [],sv 25 (pp b1 5) [] [] [0],sv 26 (Ix (b.w)) [16] [16] [],sv 27 (Ix ((b.x) + (b.w))) [13,14,15,16,17] [15,17] [],sv 28 (pp b1 1) [] [] [0],sv 29 (pp b1 2) [19] [19] [],sv 30 (Ix (b.y)) [19,20] [20] [],sv 31 (pp b1 6) [] [] [0],sv 32 (Ix (b.h)) [22] [22] [],sv 33 (Ix ((b.y) + (b.h))) [19,20,21,22,23] [21,23] [],sv 34 (.agg #[Ix ((b.x) + (b.w)),Ix ((b.y) + (b.h))]) [13,14,15,16,17,18,19,20,21,22,23,24] [18,24] [],⟨(List.range 13),[12],[1],[],fun _ => True⟩,⟨(List.range 27),[25],[2],[],fun _ => True⟩] [⟨none,(some 27),[27],[],fun _ => pt b3 (.cells #[.int .i64 (0),.int .i64 (0)] 28)⟩,⟨none,(some 26),[26],[],fun _ => pt b2 (.cells #[.int .i64 (0),.int .i64 (0)] 28)⟩,tk (pt b1 (.cells (bC b) 52)) [2,4,8,10,15,17,21,23],⟨(some 26),none,[],[],fun _ => pt b2 (.cells #[Ix ((b.x) - (b.w)),Ix ((b.y) - (b.h))] 28)⟩,⟨(some 27),none,[],[],fun _ => pt b3 (.cells #[Ix ((b.x) + (b.w)),Ix ((b.y) + (b.h))] 28)⟩] [(1,pp b1 0),(2,pp b2 0),(3,pp b3 0)] [1,2] [] ⟨rfl,rfl,rfl,trivial⟩ ⟨?_,?_,?_,?_,?_,?_,?_,?_,?_,?_,?_,?_,?_,?_,?_,?_,?_,?_,?_,?_,?_,?_,?_,?_,?_,?_,?_,?_,trivial⟩ ?_
 ·rintro f M - ⟨i0,-⟩
  exact obE ofp
 ·rintro f M ⟨k0,-⟩ -
  exact obE ofp
 ·rintro f M ⟨k0,-⟩ -
  exact obE (oli 0)
 ·rintro f M - ⟨i0,-⟩
  exact obE ofp
 ·rintro f M ⟨k0,-⟩ -
  exact obE (oli 0)
 ·rintro f M ⟨k0,k1,-⟩ -
  exact obE omn
 ·rintro f M - ⟨i0,-⟩
  exact obE ofp
 ·rintro f M ⟨k0,-⟩ -
  exact obE ofp
 ·rintro f M ⟨k0,-⟩ -
  exact obE (oli 0)
 ·rintro f M - ⟨i0,-⟩
  exact obE ofp
 ·rintro f M ⟨k0,-⟩ -
  exact obE (oli 0)
 ·rintro f M ⟨k0,k1,-⟩ -
  exact obE omn
 ·rintro f M ⟨k0,k1,-⟩ -
  exact ob0 (up_cons (d := 20) (up_cons (d := 14) rfl k0) k1) rfl (e_build tf17.ok tf16 (vs := [(0,Ix ((b.x) - (b.w))),(1,Ix ((b.y) - (b.h)))]) (cells := #[Ix ((b.x) - (b.w)),Ix ((b.y) - (b.h))]) rfl rfl) (.refl _)
 ·rintro f M - ⟨i0,-⟩
  exact obE ofp
 ·rintro f M ⟨k0,-⟩ -
  exact obE ofp
 ·rintro f M ⟨k0,-⟩ -
  exact obE (oli 0)
 ·rintro f M - ⟨i0,-⟩
  exact obE ofp
 ·rintro f M ⟨k0,-⟩ -
  exact obE (oli 0)
 ·rintro f M ⟨k0,k1,-⟩ -
  exact obE opl
 ·rintro f M - ⟨i0,-⟩
  exact obE ofp
 ·rintro f M ⟨k0,-⟩ -
  exact obE ofp
 ·rintro f M ⟨k0,-⟩ -
  exact obE (oli 0)
 ·rintro f M - ⟨i0,-⟩
  exact obE ofp
 ·rintro f M ⟨k0,-⟩ -
  exact obE (oli 0)
 ·rintro f M ⟨k0,k1,-⟩ -
  exact obE opl
 ·rintro f M ⟨k0,k1,-⟩ -
  exact ob0 (up_cons (d := 33) (up_cons (d := 27) rfl k0) k1) rfl (e_build tf17.ok tf16 (vs := [(0,Ix ((b.x) + (b.w))),(1,Ix ((b.y) + (b.h)))]) (cells := #[Ix ((b.x) + (b.w)),Ix ((b.y) + (b.h))]) rfl rfl) (.refl _)
 ·rintro f M ⟨k0,-⟩ ⟨i0,-⟩
  refine ob_start (L' := pt b2 (.cells #[.int .i64 (0),.int .i64 (0)] 28) :: M) (by rfl) (up_cons (d := 21) (up_cons (d := 2) rfl i0) k0) ?_
  refine lu (mS 0 (#[Ix ((b.x) - (b.w)),Ix ((b.y) - (b.h))])) (l_nil ?_)
  exact f_owes_n (up_cons (d := 21) (up_cons (d := 2) rfl i0) k0) trivial (perm_front 0 rfl)
 ·rintro f M ⟨k0,-⟩ ⟨i0,-⟩
  refine ob_start (L' := pt b3 (.cells #[.int .i64 (0),.int .i64 (0)] 28) :: M) (by rfl) (up_cons (d := 34) (up_cons (d := 3) rfl i0) k0) ?_
  refine lu (mS 0 (#[Ix ((b.x) + (b.w)),Ix ((b.y) + (b.h))])) (l_nil ?_)
  exact f_owes_n (up_cons (d := 34) (up_cons (d := 3) rfl i0) k0) trivial (perm_front 0 rfl)
 rintro fa5 ⟨-,-,-,-,-,-,-,-,-,-,-,-,-,-,-,-,-,-,-,-,-,-,-,-,-,-,-,-,-⟩ ⟨j0,j1,-⟩
 refine f_re (L' := [pt b1 (.cells (bC b) 52),pt b2 (.cells #[Ix ((b.x) - (b.w)),Ix ((b.y) - (b.h))] 28),pt b3 (.cells #[Ix ((b.x) + (b.w)),Ix ((b.y) + (b.h))] 28)]) (by rfl) ?_
 refine f_rebase (d := 2) j0 (f_rebase (d := 3) j1 (ftr ?_))
 refine retG (m := [.agg #[Ix ((b.x) - (b.w)),Ix ((b.y) - (b.h))],.agg #[Ix ((b.x) + (b.w)),Ix ((b.y) + (b.h))]]) Tryz.results245 ⟨rd_cell tf15.ok rfl (k_pt 1 rfl rfl) rfl,rd_cell tf15.ok rfl (k_pt 2 rfl rfl) rfl,trivial⟩ rfl ?_
 intro w hw
 exact ⟨rfl,st_mask [false,false,false] rfl hw⟩
theorem far5_ok (β : Base) (w : World) (hw : St β [] w) (x l h : Int) (hx : -4194304 ≤ x ∧ x ≤ 4194304) (hl : -4194304 ≤ l ∧ l ≤ 4194304) (hh : -4194304 ≤ h ∧ h ≤ 4194304) : Ret Tryz.prog 246 #[Ix x, Ix l, Ix h] β w (Ix (fark x l h)) := by
 refine enter (n := 19) Tryz.func246 rfl Tryz.ntmps246 rfl ?_ hw
 refine csr (lE oai (lnf (cs2 (c_region (lE omi (lE omi (lE olt (lnf (c_if _ rfl (fun hc1 => ?_) (fun hc1 => ?_))))))))))
 ·refine csr (lE omi (lE omi (lE omn (lE oai (lnf (c_ret (f_then_ret (ret1 Tryz.results246 rfl ?_))))))))
  intro w hw
  exact ⟨congrArg Ending.returned (congrArg (Value.int .i64) (show ((l) - (x)) = fark x l h by unfold fark; split <;> (try split) <;> omega)),st_mask [] rfl hw⟩
 refine csk (cs2 (c_region (lE omi (lE omi (lE ogt (lnf (c_if _ rfl (fun hc2 => ?_) (fun hc2 => ?_))))))))
 ·refine csr (lE omi (lE omi (lE omn (lE oai (lnf (c_ret (f_then_ret (ret1 Tryz.results246 rfl ?_))))))))
  intro w hw
  exact ⟨congrArg Ending.returned (congrArg (Value.int .i64) (show ((x) - (h)) = fark x l h by unfold fark; split <;> (try split) <;> omega)),st_mask [] rfl hw⟩
 refine csk (csr (lE oai (lnf (c_ret (ret1 Tryz.results246 rfl ?_)))))
 intro w hw
 exact ⟨congrArg Ending.returned (congrArg (Value.int .i64) (show (0 : Int) = fark x l h by unfold fark; split <;> (try split) <;> omega)),st_mask [] rfl hw⟩
set_option maxHeartbeats 4000000 in
theorem square0_ok (β : Base) (w : World) (hw : St β [] w) (a b : KB) (ha : okB a) (hb : okB b) (hr : a.round = false) : Ret Tryz.prog 237 #[.agg (bC a), .agg (bC b)] β w (Ix (far5 a b)) := by
 have ga2 := ha.2.1
 have ga3 := ha.2.2.1
 have ga6 := ha.2.2.2.2.2.1
 have ga7 := ha.2.2.2.2.2.2.1
 have gb2 := hb.2.1
 have gb3 := hb.2.2.1
 have gb6 := hb.2.2.2.2.2.1
 have gb7 := hb.2.2.2.2.2.2.1
 have hga := ha
 have hgb := hb
 have q1 := sq_bd (x := a.x - b.x) (B := 4194304) (by omega) (by omega)
 have q2 := sq_bd (x := a.y - b.y) (B := 4194304) (by omega) (by omega)
 have q3 := sq_bd (x := a.w + b.w) (B := 32768) (by omega) (by omega)
 have q4 := sq_bd (x := b.w) (B := 16384) (by omega) (by omega)
 have q5 := fark_bd b.x (a.x - a.w) (a.x + a.w) (by omega) (by omega)
 have q6 := fark_bd b.y (a.y - a.h) (a.y + a.h) (by omega) (by omega)
 refine enter (n := 125) Tryz.func237 rfl Tryz.ntmps237 rfl ?_ hw
 refine csr (bxa fun b1 => ?_)
 refine bxa fun b2 => ?_
 refine lE oai (lnf (cs2 (c_region (lE ofp (lE (olb 1) (lE omb (l_splitb (s := 17) (b := a.round) rfl (fun h => ?_) (fun h => ?_))))))))
 (rw [hr] at h; cases h)
 refine skE (skE (lE okfb (lnf (c_no rfl (csk (cs2 (c_region (lE ofp (lE (olb 1) (lnf (c_ifb (a.round) rfl (fun hc3 => ?_) (fun hc3 => ?_))))))))))))
 ·rw [hr] at hc3; cases hc3
 refine csk (csr (lE (olg 1) (lcR clA (fun w β1 sb kn hw1 => bounds5_ok β1 w hw1 a ha) (lE omt (lE oxa (lE oxa (alE fun b4 => alE fun b5 => ?_)))))))
 refine lu (mS 1 (#[Ix (a.x - a.w),Ix (a.y - a.h)])) (lu (mS 0 (#[Ix (a.x + a.w),Ix (a.y + a.h)])) (lnf (cs2 (c_region (lE ofp (lE (olb 2) (lnf ?_)))))))
 refine c_ifb (b.round) rfl (fun hc6 => ?_) (fun hc6 => ?_)
 ·refine c_seq (c_quiet (by kernel_rfl) (by kernel_rfl) (qE ofp (qE ofp (qE (oli 2) (qE ofp (qE (oli 1) (qE ofp (qE (oli 0) ?_))))))))
  refine q_call (v := Ix (fark (b.x) (a.x - a.w) (a.x + a.w))) rfl rfl rfl (cl0 (vs := [Ix (b.x),Ix (a.x - a.w),Ix (a.x + a.w)]) tf117.ok rfl rfl) (fun w hw => ?_) ?_
  ·obtain ⟨β1,sb,kn,hw1,back⟩ := St.frame_all hw
   exact (far5_ok β1 w hw1 (b.x) (a.x - a.w) (a.x + a.w) (by omega) (by omega) (by omega)).mono (fun e w' ⟨he,hw'⟩ => ⟨he,st_mask [true,true,true,true] rfl (back _ _ hw')⟩)
  refine qE ofp (qE ofp (qE (oli 2) (qE ofp (qE (oli 1) (qE ofp (qE (oli 0) ?_))))))
  refine q_call (v := Ix (fark (b.y) (a.y - a.h) (a.y + a.h))) rfl rfl rfl (cl0 (vs := [Ix (b.y),Ix (a.y - a.h),Ix (a.y + a.h)]) tf117.ok rfl rfl) (fun w hw => ?_) ?_
  ·obtain ⟨β1,sb,kn,hw1,back⟩ := St.frame_all hw
   exact (far5_ok β1 w hw1 (b.y) (a.y - a.h) (a.y + a.h) (by omega) (by omega) (by omega)).mono (fun e w' ⟨he,hw'⟩ => ⟨he,st_mask [true,true,true,true] rfl (back _ _ hw')⟩)
  refine qE oai (qE oai (q_nil (ftc (lE omi (lE omi (lE otm (lE omi (lE omi (lE otm (lE opl (lE ofp (lE (oli 2) (lE ofp (lE (oli 2) (lE otm (lE omn ?_))))))))))))))))
  refine lE oai (lnf (c_ret (f_then_ret (ret1 Tryz.results237 rfl ?_))))
  intro w hw
  exact ⟨congrArg (fun z : Int => Ending.returned (Ix z)) (show (((fark (b.x) (a.x - a.w) (a.x + a.w)) * (fark (b.x) (a.x - a.w) (a.x + a.w))) + ((fark (b.y) (a.y - a.h) (a.y + a.h)) * (fark (b.y) (a.y - a.h) (a.y + a.h)))) - ((b.w) * (b.w)) = far5 a b from sq5_ft hc3 hc6 hga hgb),st_mask [false,false,false,false] rfl hw⟩
 refine csk (csr (lE (olg 2) (lcR clA (fun w β1 sb kn hw1 => bounds5_ok β1 w hw1 b hb) (lE omt (lE oxa (lE oxa (alE fun b7 => alE fun b8 => ?_)))))))
 refine lu (mS 1 (#[Ix (b.x - b.w),Ix (b.y - b.h)])) (lu (mS 0 (#[Ix (b.x + b.w),Ix (b.y + b.h)])) (lnc (lE ofp (lE (oli 3) (lE ofp (lE (oli 1) ?_))))))
 refine lE omx (lE ofp (lE (oli 2) (lE ofp (lE (oli 0) (lE omz (lE omn (lE oai (lnc (lE ofp (lE (oli 3) (lE ofp (lE (oli 1) (lE omx (lE ofp ?_))))))))))))))
 refine lE (oli 2) (lE ofp (lE (oli 0) (lE omz (lE omn (lE oai (lnc (lE omi (lE omi (lE omx (lE oai (lnf (c_ret (ret1 Tryz.results237 rfl ?_)))))))))))))
 intro w hw
 exact ⟨congrArg (fun z : Int => Ending.returned (Ix z)) (show max ((max (a.x - a.w) (b.x - b.w)) - (min (a.x + a.w) (b.x + b.w))) ((max (a.y - a.h) (b.y - b.h)) - (min (a.y + a.h) (b.y + b.h))) = far5 a b from sq5_ff hc3 hc6 hga hgb),st_mask [false,false,false,false,false,false] rfl hw⟩
set_option maxHeartbeats 4000000 in
theorem square_ok (β : Base) (w : World) (hw : St β [] w) (a b : KB) (ha : okB a) (hb : okB b) : Ret Tryz.prog 237 #[.agg (bC a), .agg (bC b)] β w (Ix (far5 a b)) := by
 have ga2 := ha.2.1
 have ga3 := ha.2.2.1
 have ga6 := ha.2.2.2.2.2.1
 have ga7 := ha.2.2.2.2.2.2.1
 have gb2 := hb.2.1
 have gb3 := hb.2.2.1
 have gb6 := hb.2.2.2.2.2.1
 have gb7 := hb.2.2.2.2.2.2.1
 have hga := ha
 have hgb := hb
 have q1 := sq_bd (x := a.x - b.x) (B := 4194304) (by omega) (by omega)
 have q2 := sq_bd (x := a.y - b.y) (B := 4194304) (by omega) (by omega)
 have q3 := sq_bd (x := a.w + b.w) (B := 32768) (by omega) (by omega)
 have q4 := sq_bd (x := b.w) (B := 16384) (by omega) (by omega)
 have q5 := fark_bd b.x (a.x - a.w) (a.x + a.w) (by omega) (by omega)
 have q6 := fark_bd b.y (a.y - a.h) (a.y + a.h) (by omega) (by omega)
 refine enter (n := 125) Tryz.func237 rfl Tryz.ntmps237 rfl ?_ hw
 refine csr (bxa fun b1 => ?_)
 refine bxa fun b2 => ?_
 refine lE oai (lnf (cs2 (c_region (lE ofp (lE (olb 1) (lE omb (l_splitb (s := 17) (b := a.round) rfl (fun hg3 => ?_) (fun hg3 => ?_))))))))
 ·refine gE ofp (gE (olb 0) (lE oktb (lnf (c_ifb (b.round) rfl (fun hc4 => ?_) (fun hc4 => ?_)))))
  ·refine c_seq (c_quiet (by kernel_rfl) (by kernel_rfl) (qE ofp (qE ofp (qE (oli 1) (qE ofp (qE ofp (qE (oli 0) (qE omn (qE ofp (qE ofp (qE (oli 1) ?_)))))))))))
   refine qE ofp (qE ofp (qE (oli 0) (qE omn (qE oai (qE oai (q_nil (ftc (lE omi (lE omi (lE otm (lE omi (lE omi (lE otm (lE opl (lE ofp (lE (oli 1) ?_))))))))))))))))
   refine lE ofp (lE (oli 0) (lE opl (lE ofp (lE (oli 1) (lE ofp (lE (oli 0) (lE opl (lE otm (lE omn (lE oai (lnf (c_ret (f_then_ret ?_)))))))))))))
   refine ret1 Tryz.results237 rfl ?_
   intro w hw
   exact ⟨congrArg (fun z : Int => Ending.returned (Ix z)) (show ((((a.x) - (b.x)) * ((a.x) - (b.x))) + (((a.y) - (b.y)) * ((a.y) - (b.y)))) - (((a.w) + (b.w)) * ((a.w) + (b.w))) = far5 a b from sq5_tt hg3 hc4 hga hgb),st_mask [false,false] rfl hw⟩
  refine csk (cs2 (c_region (lE ofp (lE (olb 1) (lnf (c_ifb (a.round) rfl (fun hc5 => ?_) (fun hc5 => ?_)))))))
  ·refine csr (lE (olg 0) (lE (olg 1) (lcR clA (fun w β1 sb kn hw1 => square0_ok β1 w hw1 b a hb ha hc4) (lE oai (lnf (c_ret (f_then_ret ?_)))))))
   refine ret1 Tryz.results237 rfl ?_
   intro w hw
   exact ⟨congrArg (fun z : Int => Ending.returned (Ix z)) (far5_comm (.inr hc5)),st_mask [false,false] rfl hw⟩
  rw [hg3] at hc5; cases hc5
 refine skE (skE (lE okfb (lnf (c_no rfl (csk (cs2 (c_region (lE ofp (lE (olb 1) (lnf (c_ifb (a.round) rfl (fun hc6 => ?_) (fun hc6 => ?_))))))))))))
 ·rw [hg3] at hc6; cases hc6
 refine csk (csr (lE (olg 1) (lcR clA (fun w β1 sb kn hw1 => bounds5_ok β1 w hw1 a ha) (lE omt (lE oxa (lE oxa (alE fun b7 => alE fun b8 => ?_)))))))
 refine lu (mS 1 (#[Ix (a.x - a.w),Ix (a.y - a.h)])) (lu (mS 0 (#[Ix (a.x + a.w),Ix (a.y + a.h)])) (lnf (cs2 (c_region (lE ofp (lE (olb 2) (lnf ?_)))))))
 refine c_ifb (b.round) rfl (fun hc9 => ?_) (fun hc9 => ?_)
 ·refine c_seq (c_quiet (by kernel_rfl) (by kernel_rfl) (qE ofp (qE ofp (qE (oli 2) (qE ofp (qE (oli 1) (qE ofp (qE (oli 0) ?_))))))))
  refine q_call (v := Ix (fark (b.x) (a.x - a.w) (a.x + a.w))) rfl rfl rfl (cl0 (vs := [Ix (b.x),Ix (a.x - a.w),Ix (a.x + a.w)]) tf117.ok rfl rfl) (fun w hw => ?_) ?_
  ·obtain ⟨β1,sb,kn,hw1,back⟩ := St.frame_all hw
   exact (far5_ok β1 w hw1 (b.x) (a.x - a.w) (a.x + a.w) (by omega) (by omega) (by omega)).mono (fun e w' ⟨he,hw'⟩ => ⟨he,st_mask [true,true,true,true] rfl (back _ _ hw')⟩)
  refine qE ofp (qE ofp (qE (oli 2) (qE ofp (qE (oli 1) (qE ofp (qE (oli 0) ?_))))))
  refine q_call (v := Ix (fark (b.y) (a.y - a.h) (a.y + a.h))) rfl rfl rfl (cl0 (vs := [Ix (b.y),Ix (a.y - a.h),Ix (a.y + a.h)]) tf117.ok rfl rfl) (fun w hw => ?_) ?_
  ·obtain ⟨β1,sb,kn,hw1,back⟩ := St.frame_all hw
   exact (far5_ok β1 w hw1 (b.y) (a.y - a.h) (a.y + a.h) (by omega) (by omega) (by omega)).mono (fun e w' ⟨he,hw'⟩ => ⟨he,st_mask [true,true,true,true] rfl (back _ _ hw')⟩)
  refine qE oai (qE oai (q_nil (ftc (lE omi (lE omi (lE otm (lE omi (lE omi (lE otm (lE opl (lE ofp (lE (oli 2) (lE ofp (lE (oli 2) (lE otm (lE omn ?_))))))))))))))))
  refine lE oai (lnf (c_ret (f_then_ret (ret1 Tryz.results237 rfl ?_))))
  intro w hw
  exact ⟨congrArg (fun z : Int => Ending.returned (Ix z)) (show (((fark (b.x) (a.x - a.w) (a.x + a.w)) * (fark (b.x) (a.x - a.w) (a.x + a.w))) + ((fark (b.y) (a.y - a.h) (a.y + a.h)) * (fark (b.y) (a.y - a.h) (a.y + a.h)))) - ((b.w) * (b.w)) = far5 a b from sq5_ft hc6 hc9 hga hgb),st_mask [false,false,false,false] rfl hw⟩
 refine csk (csr (lE (olg 2) (lcR clA (fun w β1 sb kn hw1 => bounds5_ok β1 w hw1 b hb) (lE omt (lE oxa (lE oxa (alE fun b10 => alE fun b11 => ?_)))))))
 refine lu (mS 1 (#[Ix (b.x - b.w),Ix (b.y - b.h)])) (lu (mS 0 (#[Ix (b.x + b.w),Ix (b.y + b.h)])) (lnc (lE ofp (lE (oli 3) (lE ofp (lE (oli 1) ?_))))))
 refine lE omx (lE ofp (lE (oli 2) (lE ofp (lE (oli 0) (lE omz (lE omn (lE oai (lnc (lE ofp (lE (oli 3) (lE ofp (lE (oli 1) (lE omx (lE ofp ?_))))))))))))))
 refine lE (oli 2) (lE ofp (lE (oli 0) (lE omz (lE omn (lE oai (lnc (lE omi (lE omi (lE omx (lE oai (lnf (c_ret (ret1 Tryz.results237 rfl ?_)))))))))))))
 intro w hw
 exact ⟨congrArg (fun z : Int => Ending.returned (Ix z)) (show max ((max (a.x - a.w) (b.x - b.w)) - (min (a.x + a.w) (b.x + b.w))) ((max (a.y - a.h) (b.y - b.h)) - (min (a.y + a.h) (b.y + b.h))) = far5 a b from sq5_ff hc6 hc9 hga hgb),st_mask [false,false,false,false,false,false] rfl hw⟩
set_option maxHeartbeats 4000000 in
theorem over5_ok (β : Base) (w : World) (hw : St β [] w) (a b : KB) : Ret Tryz.prog 212 #[.agg (bC a), .agg (bC b)] β w (.bool (decide (over a b))) := by
 refine enter (n := 17) Tryz.func212 rfl Tryz.ntmps212 rfl ?_ hw
 refine csr (bxa fun b1 => ?_)
 refine bxa fun b2 => ?_
 refine lE oab (lnc (lE (olg 1) (lcR clA (fun w β1 sb kn hw1 => valid5_ok β1 w hw1 a) (lE omb (l_split (s := 7) rfl (fun hg3 => ?_) (fun hg3 => ?_))))))
 ·have hoa := hg3
  refine gE (olg 0) (g_call rfl rfl rfl rfl rfl (cl0 (vs := [.agg (bC b)]) tf115.ok rfl rfl) ?_)
  intro w hw
  obtain ⟨β1,sb,kn,hw1,back⟩ := St.frame_all hw
  refine (valid5_ok β1 w hw1 b).mono ?_
  rintro e w' ⟨rfl,hw'⟩
  refine ⟨_,rfl,_,back _ _ hw',?_⟩
  clear hw hw1 hw' back kn sb
  refine lE oktb (lE omb (l_split (s := 11) rfl (fun hg4 => ?_) (fun hg4 => ?_)))
  ·have hob := hg4
   refine gE (olg 1) (gE (olg 0) (g_call rfl rfl rfl rfl rfl (cl0 (vs := [.agg (bC a),.agg (bC b)]) tf118.ok rfl rfl) ?_))
   intro w hw
   obtain ⟨β1,sb,kn,hw1,back⟩ := St.frame_all hw
   refine (square_ok β1 w hw1 a b hoa hob).mono ?_
   rintro e w' ⟨rfl,hw'⟩
   refine ⟨_,rfl,_,back _ _ hw',?_⟩
   clear hw hw1 hw' back kn sb
   refine gE olt (lE oktb (lE oab (lnf (c_ret (ret1 Tryz.results212 rfl ?_)))))
   intro w hw
   exact ⟨congrArg (fun b : Bool => Ending.returned (.bool b)) (decide_eq_decide.2 ⟨fun h => ⟨hoa,hob,(far5_neg hoa hob).1 h⟩,fun h => (far5_neg hoa hob).2 h.2.2⟩),st_mask [false,false] rfl hw⟩
  have hob := hg4
  refine skE (skE (skE (skE (lE okfb (lE oab (lnf (c_ret (ret1 Tryz.results212 rfl ?_))))))))
  intro w hw
  exact ⟨congrArg (fun b : Bool => Ending.returned (.bool b)) (decide_eq_false fun h => hob h.2.1).symm,st_mask [false,false] rfl hw⟩
 have hoa := hg3
 refine skE (skE (lE okfb (lE omb (skE (skE (skE (skE (lE okfb (lE oab (lnf (c_ret (ret1 Tryz.results212 rfl ?_))))))))))))
 intro w hw
 exact ⟨congrArg (fun b : Bool => Ending.returned (.bool b)) (decide_eq_false fun h => hoa h.1).symm,st_mask [false,false] rfl hw⟩
set_option maxHeartbeats 4000000 in
theorem find7_ok (β : Base) (w : World) (hw : St β [] w) (v : Value) (xs : List KB) (hs : Sl KBR β.heap v xs) (i : Int) : Ret Tryz.prog 70 #[v, Ix i] β w (Ix (idxI (fun y : KB => decide (y.id = i)) xs)) := by
 obtain ⟨va,vc,rfl,vl,vm,ve⟩ := hs.get
 refine enter (n := 20) Tryz.func70 rfl Tryz.ntmps70 rfl ?_ hw
 refine csr (lE oai (lnf (cs2 (c_region (lE oai (lnf (c_block ?_)))))))
 refine c_loop (fun (k : Nat) f L => (f 0 = sB va xs (vc) ∧ f 1 = Ix (i) ∧ f 5 = Nx (k)) ∧ L = [] ∧ (k ≤ xs.length ∧ ∀ y ∈ xs.take k,decide (y.id = i) = false)) (fun k => xs.length - k) 0 ?_ ?_
 ·exact ⟨⟨rfl,rfl,rfl⟩,rfl,⟨by omega,fun y hy => by simp at hy⟩⟩
 rintro k f0 L0 ⟨⟨hs0,hs1,hs5⟩,hL,⟨hk,hp⟩⟩
 subst L0
 refine rbs 0 hs0 (rbs 1 hs1 (rbs 5 hs5 (cs2 (c_region (lE omi (lE oms (lE oln (lE olt (lnf (c_if _ rfl (fun hc1 => ?_) (fun hc1 => ?_)))))))))))
 ·refine csk (c_seq (c_block (csr (lE oms (lE omi ?_)))))
  obtain ⟨x2,hx3⟩ := getx xs k (by omega)
  obtain ⟨ha4,cs5,hc6,rfl⟩ := ve _ _ hx3
  refine lE (oia tf43 ha4) (lE ofa (lv (v := Ix (x2.id)) (e_load1 tf2.ok rfl (Knows.imp (kB hc6) (fun _ h => Cs.sub (vs := [Ix (x2.id)]) 0 h rfl))) ?_))
  refine lE omi (lE oeq_ (lnf (c_if _ rfl (fun hc8 => ?_) (fun hc8 => ?_))))
  ·refine csr (lE omi (lE oai (lnf (c_ret (f_block_ret (f_then_ret (f_then_ret (f_block_ret (f_then_ret (ret1 Tryz.results70 rfl ?_))))))))))
   intro w hw
   exact ⟨congrArg (fun z : Int => Ending.returned (Ix z)) (idx_found hx3 (decide_eq_true hc8) hp).symm,st_mask [] rfl hw⟩
  refine c_skip (f_block (f_then (c_region (lE omi (lv (v := Nx (k + 1)) (e_add rfl rfl (i64n (by omega) (by omega))) (lE oai (l_nil ?_)))))))
  exact f_cut ⟨k + 1,⟨⟨rfl,rfl,rfl⟩,rfl,⟨by omega,idx_next hx3 (decide_eq_false hc8) hp⟩⟩,(show xs.length - (k + 1) < xs.length - k from by omega)⟩
 refine c_exit (f_then_exit (f_then_exit (f_exit (ftc (lE oai (lnf (c_ret (ret1 Tryz.results70 rfl ?_))))))))
 intro w hw
 exact ⟨congrArg (fun z : Int => Ending.returned (Ix z)) (idx_none (by omega) hp).symm,st_mask [] rfl hw⟩
set_option maxHeartbeats 4000000 in
theorem pull7_ok (β : Base) (w : World) (hw : St β [] w) (x y : Int) : Ret Tryz.prog 115 #[.agg #[Ix x, Ix y]] β w (.bool (decide (okV x y))) := by
 refine enter (n := 21) Tryz.func115 rfl Tryz.ntmps115 rfl ?_ hw
 refine csr (bxa fun b1 => ?_)
 refine lE oab (lnc (lE ofp (lE (oli 0) (lE oge (lE omb (l_split (s := 6) rfl (fun hg2 => ?_) (fun hg2 => ?_)))))))
 ·refine gE ofp (gE (oli 0) (gE ole (lE oktb (lE omb (l_split (s := 11) rfl (fun hg3 => ?_) (fun hg3 => ?_))))))
  ·refine gE ofp (gE (oli 0) (gE oge (lE oktb (lE omb (l_split (s := 16) rfl (fun hg4 => ?_) (fun hg4 => ?_))))))
   ·refine gE ofp (gE (oli 0) (gE ole (lE oktb (lE oab (lnf (c_ret (ret1 Tryz.results115 rfl ?_)))))))
    intro w hw
    exact ⟨congrArg (fun b : Bool => Ending.returned (.bool b)) (show decide ((y) ≤ (4096 : Int)) = _ by first | (rw [eq_comm,decide_eq_false_iff_not]; unfold okV; omega) | exact decide_eq_decide.2 (by unfold okV; omega)),st_mask [false] rfl hw⟩
   refine skE (skE (skE (lE okfb (lE oab (lnf (c_ret (ret1 Tryz.results115 rfl ?_)))))))
   intro w hw
   exact ⟨congrArg (fun b : Bool => Ending.returned (.bool b)) (show false = _ by first | (rw [eq_comm,decide_eq_false_iff_not]; unfold okV; omega) | exact decide_eq_decide.2 (by unfold okV; omega)),st_mask [false] rfl hw⟩
  refine skE (skE (skE (lE okfb (lE omb (skE (skE (skE (lE okfb (lE oab (lnf (c_ret (ret1 Tryz.results115 rfl ?_))))))))))))
  intro w hw
  exact ⟨congrArg (fun b : Bool => Ending.returned (.bool b)) (show false = _ by first | (rw [eq_comm,decide_eq_false_iff_not]; unfold okV; omega) | exact decide_eq_decide.2 (by unfold okV; omega)),st_mask [false] rfl hw⟩
 refine skE (skE (skE (lE okfb (lE omb (skE (skE (skE (lE okfb (lE omb (skE (skE (skE (lE okfb (lE oab (lnf (c_ret (ret1 Tryz.results115 rfl ?_)))))))))))))))))
 intro w hw
 exact ⟨congrArg (fun b : Bool => Ending.returned (.bool b)) (show false = _ by first | (rw [eq_comm,decide_eq_false_iff_not]; unfold okV; omega) | exact decide_eq_decide.2 (by unfold okV; omega)),st_mask [false] rfl hw⟩
theorem clamp7_ok (β : Base) (w : World) (hw : St β [] w) (x : Int) : Ret Tryz.prog 116 #[Ix x] β w (Ix (clampS x)) := by
 refine enter (n := 6) Tryz.func116 rfl Tryz.ntmps116 rfl ?_ hw
 refine csr (lE oai (lnc (lE omi (lE omx (lE omz (lE oai (lnf (c_ret (ret1 Tryz.results116 rfl ?_)))))))))
 intro w hw
 exact ⟨congrArg Ending.returned (congrArg (Value.int .i64) (show (min (max (x) (-4096 : Int)) (4096 : Int)) = clampS x by unfold clampS; omega)),st_mask [] rfl hw⟩
set_option maxHeartbeats 4000000 in
theorem speed7_ok (β : Base) (w : World) (hw : St β [] w) (b : KB) (gx gy : Int) : Ret Tryz.prog 74 #[.agg (bC b), .agg #[Ix gx, Ix gy]] β w (.agg #[Ix (speedX b gx gy), Ix (speedY b gx gy)]) := by
 refine enter (n := 33) Tryz.func74 rfl Tryz.ntmps74 rfl ?_ hw
 refine csr (bxa fun b1 => ?_)
 refine bxa fun b2 => ?_
 refine alE fun b3 => lnf (cs2 (c_region (lE (olg 2) (lcR clA (fun w β1 sb kn hw1 => valid5_ok β1 w hw1 b) (lE ond (lE omb ?_))))))
 refine l_split (s := 8) rfl (fun hg4 => ?_) (fun hg4 => ?_)
 ·refine skE (skE (skE (lE oktb (lE omb (skE (skE (lE oktb (lnf (c_yes rfl (csr ?_))))))))))
  refine lv (v := .agg #[.int .i64 (0),.int .i64 (0)]) (e_build tf17.ok tf16 (vs := []) (cells := #[.int .i64 (0),.int .i64 (0)]) rfl rfl) ?_
  refine lu (mS 0 (#[.int .i64 (0),.int .i64 (0)])) (lnf (c_ret (f_then_ret ?_)))
  refine retG (m := [.agg #[.int .i64 (0),.int .i64 (0)]]) Tryz.results74 ⟨rd_cell tf15.ok rfl (k_pt 0 rfl rfl) rfl,trivial⟩ rfl ?_
  intro w hw
  exact ⟨by rw [show speedX b gx gy = 0 from if_pos (.inr (.inl hg4)),show speedY b gx gy = 0 from if_pos (.inr (.inl hg4))] <;> rfl,st_mask [false,false,false] rfl hw⟩
 have hob := Decidable.not_not.1 hg4
 refine gE (olg 1) (g_call rfl rfl rfl rfl rfl (cl0 (vs := [.agg #[Ix (gx),Ix (gy)]]) tf119.ok rfl rfl) ?_)
 intro w hw
 obtain ⟨β1,sb,kn,hw1,back⟩ := St.frame_all hw
 refine (pull7_ok β1 w hw1 (gx) (gy)).mono ?_
 rintro e w' ⟨rfl,hw'⟩
 refine ⟨_,rfl,_,back _ _ hw',?_⟩
 clear hw hw1 hw' back kn sb
 refine gE ond (lE okfb (lE omb (l_split (s := 13) rfl (fun hg5 => ?_) (fun hg5 => ?_))))
 ·refine skE (skE (lE oktb (lnf (c_yes rfl (csr ?_)))))
  refine lv (v := .agg #[.int .i64 (0),.int .i64 (0)]) (e_build tf17.ok tf16 (vs := []) (cells := #[.int .i64 (0),.int .i64 (0)]) rfl rfl) ?_
  refine lu (mS 0 (#[.int .i64 (0),.int .i64 (0)])) (lnf (c_ret (f_then_ret ?_)))
  refine retG (m := [.agg #[.int .i64 (0),.int .i64 (0)]]) Tryz.results74 ⟨rd_cell tf15.ok rfl (k_pt 0 rfl rfl) rfl,trivial⟩ rfl ?_
  intro w hw
  exact ⟨by rw [show speedX b gx gy = 0 from if_pos (.inr (.inr hg5)),show speedY b gx gy = 0 from if_pos (.inr (.inr hg5))] <;> rfl,st_mask [false,false,false] rfl hw⟩
 have hov := Decidable.not_not.1 hg5
 refine gE ofp (gE (olb 2) (lE okfb (lnf (c_ifb (b.fixed) rfl (fun hc6 => ?_) (fun hc6 => ?_)))))
 ·refine csr (lv (v := .agg #[.int .i64 (0),.int .i64 (0)]) (e_build tf17.ok tf16 (vs := []) (cells := #[.int .i64 (0),.int .i64 (0)]) rfl rfl) ?_)
  refine lu (mS 0 (#[.int .i64 (0),.int .i64 (0)])) (lnf (c_ret (f_then_ret ?_)))
  refine retG (m := [.agg #[.int .i64 (0),.int .i64 (0)]]) Tryz.results74 ⟨rd_cell tf15.ok rfl (k_pt 0 rfl rfl) rfl,trivial⟩ rfl ?_
  intro w hw
  exact ⟨by rw [show speedX b gx gy = 0 from if_pos (.inl hc6),show speedY b gx gy = 0 from if_pos (.inl hc6)] <;> rfl,st_mask [false,false,false] rfl hw⟩
 refine csk (c_seq ?_)
 have v1 := hob.2.2.2.1
 have v2 := hob.2.2.2.2.1
 have v3 := hov.1
 have v4 := hov.2.1
 have v5 := hov.2.2.1
 have v6 := hov.2.2.2
 refine cny [sv 18 (pp b1 3) [] [] [0],sv 19 (pp b1 3) [0] [0] [],sv 20 (Ix (b.vx)) [0,1] [1] [],sv 21 (pp b2 0) [] [] [1],sv 22 (Ix (gx)) [3] [3] [],sv 23 (Ix ((b.vx) + (gx))) [0,1,2,3,4] [2,4] [],sv 24 (Ix (clampS ((b.vx) + (gx)))) (List.range 6) [5] [],sv 25 (pp b1 3) [] [] [0],sv 26 (pp b1 4) [7] [7] [],sv 27 (Ix (b.vy)) [7,8] [8] [],sv 28 (pp b2 1) [] [] [1],sv 29 (Ix (gy)) [10] [10] [],sv 30 (Ix ((b.vy) + (gy))) [7,8,9,10,11] [9,11] [],sv 31 (Ix (clampS ((b.vy) + (gy)))) (List.range 13) [12] [],sv 32 (.agg #[Ix (clampS ((b.vx) + (gx))),Ix (clampS ((b.vy) + (gy)))]) (List.range 14) [6,13] [],⟨(List.range 15),[14],[2],[],fun _ => True⟩] [⟨none,(some 15),[15],[],fun _ => pt b3 (.cells #[.int .i64 (0),.int .i64 (0)] 28)⟩,tk (pt b2 (.cells #[Ix (gx),Ix (gy)] 28)) [4,11],tk (pt b1 (.cells (bC b) 52)) [2,9],⟨(some 15),none,[],[],fun _ => pt b3 (.cells #[Ix (clampS ((b.vx) + (gx))),Ix (clampS ((b.vy) + (gy)))] 28)⟩] [(2,pp b1 0),(3,pp b2 0),(4,pp b3 0)] [2] [] ⟨rfl,rfl,rfl,trivial⟩ ⟨?_,?_,?_,?_,?_,?_,?_,?_,?_,?_,?_,?_,?_,?_,?_,?_,trivial⟩ ?_
 ·rintro f M - ⟨i0,-⟩
  exact obE ofp
 ·rintro f M ⟨k0,-⟩ -
  exact obE ofp
 ·rintro f M ⟨k0,-⟩ -
  exact obE (oli 0)
 ·rintro f M - ⟨i0,-⟩
  exact obE ofp
 ·rintro f M ⟨k0,-⟩ -
  exact obE (oli 0)
 ·rintro f M ⟨k0,k1,-⟩ -
  exact obE opl
 ·rintro f M ⟨k0,-⟩ -
  refine ob_start (L' := M) (by rfl) (up_cons (d := 23) rfl k0) (lcR clA (fun w β1 sb kn hw1 => clamp7_ok β1 w hw1 ((b.vx) + (gx))) (l_nil ?_))
  exact f_owes_d (up_cons (d := 23) rfl k0) rfl (List.Perm.refl _)
 ·rintro f M - ⟨i0,-⟩
  exact obE ofp
 ·rintro f M ⟨k0,-⟩ -
  exact obE ofp
 ·rintro f M ⟨k0,-⟩ -
  exact obE (oli 0)
 ·rintro f M - ⟨i0,-⟩
  exact obE ofp
 ·rintro f M ⟨k0,-⟩ -
  exact obE (oli 0)
 ·rintro f M ⟨k0,k1,-⟩ -
  exact obE opl
 ·rintro f M ⟨k0,-⟩ -
  refine ob_start (L' := M) (by rfl) (up_cons (d := 30) rfl k0) (lcR clA (fun w β1 sb kn hw1 => clamp7_ok β1 w hw1 ((b.vy) + (gy))) (l_nil ?_))
  exact f_owes_d (up_cons (d := 30) rfl k0) rfl (List.Perm.refl _)
 ·rintro f M ⟨k0,k1,-⟩ -
  exact ob0 (up_cons (d := 31) (up_cons (d := 24) rfl k0) k1) rfl (e_build tf17.ok tf16 (vs := [(0,Ix (clampS ((b.vx) + (gx)))),(1,Ix (clampS ((b.vy) + (gy))))]) (cells := #[Ix (clampS ((b.vx) + (gx))),Ix (clampS ((b.vy) + (gy)))]) rfl rfl) (.refl _)
 ·rintro f M ⟨k0,-⟩ ⟨i0,-⟩
  refine ob_start (L' := pt b3 (.cells #[.int .i64 (0),.int .i64 (0)] 28) :: M) (by rfl) (up_cons (d := 32) (up_cons (d := 4) rfl i0) k0) ?_
  refine lu (mS 0 (#[Ix (clampS ((b.vx) + (gx))),Ix (clampS ((b.vy) + (gy)))])) (l_nil ?_)
  exact f_owes_n (up_cons (d := 32) (up_cons (d := 4) rfl i0) k0) trivial (perm_front 0 rfl)
 rintro fa7 ⟨-,-,-,-,-,-,-,-,-,-,-,-,-,-,-,-,-⟩ ⟨j0,-⟩
 refine f_re (L' := [pt b2 (.cells #[Ix (gx),Ix (gy)] 28),pt b1 (.cells (bC b) 52),pt b3 (.cells #[Ix (clampS ((b.vx) + (gx))),Ix (clampS ((b.vy) + (gy)))] 28)]) (by rfl) ?_
 refine f_rebase (d := 4) j0 (ftr ?_)
 refine retG (m := [.agg #[Ix (clampS ((b.vx) + (gx))),Ix (clampS ((b.vy) + (gy)))]]) Tryz.results74 ⟨rd_cell tf15.ok rfl (k_pt 2 rfl rfl) rfl,trivial⟩ rfl ?_
 intro w hw
 have hno : ¬ (b.fixed = true ∨ ¬ okB b ∨ ¬ okV gx gy) := fun h => h.elim (fun h => by rw [hc6] at h; cases h) fun h => h.elim (fun h => h hob) fun h => h hov
 exact ⟨by rw [show speedX b gx gy = clampS (b.vx + gx) from if_neg hno,show speedY b gx gy = clampS (b.vy + gy) from if_neg hno] <;> rfl,st_mask [false,false,false] rfl hw⟩
end Go.Proofs
