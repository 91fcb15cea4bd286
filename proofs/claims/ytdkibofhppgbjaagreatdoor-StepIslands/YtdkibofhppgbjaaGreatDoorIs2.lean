/-
 Joining, visiting: walked. Printed by a program of my own.
-/
import Derived.Test.YtdkibofhppgbjaaGreatDoorIsLaw
namespace Go.Isl
open Go.Sl
/-- two rows of a list of rows are joined -/
def joinZ (zs : List (List Int)) (a b : Nat) : List (List Int) := (zs.set a (zs.getD a [] ++ [(b : Int)])).set b (zs.getD b [] ++ [(a : Int)])
theorem join_sat {hs : List HI} {a b : Nat} {h1 h2 : HI} (hab : a ≠ b) : ((((hs.map ownI).set a empR).set b empR).set b (ownI h2)).set a (ownI h1) = ((hs.set a h1).set b h2).map ownI := by
 rw [List.set_set, List.set_comm _ _ hab, List.set_set, List.set_comm _ _ (Ne.symm hab), List.map_set, List.map_set]
theorem join_xs {hs : List HI} {a b : Nat} {x y : HI} {p q : Option Addr} {c d : Nat} (hx : hs[a]? = some x) (hy : hs[b]? = some y) : ((hs.set a ⟨p, c, x.xs ++ [(b : Int)]⟩).set b ⟨q, d, y.xs ++ [(a : Int)]⟩).map (·.xs) = joinZ (hs.map (·.xs)) a b := by
 unfold joinZ
 rw [List.map_set, List.map_set, List.getD_eq_getElem?_getD, List.getD_eq_getElem?_getD, List.getElem?_map, List.getElem?_map, hx, hy]; rfl
theorem mask_none {α : Type _} (l : List α) : mask l (l.map fun _ => false) = [] := by
 induction l with
 | nil => rfl
 | cons a l ih => exact ih
theorem join_st {β : Base} {w : World} {A B C : Res} {M : List Res} (h : St β (A :: B :: C :: M) w) : St β [B, C, A] w := by
 have h1 : St β [A, B, C] w := st_mask (true :: true :: true :: M.map fun _ => false) (by show A :: B :: C :: mask M _ = _; rw [mask_none]) h
 exact h1.perm (perm_ix [1, 2, 0] 3 rfl (by decide) rfl)
end Go.Isl
namespace Go.Proofs
open Go Go.Sl Go.Brd Go.Stp Go.Isl
theorem uz20 : tyB Tryz.prog 42 false 1 = true := by kernel_rfl
theorem uz21 : slB Tryz.prog 42 46 1 = true := by kernel_rfl
theorem uz22 : tyB Tryz.prog 46 false 1 = true := by kernel_rfl
theorem uz23 : slB Tryz.prog 46 3 1 = true := by kernel_rfl
theorem uz24 : (Tryz.prog.info? 3).bind (·.zero) = some (.int .i64 (0)) := by kernel_rfl
theorem uz25 : elB Tryz.prog 3 1 8 = true := by kernel_rfl
set_option maxHeartbeats 4000000 in
theorem join_ok (β : Base) (w : World) (b0 : Nat) (p : Option Addr) (c : Nat) (hs : List HI) (a b : Nat) (x y : HI) (hx : hs[a]? = some x) (hy : hs[b]? = some y) (hab : a ≠ b) (hxl : x.xs.length ≤ 1000000) (hyl : y.xs.length ≤ 1000000) (hw : St β [pt b0 (.cells #[.slice p hs.length c] 42), rowF HdIF 46 p c hs, Sat (hs.map ownI)] w) : Calls Tryz.prog 46 #[Nx a, Nx b, .pointer (some ⟨b0, 0, none⟩)] w fun r w' => r = .returned (.tuple #[]) ∧ ∃ hs', hs'.map (·.xs) = joinZ (hs.map (·.xs)) a b ∧ hs'.length = hs.length ∧ St β [pt b0 (.cells #[.slice p hs.length c] 42), rowF HdIF 46 p c hs', Sat (hs'.map ownI)] w' := by
 have hla := (List.getElem?_eq_some_iff.1 hx).1
 have hlb := (List.getElem?_eq_some_iff.1 hy).1
 have hi : (hs.map ownI)[a]? = some (ownI x) := by rw [List.getElem?_map, hx]; rfl
 have hj : ((hs.map ownI).set a empR)[b]? = some (ownI y) := by rw [List.getElem?_set_ne hab, List.getElem?_map, hy]; rfl
 replace hw := St.takeR hj (St.takeR hi (hw.perm (L' := [Sat (hs.map ownI), pt b0 (.cells #[.slice p hs.length c] 42), rowF HdIF 46 p c hs]) (by exact (perm_ix [2, 0, 1] 3 rfl (by kernel_rfl) (by kernel_rfl)))))
 refine enter (n := 25) Tryz.func46 rfl Tryz.ntmps46 rfl ?_ hw
 refine c_any [⟨[], [], [0], [5], fun f => f 5 = .slice p (hs.length) c⟩, ⟨[], [], [1], [6], fun f => f 6 = Nx (a)⟩, ⟨[], [], [0], [7], fun f => f 7 = .slice p (hs.length) c⟩, ⟨[], [], [2], [8], fun f => f 8 = Nx (b)⟩, ⟨[], [], [0], [9], fun f => f 9 = .slice p (hs.length) c⟩, ⟨[], [], [1], [10], fun f => f 10 = Nx (a)⟩, ⟨[4, 5], [4, 5], [], [11], fun f => f 11 = .pointer (some ((ba p).add (a * 1)))⟩, ⟨[4, 5, 6], [6], [], [12], fun f => f 12 = .slice x.p (x.xs.length) x.c⟩, ⟨[], [], [2], [13], fun f => f 13 = Nx (b)⟩, ⟨[8], [8], [], [14], fun f => f 14 = .slice (some ⟨(blk (f 14)), 0, none⟩) 1 1⟩, ⟨[4, 5, 6, 7, 8, 9], [7, 9], [], [15], fun f => f 15 = .slice (sla (f 15)) ((x.xs ++ [((b : Nat) : Int)]).length) (slc (f 15))⟩, ⟨[], [], [0], [16], fun f => f 16 = .slice p (hs.length) c⟩, ⟨[], [], [2], [17], fun f => f 17 = Nx (b)⟩, ⟨[11, 12], [11, 12], [], [18], fun f => f 18 = .pointer (some ((ba p).add (b * 1)))⟩, ⟨[11, 12, 13], [13], [], [19], fun f => f 19 = .slice y.p (y.xs.length) y.c⟩, ⟨[], [], [1], [20], fun f => f 20 = Nx (a)⟩, ⟨[15], [15], [], [21], fun f => f 21 = .slice (some ⟨(blk (f 21)), 0, none⟩) 1 1⟩, ⟨[4, 5, 6, 7, 8, 9, 10, 11, 12, 13, 14, 15, 16], [14, 16], [], [22], fun f => f 22 = .slice (sla (f 22)) ((y.xs ++ [((a : Nat) : Int)]).length) (slc (f 22))⟩, ⟨[0, 1, 4, 5, 6, 7, 8, 9, 10, 11, 12, 13, 14, 15, 16, 17], [0, 1], [], [23], fun f => f 23 = .pointer (some ((ba p).add (a * 1)))⟩, ⟨[0, 1, 4, 5, 6, 7, 8, 9, 10, 11, 12, 13, 14, 15, 16, 17, 18], [18, 10], [], [], fun _ => True⟩, ⟨[0, 1, 2, 3, 4, 5, 6, 7, 8, 9, 10, 11, 12, 13, 14, 15, 16, 17, 18, 19], [2, 3], [], [24], fun f => f 24 = .pointer (some ((ba p).add (b * 1)))⟩, ⟨[0, 1, 2, 3, 4, 5, 6, 7, 8, 9, 10, 11, 12, 13, 14, 15, 16, 17, 18, 19, 20], [20, 17], [], [], fun _ => True⟩] [⟨none, none, [], [], fun _ => Sat (((hs.map ownI).set a empR).set b empR)⟩, ⟨none, (some 17), [17], [], fun _ => rowF IntF 3 y.p y.c y.xs⟩, ⟨none, (some 10), [10], [], fun _ => rowF IntF 3 x.p x.c x.xs⟩, ⟨none, none, [0, 2, 4, 11], [], fun _ => pt b0 (.cells #[.slice p (hs.length) c] 42)⟩, ⟨none, (some 19), [6, 7, 13, 14, 18, 19], [], fun _ => rowF HdIF 46 p c hs⟩, ⟨(some 9), none, [10], [14], fun f => pt (blk (f 14)) (.cells #[Nx (b)] 3)⟩, ⟨(some 10), none, [], [15], fun f => rowF IntF 3 (sla (f 15)) (slc (f 15)) (x.xs ++ [((b : Nat) : Int)])⟩, ⟨(some 16), none, [17], [21], fun f => pt (blk (f 21)) (.cells #[Nx (a)] 3)⟩, ⟨(some 17), none, [], [22], fun f => rowF IntF 3 (sla (f 22)) (slc (f 22)) (y.xs ++ [((a : Nat) : Int)])⟩, ⟨(some 19), (some 21), [20, 21], [15], fun f => rowF HdIF 46 p c (hs.set a (⟨(sla (f 15)), (slc (f 15)), (x.xs ++ [((b : Nat) : Int)])⟩ : HI))⟩, ⟨(some 21), none, [], [15, 22], fun f => rowF HdIF 46 p c ((hs.set a (⟨(sla (f 15)), (slc (f 15)), (x.xs ++ [((b : Nat) : Int)])⟩ : HI)).set b (⟨(sla (f 22)), (slc (f 22)), (y.xs ++ [((a : Nat) : Int)])⟩ : HI))⟩] [(2, .pointer (some ⟨b0, 0, none⟩)), (0, Nx (a)), (1, Nx (b))] [] [] (by kernel_rfl) (by kernel_rfl) (by kernel_rfl) (by kernel_rfl) rfl ⟨rfl, rfl, rfl, trivial⟩ ⟨?_, ?_, ?_, ?_, ?_, ?_, ?_, ?_, ?_, ?_, ?_, ?_, ?_, ?_, ?_, ?_, ?_, ?_, ?_, ?_, ?_, ?_, trivial⟩ ?_
 ·rintro f M - ⟨i0, -⟩
  have hs2 : f 2 = .pointer (some ⟨b0, 0, none⟩) := i0
  refine ob_start (L' := pt b0 (.cells #[.slice p (hs.length) c] 42) :: M) (by rfl) (up_cons rfl hs2) ?_
  refine l_val (v := .slice p (hs.length) c) rfl rfl rfl (e_load1 uz20 (v := .slice p (hs.length) c) rfl (k_pt 0 (cs := #[.slice p (hs.length) c]) (vs := [.slice p (hs.length) c]) rfl rfl)) ?_
  refine l_nil ?_
  exact f_owes_d (up_cons rfl hs2) rfl (perm_front 0 rfl)
 ·rintro f M - ⟨i0, -⟩
  have hs0 : f 0 = Nx (a) := i0
  refine ob_start (L' := M) (by rfl) (up_cons rfl hs0) ?_
  refine l_val (v := Nx (a)) rfl rfl rfl (e_move) ?_
  refine l_nil ?_
  exact f_owes_d (up_cons rfl hs0) rfl (List.Perm.refl _)
 ·rintro f M - ⟨i0, -⟩
  have hs2 : f 2 = .pointer (some ⟨b0, 0, none⟩) := i0
  refine ob_start (L' := pt b0 (.cells #[.slice p (hs.length) c] 42) :: M) (by rfl) (up_cons rfl hs2) ?_
  refine l_val (v := .slice p (hs.length) c) rfl rfl rfl (e_load1 uz20 (v := .slice p (hs.length) c) rfl (k_pt 0 (cs := #[.slice p (hs.length) c]) (vs := [.slice p (hs.length) c]) rfl rfl)) ?_
  refine l_nil ?_
  exact f_owes_d (up_cons rfl hs2) rfl (perm_front 0 rfl)
 ·rintro f M - ⟨i0, -⟩
  have hs1 : f 1 = Nx (b) := i0
  refine ob_start (L' := M) (by rfl) (up_cons rfl hs1) ?_
  refine l_val (v := Nx (b)) rfl rfl rfl (e_move) ?_
  refine l_nil ?_
  exact f_owes_d (up_cons rfl hs1) rfl (List.Perm.refl _)
 ·rintro f M - ⟨i0, -⟩
  have hs2 : f 2 = .pointer (some ⟨b0, 0, none⟩) := i0
  refine ob_start (L' := pt b0 (.cells #[.slice p (hs.length) c] 42) :: M) (by rfl) (up_cons rfl hs2) ?_
  refine l_val (v := .slice p (hs.length) c) rfl rfl rfl (e_load1 uz20 (v := .slice p (hs.length) c) rfl (k_pt 0 (cs := #[.slice p (hs.length) c]) (vs := [.slice p (hs.length) c]) rfl rfl)) ?_
  refine l_nil ?_
  exact f_owes_d (up_cons rfl hs2) rfl (perm_front 0 rfl)
 ·rintro f M - ⟨i0, -⟩
  have hs0 : f 0 = Nx (a) := i0
  refine ob_start (L' := M) (by rfl) (up_cons rfl hs0) ?_
  refine l_val (v := Nx (a)) rfl rfl rfl (e_move) ?_
  refine l_nil ?_
  exact f_owes_d (up_cons rfl hs0) rfl (List.Perm.refl _)
 ·rintro f M ⟨k0, k1, -⟩ -
  have hs9 : f 9 = .slice p (hs.length) c := k0
  have hs10 : f 10 = Nx (a) := k1
  refine ob_start (L' := rowF HdIF 46 p c hs :: M) (by rfl) (up_cons (up_cons rfl hs9) hs10) ?_
  refine l_val (v := .pointer (some ((ba p).add (a * 1)))) rfl rfl rfl (e_indexFlN 0 (F := HdIF) (j := a) (m := hs.length) (xs := hs) rfl rfl rfl uz21 (by omega) rfl) ?_
  refine l_nil ?_
  exact f_owes_d (up_cons (up_cons rfl hs9) hs10) rfl (perm_front 0 rfl)
 ·rintro f M ⟨k0, -⟩ -
  have hs11 : f 11 = .pointer (some ((ba p).add (a * 1))) := k0
  refine ob_start (L' := rowF HdIF 46 p c hs :: M) (by rfl) (up_cons rfl hs11) ?_
  refine l_val (v := .slice x.p (x.xs.length) x.c) rfl rfl rfl (e_load1 uz22 (v := .slice x.p (x.xs.length) x.c) rfl (k_flAt 0 (F := HdIF) rfl hx)) ?_
  refine l_nil ?_
  exact f_owes_d (up_cons rfl hs11) rfl (perm_front 0 rfl)
 ·rintro f M - ⟨i0, -⟩
  have hs1 : f 1 = Nx (b) := i0
  refine ob_start (L' := M) (by rfl) (up_cons rfl hs1) ?_
  refine l_val (v := Nx (b)) rfl rfl rfl (e_move) ?_
  refine l_nil ?_
  exact f_owes_d (up_cons rfl hs1) rfl (List.Perm.refl _)
 ·rintro f M ⟨k0, -⟩ -
  have hs13 : f 13 = Nx (b) := k0
  refine ob_start (L' := M) (by rfl) (up_cons rfl hs13) ?_
  refine l_mv rfl rfl rfl (m_slices uz23 uz24 (vs := [(0, Nx (b))]) (cells := #[Nx (b)]) rfl rfl rfl rfl) ?_
  rintro _ _ ⟨b2, rfl, rfl⟩
  refine l_nil ?_
  exact f_owes_d (up_cons rfl hs13) rfl (perm_front 0 rfl)
 ·rintro f M ⟨k0, k1, -⟩ -
  have hs12 : f 12 = .slice x.p (x.xs.length) x.c := k0
  have hs14 : f 14 = .slice (some ⟨(blk (f 14)), 0, none⟩) 1 1 := k1
  refine ob_start (L' := rowF IntF 3 x.p x.c x.xs :: pt (blk (f 14)) (.cells #[Nx (b)] 3) :: M) (by rfl) (up_cons (up_cons rfl hs12) hs14) ?_
  refine l_mv rfl rfl rfl (m_appendFlN (F := IntF) 0 uz23 uz25 (p := x.p) (m := x.xs.length) (xs := x.xs) (ys := [((b : Nat) : Int)]) (ao := (some ⟨(blk (f 14)), 0, none⟩)) (k := 1) (c := 1) rfl rfl rfl rfl rfl (k_ptFl (z := ((b : Nat) : Int)) 1 rfl rfl) (by first | omega | simp only [List.length_nil, List.length_cons, List.length_append, List.length_set]; omega) (by first | omega | simp only [List.length_nil, List.length_cons, List.length_append, List.length_set]; omega)) ?_
  rintro _ _ ⟨rp5, rc6, rfl, rfl⟩
  refine l_nil ?_
  exact f_owes_d (up_cons (up_cons rfl hs12) hs14) rfl ((perm_front 0 rfl).trans (perm_front 1 rfl))
 ·rintro f M - ⟨i0, -⟩
  have hs2 : f 2 = .pointer (some ⟨b0, 0, none⟩) := i0
  refine ob_start (L' := pt b0 (.cells #[.slice p (hs.length) c] 42) :: M) (by rfl) (up_cons rfl hs2) ?_
  refine l_val (v := .slice p (hs.length) c) rfl rfl rfl (e_load1 uz20 (v := .slice p (hs.length) c) rfl (k_pt 0 (cs := #[.slice p (hs.length) c]) (vs := [.slice p (hs.length) c]) rfl rfl)) ?_
  refine l_nil ?_
  exact f_owes_d (up_cons rfl hs2) rfl (perm_front 0 rfl)
 ·rintro f M - ⟨i0, -⟩
  have hs1 : f 1 = Nx (b) := i0
  refine ob_start (L' := M) (by rfl) (up_cons rfl hs1) ?_
  refine l_val (v := Nx (b)) rfl rfl rfl (e_move) ?_
  refine l_nil ?_
  exact f_owes_d (up_cons rfl hs1) rfl (List.Perm.refl _)
 ·rintro f M ⟨k0, k1, -⟩ -
  have hs16 : f 16 = .slice p (hs.length) c := k0
  have hs17 : f 17 = Nx (b) := k1
  refine ob_start (L' := rowF HdIF 46 p c hs :: M) (by rfl) (up_cons (up_cons rfl hs16) hs17) ?_
  refine l_val (v := .pointer (some ((ba p).add (b * 1)))) rfl rfl rfl (e_indexFlN 0 (F := HdIF) (j := b) (m := hs.length) (xs := hs) rfl rfl rfl uz21 (by omega) rfl) ?_
  refine l_nil ?_
  exact f_owes_d (up_cons (up_cons rfl hs16) hs17) rfl (perm_front 0 rfl)
 ·rintro f M ⟨k0, -⟩ -
  have hs18 : f 18 = .pointer (some ((ba p).add (b * 1))) := k0
  refine ob_start (L' := rowF HdIF 46 p c hs :: M) (by rfl) (up_cons rfl hs18) ?_
  refine l_val (v := .slice y.p (y.xs.length) y.c) rfl rfl rfl (e_load1 uz22 (v := .slice y.p (y.xs.length) y.c) rfl (k_flAt 0 (F := HdIF) rfl hy)) ?_
  refine l_nil ?_
  exact f_owes_d (up_cons rfl hs18) rfl (perm_front 0 rfl)
 ·rintro f M - ⟨i0, -⟩
  have hs0 : f 0 = Nx (a) := i0
  refine ob_start (L' := M) (by rfl) (up_cons rfl hs0) ?_
  refine l_val (v := Nx (a)) rfl rfl rfl (e_move) ?_
  refine l_nil ?_
  exact f_owes_d (up_cons rfl hs0) rfl (List.Perm.refl _)
 ·rintro f M ⟨k0, -⟩ -
  have hs20 : f 20 = Nx (a) := k0
  refine ob_start (L' := M) (by rfl) (up_cons rfl hs20) ?_
  refine l_mv rfl rfl rfl (m_slices uz23 uz24 (vs := [(0, Nx (a))]) (cells := #[Nx (a)]) rfl rfl rfl rfl) ?_
  rintro _ _ ⟨b8, rfl, rfl⟩
  refine l_nil ?_
  exact f_owes_d (up_cons rfl hs20) rfl (perm_front 0 rfl)
 ·rintro f M ⟨k0, k1, -⟩ -
  have hs19 : f 19 = .slice y.p (y.xs.length) y.c := k0
  have hs21 : f 21 = .slice (some ⟨(blk (f 21)), 0, none⟩) 1 1 := k1
  refine ob_start (L' := rowF IntF 3 y.p y.c y.xs :: pt (blk (f 21)) (.cells #[Nx (a)] 3) :: M) (by rfl) (up_cons (up_cons rfl hs19) hs21) ?_
  refine l_mv rfl rfl rfl (m_appendFlN (F := IntF) 0 uz23 uz25 (p := y.p) (m := y.xs.length) (xs := y.xs) (ys := [((a : Nat) : Int)]) (ao := (some ⟨(blk (f 21)), 0, none⟩)) (k := 1) (c := 1) rfl rfl rfl rfl rfl (k_ptFl (z := ((a : Nat) : Int)) 1 rfl rfl) (by first | omega | simp only [List.length_nil, List.length_cons, List.length_append, List.length_set]; omega) (by first | omega | simp only [List.length_nil, List.length_cons, List.length_append, List.length_set]; omega)) ?_
  rintro _ _ ⟨rp11, rc12, rfl, rfl⟩
  refine l_nil ?_
  exact f_owes_d (up_cons (up_cons rfl hs19) hs21) rfl ((perm_front 0 rfl).trans (perm_front 1 rfl))
 ·rintro f M ⟨k0, k1, -⟩ -
  have hs5 : f 5 = .slice p (hs.length) c := k0
  have hs6 : f 6 = Nx (a) := k1
  refine ob_start (L' := rowF HdIF 46 p c hs :: M) (by rfl) (up_cons (up_cons rfl hs5) hs6) ?_
  refine l_val (v := .pointer (some ((ba p).add (a * 1)))) rfl rfl rfl (e_indexFlN 0 (F := HdIF) (j := a) (m := hs.length) (xs := hs) rfl rfl rfl uz21 (by omega) rfl) ?_
  refine l_nil ?_
  exact f_owes_d (up_cons (up_cons rfl hs5) hs6) rfl (perm_front 0 rfl)
 ·rintro f M ⟨k0, k1, -⟩ -
  have hs23 : f 23 = .pointer (some ((ba p).add (a * 1))) := k0
  have hs15 : f 15 = .slice (sla (f 15)) ((x.xs ++ [((b : Nat) : Int)]).length) (slc (f 15)) := k1
  refine ob_start (L' := rowF HdIF 46 p c hs :: M) (by rfl) (up_cons (up_cons rfl hs23) hs15) ?_
  refine l_mu rfl rfl (m_storeFl 0 (F := HdIF) (p := p) (k := a) (xs := hs) (z := (⟨(sla (f 15)), (slc (f 15)), (x.xs ++ [((b : Nat) : Int)])⟩ : HI)) uz22 rfl rfl rfl rfl (by omega)) ?_
  refine l_nil ?_
  exact f_owes_n (up_cons (up_cons rfl hs23) hs15) trivial (perm_front 0 rfl)
 ·rintro f M ⟨k0, k1, -⟩ -
  have hs7 : f 7 = .slice p (hs.length) c := k0
  have hs8 : f 8 = Nx (b) := k1
  refine ob_start (L' := rowF HdIF 46 p c (hs.set a (⟨(sla (f 15)), (slc (f 15)), (x.xs ++ [((b : Nat) : Int)])⟩ : HI)) :: M) (by rfl) (up_cons (up_cons rfl hs7) hs8) ?_
  refine l_val (v := .pointer (some ((ba p).add (b * 1)))) rfl rfl rfl (e_indexFlN 0 (F := HdIF) (j := b) (m := hs.length) (xs := (hs.set a (⟨(sla (f 15)), (slc (f 15)), (x.xs ++ [((b : Nat) : Int)])⟩ : HI))) rfl (by simp only [List.length_set] <;> omega) rfl uz21 (by omega) rfl) ?_
  refine l_nil ?_
  exact f_owes_d (up_cons (up_cons rfl hs7) hs8) rfl (perm_front 0 rfl)
 ·rintro f M ⟨k0, k1, -⟩ -
  have hs24 : f 24 = .pointer (some ((ba p).add (b * 1))) := k0
  have hs22 : f 22 = .slice (sla (f 22)) ((y.xs ++ [((a : Nat) : Int)]).length) (slc (f 22)) := k1
  refine ob_start (L' := rowF HdIF 46 p c (hs.set a (⟨(sla (f 15)), (slc (f 15)), (x.xs ++ [((b : Nat) : Int)])⟩ : HI)) :: M) (by rfl) (up_cons (up_cons rfl hs24) hs22) ?_
  refine l_mu rfl rfl (m_storeFl 0 (F := HdIF) (p := p) (k := b) (xs := (hs.set a (⟨(sla (f 15)), (slc (f 15)), (x.xs ++ [((b : Nat) : Int)])⟩ : HI))) (z := (⟨(sla (f 22)), (slc (f 22)), (y.xs ++ [((a : Nat) : Int)])⟩ : HI)) uz22 rfl rfl rfl rfl (by rw [List.length_set]; omega)) ?_
  refine l_nil ?_
  exact f_owes_n (up_cons (up_cons rfl hs24) hs22) trivial (perm_front 0 rfl)
 rintro fa13 ⟨-, -, -, -, -, -, -, -, -, -, -, -, -, -, -, -, -, -, -, -, -, -, -⟩ -
 refine f_re (L' := [Sat (((hs.map ownI).set a empR).set b empR), pt b0 (.cells #[.slice p (hs.length) c] 42), pt (blk (fa13 14)) (.cells #[Nx (b)] 3), rowF IntF 3 (sla (fa13 15)) (slc (fa13 15)) (x.xs ++ [((b : Nat) : Int)]), pt (blk (fa13 21)) (.cells #[Nx (a)] 3), rowF IntF 3 (sla (fa13 22)) (slc (fa13 22)) (y.xs ++ [((a : Nat) : Int)]), rowF HdIF 46 p c ((hs.set a (⟨(sla (fa13 15)), (slc (fa13 15)), (x.xs ++ [((b : Nat) : Int)])⟩ : HI)).set b (⟨(sla (fa13 22)), (slc (fa13 22)), (y.xs ++ [((a : Nat) : Int)])⟩ : HI))]) (by rfl) ?_
 refine end0 Tryz.results46 ?_
 intro w hw
 replace hw := hw.perm (L' := [Sat (((hs.map ownI).set a empR).set b empR), rowF IntF 3 (sla (fa13 22)) (slc (fa13 22)) (y.xs ++ [((a : Nat) : Int)]), rowF IntF 3 (sla (fa13 15)) (slc (fa13 15)) (x.xs ++ [((b : Nat) : Int)]), pt b0 (.cells #[.slice p (hs.length) c] 42), rowF HdIF 46 p c ((hs.set a (⟨(sla (fa13 15)), (slc (fa13 15)), (x.xs ++ [((b : Nat) : Int)])⟩ : HI)).set b (⟨(sla (fa13 22)), (slc (fa13 22)), (y.xs ++ [((a : Nat) : Int)])⟩ : HI)), pt (blk (fa13 14)) (.cells #[Nx (b)] 3), pt (blk (fa13 21)) (.cells #[Nx (a)] 3)]) (by exact (perm_ix [0, 5, 3, 1, 6, 2, 4] 7 rfl (by kernel_rfl) (by kernel_rfl)))
 have hq := St.putR (i := a) (r := ownI (⟨(sla (fa13 15)), (slc (fa13 15)), (x.xs ++ [((b : Nat) : Int)])⟩ : HI)) (by simp only [List.length_set, List.length_map]; omega) (St.putR (i := b) (r := ownI (⟨(sla (fa13 22)), (slc (fa13 22)), (y.xs ++ [((a : Nat) : Int)])⟩ : HI)) (by simp only [List.length_set, List.length_map]; omega) hw)
 rw [join_sat hab] at hq
 exact ⟨rfl, ((hs.set a (⟨(sla (fa13 15)), (slc (fa13 15)), (x.xs ++ [((b : Nat) : Int)])⟩ : HI)).set b (⟨(sla (fa13 22)), (slc (fa13 22)), (y.xs ++ [((a : Nat) : Int)])⟩ : HI)), join_xs hx hy, by rw [List.length_set, List.length_set], join_st hq⟩
end Go.Proofs
