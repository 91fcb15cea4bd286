/-
  The graph: walked. Printed by a program of my own.
-/
import Derived.Test.YthncdmfogeemcaaGreatPt3
import Derived.Test.YthncdmfogeemcaaGreatPtRows
namespace Go.Pth
open Go.Sl Go.Brd Go.Proofs
theorem zs_bd {zs : List (HV Nat)} {hv : List (HV Nat)} {n k : Nat} {rs : List Nat} (hb : ∀ x ∈ hv.map (·.xs), x.length ≤ 1000000) (hr : rs.length ≤ 64) (hz : zs.map (·.xs) = putR (hv.map (·.xs)) n (rs.take k)) : ∀ z ∈ zs, z.xs.length ≤ 1000064 := fun z hz' => by
  have h := putR_bd (n := n) hb (rs.take k) z.xs (by rw [← hz]; exact List.mem_map.2 ⟨z, hz', rfl⟩)
  rw [List.length_take] at h; omega
theorem made_bd {l : List KA} {k : Nat} (h : k ≤ 4096) : ∀ x ∈ rowsL l.length (((portL l).take k).map nodeO), x.length ≤ 1000000 := fun x hx => by
  have h1 := rowsL_bd (B := 2) (fun y hy => by obtain ⟨o, _, rfl⟩ := List.mem_map.1 hy; exact Nat.le_refl _) x hx
  rw [List.length_map, List.length_take] at h1
  have := Nat.min_le_left k (portL l).length
  omega
theorem made_bd2 {l : List KA} {k n : Nat} {rs : List Nat} (h : k ≤ 4096) (hr : rs.length ≤ 64) : ∀ x ∈ putR (rowsL l.length (((portL l).take k).map nodeO)) n rs, x.length ≤ 1000000 := fun x hx => by
  have h1 := putR_bd (B := 8192) (fun y hy => ?_) rs x hx
  · omega
  · have h1 := rowsL_bd (B := 2) (fun y hy => by obtain ⟨o, _, rfl⟩ := List.mem_map.1 hy; exact Nat.le_refl _) y hy
    rw [List.length_map, List.length_take] at h1
    have := Nat.min_le_left k (portL l).length
    omega
theorem made_end {l : List KA} {p q : KV} {hn : List HN} {zs z1 z2 : List (HV Nat)} {a b : Option Addr} {a' b' : Nat} (hns : hn.map HN.k = (portL l).map nodeO) (hz : zs.map (·.xs) = rowsL l.length ((portL l).map nodeO)) (h1 : z1.map (·.xs) = putR (zs.map (·.xs)) hn.length (roomF l p.x p.y)) (h2 : z2.map (·.xs) = putR (z1.map (·.xs)) (hn ++ [(⟨p.x, p.y, a, a', roomF l p.x p.y⟩ : HN)]).length (roomF l q.x q.y)) :
    ((hn ++ [(⟨p.x, p.y, a, a', roomF l p.x p.y⟩ : HN)]) ++ [(⟨q.x, q.y, b, b', roomF l q.x q.y⟩ : HN)]).map HN.k = nodeL l p q ∧ z2.map (·.xs) = rowsL l.length (nodeL l p q) := by
  have e : nodeL l p q = (((portL l).map nodeO) ++ [⟨p.x, p.y, roomF l p.x p.y⟩]) ++ [⟨q.x, q.y, roomF l q.x q.y⟩] := by unfold nodeL; rw [List.append_assoc]; rfl
  have hl : hn.length = (portL l).length := by have := congrArg List.length hns; rw [List.length_map, List.length_map] at this; exact this
  rw [e]
  refine ⟨by rw [List.map_append, List.map_append, hns]; rfl, ?_⟩
  rw [h2, h1, hz, rowsL_snoc, rowsL_snoc, List.length_append, List.length_append, List.length_map, hl]; rfl
end Go.Pth
namespace Go.Proofs
open Go Go.Sl Go.Brd Go.Pth
theorem portalsM_ok (β : Base) (w : World) (hw : St β [] w) (v : Value) (l : List KA) (hs : Sl AreaF.R β.heap v l) (h : okM l) : Calls Tryz.prog 7 #[v] w fun r w' => ∃ p c, r = .returned (.tuple #[.slice p (portL l).length c, .int .i64 (0)]) ∧ St β [rowF PoF 50 p c (portL l)] w' := by
  have h1 := portals_ok β w hw v l hs
  rw [portX_ok h, errM_ok h] at h1; exact h1
theorem roomsM_ok (β : Base) (w : World) (hw : St β [] w) (v : Value) (l : List KA) (hs : Sl AreaF.R β.heap v l) (h : okM l) (x y : Int) : Calls Tryz.prog 8 #[v, .agg #[Ix x, Ix y]] w fun r w' => ∃ p c, r = .returned (.tuple #[.slice p (roomF l x y).length c, .int .i64 (0)]) ∧ St β [rowF NatF 3 p c (roomF l x y)] w' := by
  have h1 := rooms_ok β w hw v l hs x y
  rw [roomX_ok h, errM_ok h] at h1; exact h1
theorem tv43 : Tryz.prog.underlying 36 = some (.slice 3) := by kernel_rfl
theorem tv44 : fldB Tryz.prog 65 1 1 1 false = true := by kernel_rfl
theorem tv45 : tyB Tryz.prog 63 false 1 = true := by kernel_rfl
theorem tv46 : slB Tryz.prog 63 36 1 = true := by kernel_rfl
theorem tv47 : tyB Tryz.prog 36 false 1 = true := by kernel_rfl
theorem tv48 : fldB Tryz.prog 65 0 0 1 false = true := by kernel_rfl
theorem tv49 : tyB Tryz.prog 62 false 1 = true := by kernel_rfl
theorem tv50 : Tryz.prog.underlying 62 = some (.slice 72) := by kernel_rfl
theorem tv51 : stB Tryz.prog 72 [(0, 2), (2, 1)] = true := by kernel_rfl
theorem tv52 : (Tryz.prog.info? 72).bind (·.zero) = some (.agg #[.int .i64 (0), .int .i64 (0), .slice none 0 0]) := by kernel_rfl
theorem tv53 : slB Tryz.prog 62 72 3 = true := by kernel_rfl
theorem tv54 : elB Tryz.prog 72 3 40 = true := by kernel_rfl
theorem tv55 : (Tryz.prog.info? 65).bind (·.zero) = some (.agg #[.slice none 0 0, .slice none 0 0]) := by kernel_rfl
theorem tv56 : elB Tryz.prog 36 1 24 = true := by kernel_rfl
theorem tv57 : (Tryz.prog.info? 36).bind (·.zero) = some (.slice none 0 0) := by kernel_rfl
theorem tv58 : stB Tryz.prog 65 [(0, 1), (1, 1)] = true := by kernel_rfl
theorem tv59 : tyB Tryz.prog 65 true 2 = true := by kernel_rfl
theorem tv60 : cfB Tryz.prog 7 = true := by kernel_rfl
theorem tv61 : Tryz.prog.underlying 32 = some (.slice 50) := by kernel_rfl
theorem tv62 : tyB Tryz.prog 50 true 4 = true := by kernel_rfl
theorem tv63 : fldB Tryz.prog 50 2 2 2 true = true := by kernel_rfl
theorem tv64 : fldB Tryz.prog 50 0 0 1 false = true := by kernel_rfl
theorem tv65 : fldB Tryz.prog 50 1 1 1 false = true := by kernel_rfl
theorem tv66 : cfB Tryz.prog 40 = true := by kernel_rfl
theorem tv67 : slB Tryz.prog 40 27 2 = true := by kernel_rfl
theorem tv68 : Tryz.prog.underlying 40 = some (.slice 27) := by kernel_rfl
theorem tv69 : cfB Tryz.prog 8 = true := by kernel_rfl
set_option maxHeartbeats 4000000 in
theorem put_ok (β : Base) (w : World) (b : Nat) (np rp q : Option Addr) (nc rc d N : Nat) (hn : List HN) (hv : List (HV Nat)) (rs : List Nat) (a : KV) (hN : hv.length = N) (hnb : hn.length ≤ 100000) (hb : ∀ x ∈ hv.map (·.xs), x.length ≤ 1000000) (hrl : rs.length ≤ 64) (hrs : ∀ r ∈ rs, r < N) (hw : St β [pt b (.cells #[.slice np (hn.length) nc, .slice rp (N) rc] 65), rowF NodeF 72 np nc hn, rowF HvF 36 rp rc hv, Sat (hv.map ownH), rowF NatF 3 q d rs] w) : Calls Tryz.prog 40 #[.agg #[Ix (a.x), Ix (a.y)], .slice q rs.length d, .pointer (some ⟨b, 0, none⟩)] w fun r w' => r = .returned (.tuple #[]) ∧ ∃ p c zs, zs.map (·.xs) = putR (hv.map (·.xs)) hn.length rs ∧ zs.length = N ∧ St β [pt b (.cells #[.slice p ((hn ++ [(⟨a.x, a.y, q, d, rs⟩ : HN)]).length) c, .slice rp (N) rc] 65), rowF NodeF 72 p c (hn ++ [(⟨a.x, a.y, q, d, rs⟩ : HN)]), rowF HvF 36 rp rc zs, Sat (zs.map ownH), rowF NatF 3 q d rs] w' := by
  refine enter (n := 36) Tryz.func40 rfl Tryz.ntmps40 rfl ?_ hw
  refine c_seq ?_
  refine c_region ?_
  refine l_mv rfl rfl rfl (m_box (v := .agg #[Ix (a.x), Ix (a.y)]) rfl) ?_
  rintro _ _ ⟨b1, rfl, rfl⟩
  refine l_nil ?_
  refine f_then ?_
  refine c_seq ?_
  refine c_seq ?_
  refine c_region ?_
  refine l_val (v := .slice q (rs.length) d) rfl rfl rfl (e_move) ?_
  refine l_val (v := Nx (rs.length)) rfl rfl rfl (e_len (a := q) (n := rs.length) (c := d) rfl tv43) ?_
  refine l_val (v := .int .i64 (0)) rfl rfl rfl (e_move) ?_
  refine l_nil ?_
  refine f_then ?_
  refine c_block ?_
  refine c_loop (fun (x_ : Nat × List (HV Nat)) (f : Fm) (L : List Res) => match x_ with | (k, zs) => (f 1 = .slice q (rs.length) d ∧ f 2 = .pointer (some ⟨b, 0, none⟩) ∧ f 3 = .pointer (some ⟨b1, 0, none⟩) ∧ f 7 = .slice q (rs.length) d ∧ f 8 = Nx (rs.length) ∧ f 9 = Nx (k)) ∧ L = [pt b1 (.cells #[Ix (a.x), Ix (a.y)] 27), pt b (.cells #[.slice np (hn.length) nc, .slice rp (N) rc] 65), rowF NodeF 72 np nc hn, rowF HvF 36 rp rc zs, Sat (zs.map ownH), rowF NatF 3 q d rs] ∧ (k ≤ rs.length ∧ zs.map (·.xs) = putR (hv.map (·.xs)) hn.length (rs.take k) ∧ zs.length = N)) (fun (x_ : Nat × List (HV Nat)) => match x_ with | (k, zs) => rs.length - k) (0, hv) ?_ ?_
  · exact ⟨⟨rfl, rfl, rfl, rfl, rfl, rfl⟩, rfl, ⟨by omega, rfl, hN⟩⟩
  rintro ⟨k, zs⟩ f0 L0 ⟨⟨hs1, hs2, hs3, hs7, hs8, hs9⟩, hL, ⟨hk, hz, hzN⟩⟩
  subst L0
  refine rebase (d := 1) hs1 ?_
  refine rebase (d := 2) hs2 ?_
  refine rebase (d := 3) hs3 ?_
  refine rebase (d := 7) hs7 ?_
  refine rebase (d := 8) hs8 ?_
  refine rebase (d := 9) hs9 ?_
  clear hs1 hs2 hs3 hs7 hs8 hs9
  refine c_seq ?_
  refine c_region ?_
  refine l_val (v := .bool (decide (((k : Nat) : Int) < ((rs.length : Nat) : Int)))) rfl rfl rfl (e_lss (a := ((k : Nat) : Int)) (b := ((rs.length : Nat) : Int)) rfl rfl) ?_
  refine l_nil ?_
  refine f_then ?_
  refine c_seq ?_
  refine c_if (((k : Nat) : Int) < ((rs.length : Nat) : Int)) rfl (fun hc2 => ?_) (fun hc2 => ?_)
  ·
    refine c_skip ?_
    refine f_then ?_
    refine c_seq ?_
    refine c_block ?_
    refine c_seq ?_
    refine c_region ?_
    refine l_val (v := .pointer (some ((ba q).add (k * 1)))) rfl rfl rfl (e_indexFlN 5 (F := NatF) (j := k) (m := rs.length) (xs := rs) rfl rfl rfl tu29 (by omega) rfl) ?_
    obtain ⟨x3, hx4⟩ : ∃ x_, rs[k]? = some x_ := ⟨_, List.getElem?_eq_getElem (by omega)⟩
    refine l_val (v := Nx (x3)) rfl rfl rfl (e_load1 tp2 (v := Nx (x3)) rfl (k_flAt 5 (F := NatF) rfl hx4)) ?_
    refine l_val (v := Nx (x3)) rfl rfl rfl (e_assign) ?_
    refine l_nil ?_
    refine f_then ?_
    have hrN := hrs x3 (List.mem_of_getElem? hx4)
    obtain ⟨z, hzr⟩ : ∃ z, zs[x3]? = some z := ⟨_, List.getElem?_eq_getElem (by omega)⟩
    have hzl := zs_bd hb hrl hz z (List.mem_of_getElem? hzr)
    refine c_perm (L' := [Sat (zs.map ownH), pt b1 (.cells #[Ix (a.x), Ix (a.y)] 27), pt b (.cells #[.slice np (hn.length) nc, .slice rp (N) rc] 65), rowF NodeF 72 np nc hn, rowF HvF 36 rp rc zs, rowF NatF 3 q d rs]) (perm_ix [4, 0, 1, 2, 3, 5] 6 rfl (by kernel_rfl) (by kernel_rfl)) ?_
    refine c_takeG (own := ownH) (x := z) hzr rfl ?_
    refine c_any [⟨[], [], [0], [13], fun f => f 13 = .pointer (some ⟨b, 1, none⟩)⟩, ⟨[0], [0], [], [14], fun f => f 14 = .slice rp (N) rc⟩, ⟨[], [], [1], [15], fun f => f 15 = Nx (x3)⟩, ⟨[], [], [0], [16], fun f => f 16 = .pointer (some ⟨b, 1, none⟩)⟩, ⟨[3], [3], [], [17], fun f => f 17 = .slice rp (N) rc⟩, ⟨[], [], [1], [18], fun f => f 18 = Nx (x3)⟩, ⟨[3, 4, 5], [4, 5], [], [19], fun f => f 19 = .pointer (some ((ba rp).add (x3 * 1)))⟩, ⟨[3, 4, 5, 6], [6], [], [20], fun f => f 20 = .slice z.p (z.xs.length) z.c⟩, ⟨[], [], [0], [21], fun f => f 21 = .pointer (some ⟨b, 0, none⟩)⟩, ⟨[8], [8], [], [22], fun f => f 22 = .slice np (hn.length) nc⟩, ⟨[8, 9], [9], [], [23], fun f => f 23 = Nx (hn.length)⟩, ⟨[8, 9, 10], [10], [], [24], fun f => f 24 = .slice (some ⟨(blk (f 24)), 0, none⟩) 1 1⟩, ⟨[3, 4, 5, 6, 7, 8, 9, 10, 11], [7, 11], [], [25], fun f => f 25 = .slice (sla (f 25)) ((z.xs ++ [hn.length]).length) (slc (f 25))⟩, ⟨[0, 1, 2, 3, 4, 5, 6, 7, 8, 9, 10, 11, 12], [1, 2], [], [26], fun f => f 26 = .pointer (some ((ba rp).add (x3 * 1)))⟩, ⟨[0, 1, 2, 3, 4, 5, 6, 7, 8, 9, 10, 11, 12, 13], [13, 12], [], [], fun _ => True⟩] [⟨none, none, [], [], fun _ => Sat ((zs.map ownH).eraseIdx x3)⟩, ⟨none, (some 12), [12], [], fun _ => rowF NatF 3 z.p z.c z.xs⟩, ⟨none, none, [], [], fun _ => pt b1 (.cells #[Ix (a.x), Ix (a.y)] 27)⟩, ⟨none, none, [1, 4, 9], [], fun _ => pt b (.cells #[.slice np (hn.length) nc, .slice rp (N) rc] 65)⟩, ⟨none, none, [], [], fun _ => rowF NodeF 72 np nc hn⟩, ⟨none, (some 14), [6, 7, 13, 14], [], fun _ => rowF HvF 36 rp rc zs⟩, ⟨none, none, [], [], fun _ => rowF NatF 3 q d rs⟩, ⟨(some 11), none, [12], [24], fun f => pt (blk (f 24)) (.cells #[Nx (hn.length)] 3)⟩, ⟨(some 12), none, [], [25], fun f => rowF NatF 3 (sla (f 25)) (slc (f 25)) (z.xs ++ [hn.length])⟩, ⟨(some 14), none, [], [25], fun f => rowF HvF 36 rp rc (zs.set x3 (⟨(sla (f 25)), (slc (f 25)), (z.xs ++ [hn.length])⟩ : HV Nat))⟩] [(2, .pointer (some ⟨b, 0, none⟩)), (6, Nx (x3)), (1, .slice q (rs.length) d), (3, .pointer (some ⟨b1, 0, none⟩)), (7, .slice q (rs.length) d), (8, Nx (rs.length)), (9, Nx (k))] [2, 0, 3, 4, 5, 6] [] (by kernel_rfl) (by kernel_rfl) (by kernel_rfl) (by kernel_rfl) rfl ⟨rfl, rfl, rfl, rfl, rfl, rfl, rfl, trivial⟩ ⟨?_, ?_, ?_, ?_, ?_, ?_, ?_, ?_, ?_, ?_, ?_, ?_, ?_, ?_, ?_, trivial⟩ ?_
    · rintro f M - ⟨i0, -⟩
      have hs2 : f 2 = .pointer (some ⟨b, 0, none⟩) := i0
      refine ob_start (L' := M) (by rfl) (up_cons rfl hs2) ?_
      refine l_val (v := .pointer (some ⟨b, 1, none⟩)) rfl rfl rfl (e_fieldPt (b := b) (o := 0) rfl tv44) ?_
      refine l_nil ?_
      exact f_owes_d (up_cons rfl hs2) rfl (List.Perm.refl _)
    · rintro f M ⟨k0, -⟩ -
      have hs13 : f 13 = .pointer (some ⟨b, 1, none⟩) := k0
      refine ob_start (L' := pt b (.cells #[.slice np (hn.length) nc, .slice rp (N) rc] 65) :: M) (by rfl) (up_cons rfl hs13) ?_
      refine l_val (v := .slice rp (N) rc) rfl rfl rfl (e_load1 tv45 (v := .slice rp (N) rc) rfl (k_pt 0 (cs := #[.slice np (hn.length) nc, .slice rp (N) rc]) (vs := [.slice rp (N) rc]) rfl rfl)) ?_
      refine l_nil ?_
      exact f_owes_d (up_cons rfl hs13) rfl (perm_front 0 rfl)
    · rintro f M - ⟨i0, -⟩
      have hs6 : f 6 = Nx (x3) := i0
      refine ob_start (L' := M) (by rfl) (up_cons rfl hs6) ?_
      refine l_val (v := Nx (x3)) rfl rfl rfl (e_move) ?_
      refine l_nil ?_
      exact f_owes_d (up_cons rfl hs6) rfl (List.Perm.refl _)
    · rintro f M - ⟨i0, -⟩
      have hs2 : f 2 = .pointer (some ⟨b, 0, none⟩) := i0
      refine ob_start (L' := M) (by rfl) (up_cons rfl hs2) ?_
      refine l_val (v := .pointer (some ⟨b, 1, none⟩)) rfl rfl rfl (e_fieldPt (b := b) (o := 0) rfl tv44) ?_
      refine l_nil ?_
      exact f_owes_d (up_cons rfl hs2) rfl (List.Perm.refl _)
    · rintro f M ⟨k0, -⟩ -
      have hs16 : f 16 = .pointer (some ⟨b, 1, none⟩) := k0
      refine ob_start (L' := pt b (.cells #[.slice np (hn.length) nc, .slice rp (N) rc] 65) :: M) (by rfl) (up_cons rfl hs16) ?_
      refine l_val (v := .slice rp (N) rc) rfl rfl rfl (e_load1 tv45 (v := .slice rp (N) rc) rfl (k_pt 0 (cs := #[.slice np (hn.length) nc, .slice rp (N) rc]) (vs := [.slice rp (N) rc]) rfl rfl)) ?_
      refine l_nil ?_
      exact f_owes_d (up_cons rfl hs16) rfl (perm_front 0 rfl)
    · rintro f M - ⟨i0, -⟩
      have hs6 : f 6 = Nx (x3) := i0
      refine ob_start (L' := M) (by rfl) (up_cons rfl hs6) ?_
      refine l_val (v := Nx (x3)) rfl rfl rfl (e_move) ?_
      refine l_nil ?_
      exact f_owes_d (up_cons rfl hs6) rfl (List.Perm.refl _)
    · rintro f M ⟨k0, k1, -⟩ -
      have hs17 : f 17 = .slice rp (N) rc := k0
      have hs18 : f 18 = Nx (x3) := k1
      refine ob_start (L' := rowF HvF 36 rp rc zs :: M) (by rfl) (up_cons (up_cons rfl hs17) hs18) ?_
      refine l_val (v := .pointer (some ((ba rp).add (x3 * 1)))) rfl rfl rfl (e_indexFlN 0 (F := HvF) (j := x3) (m := N) (xs := zs) rfl (by omega) rfl tv46 (by omega) rfl) ?_
      refine l_nil ?_
      exact f_owes_d (up_cons (up_cons rfl hs17) hs18) rfl (perm_front 0 rfl)
    · rintro f M ⟨k0, -⟩ -
      have hs19 : f 19 = .pointer (some ((ba rp).add (x3 * 1))) := k0
      refine ob_start (L' := rowF HvF 36 rp rc zs :: M) (by rfl) (up_cons rfl hs19) ?_
      refine l_val (v := .slice z.p (z.xs.length) z.c) rfl rfl rfl (e_load1 tv47 (v := .slice z.p (z.xs.length) z.c) rfl (k_flAt 0 (F := HvF) rfl hzr)) ?_
      refine l_nil ?_
      exact f_owes_d (up_cons rfl hs19) rfl (perm_front 0 rfl)
    · rintro f M - ⟨i0, -⟩
      have hs2 : f 2 = .pointer (some ⟨b, 0, none⟩) := i0
      refine ob_start (L' := M) (by rfl) (up_cons rfl hs2) ?_
      refine l_val (v := .pointer (some ⟨b, 0, none⟩)) rfl rfl rfl (e_fieldPt (b := b) (o := 0) rfl tv48) ?_
      refine l_nil ?_
      exact f_owes_d (up_cons rfl hs2) rfl (List.Perm.refl _)
    · rintro f M ⟨k0, -⟩ -
      have hs21 : f 21 = .pointer (some ⟨b, 0, none⟩) := k0
      refine ob_start (L' := pt b (.cells #[.slice np (hn.length) nc, .slice rp (N) rc] 65) :: M) (by rfl) (up_cons rfl hs21) ?_
      refine l_val (v := .slice np (hn.length) nc) rfl rfl rfl (e_load1 tv49 (v := .slice np (hn.length) nc) rfl (k_pt 0 (cs := #[.slice np (hn.length) nc, .slice rp (N) rc]) (vs := [.slice np (hn.length) nc]) rfl rfl)) ?_
      refine l_nil ?_
      exact f_owes_d (up_cons rfl hs21) rfl (perm_front 0 rfl)
    · rintro f M ⟨k0, -⟩ -
      have hs22 : f 22 = .slice np (hn.length) nc := k0
      refine ob_start (L' := M) (by rfl) (up_cons rfl hs22) ?_
      refine l_val (v := Nx (hn.length)) rfl rfl rfl (e_len (a := np) (n := hn.length) (c := nc) rfl tv50) ?_
      refine l_nil ?_
      exact f_owes_d (up_cons rfl hs22) rfl (List.Perm.refl _)
    · rintro f M ⟨k0, -⟩ -
      have hs23 : f 23 = Nx (hn.length) := k0
      refine ob_start (L' := M) (by rfl) (up_cons rfl hs23) ?_
      refine l_mv rfl rfl rfl (m_slices tu29 tu30 (vs := [(0, Nx (hn.length))]) (cells := #[Nx (hn.length)]) rfl rfl rfl rfl) ?_
      rintro _ _ ⟨b6, rfl, rfl⟩
      refine l_nil ?_
      exact f_owes_d (up_cons rfl hs23) rfl (perm_front 0 rfl)
    · rintro f M ⟨k0, k1, -⟩ -
      have hs20 : f 20 = .slice z.p (z.xs.length) z.c := k0
      have hs24 : f 24 = .slice (some ⟨(blk (f 24)), 0, none⟩) 1 1 := k1
      refine ob_start (L' := rowF NatF 3 z.p z.c z.xs :: pt (blk (f 24)) (.cells #[Nx (hn.length)] 3) :: M) (by rfl) (up_cons (up_cons rfl hs20) hs24) ?_
      refine l_mv rfl rfl rfl (m_appendFlN (F := NatF) 0 tu29 tu31 (p := z.p) (m := z.xs.length) (xs := z.xs) (ys := [hn.length]) (ao := (some ⟨(blk (f 24)), 0, none⟩)) (k := 1) (c := 1) rfl rfl rfl rfl rfl (k_ptFl (z := hn.length) 1 rfl rfl) (by first | omega | simp only [List.length_nil, List.length_cons, List.length_append, List.length_set]; omega) (by first | omega | simp only [List.length_nil, List.length_cons, List.length_append, List.length_set]; omega)) ?_
      rintro _ _ ⟨rp9, rc10, rfl, rfl⟩
      refine l_nil ?_
      exact f_owes_d (up_cons (up_cons rfl hs20) hs24) rfl ((perm_front 0 rfl).trans (perm_front 1 rfl))
    · rintro f M ⟨k0, k1, -⟩ -
      have hs14 : f 14 = .slice rp (N) rc := k0
      have hs15 : f 15 = Nx (x3) := k1
      refine ob_start (L' := rowF HvF 36 rp rc zs :: M) (by rfl) (up_cons (up_cons rfl hs14) hs15) ?_
      refine l_val (v := .pointer (some ((ba rp).add (x3 * 1)))) rfl rfl rfl (e_indexFlN 0 (F := HvF) (j := x3) (m := N) (xs := zs) rfl (by omega) rfl tv46 (by omega) rfl) ?_
      refine l_nil ?_
      exact f_owes_d (up_cons (up_cons rfl hs14) hs15) rfl (perm_front 0 rfl)
    · rintro f M ⟨k0, k1, -⟩ -
      have hs26 : f 26 = .pointer (some ((ba rp).add (x3 * 1))) := k0
      have hs25 : f 25 = .slice (sla (f 25)) ((z.xs ++ [hn.length]).length) (slc (f 25)) := k1
      refine ob_start (L' := rowF HvF 36 rp rc zs :: M) (by rfl) (up_cons (up_cons rfl hs26) hs25) ?_
      refine l_mu rfl rfl (m_storeFl 0 (F := HvF) (p := rp) (k := x3) (xs := zs) (z := (⟨(sla (f 25)), (slc (f 25)), (z.xs ++ [hn.length])⟩ : HV Nat)) tv47 rfl rfl rfl rfl (by omega)) ?_
      refine l_nil ?_
      exact f_owes_n (up_cons (up_cons rfl hs26) hs25) trivial (perm_front 0 rfl)
    rintro fa11 ⟨-, -, -, -, -, -, -, -, -, -, -, -, -, -, -, -⟩ ⟨j0, j1, j2, j3, j4, j5, -⟩
    refine f_re (L' := [Sat ((zs.map ownH).eraseIdx x3), pt b1 (.cells #[Ix (a.x), Ix (a.y)] 27), pt b (.cells #[.slice np (hn.length) nc, .slice rp (N) rc] 65), rowF NodeF 72 np nc hn, rowF NatF 3 q d rs, pt (blk (fa11 24)) (.cells #[Nx (hn.length)] 3), rowF NatF 3 (sla (fa11 25)) (slc (fa11 25)) (z.xs ++ [hn.length]), rowF HvF 36 rp rc (zs.set x3 (⟨(sla (fa11 25)), (slc (fa11 25)), (z.xs ++ [hn.length])⟩ : HV Nat))]) (by rfl) ?_
    refine f_rebase (d := 1) (v := .slice q (rs.length) d) j0 ?_
    refine f_rebase (d := 2) (v := .pointer (some ⟨b, 0, none⟩)) j1 ?_
    refine f_rebase (d := 3) (v := .pointer (some ⟨b1, 0, none⟩)) j2 ?_
    refine f_rebase (d := 7) (v := .slice q (rs.length) d) j3 ?_
    refine f_rebase (d := 8) (v := Nx (rs.length)) j4 ?_
    refine f_rebase (d := 9) (v := Nx (k)) j5 ?_
    refine f_block ?_
    refine f_then ?_
    refine c_perm (L' := [Sat ((zs.map ownH).eraseIdx x3), rowF NatF 3 (sla (fa11 25)) (slc (fa11 25)) (z.xs ++ [hn.length]), pt b1 (.cells #[Ix (a.x), Ix (a.y)] 27), pt b (.cells #[.slice np (hn.length) nc, .slice rp (N) rc] 65), rowF NodeF 72 np nc hn, rowF NatF 3 q d rs, pt (blk (fa11 24)) (.cells #[Nx (hn.length)] 3), rowF HvF 36 rp rc (zs.set x3 (⟨(sla (fa11 25)), (slc (fa11 25)), (z.xs ++ [hn.length])⟩ : HV Nat))]) (perm_ix [0, 6, 1, 2, 3, 4, 5, 7] 8 rfl (by kernel_rfl) (by kernel_rfl)) ?_
    refine c_putG (own := ownH) (x := (⟨(sla (fa11 25)), (slc (fa11 25)), (z.xs ++ [hn.length])⟩ : HV Nat)) (by omega) rfl ?_
    refine c_region ?_
    refine l_val (v := Nx (k + 1)) rfl rfl rfl (e_add (a := ((k : Nat) : Int)) (b := (1 : Int)) rfl rfl (i64n (by omega) (by omega))) ?_
    refine l_val (v := Nx (k + 1)) rfl rfl rfl (e_move) ?_
    refine l_nil ?_
    refine f_perm (L' := [pt b1 (.cells #[Ix (a.x), Ix (a.y)] 27), pt b (.cells #[.slice np (hn.length) nc, .slice rp (N) rc] 65), rowF NodeF 72 np nc hn, rowF HvF 36 rp rc (zs.set x3 (⟨(sla (fa11 25)), (slc (fa11 25)), (z.xs ++ [hn.length])⟩ : HV Nat)), Sat ((zs.set x3 (⟨(sla (fa11 25)), (slc (fa11 25)), (z.xs ++ [hn.length])⟩ : HV Nat)).map ownH), rowF NatF 3 q d rs, pt (blk (fa11 24)) (.cells #[Nx (hn.length)] 3)]) (perm_ix [1, 2, 3, 6, 0, 4, 5] 7 rfl (by kernel_rfl) (by kernel_rfl)) ?_
    refine f_mask (L' := [pt b1 (.cells #[Ix (a.x), Ix (a.y)] 27), pt b (.cells #[.slice np (hn.length) nc, .slice rp (N) rc] 65), rowF NodeF 72 np nc hn, rowF HvF 36 rp rc (zs.set x3 (⟨(sla (fa11 25)), (slc (fa11 25)), (z.xs ++ [hn.length])⟩ : HV Nat)), Sat ((zs.set x3 (⟨(sla (fa11 25)), (slc (fa11 25)), (z.xs ++ [hn.length])⟩ : HV Nat)).map ownH), rowF NatF 3 q d rs]) [true, true, true, true, true, true, false] rfl ?_
    exact f_cut ⟨(k + 1, (zs.set x3 (⟨(sla (fa11 25)), (slc (fa11 25)), (z.xs ++ [hn.length])⟩ : HV Nat))), ⟨⟨rfl, rfl, rfl, rfl, rfl, rfl⟩, rfl, ⟨by omega, put_xs hz hx4 hzr, by rw [List.length_set]; exact hzN⟩⟩, (show rs.length - (k + 1) < rs.length - k from by omega)⟩
  ·
    refine c_exit ?_
    refine f_then_exit ?_
    refine f_then_exit ?_
    refine f_exit ?_
    refine f_then ?_
    refine c_region ?_
    refine l_val (v := .pointer (some ⟨b, 0, none⟩)) rfl rfl rfl (e_fieldPt (b := b) (o := 0) rfl tv48) ?_
    refine l_val (v := .slice np (hn.length) nc) rfl rfl rfl (e_load1 tv49 (v := .slice np (hn.length) nc) rfl (k_pt 1 (cs := #[.slice np (hn.length) nc, .slice rp (N) rc]) (vs := [.slice np (hn.length) nc]) rfl rfl)) ?_
    refine l_val (v := .agg #[Ix (a.x), Ix (a.y)]) rfl rfl rfl (e_load tp7 (cs := [Ix (a.x), Ix (a.y)]) rfl (k_pt 0 (cs := #[Ix (a.x), Ix (a.y)]) (vs := [Ix (a.x), Ix (a.y)]) rfl rfl) rfl) ?_
    refine l_val (v := .slice q (rs.length) d) rfl rfl rfl (e_move) ?_
    refine l_val (v := .agg #[Ix (a.x), Ix (a.y), .slice q (rs.length) d]) rfl rfl rfl (e_build tv52 tv51 (vs := [(0, .agg #[Ix (a.x), Ix (a.y)]), (1, .slice q (rs.length) d)]) (cells := #[Ix (a.x), Ix (a.y), .slice q (rs.length) d]) rfl rfl) ?_
    refine l_mv rfl rfl rfl (m_slices tv53 tv52 (vs := [(0, .agg #[Ix (a.x), Ix (a.y), .slice q (rs.length) d])]) (cells := #[Ix (a.x), Ix (a.y), .slice q (rs.length) d]) rfl rfl rfl rfl) ?_
    rintro _ _ ⟨b12, rfl, rfl⟩
    refine l_mv rfl rfl rfl (m_appendFlN (F := NodeF) 3 tv53 tv54 (p := np) (m := hn.length) (xs := hn) (ys := [(⟨a.x, a.y, q, d, rs⟩ : HN)]) (ao := (some ⟨b12, 0, none⟩)) (k := 1) (c := 1) rfl rfl rfl rfl rfl (k_ptFl (z := (⟨a.x, a.y, q, d, rs⟩ : HN)) 0 rfl rfl) (by first | omega | simp only [List.length_nil, List.length_cons, List.length_append, List.length_set]; omega) (by first | omega | simp only [List.length_nil, List.length_cons, List.length_append, List.length_set]; omega)) ?_
    rintro _ _ ⟨rp13, rc14, rfl, rfl⟩
    refine l_val (v := .pointer (some ⟨b, 0, none⟩)) rfl rfl rfl (e_fieldPt (b := b) (o := 0) rfl tv48) ?_
    refine l_mu rfl rfl (m_store 2 tv49 (b := b) (o := 0) (T := 65) (cs := #[.slice np (hn.length) nc, .slice rp (N) rc]) (cs' := #[.slice rp13 ((hn ++ [(⟨a.x, a.y, q, d, rs⟩ : HN)]).length) rc14, .slice rp (N) rc]) (v := .slice rp13 ((hn ++ [(⟨a.x, a.y, q, d, rs⟩ : HN)]).length) rc14) rfl rfl rfl rfl rfl rfl rfl) ?_
    refine l_nil ?_
    refine end0 Tryz.results40 ?_
    intro w hw
    rw [List.take_of_length_le (by omega)] at hz
    replace hw := hw.perm (L' := [pt b (.cells #[.slice rp13 ((hn ++ [(⟨a.x, a.y, q, d, rs⟩ : HN)]).length) rc14, .slice rp (N) rc] 65), rowF NodeF 72 rp13 rc14 (hn ++ [(⟨a.x, a.y, q, d, rs⟩ : HN)]), rowF HvF 36 rp rc zs, Sat (zs.map ownH), rowF NatF 3 q d rs, pt b12 (.cells #[Ix (a.x), Ix (a.y), .slice q (rs.length) d] 72), pt b1 (.cells #[Ix (a.x), Ix (a.y)] 27)]) (by exact (perm_ix [2, 3, 4, 5, 6, 0, 1] 7 rfl (by kernel_rfl) (by kernel_rfl)))
    exact ⟨rfl, _, _, zs, hz, hzN, st_mask [true, true, true, true, true, false, false] rfl hw⟩
set_option maxHeartbeats 4000000 in
theorem made_ok (β : Base) (w : World) (hw : St β [] w) (v : Value) (l : List KA) (hs : Sl AreaF.R β.heap v l) (hM : okM l) (p q : KV) : Calls Tryz.prog 22 #[v, .agg #[Ix (p.x), Ix (p.y)], .agg #[Ix (q.x), Ix (q.y)]] w fun r w' => ∃ (np : Option Addr) (nc : Nat) (rp : Option Addr) (rc : Nat) (hn : List HN) (hv : List (HV Nat)), hn.map HN.k = nodeL l p q ∧ hv.map (·.xs) = rowsL l.length (nodeL l p q) ∧ hv.length = l.length ∧ r = .returned (.agg #[.slice np hn.length nc, .slice rp l.length rc]) ∧ St β [rowF NodeF 72 np nc hn, Sat (hn.map ownN), rowF HvF 36 rp rc hv, Sat (hv.map ownH)] w' := by
  have hl64 := hM.1
  obtain ⟨va, vc, rfl, vl, vm, ve⟩ := hs.get
  refine enter (n := 63) Tryz.func22 rfl Tryz.ntmps22 rfl ?_ hw
  refine c_seq ?_
  refine c_region ?_
  refine l_mv rfl rfl rfl (m_box (v := .agg #[Ix (p.x), Ix (p.y)]) rfl) ?_
  rintro _ _ ⟨b1, rfl, rfl⟩
  refine l_mv rfl rfl rfl (m_box (v := .agg #[Ix (q.x), Ix (q.y)]) rfl) ?_
  rintro _ _ ⟨b2, rfl, rfl⟩
  refine l_mv rfl rfl rfl (m_alloc tv55) ?_
  rintro _ _ ⟨b3, rfl, rfl⟩
  refine l_nil ?_
  refine f_then ?_
  refine c_seq ?_
  refine c_region ?_
  refine l_val (v := .slice va (l.length) (vc)) rfl rfl rfl (e_move) ?_
  refine l_val (v := Nx (l.length)) rfl rfl rfl (e_len (a := va) (n := l.length) (c := vc) rfl tp13) ?_
  refine l_mv rfl rfl rfl (m_makeFl (F := HvF) (x0 := (⟨none, 0, []⟩ : HV Nat)) (c := l.length) tv46 tv56 tv57 rfl rfl rfl (by unfold maxLen; omega) (by omega)) ?_
  rintro _ _ ⟨b4, rfl, rfl⟩
  refine l_val (v := .agg #[.slice none 0 0, .slice (some ⟨b4, 0, none⟩) (l.length) l.length]) rfl rfl rfl (e_build tv55 tv58 (vs := [(1, .slice (some ⟨b4, 0, none⟩) (l.length) l.length)]) (cells := #[.slice none 0 0, .slice (some ⟨b4, 0, none⟩) (l.length) l.length]) rfl rfl) ?_
  refine l_mv rfl rfl rfl (m_alloc tv55) ?_
  rintro _ _ ⟨b5, rfl, rfl⟩
  refine l_mu rfl rfl (m_store 0 tv59 (b := b5) (o := 0) (T := 65) (cs := #[.slice none 0 0, .slice none 0 0]) (cs' := #[.slice none 0 0, .slice (some ⟨b4, 0, none⟩) (l.length) l.length]) (v := .agg #[.slice none 0 0, .slice (some ⟨b4, 0, none⟩) (l.length) l.length]) rfl rfl rfl rfl rfl rfl rfl) ?_
  refine l_nil ?_
  refine f_then ?_
  refine c_seq ?_
  obtain ⟨hv0, hv0E⟩ : ∃ z, z = List.replicate l.length (⟨none, 0, []⟩ : HV Nat) := ⟨_, rfl⟩
  have hv0l : hv0.length = l.length := by rw [hv0E, List.length_replicate]
  have hv0x : hv0.map (·.xs) = rowsL l.length [] := by rw [hv0E, List.map_replicate]; rfl
  refine c_emp (r := Sat (hv0.map ownH)) (by rw [hv0E]; exact Pth.empty_rows _ _) ?_
  refine c_emp (r := Sat (([] : List HN).map ownN)) trivial ?_
  refine c_emp (r := rowF NodeF 72 none 0 []) (row_nil _ _ _) ?_
  rw [← hv0E]
  refine c_re (L' := [rowF NodeF 72 none 0 ([] : List HN), Sat (([] : List HN).map ownN), Sat (hv0.map ownH), pt b5 (.cells #[.slice none (([] : List HN).length) 0, .slice (some ⟨b4, 0, none⟩) (l.length) l.length] 65), rowF HvF 36 (some ⟨b4, 0, none⟩) l.length hv0, pt b3 (.cells #[.slice none 0 0, .slice none 0 0] 65), pt b2 (.cells #[Ix (q.x), Ix (q.y)] 27), pt b1 (.cells #[Ix (p.x), Ix (p.y)] 27)]) rfl ?_
  refine c_region ?_
  refine l_val (v := .func (.func 40) #[] #[.pointer (some ⟨b5, 0, none⟩)]) rfl rfl rfl (e_func (u := []) (v := [.pointer (some ⟨b5, 0, none⟩)]) rfl rfl) ?_
  refine l_val (v := .func (.func 40) #[] #[.pointer (some ⟨b5, 0, none⟩)]) rfl rfl rfl (e_assign) ?_
  refine l_nil ?_
  refine f_then ?_
  refine c_seq ?_
  refine c_region ?_
  refine l_val (v := .slice va (l.length) (vc)) rfl rfl rfl (e_move) ?_
  refine l_call rfl rfl rfl (cl_value (fst := []) (cap := []) (vs := [.slice va (l.length) (vc)]) (all := [.slice va (l.length) (vc)]) tv60 rfl rfl rfl) ?_
  intro w hw
  obtain ⟨β1, sb, kn, hw1, back⟩ := St.frame_all hw
  refine (portalsM_ok β1 w hw1 _ l (Sl.mono _ _ _ _ _ sb (⟨⟨_, _, rfl, vl, vm, ve⟩⟩ : Sl AreaF.R _ _ l)) hM).mono ?_
  rintro e w' ⟨p6, c7, rfl, hw'⟩
  refine ⟨_, rfl, _, back _ _ hw', ?_⟩
  clear hw hw1 hw' back kn sb
  refine l_val (v := .tuple #[.slice p6 ((portL l).length) c7, .int .i64 (0)]) rfl rfl rfl (e_move) ?_
  refine l_val (v := .slice p6 ((portL l).length) c7) rfl rfl rfl (e_extract (vs := #[.slice p6 ((portL l).length) c7, .int .i64 (0)]) rfl rfl) ?_
  refine l_val (v := .int .i64 (0)) rfl rfl rfl (e_extract (vs := #[.slice p6 ((portL l).length) c7, .int .i64 (0)]) rfl rfl) ?_
  refine l_val (v := .slice p6 ((portL l).length) c7) rfl rfl rfl (e_assign) ?_
  refine l_val (v := .int .i64 (0)) rfl rfl rfl (e_assign) ?_
  refine l_nil ?_
  refine f_then ?_
  refine c_seq ?_
  refine c_seq ?_
  have hpl := portL_len hl64
  refine c_region ?_
  refine l_val (v := .slice p6 ((portL l).length) c7) rfl rfl rfl (e_move) ?_
  refine l_val (v := Nx ((portL l).length)) rfl rfl rfl (e_len (a := p6) (n := (portL l).length) (c := c7) rfl tv61) ?_
  refine l_val (v := .int .i64 (0)) rfl rfl rfl (e_move) ?_
  refine l_nil ?_
  refine f_then ?_
  refine c_block ?_
  refine c_loop (fun (x_ : Nat × List HN × List (HV Nat) × Option Addr × Nat) (f : Fm) (L : List Res) => match x_ with | (k, hn, zs, np, nc) => (f 0 = .slice va (l.length) (vc) ∧ f 4 = .pointer (some ⟨b1, 0, none⟩) ∧ f 5 = .pointer (some ⟨b2, 0, none⟩) ∧ f 6 = .pointer (some ⟨b3, 0, none⟩) ∧ f 7 = .pointer (some ⟨b5, 0, none⟩) ∧ f 8 = .func (.func 40) #[] #[.pointer (some ⟨b5, 0, none⟩)] ∧ f 27 = .slice p6 ((portL l).length) c7 ∧ f 28 = Nx ((portL l).length) ∧ f 29 = Nx (k)) ∧ L = [rowF PoF 50 p6 c7 (portL l), rowF NodeF 72 np nc hn, Sat (hn.map ownN), Sat (zs.map ownH), pt b5 (.cells #[.slice np (hn.length) nc, .slice (some ⟨b4, 0, none⟩) (l.length) l.length] 65), rowF HvF 36 (some ⟨b4, 0, none⟩) l.length zs, pt b3 (.cells #[.slice none 0 0, .slice none 0 0] 65), pt b2 (.cells #[Ix (q.x), Ix (q.y)] 27), pt b1 (.cells #[Ix (p.x), Ix (p.y)] 27)] ∧ (k ≤ (portL l).length ∧ hn.map HN.k = ((portL l).take k).map nodeO ∧ zs.map (·.xs) = rowsL l.length (((portL l).take k).map nodeO) ∧ zs.length = l.length)) (fun (x_ : Nat × List HN × List (HV Nat) × Option Addr × Nat) => match x_ with | (k, hn, zs, np, nc) => (portL l).length - k) (0, ([] : List HN), hv0, none, 0) ?_ ?_
  · exact ⟨⟨rfl, rfl, rfl, rfl, rfl, rfl, rfl, rfl, rfl⟩, rfl, ⟨by omega, rfl, hv0x, hv0l⟩⟩
  rintro ⟨k, hn, zs, np, nc⟩ f0 L0 ⟨⟨hs0, hs4, hs5, hs6, hs7, hs8, hs27, hs28, hs29⟩, hL, ⟨hk, hns, hz, hzl⟩⟩
  subst L0
  refine rebase (d := 0) hs0 ?_
  refine rebase (d := 4) hs4 ?_
  refine rebase (d := 5) hs5 ?_
  refine rebase (d := 6) hs6 ?_
  refine rebase (d := 7) hs7 ?_
  refine rebase (d := 8) hs8 ?_
  refine rebase (d := 27) hs27 ?_
  refine rebase (d := 28) hs28 ?_
  refine rebase (d := 29) hs29 ?_
  clear hs0 hs4 hs5 hs6 hs7 hs8 hs27 hs28 hs29
  have hnl : hn.length = k := by have := congrArg List.length hns; rw [List.length_map, List.length_map, List.length_take] at this; omega
  have hzb : ∀ x ∈ zs.map (·.xs), x.length ≤ 1000000 := by rw [hz]; exact made_bd (by omega)
  refine c_seq ?_
  refine c_region ?_
  refine l_val (v := .bool (decide (((k : Nat) : Int) < (((portL l).length : Nat) : Int)))) rfl rfl rfl (e_lss (a := ((k : Nat) : Int)) (b := (((portL l).length : Nat) : Int)) rfl rfl) ?_
  refine l_nil ?_
  refine f_then ?_
  refine c_seq ?_
  refine c_if (((k : Nat) : Int) < (((portL l).length : Nat) : Int)) rfl (fun hc8 => ?_) (fun hc8 => ?_)
  ·
    refine c_skip ?_
    refine f_then ?_
    refine c_seq ?_
    refine c_block ?_
    refine c_seq ?_
    refine c_region ?_
    refine l_val (v := .pointer (some ((ba p6).add (k * 4)))) rfl rfl rfl (e_indexFlN 0 (F := PoF) (j := k) (m := (portL l).length) (xs := (portL l)) rfl rfl rfl tu38 (by omega) rfl) ?_
    obtain ⟨x9, hx10⟩ : ∃ x_, (portL l)[k]? = some x_ := ⟨_, List.getElem?_eq_getElem (by omega)⟩
    refine l_val (v := .agg #[Nx (x9.a), Nx (x9.b), Ix (x9.x), Ix (x9.y)]) rfl rfl rfl (e_load tv62 (cs := [Nx (x9.a), Nx (x9.b), Ix (x9.x), Ix (x9.y)]) rfl (k_flAt 0 (F := PoF) rfl hx10) rfl) ?_
    refine l_mv rfl rfl rfl (m_alloc tu37) ?_
    rintro _ _ ⟨b11, rfl, rfl⟩
    refine l_mu rfl rfl (m_store 0 tv62 (b := b11) (o := 0) (T := 50) (cs := #[.int .i64 (0), .int .i64 (0), .int .i64 (0), .int .i64 (0)]) (cs' := #[Nx (x9.a), Nx (x9.b), Ix (x9.x), Ix (x9.y)]) (v := .agg #[Nx (x9.a), Nx (x9.b), Ix (x9.x), Ix (x9.y)]) rfl rfl rfl rfl rfl rfl rfl) ?_
    refine l_nil ?_
    refine f_then ?_
    obtain ⟨oA, oB, ho1, ho2, -⟩ := port_two (List.mem_of_getElem? hx10)
    refine c_region ?_
    refine l_val (v := .func (.func 40) #[] #[.pointer (some ⟨b5, 0, none⟩)]) rfl rfl rfl (e_move) ?_
    refine l_val (v := .pointer (some ⟨b11, 2, none⟩)) rfl rfl rfl (e_fieldPt (b := b11) (o := 0) rfl tv63) ?_
    refine l_val (v := .agg #[Ix (x9.x), Ix (x9.y)]) rfl rfl rfl (e_load tp7 (cs := [Ix (x9.x), Ix (x9.y)]) rfl (k_pt 0 (cs := #[Nx (x9.a), Nx (x9.b), Ix (x9.x), Ix (x9.y)]) (vs := [Ix (x9.x), Ix (x9.y)]) rfl rfl) rfl) ?_
    refine l_val (v := .pointer (some ⟨b11, 0, none⟩)) rfl rfl rfl (e_fieldPt (b := b11) (o := 0) rfl tv64) ?_
    refine l_val (v := Nx (x9.a)) rfl rfl rfl (e_load1 tp2 (v := Nx (x9.a)) rfl (k_pt 0 (cs := #[Nx (x9.a), Nx (x9.b), Ix (x9.x), Ix (x9.y)]) (vs := [Nx (x9.a)]) rfl rfl)) ?_
    refine l_val (v := .pointer (some ⟨b11, 1, none⟩)) rfl rfl rfl (e_fieldPt (b := b11) (o := 0) rfl tv65) ?_
    refine l_val (v := Nx (x9.b)) rfl rfl rfl (e_load1 tp2 (v := Nx (x9.b)) rfl (k_pt 0 (cs := #[Nx (x9.a), Nx (x9.b), Ix (x9.x), Ix (x9.y)]) (vs := [Nx (x9.b)]) rfl rfl)) ?_
    refine l_mv rfl rfl rfl (m_slices tu29 tu30 (vs := [(0, Nx (x9.a)), (1, Nx (x9.b))]) (cells := #[Nx (x9.a), Nx (x9.b)]) rfl rfl rfl rfl) ?_
    rintro _ _ ⟨b12, rfl, rfl⟩
    refine l_conseq 0 (r' := rowF NatF 3 (some ⟨b12, 0, none⟩) 2 [x9.a, x9.b]) rfl (pt_rowF (F := NatF) (xs := [x9.a, x9.b]) rfl (by simp)) ?_
    refine l_call rfl rfl rfl (cl_value (fst := []) (cap := [.pointer (some ⟨b5, 0, none⟩)]) (vs := [.agg #[Ix (x9.x), Ix (x9.y)], .slice (some ⟨b12, 0, none⟩) 2 2]) (all := [.agg #[Ix (x9.x), Ix (x9.y)], .slice (some ⟨b12, 0, none⟩) 2 2, .pointer (some ⟨b5, 0, none⟩)]) tv66 rfl rfl rfl) ?_
    intro w hw
    replace hw := hw.perm (L' := _ :: _ :: _ :: _ :: _ :: _ :: _ :: _ :: _ :: _ :: _ :: []) (by exact (((((((((((perm_front 10 rfl).trans (perm_front 10 rfl)).trans (perm_front 10 rfl)).trans (perm_front 7 rfl)).trans (perm_front 6 rfl)).trans (perm_front 6 rfl)).trans (perm_front 6 rfl)).trans (perm_front 8 rfl)).trans (perm_front 10 rfl)).trans (perm_front 9 rfl)).trans (perm_front 10 rfl)))
    obtain ⟨β1, sb, kn, hw1, back⟩ := St.frame (L := [_, _, _, _, _]) (M := _ :: _ :: _ :: _ :: _ :: _ :: []) hw
    refine (put_ok β1 w b5 np (some ⟨b4, 0, none⟩) (some ⟨b12, 0, none⟩) nc l.length 2 l.length hn zs [x9.a, x9.b] (⟨x9.x, x9.y⟩ : KV) hzl (by first | omega | (rw [List.length_append, List.length_singleton]; omega)) hzb (by show 2 ≤ 64; omega) (fun r hr => by simp at hr; omega) hw1).mono ?_
    rintro e w' ⟨rfl, p13, c14, zs15, hz16, hzl17, hw'⟩
    refine ⟨_, rfl, _, back _ _ hw', ?_⟩
    clear hw hw1 hw' back kn sb
    refine l_nil ?_
    refine f_block ?_
    refine f_then ?_
    refine c_perm (L' := [Sat (hn.map ownN), rowF NatF 3 (some ⟨b12, 0, none⟩) 2 [x9.a, x9.b], pt b5 (.cells #[.slice p13 ((hn ++ [(⟨x9.x, x9.y, (some ⟨b12, 0, none⟩), 2, [x9.a, x9.b]⟩ : HN)]).length) c14, .slice (some ⟨b4, 0, none⟩) (l.length) l.length] 65), rowF NodeF 72 p13 c14 (hn ++ [(⟨x9.x, x9.y, (some ⟨b12, 0, none⟩), 2, [x9.a, x9.b]⟩ : HN)]), rowF HvF 36 (some ⟨b4, 0, none⟩) l.length zs15, Sat (zs15.map ownH), pt b11 (.cells #[Nx (x9.a), Nx (x9.b), Ix (x9.x), Ix (x9.y)] 50), rowF PoF 50 p6 c7 (portL l), pt b3 (.cells #[.slice none 0 0, .slice none 0 0] 65), pt b2 (.cells #[Ix (q.x), Ix (q.y)] 27), pt b1 (.cells #[Ix (p.x), Ix (p.y)] 27)]) (perm_ix [7, 4, 0, 1, 2, 3, 5, 6, 8, 9, 10] 11 rfl (by kernel_rfl) (by kernel_rfl)) ?_
    refine c_snocG (own := ownN) (x := (⟨x9.x, x9.y, (some ⟨b12, 0, none⟩), 2, [x9.a, x9.b]⟩ : HN)) rfl ?_
    refine c_region ?_
    refine l_val (v := Nx (k + 1)) rfl rfl rfl (e_add (a := ((k : Nat) : Int)) (b := (1 : Int)) rfl rfl (i64n (by omega) (by omega))) ?_
    refine l_val (v := Nx (k + 1)) rfl rfl rfl (e_move) ?_
    refine l_nil ?_
    refine f_perm (L' := [rowF PoF 50 p6 c7 (portL l), rowF NodeF 72 p13 c14 (hn ++ [(⟨x9.x, x9.y, (some ⟨b12, 0, none⟩), 2, [x9.a, x9.b]⟩ : HN)]), Sat ((hn ++ [(⟨x9.x, x9.y, (some ⟨b12, 0, none⟩), 2, [x9.a, x9.b]⟩ : HN)]).map ownN), Sat (zs15.map ownH), pt b5 (.cells #[.slice p13 ((hn ++ [(⟨x9.x, x9.y, (some ⟨b12, 0, none⟩), 2, [x9.a, x9.b]⟩ : HN)]).length) c14, .slice (some ⟨b4, 0, none⟩) (l.length) l.length] 65), rowF HvF 36 (some ⟨b4, 0, none⟩) l.length zs15, pt b3 (.cells #[.slice none 0 0, .slice none 0 0] 65), pt b2 (.cells #[Ix (q.x), Ix (q.y)] 27), pt b1 (.cells #[Ix (p.x), Ix (p.y)] 27), pt b11 (.cells #[Nx (x9.a), Nx (x9.b), Ix (x9.x), Ix (x9.y)] 50)]) (perm_ix [6, 2, 0, 4, 1, 3, 7, 8, 9, 5] 10 rfl (by kernel_rfl) (by kernel_rfl)) ?_
    refine f_mask (L' := [rowF PoF 50 p6 c7 (portL l), rowF NodeF 72 p13 c14 (hn ++ [(⟨x9.x, x9.y, (some ⟨b12, 0, none⟩), 2, [x9.a, x9.b]⟩ : HN)]), Sat ((hn ++ [(⟨x9.x, x9.y, (some ⟨b12, 0, none⟩), 2, [x9.a, x9.b]⟩ : HN)]).map ownN), Sat (zs15.map ownH), pt b5 (.cells #[.slice p13 ((hn ++ [(⟨x9.x, x9.y, (some ⟨b12, 0, none⟩), 2, [x9.a, x9.b]⟩ : HN)]).length) c14, .slice (some ⟨b4, 0, none⟩) (l.length) l.length] 65), rowF HvF 36 (some ⟨b4, 0, none⟩) l.length zs15, pt b3 (.cells #[.slice none 0 0, .slice none 0 0] 65), pt b2 (.cells #[Ix (q.x), Ix (q.y)] 27), pt b1 (.cells #[Ix (p.x), Ix (p.y)] 27)]) [true, true, true, true, true, true, true, true, true, false] rfl ?_
    exact f_cut ⟨(k + 1, (hn ++ [(⟨x9.x, x9.y, (some ⟨b12, 0, none⟩), 2, [x9.a, x9.b]⟩ : HN)]), zs15, p13, c14), ⟨⟨rfl, rfl, rfl, rfl, rfl, rfl, rfl, rfl, rfl⟩, rfl, ⟨by omega, by rw [List.map_append, hns, node_next hx10]; rfl, by rw [hz16, hz, node_next hx10, rowsL_snoc, hnl, List.length_map, List.length_take, Nat.min_eq_left (by omega)]; rfl, hzl17⟩⟩, (show (portL l).length - (k + 1) < (portL l).length - k from by omega)⟩
  ·
    refine c_exit ?_
    refine f_then_exit ?_
    refine f_then_exit ?_
    refine f_exit ?_
    refine f_then ?_
    refine c_seq ?_
    refine c_seq ?_
    have hkp : k = (portL l).length := by omega
    rw [List.take_of_length_le (by omega)] at hns hz
    have hnl : hn.length = (portL l).length := by have := congrArg List.length hns; rw [List.length_map, List.length_map] at this; exact this
    have hzb : ∀ x ∈ zs.map (·.xs), x.length ≤ 1000000 := by rw [hz, ← List.take_of_length_le (Nat.le_refl (portL l).length)]; exact made_bd (by omega)
    refine c_region ?_
    refine l_val (v := .agg #[Ix (p.x), Ix (p.y)]) rfl rfl rfl (e_load tp7 (cs := [Ix (p.x), Ix (p.y)]) rfl (k_pt 8 (cs := #[Ix (p.x), Ix (p.y)]) (vs := [Ix (p.x), Ix (p.y)]) rfl rfl) rfl) ?_
    refine l_val (v := .agg #[Ix (q.x), Ix (q.y)]) rfl rfl rfl (e_load tp7 (cs := [Ix (q.x), Ix (q.y)]) rfl (k_pt 7 (cs := #[Ix (q.x), Ix (q.y)]) (vs := [Ix (q.x), Ix (q.y)]) rfl rfl) rfl) ?_
    refine l_mv rfl rfl rfl (m_slices tv67 tp5 (vs := [(0, .agg #[Ix (p.x), Ix (p.y)]), (1, .agg #[Ix (q.x), Ix (q.y)])]) (cells := #[Ix (p.x), Ix (p.y), Ix (q.x), Ix (q.y)]) rfl rfl rfl rfl) ?_
    rintro _ _ ⟨b18, rfl, rfl⟩
    refine l_val (v := .int .i64 (2)) rfl rfl rfl (e_len (n := 2) rfl tv68) ?_
    refine l_val (v := .int .i64 (0)) rfl rfl rfl (e_move) ?_
    refine l_nil ?_
    refine f_then ?_
    refine c_block ?_
    refine c_unroll 3 ?_
    refine un_succ 2 ?_
    refine c_seq ?_
    refine c_region ?_
    refine l_val (v := .bool true) rfl rfl rfl (e_lss (a := (0 : Int)) (b := (2 : Int)) rfl rfl) ?_
    refine l_nil ?_
    refine f_then ?_
    refine c_seq ?_
    refine c_yes rfl ?_
    refine c_skip ?_
    refine f_then ?_
    refine c_seq ?_
    refine c_block ?_
    refine c_seq ?_
    refine c_region ?_
    refine l_val (v := .pointer (some ⟨b18, 0, none⟩)) rfl rfl rfl (e_indexPt (b := b18) (o := 0) (k := 0) (len := 2) (cap := 2) rfl rfl tv67 (by decide)) ?_
    refine l_val (v := .agg #[Ix (p.x), Ix (p.y)]) rfl rfl rfl (e_load tp7 (cs := [Ix (p.x), Ix (p.y)]) rfl (k_pt 0 (cs := #[Ix (p.x), Ix (p.y), Ix (q.x), Ix (q.y)]) (vs := [Ix (p.x), Ix (p.y)]) rfl rfl) rfl) ?_
    refine l_mv rfl rfl rfl (m_alloc tp5) ?_
    rintro _ _ ⟨b19, rfl, rfl⟩
    refine l_mu rfl rfl (m_store 0 tp7 (b := b19) (o := 0) (T := 27) (cs := #[.int .i64 (0), .int .i64 (0)]) (cs' := #[Ix (p.x), Ix (p.y)]) (v := .agg #[Ix (p.x), Ix (p.y)]) rfl rfl rfl rfl rfl rfl rfl) ?_
    refine l_nil ?_
    refine f_then ?_
    refine c_seq ?_
    refine c_region ?_
    refine l_val (v := .slice va (l.length) (vc)) rfl rfl rfl (e_move) ?_
    refine l_val (v := .agg #[Ix (p.x), Ix (p.y)]) rfl rfl rfl (e_load tp7 (cs := [Ix (p.x), Ix (p.y)]) rfl (k_pt 0 (cs := #[Ix (p.x), Ix (p.y)]) (vs := [Ix (p.x), Ix (p.y)]) rfl rfl) rfl) ?_
    refine l_call rfl rfl rfl (cl_value (fst := []) (cap := []) (vs := [.slice va (l.length) (vc), .agg #[Ix (p.x), Ix (p.y)]]) (all := [.slice va (l.length) (vc), .agg #[Ix (p.x), Ix (p.y)]]) tv69 rfl rfl rfl) ?_
    intro w hw
    obtain ⟨β1, sb, kn, hw1, back⟩ := St.frame_all hw
    refine (roomsM_ok β1 w hw1 _ l (Sl.mono _ _ _ _ _ sb (⟨⟨_, _, rfl, vl, vm, ve⟩⟩ : Sl AreaF.R _ _ l)) hM p.x p.y).mono ?_
    rintro e w' ⟨p20, c21, rfl, hw'⟩
    refine ⟨_, rfl, _, back _ _ hw', ?_⟩
    clear hw hw1 hw' back kn sb
    refine l_val (v := .tuple #[.slice p20 ((roomF l p.x p.y).length) c21, .int .i64 (0)]) rfl rfl rfl (e_move) ?_
    refine l_val (v := .slice p20 ((roomF l p.x p.y).length) c21) rfl rfl rfl (e_extract (vs := #[.slice p20 ((roomF l p.x p.y).length) c21, .int .i64 (0)]) rfl rfl) ?_
    refine l_val (v := .int .i64 (0)) rfl rfl rfl (e_extract (vs := #[.slice p20 ((roomF l p.x p.y).length) c21, .int .i64 (0)]) rfl rfl) ?_
    refine l_val (v := .slice p20 ((roomF l p.x p.y).length) c21) rfl rfl rfl (e_assign) ?_
    refine l_val (v := .int .i64 (0)) rfl rfl rfl (e_assign) ?_
    refine l_nil ?_
    refine f_then ?_
    refine c_region ?_
    refine l_val (v := .func (.func 40) #[] #[.pointer (some ⟨b5, 0, none⟩)]) rfl rfl rfl (e_move) ?_
    refine l_val (v := .agg #[Ix (p.x), Ix (p.y)]) rfl rfl rfl (e_load tp7 (cs := [Ix (p.x), Ix (p.y)]) rfl (k_pt 1 (cs := #[Ix (p.x), Ix (p.y)]) (vs := [Ix (p.x), Ix (p.y)]) rfl rfl) rfl) ?_
    refine l_val (v := .slice p20 ((roomF l p.x p.y).length) c21) rfl rfl rfl (e_move) ?_
    refine l_call rfl rfl rfl (cl_value (fst := []) (cap := [.pointer (some ⟨b5, 0, none⟩)]) (vs := [.agg #[Ix (p.x), Ix (p.y)], .slice p20 ((roomF l p.x p.y).length) c21]) (all := [.agg #[Ix (p.x), Ix (p.y)], .slice p20 ((roomF l p.x p.y).length) c21, .pointer (some ⟨b5, 0, none⟩)]) tv66 rfl rfl rfl) ?_
    intro w hw
    replace hw := hw.perm (L' := _ :: _ :: _ :: _ :: _ :: _ :: _ :: _ :: _ :: _ :: _ :: _ :: []) (by exact ((((((((((((perm_front 11 rfl).trans (perm_front 11 rfl)).trans (perm_front 11 rfl)).trans (perm_front 8 rfl)).trans (perm_front 7 rfl)).trans (perm_front 7 rfl)).trans (perm_front 7 rfl)).trans (perm_front 7 rfl)).trans (perm_front 9 rfl)).trans (perm_front 11 rfl)).trans (perm_front 10 rfl)).trans (perm_front 11 rfl)))
    obtain ⟨β1, sb, kn, hw1, back⟩ := St.frame (L := [_, _, _, _, _]) (M := _ :: _ :: _ :: _ :: _ :: _ :: _ :: []) hw
    refine (put_ok β1 w b5 np (some ⟨b4, 0, none⟩) p20 nc l.length c21 l.length hn zs (roomF l p.x p.y) p hzl (by first | omega | (rw [List.length_append, List.length_singleton]; omega)) hzb (Nat.le_trans (roomF_len _ _ _) hl64) (fun r hr => roomF_lt hr) hw1).mono ?_
    rintro e w' ⟨rfl, p22, c23, zs24, hz25, hzl26, hw'⟩
    refine ⟨_, rfl, _, back _ _ hw', ?_⟩
    clear hw hw1 hw' back kn sb
    refine l_nil ?_
    refine f_block ?_
    refine f_then ?_
    refine c_perm (L' := [Sat (hn.map ownN), rowF NatF 3 p20 c21 (roomF l p.x p.y), pt b5 (.cells #[.slice p22 ((hn ++ [(⟨p.x, p.y, p20, c21, (roomF l p.x p.y)⟩ : HN)]).length) c23, .slice (some ⟨b4, 0, none⟩) (l.length) l.length] 65), rowF NodeF 72 p22 c23 (hn ++ [(⟨p.x, p.y, p20, c21, (roomF l p.x p.y)⟩ : HN)]), rowF HvF 36 (some ⟨b4, 0, none⟩) l.length zs24, Sat (zs24.map ownH), pt b19 (.cells #[Ix (p.x), Ix (p.y)] 27), pt b18 (.cells #[Ix (p.x), Ix (p.y), Ix (q.x), Ix (q.y)] 27), rowF PoF 50 p6 c7 (portL l), pt b3 (.cells #[.slice none 0 0, .slice none 0 0] 65), pt b2 (.cells #[Ix (q.x), Ix (q.y)] 27), pt b1 (.cells #[Ix (p.x), Ix (p.y)] 27)]) (perm_ix [8, 4, 0, 1, 2, 3, 5, 6, 7, 9, 10, 11] 12 rfl (by kernel_rfl) (by kernel_rfl)) ?_
    refine c_snocG (own := ownN) (x := (⟨p.x, p.y, p20, c21, (roomF l p.x p.y)⟩ : HN)) rfl ?_
    refine c_region ?_
    refine l_val (v := .int .i64 (1)) rfl rfl rfl (e_add (a := (0 : Int)) (b := (1 : Int)) rfl rfl (by decide)) ?_
    refine l_val (v := .int .i64 (1)) rfl rfl rfl (e_move) ?_
    refine l_nil ?_
    refine f_cut ?_
    refine un_succ 1 ?_
    refine c_seq ?_
    refine c_region ?_
    refine l_val (v := .bool true) rfl rfl rfl (e_lss (a := (1 : Int)) (b := (2 : Int)) rfl rfl) ?_
    refine l_nil ?_
    refine f_then ?_
    refine c_seq ?_
    refine c_yes rfl ?_
    refine c_skip ?_
    refine f_then ?_
    refine c_seq ?_
    refine c_block ?_
    refine c_seq ?_
    refine c_region ?_
    refine l_val (v := .pointer (some ⟨b18, 2, none⟩)) rfl rfl rfl (e_indexPt (b := b18) (o := 0) (k := 1) (len := 2) (cap := 2) rfl rfl tv67 (by decide)) ?_
    refine l_val (v := .agg #[Ix (q.x), Ix (q.y)]) rfl rfl rfl (e_load tp7 (cs := [Ix (q.x), Ix (q.y)]) rfl (k_pt 6 (cs := #[Ix (p.x), Ix (p.y), Ix (q.x), Ix (q.y)]) (vs := [Ix (q.x), Ix (q.y)]) rfl rfl) rfl) ?_
    refine l_mv rfl rfl rfl (m_alloc tp5) ?_
    rintro _ _ ⟨b27, rfl, rfl⟩
    refine l_mu rfl rfl (m_store 0 tp7 (b := b27) (o := 0) (T := 27) (cs := #[.int .i64 (0), .int .i64 (0)]) (cs' := #[Ix (q.x), Ix (q.y)]) (v := .agg #[Ix (q.x), Ix (q.y)]) rfl rfl rfl rfl rfl rfl rfl) ?_
    refine l_nil ?_
    refine f_then ?_
    refine c_seq ?_
    refine c_region ?_
    refine l_val (v := .slice va (l.length) (vc)) rfl rfl rfl (e_move) ?_
    refine l_val (v := .agg #[Ix (q.x), Ix (q.y)]) rfl rfl rfl (e_load tp7 (cs := [Ix (q.x), Ix (q.y)]) rfl (k_pt 0 (cs := #[Ix (q.x), Ix (q.y)]) (vs := [Ix (q.x), Ix (q.y)]) rfl rfl) rfl) ?_
    refine l_call rfl rfl rfl (cl_value (fst := []) (cap := []) (vs := [.slice va (l.length) (vc), .agg #[Ix (q.x), Ix (q.y)]]) (all := [.slice va (l.length) (vc), .agg #[Ix (q.x), Ix (q.y)]]) tv69 rfl rfl rfl) ?_
    intro w hw
    obtain ⟨β1, sb, kn, hw1, back⟩ := St.frame_all hw
    refine (roomsM_ok β1 w hw1 _ l (Sl.mono _ _ _ _ _ sb (⟨⟨_, _, rfl, vl, vm, ve⟩⟩ : Sl AreaF.R _ _ l)) hM q.x q.y).mono ?_
    rintro e w' ⟨p28, c29, rfl, hw'⟩
    refine ⟨_, rfl, _, back _ _ hw', ?_⟩
    clear hw hw1 hw' back kn sb
    refine l_val (v := .tuple #[.slice p28 ((roomF l q.x q.y).length) c29, .int .i64 (0)]) rfl rfl rfl (e_move) ?_
    refine l_val (v := .slice p28 ((roomF l q.x q.y).length) c29) rfl rfl rfl (e_extract (vs := #[.slice p28 ((roomF l q.x q.y).length) c29, .int .i64 (0)]) rfl rfl) ?_
    refine l_val (v := .int .i64 (0)) rfl rfl rfl (e_extract (vs := #[.slice p28 ((roomF l q.x q.y).length) c29, .int .i64 (0)]) rfl rfl) ?_
    refine l_val (v := .slice p28 ((roomF l q.x q.y).length) c29) rfl rfl rfl (e_assign) ?_
    refine l_val (v := .int .i64 (0)) rfl rfl rfl (e_assign) ?_
    refine l_nil ?_
    refine f_then ?_
    have hzb2 : ∀ x ∈ zs24.map (·.xs), x.length ≤ 1000000 := by rw [hz25, hz]; have h := made_bd2 (l := l) (k := (portL l).length) (n := hn.length) (rs := roomF l p.x p.y) (by omega) (Nat.le_trans (roomF_len _ _ _) hl64); rwa [List.take_of_length_le (Nat.le_refl _)] at h
    refine c_region ?_
    refine l_val (v := .func (.func 40) #[] #[.pointer (some ⟨b5, 0, none⟩)]) rfl rfl rfl (e_move) ?_
    refine l_val (v := .agg #[Ix (q.x), Ix (q.y)]) rfl rfl rfl (e_load tp7 (cs := [Ix (q.x), Ix (q.y)]) rfl (k_pt 1 (cs := #[Ix (q.x), Ix (q.y)]) (vs := [Ix (q.x), Ix (q.y)]) rfl rfl) rfl) ?_
    refine l_val (v := .slice p28 ((roomF l q.x q.y).length) c29) rfl rfl rfl (e_move) ?_
    refine l_call rfl rfl rfl (cl_value (fst := []) (cap := [.pointer (some ⟨b5, 0, none⟩)]) (vs := [.agg #[Ix (q.x), Ix (q.y)], .slice p28 ((roomF l q.x q.y).length) c29]) (all := [.agg #[Ix (q.x), Ix (q.y)], .slice p28 ((roomF l q.x q.y).length) c29, .pointer (some ⟨b5, 0, none⟩)]) tv66 rfl rfl rfl) ?_
    intro w hw
    replace hw := hw.perm (L' := _ :: _ :: _ :: _ :: _ :: _ :: _ :: _ :: _ :: _ :: _ :: _ :: _ :: []) (by exact (((((((((((((perm_front 12 rfl).trans (perm_front 12 rfl)).trans (perm_front 12 rfl)).trans (perm_front 12 rfl)).trans (perm_front 12 rfl)).trans (perm_front 12 rfl)).trans (perm_front 8 rfl)).trans (perm_front 8 rfl)).trans (perm_front 8 rfl)).trans (perm_front 12 rfl)).trans (perm_front 12 rfl)).trans (perm_front 12 rfl)).trans (perm_front 12 rfl)))
    obtain ⟨β1, sb, kn, hw1, back⟩ := St.frame (L := [_, _, _, _, _]) (M := _ :: _ :: _ :: _ :: _ :: _ :: _ :: _ :: []) hw
    refine (put_ok β1 w b5 p22 (some ⟨b4, 0, none⟩) p28 c23 l.length c29 l.length (hn ++ [(⟨p.x, p.y, p20, c21, (roomF l p.x p.y)⟩ : HN)]) zs24 (roomF l q.x q.y) q hzl26 (by first | omega | (rw [List.length_append, List.length_singleton]; omega)) hzb2 (Nat.le_trans (roomF_len _ _ _) hl64) (fun r hr => roomF_lt hr) hw1).mono ?_
    rintro e w' ⟨rfl, p30, c31, zs32, hz33, hzl34, hw'⟩
    refine ⟨_, rfl, _, back _ _ hw', ?_⟩
    clear hw hw1 hw' back kn sb
    refine l_nil ?_
    refine f_block ?_
    refine f_then ?_
    refine c_perm (L' := [Sat ((hn ++ [(⟨p.x, p.y, p20, c21, (roomF l p.x p.y)⟩ : HN)]).map ownN), rowF NatF 3 p28 c29 (roomF l q.x q.y), pt b5 (.cells #[.slice p30 (((hn ++ [(⟨p.x, p.y, p20, c21, (roomF l p.x p.y)⟩ : HN)]) ++ [(⟨q.x, q.y, p28, c29, (roomF l q.x q.y)⟩ : HN)]).length) c31, .slice (some ⟨b4, 0, none⟩) (l.length) l.length] 65), rowF NodeF 72 p30 c31 ((hn ++ [(⟨p.x, p.y, p20, c21, (roomF l p.x p.y)⟩ : HN)]) ++ [(⟨q.x, q.y, p28, c29, (roomF l q.x q.y)⟩ : HN)]), rowF HvF 36 (some ⟨b4, 0, none⟩) l.length zs32, Sat (zs32.map ownH), pt b27 (.cells #[Ix (q.x), Ix (q.y)] 27), pt b19 (.cells #[Ix (p.x), Ix (p.y)] 27), pt b18 (.cells #[Ix (p.x), Ix (p.y), Ix (q.x), Ix (q.y)] 27), rowF PoF 50 p6 c7 (portL l), pt b3 (.cells #[.slice none 0 0, .slice none 0 0] 65), pt b2 (.cells #[Ix (q.x), Ix (q.y)] 27), pt b1 (.cells #[Ix (p.x), Ix (p.y)] 27)]) (perm_ix [6, 4, 0, 1, 2, 3, 5, 7, 8, 9, 10, 11, 12] 13 rfl (by kernel_rfl) (by kernel_rfl)) ?_
    refine c_snocG (own := ownN) (x := (⟨q.x, q.y, p28, c29, (roomF l q.x q.y)⟩ : HN)) rfl ?_
    refine c_region ?_
    refine l_val (v := .int .i64 (2)) rfl rfl rfl (e_add (a := (1 : Int)) (b := (1 : Int)) rfl rfl (by decide)) ?_
    refine l_val (v := .int .i64 (2)) rfl rfl rfl (e_move) ?_
    refine l_nil ?_
    refine f_cut ?_
    refine un_succ 0 ?_
    refine c_seq ?_
    refine c_region ?_
    refine l_val (v := .bool false) rfl rfl rfl (e_lss (a := (2 : Int)) (b := (2 : Int)) rfl rfl) ?_
    refine l_nil ?_
    refine f_then ?_
    refine c_seq ?_
    refine c_no rfl ?_
    refine c_exit ?_
    refine f_then_exit ?_
    refine f_then_exit ?_
    refine f_exit ?_
    refine f_then ?_
    refine c_seq ?_
    refine c_region ?_
    refine l_val (v := .agg #[.slice p30 (((hn ++ [(⟨p.x, p.y, p20, c21, (roomF l p.x p.y)⟩ : HN)]) ++ [(⟨q.x, q.y, p28, c29, (roomF l q.x q.y)⟩ : HN)]).length) c31, .slice (some ⟨b4, 0, none⟩) (l.length) l.length]) rfl rfl rfl (e_load tv59 (cs := [.slice p30 (((hn ++ [(⟨p.x, p.y, p20, c21, (roomF l p.x p.y)⟩ : HN)]) ++ [(⟨q.x, q.y, p28, c29, (roomF l q.x q.y)⟩ : HN)]).length) c31, .slice (some ⟨b4, 0, none⟩) (l.length) l.length]) rfl (k_pt 1 (cs := #[.slice p30 (((hn ++ [(⟨p.x, p.y, p20, c21, (roomF l p.x p.y)⟩ : HN)]) ++ [(⟨q.x, q.y, p28, c29, (roomF l q.x q.y)⟩ : HN)]).length) c31, .slice (some ⟨b4, 0, none⟩) (l.length) l.length]) (vs := [.slice p30 (((hn ++ [(⟨p.x, p.y, p20, c21, (roomF l p.x p.y)⟩ : HN)]) ++ [(⟨q.x, q.y, p28, c29, (roomF l q.x q.y)⟩ : HN)]).length) c31, .slice (some ⟨b4, 0, none⟩) (l.length) l.length]) rfl rfl) rfl) ?_
    refine l_mu rfl rfl (m_store 9 tv59 (b := b3) (o := 0) (T := 65) (cs := #[.slice none 0 0, .slice none 0 0]) (cs' := #[.slice p30 (((hn ++ [(⟨p.x, p.y, p20, c21, (roomF l p.x p.y)⟩ : HN)]) ++ [(⟨q.x, q.y, p28, c29, (roomF l q.x q.y)⟩ : HN)]).length) c31, .slice (some ⟨b4, 0, none⟩) (l.length) l.length]) (v := .agg #[.slice p30 (((hn ++ [(⟨p.x, p.y, p20, c21, (roomF l p.x p.y)⟩ : HN)]) ++ [(⟨q.x, q.y, p28, c29, (roomF l q.x q.y)⟩ : HN)]).length) c31, .slice (some ⟨b4, 0, none⟩) (l.length) l.length]) rfl rfl rfl rfl rfl rfl rfl) ?_
    refine l_nil ?_
    refine f_then ?_
    refine c_ret ?_
    refine retG (l := [.cell 6 65]) (m := [.agg #[.slice p30 (((hn ++ [(⟨p.x, p.y, p20, c21, (roomF l p.x p.y)⟩ : HN)]) ++ [(⟨q.x, q.y, p28, c29, (roomF l q.x q.y)⟩ : HN)]).length) c31, .slice (some ⟨b4, 0, none⟩) (l.length) l.length]]) (v := .agg #[.slice p30 (((hn ++ [(⟨p.x, p.y, p20, c21, (roomF l p.x p.y)⟩ : HN)]) ++ [(⟨q.x, q.y, p28, c29, (roomF l q.x q.y)⟩ : HN)]).length) c31, .slice (some ⟨b4, 0, none⟩) (l.length) l.length]) Tryz.results22 ⟨rd_cell tv59 (cs := [.slice p30 (((hn ++ [(⟨p.x, p.y, p20, c21, (roomF l p.x p.y)⟩ : HN)]) ++ [(⟨q.x, q.y, p28, c29, (roomF l q.x q.y)⟩ : HN)]).length) c31, .slice (some ⟨b4, 0, none⟩) (l.length) l.length]) rfl (k_pt 9 (cs := #[.slice p30 (((hn ++ [(⟨p.x, p.y, p20, c21, (roomF l p.x p.y)⟩ : HN)]) ++ [(⟨q.x, q.y, p28, c29, (roomF l q.x q.y)⟩ : HN)]).length) c31, .slice (some ⟨b4, 0, none⟩) (l.length) l.length]) (vs := [.slice p30 (((hn ++ [(⟨p.x, p.y, p20, c21, (roomF l p.x p.y)⟩ : HN)]) ++ [(⟨q.x, q.y, p28, c29, (roomF l q.x q.y)⟩ : HN)]).length) c31, .slice (some ⟨b4, 0, none⟩) (l.length) l.length]) rfl rfl) rfl, trivial⟩ rfl ?_
    intro w hw
    replace hw := hw.perm (L' := [rowF NodeF 72 p30 c31 ((hn ++ [(⟨p.x, p.y, p20, c21, (roomF l p.x p.y)⟩ : HN)]) ++ [(⟨q.x, q.y, p28, c29, (roomF l q.x q.y)⟩ : HN)]), Sat (((hn ++ [(⟨p.x, p.y, p20, c21, (roomF l p.x p.y)⟩ : HN)]) ++ [(⟨q.x, q.y, p28, c29, (roomF l q.x q.y)⟩ : HN)]).map ownN), rowF HvF 36 (some ⟨b4, 0, none⟩) l.length zs32, Sat (zs32.map ownH), pt b5 (.cells #[.slice p30 (((hn ++ [(⟨p.x, p.y, p20, c21, (roomF l p.x p.y)⟩ : HN)]) ++ [(⟨q.x, q.y, p28, c29, (roomF l q.x q.y)⟩ : HN)]).length) c31, .slice (some ⟨b4, 0, none⟩) (l.length) l.length] 65), pt b27 (.cells #[Ix (q.x), Ix (q.y)] 27), pt b19 (.cells #[Ix (p.x), Ix (p.y)] 27), pt b18 (.cells #[Ix (p.x), Ix (p.y), Ix (q.x), Ix (q.y)] 27), rowF PoF 50 p6 c7 (portL l), pt b3 (.cells #[.slice p30 (((hn ++ [(⟨p.x, p.y, p20, c21, (roomF l p.x p.y)⟩ : HN)]) ++ [(⟨q.x, q.y, p28, c29, (roomF l q.x q.y)⟩ : HN)]).length) c31, .slice (some ⟨b4, 0, none⟩) (l.length) l.length] 65), pt b2 (.cells #[Ix (q.x), Ix (q.y)] 27), pt b1 (.cells #[Ix (p.x), Ix (p.y)] 27)]) (by exact (perm_ix [2, 0, 3, 4, 1, 5, 6, 7, 8, 9, 10, 11] 12 rfl (by kernel_rfl) (by kernel_rfl)))
    obtain ⟨e1, e2⟩ := made_end hns hz hz25 hz33
    exact ⟨_, _, _, _, _, zs32, e1, e2, hzl34, rfl, st_mask [true, true, true, true, false, false, false, false, false, false, false, false] rfl hw⟩
end Go.Proofs
