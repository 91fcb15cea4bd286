/-
 The reference's Open, Append, Checkpoint, walked. Printed by a program of my own.
-/
import Derived.Test.YtkpdcajddpiknaaJn19
import Derived.Test.YtkpdcajddpiknaaJnRd
import Derived.Test.YtkpdcajddpiknaaSlC
namespace Go.Proofs
open Go Go.Sl Go.Jn
theorem fit_of {k : KS} {m : Nat} (h : k.fits m) (hm : m ≤ 1048576) : k.head.length ≤ 1048576 ∧ k.a.length ≤ 1048576 ∧ k.b.length ≤ 1048576 ∧ k.power ≤ 9223372036854775807 := ⟨h.1, by have := h.2.1; omega, by have := h.2.2.1; omega, h.2.2.2⟩
theorem tf151 : (Try.prog.info? 56).bind (·.zero) = some (.agg #[.slice none 0 0, .slice none 0 0, .slice none 0 0, .int .i64 (0), .int .i64 (0), .int .i64 (0), .slice none 0 0, .slice none 0 0, .int .i64 (0), .bool false]) := by kernel_rfl
theorem tf152 : cfB Try.prog 59 = true := by kernel_rfl
theorem tf153 : stB Try.prog 56 [(0, 4), (4, 5), (9, 1)] = true := by kernel_rfl
theorem tf154 : tyB Try.prog 56 true 10 = true := by kernel_rfl
theorem tf155 : cfB Try.prog 65 = true := by kernel_rfl
theorem tf156 : cfB Try.prog 66 = true := by kernel_rfl
theorem tf157 : fldB Try.prog 56 2 9 1 false = true := by kernel_rfl
theorem tf158 : fldB Try.prog 56 0 0 4 true = true := by kernel_rfl
theorem tf159 : fldB Try.prog 56 1 4 5 true = true := by kernel_rfl
theorem tf160 : cfB Try.prog 64 = true := by kernel_rfl
theorem rread_some (β : Base) (w : World) (hw : St β [] w) (k : KS) (vh va vb : Value) (hH : Sl U8R β.heap vh k.head) (hA : Sl U8R β.heap va k.a) (hB : Sl U8R β.heap vb k.b) (hok : k.okP) (i : KI) (hri : readI k = some i) : Calls Try.prog 59 #[.agg #[vh, va, vb, Ix k.power]] w fun r w' => ∃ ps cs pr cr us, r = .returned (.tuple #[.agg #[Nx i.epoch, Nx i.next, sB ps i.state cs, sB pr i.recs cr, Nx i.size], .int .i64 0]) ∧ (∀ h, Sl U8R h va k.a → Sl U8R h vb k.b → Sl U8R h (sB ps i.state cs) i.state ∧ inn us i.recs h) ∧ St β [row (sB pr i.recs cr) 30 1 i.recs.length us] w' := by
 refine (rread_ok β w hw k vh va vb hH hA hB).mono ?_
 rintro r w' (⟨_, h2, _⟩ | ⟨_, _, h2, _⟩ | ⟨i', _, h2, h3⟩)
 ·exact absurd hok h2
 ·rw [hri] at h2; cases h2
 rw [hri] at h2; cases h2; exact h3
set_option maxHeartbeats 4000000 in
theorem ropen_all (β : Base) (w : World) (hw : St β [] w) (k : KS) (vh va vb : Value) (hH : Sl U8R β.heap vh k.head) (hA : Sl U8R β.heap va k.a) (hB : Sl U8R β.heap vb k.b) (hok : k.okP) (hpw : k.power ≤ 9223372036854775807) (i : KI) (hri : readI k = some i) : Calls Try.prog 61 #[.agg #[vh, va, vb, Ix k.power]] w fun r w' => (¬ cutOk (k.area i.epoch) k.power i.size ∧ ∃ pH pA pB cH cA cB, r = .returned (.tuple #[.agg #[sB pH ((cutS k i.epoch i.size).head) cH, sB pA ((cutS k i.epoch i.size).a) cA, sB pB ((cutS k i.epoch i.size).b) cB, Ix (cutS k i.epoch i.size).power, .int .i64 0, .int .i64 0, .slice none 0 0, .slice none 0 0, .int .i64 0, .bool false], .int .i64 310]) ∧ St β [rB pH ((cutS k i.epoch i.size).head) cH, rB pA ((cutS k i.epoch i.size).a) cA, rB pB ((cutS k i.epoch i.size).b) cB] w') ∨ (cutOk (k.area i.epoch) k.power i.size ∧ ∃ pH pA pB cH cA cB ps cs pr cr us, r = .returned (.tuple #[.agg #[sB pH ((cutS k i.epoch i.size).head) cH, sB pA ((cutS k i.epoch i.size).a) cA, sB pB ((cutS k i.epoch i.size).b) cB, Ix (cutS k i.epoch i.size).power, Nx i.epoch, Nx i.next, sB ps i.state cs, sB pr i.recs cr, Nx i.size, .bool false], .int .i64 0]) ∧ (∀ h, Sl U8R h va k.a → Sl U8R h vb k.b → Sl U8R h (sB ps i.state cs) i.state ∧ inn us i.recs h) ∧ St β ([rB pH ((cutS k i.epoch i.size).head) cH, rB pA ((cutS k i.epoch i.size).a) cA, rB pB ((cutS k i.epoch i.size).b) cB] ++ [row (sB pr i.recs cr) 30 1 i.recs.length us]) w') := by
 obtain ⟨vha, vhc, rfl, vhl, vhm, vhe⟩ := hH.get
 obtain ⟨vaa, vac, rfl, val, vam, vae⟩ := hA.get
 obtain ⟨vba, vbc, rfl, vbl, vbm, vbe⟩ := hB.get
 refine enter (n := 34) Try.func61 rfl Try.ntmps61 rfl ?_ hw
 refine csr ?_
 refine l_mv rfl rfl rfl (m_box (v := .agg #[sB vha k.head (vhc), sB vaa k.a (vac), sB vba k.b (vbc), Ix (k.power)]) rfl) ?_
 rintro _ _ ⟨b1, rfl, rfl⟩
 refine l_mv rfl rfl rfl (m_alloc tf151) ?_
 rintro _ _ ⟨b2, rfl, rfl⟩
 refine lv e_assign ?_
 refine lnc ?_
 refine lv (v := .agg #[sB vha k.head (vhc), sB vaa k.a (vac), sB vba k.b (vbc), Ix (k.power)]) (e_load tf56 rfl (k_pt 1 rfl rfl) rfl) ?_
 refine lcf (cl0 (vs := [.agg #[sB vha k.head (vhc), sB vaa k.a (vac), sB vba k.b (vbc), Ix (k.power)]]) tf152 rfl rfl) rfl fun w β1 sb kn hw1 back => (rread_some β1 w hw1 k _ _ _ (Sl.mono _ _ _ _ _ sb (⟨⟨_, _, rfl, vhl, vhm, vhe⟩⟩ : Sl U8R _ _ k.head)) (Sl.mono _ _ _ _ _ sb (⟨⟨_, _, rfl, val, vam, vae⟩⟩ : Sl U8R _ _ k.a)) (Sl.mono _ _ _ _ _ sb (⟨⟨_, _, rfl, vbl, vbm, vbe⟩⟩ : Sl U8R _ _ k.b)) hok i hri).mono ?_
 rintro e w' ⟨ps3, cs4, pr5, cr6, us7, rfl, hx8, hw'⟩
 refine ⟨_, rfl, _, back _ _ hw', ?_⟩
 clear hw1 hw' back kn sb
 refine lv e_move ?_
 refine lv (v := .agg #[Nx (i.epoch), Nx (i.next), sB ps3 i.state cs4, sB pr5 i.recs cr6, Nx (i.size)]) (e_extract (vs := #[.agg #[Nx (i.epoch), Nx (i.next), sB ps3 i.state cs4, sB pr5 i.recs cr6, Nx (i.size)], .int .i64 (0)]) rfl rfl) ?_
 refine lv (v := .int .i64 (0)) (e_extract (vs := #[.agg #[Nx (i.epoch), Nx (i.next), sB ps3 i.state cs4, sB pr5 i.recs cr6, Nx (i.size)], .int .i64 (0)]) rfl rfl) ?_
 refine l_mv rfl rfl rfl (m_alloc tf139) ?_
 rintro _ _ ⟨b9, rfl, rfl⟩
 refine lu (m_store 0 tf142 (cs' := #[Nx (i.epoch), Nx (i.next), sB ps3 i.state cs4, sB pr5 i.recs cr6, Nx (i.size)]) rfl rfl rfl rfl rfl rfl rfl) ?_
 refine lv e_assign ?_
 refine lnf ?_
 refine cs2 ?_
 refine c_region ?_
 refine lv e_move ?_
 refine lv (v := .bool false) (e_neq (a := (0 : Int)) (b := (0 : Int)) rfl rfl) ?_
 refine lnf ?_
 refine c_no rfl ?_
 refine csk ?_
 refine c_seq ?_
 have hrb := read_b hri
 have hl1 : k.head.length ≤ 1048576 := by unfold KS.okP at hok; omega
 have hl2 : k.a.length ≤ 1048576 := by unfold KS.okP at hok; omega
 have hl3 : k.b.length ≤ 1048576 := by unfold KS.okP at hok; omega
 refine c_any [⟨[], [], [0], [18], fun f => f 18 = .agg #[sB vha k.head (vhc), sB vaa k.a (vac), sB vba k.b (vbc), Ix (k.power)]⟩, ⟨[0], [0], [], [19], fun f => f 19 = .agg #[sB (sla (prt 0 (f 19))) k.head (slc (prt 0 (f 19))), sB (sla (prt 1 (f 19))) k.a (slc (prt 1 (f 19))), sB (sla (prt 2 (f 19))) k.b (slc (prt 2 (f 19))), Ix (k.power)]⟩, ⟨[], [], [1], [20], fun f => f 20 = pp b9 0⟩, ⟨[2], [2], [], [21], fun f => f 21 = Nx (i.epoch)⟩, ⟨[2, 3], [3], [], [22], fun f => f 22 = Nx (i.epoch % 2)⟩, ⟨[], [], [1], [23], fun f => f 23 = pp b9 4⟩, ⟨[5], [5], [], [24], fun f => f 24 = Nx (i.size)⟩, ⟨(List.range 7), [1, 4, 6], [], [19, 25], fun f => f 25 = .tuple #[.agg #[sB (sla (prt 0 (f 19))) ((cutS k i.epoch i.size).head) (slc (prt 0 (f 19))), sB (sla (prt 1 (f 19))) ((cutS k i.epoch i.size).a) (slc (prt 1 (f 19))), sB (sla (prt 2 (f 19))) ((cutS k i.epoch i.size).b) (slc (prt 2 (f 19))), Ix ((cutS k i.epoch i.size).power)], .bool (decide (¬ cutOk (k.area i.epoch) k.power i.size))]⟩, ⟨(List.range 8), [7], [], [17, 19], fun f => f 17 = .tuple #[.agg #[sB (sla (prt 0 (f 19))) ((cutS k i.epoch i.size).head) (slc (prt 0 (f 19))), sB (sla (prt 1 (f 19))) ((cutS k i.epoch i.size).a) (slc (prt 1 (f 19))), sB (sla (prt 2 (f 19))) ((cutS k i.epoch i.size).b) (slc (prt 2 (f 19))), Ix ((cutS k i.epoch i.size).power)], .bool (decide (¬ cutOk (k.area i.epoch) k.power i.size))]⟩, ⟨(List.range 9), [8], [], [19, 26], fun f => f 26 = .agg #[sB (sla (prt 0 (f 19))) ((cutS k i.epoch i.size).head) (slc (prt 0 (f 19))), sB (sla (prt 1 (f 19))) ((cutS k i.epoch i.size).a) (slc (prt 1 (f 19))), sB (sla (prt 2 (f 19))) ((cutS k i.epoch i.size).b) (slc (prt 2 (f 19))), Ix ((cutS k i.epoch i.size).power)]⟩, ⟨(List.range 9), [8], [], [27], fun f => f 27 = .bool (decide (¬ cutOk (k.area i.epoch) k.power i.size))⟩, ⟨(List.range 10), [9], [0], [], fun _ => True⟩, ⟨(List.range 12), [10], [], [6], fun f => f 6 = .bool (decide (¬ cutOk (k.area i.epoch) k.power i.size))⟩] [⟨none, none, [3, 6], [], fun _ => pt b9 (.cells #[Nx (i.epoch), Nx (i.next), sB ps3 i.state cs4, sB pr5 i.recs cr6, Nx (i.size)] 54)⟩, ⟨none, none, [], [], fun _ => row (sB pr5 i.recs cr6) 30 1 (i.recs.length) (us7)⟩, ⟨none, none, [], [], fun _ => pt b2 (.cells #[.slice none 0 0, .slice none 0 0, .slice none 0 0, .int .i64 (0), .int .i64 (0), .int .i64 (0), .slice none 0 0, .slice none 0 0, .int .i64 (0), .bool false] 56)⟩, ⟨none, (some 11), [0, 11], [], fun _ => pt b1 (.cells #[sB vha k.head (vhc), sB vaa k.a (vac), sB vba k.b (vbc), Ix (k.power)] 32)⟩, ⟨(some 1), (some 7), [7], [19], fun f => rB (sla (prt 0 (f 19))) k.head (slc (prt 0 (f 19)))⟩, ⟨(some 1), (some 7), [7], [19], fun f => rB (sla (prt 1 (f 19))) k.a (slc (prt 1 (f 19)))⟩, ⟨(some 1), (some 7), [7], [19], fun f => rB (sla (prt 2 (f 19))) k.b (slc (prt 2 (f 19)))⟩, ⟨(some 7), none, [], [19], fun f => rB (sla (prt 0 (f 19))) ((cutS k i.epoch i.size).head) (slc (prt 0 (f 19)))⟩, ⟨(some 7), none, [], [19], fun f => rB (sla (prt 1 (f 19))) ((cutS k i.epoch i.size).a) (slc (prt 1 (f 19)))⟩, ⟨(some 7), none, [], [19], fun f => rB (sla (prt 2 (f 19))) ((cutS k i.epoch i.size).b) (slc (prt 2 (f 19)))⟩, ⟨(some 11), none, [], [19], fun f => pt b1 (.cells #[sB (sla (prt 0 (f 19))) ((cutS k i.epoch i.size).head) (slc (prt 0 (f 19))), sB (sla (prt 1 (f 19))) ((cutS k i.epoch i.size).a) (slc (prt 1 (f 19))), sB (sla (prt 2 (f 19))) ((cutS k i.epoch i.size).b) (slc (prt 2 (f 19))), Ix ((cutS k i.epoch i.size).power)] 32)⟩] [(1, pp b1 0), (4, pp b9 0), (2, pp b2 0)] [0, 2, 1] [] (by kernel_rfl) (by kernel_rfl) (by kernel_rfl) (by kernel_rfl) rfl ⟨rfl, rfl, rfl, trivial⟩ ⟨?_, ?_, ?_, ?_, ?_, ?_, ?_, ?_, ?_, ?_, ?_, ?_, ?_, trivial⟩ ?_
 ·rintro f M - ⟨i0, -⟩
  exact obv (L' := pt b1 (.cells #[sB vha k.head (vhc), sB vaa k.a (vac), sB vba k.b (vbc), Ix (k.power)] 32) :: M) (up_cons (d := 1) rfl i0) rfl (e_load tf56 rfl (k_pt 0 rfl rfl) rfl) (perm_front 0 rfl) (by rfl)
 ·rintro f M ⟨k0, -⟩ -
  refine ob_start (L' := M) (by rfl) (up_cons (d := 18) rfl k0) ?_
  refine lcf (cl0 (vs := [.agg #[sB vha k.head (vhc), sB vaa k.a (vac), sB vba k.b (vbc), Ix (k.power)]]) tf155 rfl rfl) rfl fun w β1 sb kn hw1 back => (rcopied_ok β1 w hw1 k _ _ _ (Sl.mono _ _ _ _ _ sb (⟨⟨_, _, rfl, vhl, vhm, vhe⟩⟩ : Sl U8R _ _ k.head)) (Sl.mono _ _ _ _ _ sb (⟨⟨_, _, rfl, val, vam, vae⟩⟩ : Sl U8R _ _ k.a)) (Sl.mono _ _ _ _ _ sb (⟨⟨_, _, rfl, vbl, vbm, vbe⟩⟩ : Sl U8R _ _ k.b)) (by omega) (by omega) (by omega)).mono ?_
  rintro e w' ⟨pH16, pA17, pB18, cH19, cA20, cB21, rfl, hw'⟩
  refine ⟨_, rfl, _, back _ _ hw', ?_⟩
  clear hw1 hw' back kn sb
  refine l_nil ?_
  exact f_owes_d (up_cons (d := 18) rfl k0) rfl (((perm_front 2 rfl).trans (perm_front 2 rfl)).trans (perm_front 2 rfl))
 ·rintro f M - ⟨i0, -⟩
  exact ob0 (up_cons (d := 4) rfl i0) rfl (e_fieldPt rfl tf144) (.refl _)
 ·rintro f M ⟨k0, -⟩ -
  exact obv (L' := pt b9 (.cells #[Nx (i.epoch), Nx (i.next), sB ps3 i.state cs4, sB pr5 i.recs cr6, Nx (i.size)] 54) :: M) (up_cons (d := 20) rfl k0) rfl (e_load1 tf25 rfl (k_pt 0 rfl rfl)) (perm_front 0 rfl) (by rfl)
 ·rintro f M ⟨k0, -⟩ -
  exact ob0 (up_cons (d := 21) rfl k0) rfl (e_rem (a := ((i.epoch : Nat) : Int)) (b := (2 : Int)) rfl rfl (by decide) (nat_tmod _ 2)) (.refl _)
 ·rintro f M - ⟨i0, -⟩
  exact ob0 (up_cons (d := 4) rfl i0) rfl (e_fieldPt rfl tf149) (.refl _)
 ·rintro f M ⟨k0, -⟩ -
  exact obv (L' := pt b9 (.cells #[Nx (i.epoch), Nx (i.next), sB ps3 i.state cs4, sB pr5 i.recs cr6, Nx (i.size)] 54) :: M) (up_cons (d := 23) rfl k0) rfl (e_load1 tf25 rfl (k_pt 0 rfl rfl)) (perm_front 0 rfl) (by rfl)
 ·rintro f M ⟨k0, k1, k2, -⟩ -
  have hs19 : f 19 = .agg #[sB (sla (prt 0 (f 19))) k.head (slc (prt 0 (f 19))), sB (sla (prt 1 (f 19))) k.a (slc (prt 1 (f 19))), sB (sla (prt 2 (f 19))) k.b (slc (prt 2 (f 19))), Ix (k.power)] := k0
  refine ob_start (L' := rB (sla (prt 0 (f 19))) k.head (slc (prt 0 (f 19))) :: rB (sla (prt 1 (f 19))) k.a (slc (prt 1 (f 19))) :: rB (sla (prt 2 (f 19))) k.b (slc (prt 2 (f 19))) :: M) (by rfl) (up_cons (d := 24) (up_cons (d := 22) (up_cons rfl hs19) k1) k2) ?_
  refine l_call rfl rfl rfl (cl0 (vs := [.agg #[sB (sla (prt 0 (f 19))) k.head (slc (prt 0 (f 19))), sB (sla (prt 1 (f 19))) k.a (slc (prt 1 (f 19))), sB (sla (prt 2 (f 19))) k.b (slc (prt 2 (f 19))), Ix (k.power)], Nx (i.epoch % 2), Nx (i.size)]) tf156 rfl rfl) ?_
  intro w hw
  replace hw := hw.perm (L' := _ :: _ :: _ :: M) (by exact (((perm_front 2 rfl).trans (perm_front 2 rfl)).trans (perm_front 2 rfl)))
  obtain ⟨β1, sb, kn, hw1, back⟩ := St.frame (L := [_, _, _]) (M := M) hw
  refine (rcutX_ok β1 w (sla (prt 0 (f 19))) (sla (prt 1 (f 19))) (sla (prt 2 (f 19))) (slc (prt 0 (f 19))) (slc (prt 1 (f 19))) (slc (prt 2 (f 19))) k i.epoch i.size hrb.size hpw hw1).mono ?_
  rintro e w' ⟨rfl, hw'⟩
  refine ⟨_, rfl, _, back _ _ hw', ?_⟩
  clear hw hw1 hw' back kn sb
  refine l_nil ?_
  exact f_owes_d (up_cons (d := 24) (up_cons (d := 22) (up_cons rfl hs19) k1) k2) rfl (((perm_front 2 rfl).trans (perm_front 2 rfl)).trans (perm_front 2 rfl))
 ·rintro f M ⟨k0, -⟩ -
  have hs25 : f 25 = .tuple #[.agg #[sB (sla (prt 0 (f 19))) ((cutS k i.epoch i.size).head) (slc (prt 0 (f 19))), sB (sla (prt 1 (f 19))) ((cutS k i.epoch i.size).a) (slc (prt 1 (f 19))), sB (sla (prt 2 (f 19))) ((cutS k i.epoch i.size).b) (slc (prt 2 (f 19))), Ix ((cutS k i.epoch i.size).power)], .bool (decide (¬ cutOk (k.area i.epoch) k.power i.size))] := k0
  exact ob0 (up_cons rfl hs25) rfl e_move (.refl _)
 ·rintro f M ⟨k0, -⟩ -
  have hs17 : f 17 = .tuple #[.agg #[sB (sla (prt 0 (f 19))) ((cutS k i.epoch i.size).head) (slc (prt 0 (f 19))), sB (sla (prt 1 (f 19))) ((cutS k i.epoch i.size).a) (slc (prt 1 (f 19))), sB (sla (prt 2 (f 19))) ((cutS k i.epoch i.size).b) (slc (prt 2 (f 19))), Ix ((cutS k i.epoch i.size).power)], .bool (decide (¬ cutOk (k.area i.epoch) k.power i.size))] := k0
  exact ob0 (up_cons rfl hs17) rfl (e_extract (vs := #[.agg #[sB (sla (prt 0 (f 19))) ((cutS k i.epoch i.size).head) (slc (prt 0 (f 19))), sB (sla (prt 1 (f 19))) ((cutS k i.epoch i.size).a) (slc (prt 1 (f 19))), sB (sla (prt 2 (f 19))) ((cutS k i.epoch i.size).b) (slc (prt 2 (f 19))), Ix ((cutS k i.epoch i.size).power)], .bool (decide (¬ cutOk (k.area i.epoch) k.power i.size))]) rfl rfl) (.refl _)
 ·rintro f M ⟨k0, -⟩ -
  have hs17 : f 17 = .tuple #[.agg #[sB (sla (prt 0 (f 19))) ((cutS k i.epoch i.size).head) (slc (prt 0 (f 19))), sB (sla (prt 1 (f 19))) ((cutS k i.epoch i.size).a) (slc (prt 1 (f 19))), sB (sla (prt 2 (f 19))) ((cutS k i.epoch i.size).b) (slc (prt 2 (f 19))), Ix ((cutS k i.epoch i.size).power)], .bool (decide (¬ cutOk (k.area i.epoch) k.power i.size))] := k0
  exact ob0 (up_cons rfl hs17) rfl (e_extract (vs := #[.agg #[sB (sla (prt 0 (f 19))) ((cutS k i.epoch i.size).head) (slc (prt 0 (f 19))), sB (sla (prt 1 (f 19))) ((cutS k i.epoch i.size).a) (slc (prt 1 (f 19))), sB (sla (prt 2 (f 19))) ((cutS k i.epoch i.size).b) (slc (prt 2 (f 19))), Ix ((cutS k i.epoch i.size).power)], .bool (decide (¬ cutOk (k.area i.epoch) k.power i.size))]) rfl rfl) (.refl _)
 ·rintro f M ⟨k0, -⟩ ⟨i0, -⟩
  have hs26 : f 26 = .agg #[sB (sla (prt 0 (f 19))) ((cutS k i.epoch i.size).head) (slc (prt 0 (f 19))), sB (sla (prt 1 (f 19))) ((cutS k i.epoch i.size).a) (slc (prt 1 (f 19))), sB (sla (prt 2 (f 19))) ((cutS k i.epoch i.size).b) (slc (prt 2 (f 19))), Ix ((cutS k i.epoch i.size).power)] := k0
  refine ob_start (L' := pt b1 (.cells #[sB vha k.head (vhc), sB vaa k.a (vac), sB vba k.b (vbc), Ix (k.power)] 32) :: M) (by rfl) (up_cons (up_cons (d := 1) rfl i0) hs26) ?_
  refine lu (m_store 0 tf56 (cs' := #[sB (sla (prt 0 (f 19))) ((cutS k i.epoch i.size).head) (slc (prt 0 (f 19))), sB (sla (prt 1 (f 19))) ((cutS k i.epoch i.size).a) (slc (prt 1 (f 19))), sB (sla (prt 2 (f 19))) ((cutS k i.epoch i.size).b) (slc (prt 2 (f 19))), Ix ((cutS k i.epoch i.size).power)]) rfl rfl rfl rfl rfl rfl rfl) ?_
  refine l_nil ?_
  exact f_owes_n (up_cons (up_cons (d := 1) rfl i0) hs26) trivial (perm_front 0 rfl)
 ·rintro f M ⟨k0, -⟩ -
  exact ob0 (up_cons (d := 27) rfl k0) rfl e_assign (.refl _)
 rintro fa22 ⟨-, -, -, -, -, -, -, -, -, -, -, -, k12, -⟩ ⟨j0, j1, j2, -⟩
 refine f_re (L' := [pt b9 (.cells #[Nx (i.epoch), Nx (i.next), sB ps3 i.state cs4, sB pr5 i.recs cr6, Nx (i.size)] 54), row (sB pr5 i.recs cr6) 30 1 (i.recs.length) (us7), pt b2 (.cells #[.slice none 0 0, .slice none 0 0, .slice none 0 0, .int .i64 (0), .int .i64 (0), .int .i64 (0), .slice none 0 0, .slice none 0 0, .int .i64 (0), .bool false] 56), rB (sla (prt 0 (fa22 19))) ((cutS k i.epoch i.size).head) (slc (prt 0 (fa22 19))), rB (sla (prt 1 (fa22 19))) ((cutS k i.epoch i.size).a) (slc (prt 1 (fa22 19))), rB (sla (prt 2 (fa22 19))) ((cutS k i.epoch i.size).b) (slc (prt 2 (fa22 19))), pt b1 (.cells #[sB (sla (prt 0 (fa22 19))) ((cutS k i.epoch i.size).head) (slc (prt 0 (fa22 19))), sB (sla (prt 1 (fa22 19))) ((cutS k i.epoch i.size).a) (slc (prt 1 (fa22 19))), sB (sla (prt 2 (fa22 19))) ((cutS k i.epoch i.size).b) (slc (prt 2 (fa22 19))), Ix ((cutS k i.epoch i.size).power)] 32)]) (by rfl) ?_
 refine f_rebase (d := 1) j0 ?_
 refine f_rebase (d := 2) j1 ?_
 refine f_rebase (d := 4) j2 ?_
 refine f_rebase (d := 6) k12 ?_
 refine fts ?_
 refine csr ?_
 refine lv e_move ?_
 refine lnf ?_
 refine c_if (¬ cutOk (k.area i.epoch) k.power i.size) rfl (fun hc23 => ?_) (fun hc23 => ?_)
 ·refine csr ?_
  refine lv (v := .agg #[sB (sla (prt 0 (fa22 19))) ((cutS k i.epoch i.size).head) (slc (prt 0 (fa22 19))), sB (sla (prt 1 (fa22 19))) ((cutS k i.epoch i.size).a) (slc (prt 1 (fa22 19))), sB (sla (prt 2 (fa22 19))) ((cutS k i.epoch i.size).b) (slc (prt 2 (fa22 19))), Ix ((cutS k i.epoch i.size).power)]) (e_load tf56 rfl (k_pt 6 rfl rfl) rfl) ?_
  refine lv (v := .agg #[sB (sla (prt 0 (fa22 19))) ((cutS k i.epoch i.size).head) (slc (prt 0 (fa22 19))), sB (sla (prt 1 (fa22 19))) ((cutS k i.epoch i.size).a) (slc (prt 1 (fa22 19))), sB (sla (prt 2 (fa22 19))) ((cutS k i.epoch i.size).b) (slc (prt 2 (fa22 19))), Ix ((cutS k i.epoch i.size).power), .int .i64 (0), .int .i64 (0), .slice none 0 0, .slice none 0 0, .int .i64 (0), .bool false]) (e_build tf151 tf153 (vs := [(0, .agg #[sB (sla (prt 0 (fa22 19))) ((cutS k i.epoch i.size).head) (slc (prt 0 (fa22 19))), sB (sla (prt 1 (fa22 19))) ((cutS k i.epoch i.size).a) (slc (prt 1 (fa22 19))), sB (sla (prt 2 (fa22 19))) ((cutS k i.epoch i.size).b) (slc (prt 2 (fa22 19))), Ix ((cutS k i.epoch i.size).power)])]) (cells := #[sB (sla (prt 0 (fa22 19))) ((cutS k i.epoch i.size).head) (slc (prt 0 (fa22 19))), sB (sla (prt 1 (fa22 19))) ((cutS k i.epoch i.size).a) (slc (prt 1 (fa22 19))), sB (sla (prt 2 (fa22 19))) ((cutS k i.epoch i.size).b) (slc (prt 2 (fa22 19))), Ix ((cutS k i.epoch i.size).power), .int .i64 (0), .int .i64 (0), .slice none 0 0, .slice none 0 0, .int .i64 (0), .bool false]) rfl (by kernel_rfl)) ?_
  refine lu (m_store 2 tf154 (cs' := #[sB (sla (prt 0 (fa22 19))) ((cutS k i.epoch i.size).head) (slc (prt 0 (fa22 19))), sB (sla (prt 1 (fa22 19))) ((cutS k i.epoch i.size).a) (slc (prt 1 (fa22 19))), sB (sla (prt 2 (fa22 19))) ((cutS k i.epoch i.size).b) (slc (prt 2 (fa22 19))), Ix ((cutS k i.epoch i.size).power), .int .i64 (0), .int .i64 (0), .slice none 0 0, .slice none 0 0, .int .i64 (0), .bool false]) rfl rfl rfl rfl rfl rfl rfl) ?_
  refine lv e_assign ?_
  refine lnf ?_
  refine c_ret ?_
  refine f_then_ret ?_
  refine retG (m := [.agg #[sB (sla (prt 0 (fa22 19))) ((cutS k i.epoch i.size).head) (slc (prt 0 (fa22 19))), sB (sla (prt 1 (fa22 19))) ((cutS k i.epoch i.size).a) (slc (prt 1 (fa22 19))), sB (sla (prt 2 (fa22 19))) ((cutS k i.epoch i.size).b) (slc (prt 2 (fa22 19))), Ix ((cutS k i.epoch i.size).power), .int .i64 (0), .int .i64 (0), .slice none 0 0, .slice none 0 0, .int .i64 (0), .bool false], .int .i64 (310)]) Try.results61 ⟨rd_cell tf154 rfl (k_pt 2 rfl rfl) rfl, rd_tmp (v := .int .i64 (310)) rfl, trivial⟩ rfl ?_
  intro w hw
  exact .inl ⟨hc23, _, _, _, _, _, _, rfl, st_mask [true, true, true, false, false, false, false] rfl (hw.perm (L' := [rB (sla (prt 0 (fa22 19))) ((cutS k i.epoch i.size).head) (slc (prt 0 (fa22 19))), rB (sla (prt 1 (fa22 19))) ((cutS k i.epoch i.size).a) (slc (prt 1 (fa22 19))), rB (sla (prt 2 (fa22 19))) ((cutS k i.epoch i.size).b) (slc (prt 2 (fa22 19))), pt b9 (.cells #[Nx (i.epoch), Nx (i.next), sB ps3 i.state cs4, sB pr5 i.recs cr6, Nx (i.size)] 54), row (sB pr5 i.recs cr6) 30 1 (i.recs.length) (us7), pt b2 (.cells #[sB (sla (prt 0 (fa22 19))) ((cutS k i.epoch i.size).head) (slc (prt 0 (fa22 19))), sB (sla (prt 1 (fa22 19))) ((cutS k i.epoch i.size).a) (slc (prt 1 (fa22 19))), sB (sla (prt 2 (fa22 19))) ((cutS k i.epoch i.size).b) (slc (prt 2 (fa22 19))), Ix ((cutS k i.epoch i.size).power), .int .i64 (0), .int .i64 (0), .slice none 0 0, .slice none 0 0, .int .i64 (0), .bool false] 56), pt b1 (.cells #[sB (sla (prt 0 (fa22 19))) ((cutS k i.epoch i.size).head) (slc (prt 0 (fa22 19))), sB (sla (prt 1 (fa22 19))) ((cutS k i.epoch i.size).a) (slc (prt 1 (fa22 19))), sB (sla (prt 2 (fa22 19))) ((cutS k i.epoch i.size).b) (slc (prt 2 (fa22 19))), Ix ((cutS k i.epoch i.size).power)] 32)]) (by exact (perm_ix [3, 4, 5, 0, 1, 2, 6] 7 rfl (by kernel_rfl) (by kernel_rfl))))⟩
 refine csk ?_
 refine csr ?_
 refine lv (v := .agg #[sB (sla (prt 0 (fa22 19))) ((cutS k i.epoch i.size).head) (slc (prt 0 (fa22 19))), sB (sla (prt 1 (fa22 19))) ((cutS k i.epoch i.size).a) (slc (prt 1 (fa22 19))), sB (sla (prt 2 (fa22 19))) ((cutS k i.epoch i.size).b) (slc (prt 2 (fa22 19))), Ix ((cutS k i.epoch i.size).power)]) (e_load tf56 rfl (k_pt 6 rfl rfl) rfl) ?_
 refine lv (v := .agg #[Nx (i.epoch), Nx (i.next), sB ps3 i.state cs4, sB pr5 i.recs cr6, Nx (i.size)]) (e_load tf142 rfl (k_pt 0 rfl rfl) rfl) ?_
 refine lv (v := .agg #[sB (sla (prt 0 (fa22 19))) ((cutS k i.epoch i.size).head) (slc (prt 0 (fa22 19))), sB (sla (prt 1 (fa22 19))) ((cutS k i.epoch i.size).a) (slc (prt 1 (fa22 19))), sB (sla (prt 2 (fa22 19))) ((cutS k i.epoch i.size).b) (slc (prt 2 (fa22 19))), Ix ((cutS k i.epoch i.size).power), Nx (i.epoch), Nx (i.next), sB ps3 i.state cs4, sB pr5 i.recs cr6, Nx (i.size), .bool false]) (e_build tf151 tf153 (vs := [(0, .agg #[sB (sla (prt 0 (fa22 19))) ((cutS k i.epoch i.size).head) (slc (prt 0 (fa22 19))), sB (sla (prt 1 (fa22 19))) ((cutS k i.epoch i.size).a) (slc (prt 1 (fa22 19))), sB (sla (prt 2 (fa22 19))) ((cutS k i.epoch i.size).b) (slc (prt 2 (fa22 19))), Ix ((cutS k i.epoch i.size).power)]), (1, .agg #[Nx (i.epoch), Nx (i.next), sB ps3 i.state cs4, sB pr5 i.recs cr6, Nx (i.size)])]) (cells := #[sB (sla (prt 0 (fa22 19))) ((cutS k i.epoch i.size).head) (slc (prt 0 (fa22 19))), sB (sla (prt 1 (fa22 19))) ((cutS k i.epoch i.size).a) (slc (prt 1 (fa22 19))), sB (sla (prt 2 (fa22 19))) ((cutS k i.epoch i.size).b) (slc (prt 2 (fa22 19))), Ix ((cutS k i.epoch i.size).power), Nx (i.epoch), Nx (i.next), sB ps3 i.state cs4, sB pr5 i.recs cr6, Nx (i.size), .bool false]) rfl (by kernel_rfl)) ?_
 refine lu (m_store 2 tf154 (cs' := #[sB (sla (prt 0 (fa22 19))) ((cutS k i.epoch i.size).head) (slc (prt 0 (fa22 19))), sB (sla (prt 1 (fa22 19))) ((cutS k i.epoch i.size).a) (slc (prt 1 (fa22 19))), sB (sla (prt 2 (fa22 19))) ((cutS k i.epoch i.size).b) (slc (prt 2 (fa22 19))), Ix ((cutS k i.epoch i.size).power), Nx (i.epoch), Nx (i.next), sB ps3 i.state cs4, sB pr5 i.recs cr6, Nx (i.size), .bool false]) rfl rfl rfl rfl rfl rfl rfl) ?_
 refine lv e_assign ?_
 refine lnf ?_
 refine c_ret ?_
 refine retG (m := [.agg #[sB (sla (prt 0 (fa22 19))) ((cutS k i.epoch i.size).head) (slc (prt 0 (fa22 19))), sB (sla (prt 1 (fa22 19))) ((cutS k i.epoch i.size).a) (slc (prt 1 (fa22 19))), sB (sla (prt 2 (fa22 19))) ((cutS k i.epoch i.size).b) (slc (prt 2 (fa22 19))), Ix ((cutS k i.epoch i.size).power), Nx (i.epoch), Nx (i.next), sB ps3 i.state cs4, sB pr5 i.recs cr6, Nx (i.size), .bool false], .int .i64 (0)]) Try.results61 ⟨rd_cell tf154 rfl (k_pt 2 rfl rfl) rfl, rd_tmp (v := .int .i64 (0)) rfl, trivial⟩ rfl ?_
 intro w hw
 exact .inr ⟨Decidable.not_not.1 hc23, _, _, _, _, _, _, _, _, _, _, _, rfl, hx8, st_mask [true, true, true, true, false, false, false] rfl (hw.perm (L' := [rB (sla (prt 0 (fa22 19))) ((cutS k i.epoch i.size).head) (slc (prt 0 (fa22 19))), rB (sla (prt 1 (fa22 19))) ((cutS k i.epoch i.size).a) (slc (prt 1 (fa22 19))), rB (sla (prt 2 (fa22 19))) ((cutS k i.epoch i.size).b) (slc (prt 2 (fa22 19))), row (sB pr5 i.recs cr6) 30 1 (i.recs.length) (us7), pt b9 (.cells #[Nx (i.epoch), Nx (i.next), sB ps3 i.state cs4, sB pr5 i.recs cr6, Nx (i.size)] 54), pt b2 (.cells #[sB (sla (prt 0 (fa22 19))) ((cutS k i.epoch i.size).head) (slc (prt 0 (fa22 19))), sB (sla (prt 1 (fa22 19))) ((cutS k i.epoch i.size).a) (slc (prt 1 (fa22 19))), sB (sla (prt 2 (fa22 19))) ((cutS k i.epoch i.size).b) (slc (prt 2 (fa22 19))), Ix ((cutS k i.epoch i.size).power), Nx (i.epoch), Nx (i.next), sB ps3 i.state cs4, sB pr5 i.recs cr6, Nx (i.size), .bool false] 56), pt b1 (.cells #[sB (sla (prt 0 (fa22 19))) ((cutS k i.epoch i.size).head) (slc (prt 0 (fa22 19))), sB (sla (prt 1 (fa22 19))) ((cutS k i.epoch i.size).a) (slc (prt 1 (fa22 19))), sB (sla (prt 2 (fa22 19))) ((cutS k i.epoch i.size).b) (slc (prt 2 (fa22 19))), Ix ((cutS k i.epoch i.size).power)] 32)]) (by exact (perm_ix [3, 4, 5, 1, 0, 2, 6] 7 rfl (by kernel_rfl) (by kernel_rfl))))⟩
theorem ropen_pow (β : Base) (w : World) (hw : St β [] w) (k : KS) (vh va vb : Value) (hH : Sl U8R β.heap vh k.head) (hA : Sl U8R β.heap va k.a) (hB : Sl U8R β.heap vb k.b) (hok : k.okP) (hpw : k.power ≤ 9223372036854775807) (i : KI) (hri : readI k = some i) (hcut : ¬ cutOk (k.area i.epoch) k.power i.size) : Calls Try.prog 61 #[.agg #[vh, va, vb, Ix k.power]] w fun r w' => ∃ pH pA pB cH cA cB, r = .returned (.tuple #[.agg #[sB pH ((cutS k i.epoch i.size).head) cH, sB pA ((cutS k i.epoch i.size).a) cA, sB pB ((cutS k i.epoch i.size).b) cB, Ix (cutS k i.epoch i.size).power, .int .i64 0, .int .i64 0, .slice none 0 0, .slice none 0 0, .int .i64 0, .bool false], .int .i64 310]) ∧ St β [rB pH ((cutS k i.epoch i.size).head) cH, rB pA ((cutS k i.epoch i.size).a) cA, rB pB ((cutS k i.epoch i.size).b) cB] w' := by
 exact (ropen_all β w hw k vh va vb hH hA hB hok hpw i hri).mono fun r w' h => h.elim (fun h => h.2) (fun h => absurd h.1 hcut)
theorem ropen_ok (β : Base) (w : World) (hw : St β [] w) (k : KS) (vh va vb : Value) (hH : Sl U8R β.heap vh k.head) (hA : Sl U8R β.heap va k.a) (hB : Sl U8R β.heap vb k.b) (hok : k.okP) (hpw : k.power ≤ 9223372036854775807) (i : KI) (hri : readI k = some i) (hcut : cutOk (k.area i.epoch) k.power i.size) : Calls Try.prog 61 #[.agg #[vh, va, vb, Ix k.power]] w fun r w' => ∃ pH pA pB cH cA cB ps cs pr cr us, r = .returned (.tuple #[.agg #[sB pH ((cutS k i.epoch i.size).head) cH, sB pA ((cutS k i.epoch i.size).a) cA, sB pB ((cutS k i.epoch i.size).b) cB, Ix (cutS k i.epoch i.size).power, Nx i.epoch, Nx i.next, sB ps i.state cs, sB pr i.recs cr, Nx i.size, .bool false], .int .i64 0]) ∧ (∀ h, Sl U8R h va k.a → Sl U8R h vb k.b → Sl U8R h (sB ps i.state cs) i.state ∧ inn us i.recs h) ∧ St β ([rB pH ((cutS k i.epoch i.size).head) cH, rB pA ((cutS k i.epoch i.size).a) cA, rB pB ((cutS k i.epoch i.size).b) cB] ++ [row (sB pr i.recs cr) 30 1 i.recs.length us]) w' := by
 exact (ropen_all β w hw k vh va vb hH hA hB hok hpw i hri).mono fun r w' h => h.elim (fun h => absurd hcut h.1) (fun h => h.2)
theorem rapp_down (β : Base) (w : World) (hw : St β [] w) (k : KS) (vh va vb : Value) (hH : Sl U8R β.heap vh k.head) (hA : Sl U8R β.heap va k.a) (hB : Sl U8R β.heap vb k.b) (i : KI) (ps pr : Option Addr) (cs cr : Nat) (us : List Value) (hul : us.length = i.recs.length) (hus : Cs β.heap (ba pr) us) (hu1 : us.all (·.oneCell') = true) (hpr : 0 < i.recs.length → pr = some (ba pr)) (bs : Bs) (v : Value) (hs : Sl U8R β.heap v bs) (hbl : bs.length ≤ 65536) : Calls Try.prog 24 #[.agg #[vh, va, vb, Ix k.power, Nx i.epoch, Nx i.next, sB ps i.state cs, sB pr i.recs cr, Nx i.size, .bool true], v] w fun r w' => r = .returned (.tuple #[.agg #[vh, va, vb, Ix k.power, Nx i.epoch, Nx i.next, sB ps i.state cs, sB pr i.recs cr, Nx i.size, .bool true], .int .i64 0, .int .i64 310]) ∧ St β [] w' := by
 obtain ⟨vha, vhc, rfl, vhl, vhm, vhe⟩ := hH.get
 obtain ⟨vaa, vac, rfl, val, vam, vae⟩ := hA.get
 obtain ⟨vba, vbc, rfl, vbl, vbm, vbe⟩ := hB.get
 obtain ⟨va, vc, rfl, vl, vm, ve⟩ := hs.get
 refine enter (n := 95) Try.func24 rfl Try.ntmps24 rfl ?_ hw
 refine csr ?_
 refine l_mv rfl rfl rfl (m_box (v := .agg #[sB vha k.head (vhc), sB vaa k.a (vac), sB vba k.b (vbc), Ix (k.power), Nx (i.epoch), Nx (i.next), sB ps i.state cs, sB pr i.recs (cr), Nx (i.size), .bool true]) rfl) ?_
 rintro _ _ ⟨b1, rfl, rfl⟩
 refine l_mv rfl rfl rfl (m_alloc tf151) ?_
 rintro _ _ ⟨b2, rfl, rfl⟩
 refine lv e_assign ?_
 refine lv e_assign ?_
 refine lnf ?_
 refine cs2 ?_
 refine c_region ?_
 refine lv e_move ?_
 refine lv (v := Nx (bs.length)) (e_len (a := va) (n := bs.length) (c := vc) rfl tf11) ?_
 refine lv (e_gtr (a := ((bs.length : Nat) : Int)) (b := (65536 : Int)) rfl rfl) ?_
 refine lnf ?_
 refine c_if ((65536 : Int) < ((bs.length : Nat) : Int)) rfl (fun hc3 => ?_) (fun hc3 => ?_)
 ·exact absurd hc3 (by omega)
 refine csk ?_
 refine cs2 ?_
 refine c_region ?_
 refine lv (e_fieldPt rfl tf157) ?_
 refine lv (v := .bool true) (e_load1 tf40 rfl (k_pt 1 rfl rfl)) ?_
 refine lnf ?_
 refine c_yes rfl ?_
 refine csr ?_
 refine lv (v := .agg #[sB vha k.head (vhc), sB vaa k.a (vac), sB vba k.b (vbc), Ix (k.power), Nx (i.epoch), Nx (i.next), sB ps i.state cs, sB pr i.recs (cr), Nx (i.size), .bool true]) (e_load tf154 rfl (k_pt 1 rfl rfl) rfl) ?_
 refine lu (m_store 0 tf154 (cs' := #[sB vha k.head (vhc), sB vaa k.a (vac), sB vba k.b (vbc), Ix (k.power), Nx (i.epoch), Nx (i.next), sB ps i.state cs, sB pr i.recs (cr), Nx (i.size), .bool true]) rfl rfl rfl rfl rfl rfl rfl) ?_
 refine lv e_assign ?_
 refine lv e_assign ?_
 refine lnf ?_
 refine c_ret ?_
 refine f_then_ret ?_
 refine retG (m := [.agg #[sB vha k.head (vhc), sB vaa k.a (vac), sB vba k.b (vbc), Ix (k.power), Nx (i.epoch), Nx (i.next), sB ps i.state cs, sB pr i.recs (cr), Nx (i.size), .bool true], .int .i64 (0), .int .i64 (310)]) Try.results24 ⟨rd_cell tf154 rfl (k_pt 0 rfl rfl) rfl, rd_tmp (v := .int .i64 (0)) rfl, rd_tmp (v := .int .i64 (310)) rfl, trivial⟩ rfl ?_
 intro w hw
 exact ⟨rfl, st_mask [false, false] rfl hw⟩
set_option maxHeartbeats 4000000 in
theorem rapp_all (β : Base) (w : World) (hw : St β [] w) (k : KS) (vh va vb : Value) (hH : Sl U8R β.heap vh k.head) (hA : Sl U8R β.heap va k.a) (hB : Sl U8R β.heap vb k.b) (i : KI) (ps pr : Option Addr) (cs cr : Nat) (us : List Value) (hul : us.length = i.recs.length) (hus : Cs β.heap (ba pr) us) (hu1 : us.all (·.oneCell') = true) (hpr : 0 < i.recs.length → pr = some (ba pr)) (bs : Bs) (v : Value) (hs : Sl U8R β.heap v bs) (hfit : k.fits 524288) (hB9 : i.epoch ≤ 4611686018427387904 ∧ i.next ≤ 4611686018427387904 ∧ i.size ≤ 1048576 ∧ i.recs.length ≤ 1048576) (hbl : bs.length ≤ 65536) (hroom : (k.area i.epoch).length + 24 + bs.length ≤ 262144) (hnx : i.next ≠ 4611686018427387904) : Calls Try.prog 24 #[.agg #[vh, va, vb, Ix k.power, Nx i.epoch, Nx i.next, sB ps i.state cs, sB pr i.recs cr, Nx i.size, .bool false], v] w fun r w' => (¬ wrOk k.power (formB i.epoch i.next bs) ∧ ∃ pH pA pB cH cA cB, r = .returned (.tuple #[.agg #[sB pH ((wrS k i.epoch i.size (formB i.epoch i.next bs)).head) cH, sB pA ((wrS k i.epoch i.size (formB i.epoch i.next bs)).a) cA, sB pB ((wrS k i.epoch i.size (formB i.epoch i.next bs)).b) cB, Ix (wrS k i.epoch i.size (formB i.epoch i.next bs)).power, Nx i.epoch, Nx i.next, sB ps i.state cs, sB pr i.recs cr, Nx i.size, .bool true], .int .i64 0, .int .i64 310]) ∧ St β [rB pH ((wrS k i.epoch i.size (formB i.epoch i.next bs)).head) cH, rB pA ((wrS k i.epoch i.size (formB i.epoch i.next bs)).a) cA, rB pB ((wrS k i.epoch i.size (formB i.epoch i.next bs)).b) cB] w') ∨ (wrOk k.power (formB i.epoch i.next bs) ∧ ∃ pH pA pB cH cA cB p c q cq, r = .returned (.tuple #[.agg #[sB pH ((wrS k i.epoch i.size (formB i.epoch i.next bs)).head) cH, sB pA ((wrS k i.epoch i.size (formB i.epoch i.next bs)).a) cA, sB pB ((wrS k i.epoch i.size (formB i.epoch i.next bs)).b) cB, Ix (wrS k i.epoch i.size (formB i.epoch i.next bs)).power, Nx i.epoch, Nx (i.next + 1), sB ps i.state cs, .slice p (i.recs.length + 1) c, Nx (i.size + (formB i.epoch i.next bs).length), .bool false], Nx i.next, .int .i64 0]) ∧ St β ([rB pH ((wrS k i.epoch i.size (formB i.epoch i.next bs)).head) cH, rB pA ((wrS k i.epoch i.size (formB i.epoch i.next bs)).a) cA, rB pB ((wrS k i.epoch i.size (formB i.epoch i.next bs)).b) cB] ++ [row (.slice p (i.recs.length + 1) c) 30 1 (i.recs.length + 1) (us ++ [sB q bs cq]), rB q bs cq]) w') := by
 obtain ⟨vha, vhc, rfl, vhl, vhm, vhe⟩ := hH.get
 obtain ⟨vaa, vac, rfl, val, vam, vae⟩ := hA.get
 obtain ⟨vba, vbc, rfl, vbl, vbm, vbe⟩ := hB.get
 obtain ⟨va, vc, rfl, vl, vm, ve⟩ := hs.get
 refine enter (n := 95) Try.func24 rfl Try.ntmps24 rfl ?_ hw
 refine csr ?_
 refine l_mv rfl rfl rfl (m_box (v := .agg #[sB vha k.head (vhc), sB vaa k.a (vac), sB vba k.b (vbc), Ix (k.power), Nx (i.epoch), Nx (i.next), sB ps i.state cs, sB pr i.recs (cr), Nx (i.size), .bool false]) rfl) ?_
 rintro _ _ ⟨b1, rfl, rfl⟩
 refine l_mv rfl rfl rfl (m_alloc tf151) ?_
 rintro _ _ ⟨b2, rfl, rfl⟩
 refine lv e_assign ?_
 refine lv e_assign ?_
 refine lnf ?_
 refine cs2 ?_
 refine c_region ?_
 refine lv e_move ?_
 refine lv (v := Nx (bs.length)) (e_len (a := va) (n := bs.length) (c := vc) rfl tf11) ?_
 refine lv (e_gtr (a := ((bs.length : Nat) : Int)) (b := (65536 : Int)) rfl rfl) ?_
 refine lnf ?_
 refine c_if ((65536 : Int) < ((bs.length : Nat) : Int)) rfl (fun hc3 => ?_) (fun hc3 => ?_)
 ·exact absurd hc3 (by omega)
 refine csk ?_
 refine cs2 ?_
 refine c_region ?_
 refine lv (e_fieldPt rfl tf157) ?_
 refine lv (v := .bool false) (e_load1 tf40 rfl (k_pt 1 rfl rfl)) ?_
 refine lnf ?_
 refine c_no rfl ?_
 refine csk ?_
 refine cs2 ?_
 have hl1 : k.head.length ≤ 1048576 := hfit.1
 have hl2 : k.a.length ≤ 1048576 := by have := hfit.2.1; omega
 have hl3 : k.b.length ≤ 1048576 := by have := hfit.2.2.1; omega
 have hfl := formB_length i.epoch i.next bs
 obtain ⟨hB1, hB2, hB3, hB4⟩ := hB9
 have hal : (k.area i.epoch).length ≤ 524288 := area_both (P := fun z => z.length ≤ 524288) hfit.2.1 hfit.2.2.1 i.epoch
 refine c_region ?_
 refine lv (e_fieldPt rfl tf158) ?_
 refine lv (v := .agg #[sB vha k.head (vhc), sB vaa k.a (vac), sB vba k.b (vbc), Ix (k.power)]) (e_load tf56 rfl (k_pt 1 rfl rfl) rfl) ?_
 refine lv (e_fieldPt rfl tf159) ?_
 refine lv (e_fieldPt rfl tf144) ?_
 refine lv (v := Nx (i.epoch)) (e_load1 tf25 rfl (k_pt 1 rfl rfl)) ?_
 refine lcf (cl0 (vs := [.agg #[sB vha k.head (vhc), sB vaa k.a (vac), sB vba k.b (vbc), Ix (k.power)], Nx (i.epoch)]) tf145 rfl rfl) rfl fun w β1 sb kn hw1 back => (rareaX_ok β1 w hw1 i.epoch k _ _ _ (Sl.mono _ _ _ _ _ sb (⟨⟨_, _, rfl, vhl, vhm, vhe⟩⟩ : Sl U8R _ _ k.head)) (Sl.mono _ _ _ _ _ sb (⟨⟨_, _, rfl, val, vam, vae⟩⟩ : Sl U8R _ _ k.a)) (Sl.mono _ _ _ _ _ sb (⟨⟨_, _, rfl, vbl, vbm, vbe⟩⟩ : Sl U8R _ _ k.b))).mono ?_
 rintro e w' ⟨ar4, aa5, ac6, har7, rfl, has8, hw'⟩
 refine ⟨_, rfl, _, back _ _ hw', ?_⟩
 clear hw1 hw' back kn sb
 have har7L := congrArg List.length har7
 obtain ⟨_, has8l, has8m, has8e⟩ := (has8 _ (⟨⟨_, _, rfl, val, vam, vae⟩⟩ : Sl U8R _ _ k.a) (⟨⟨_, _, rfl, vbl, vbm, vbe⟩⟩ : Sl U8R _ _ k.b)).parts
 refine lv (v := Nx (ar4.length)) (e_len (a := aa5) (n := ar4.length) (c := ac6) rfl tf11) ?_
 refine lv (v := Nx (ar4.length + 24)) (e_add (a := ((ar4.length : Nat) : Int)) (b := (24 : Int)) rfl rfl (i64n (by omega) (by omega))) ?_
 refine lv e_move ?_
 refine lv (v := Nx (bs.length)) (e_len (a := va) (n := bs.length) (c := vc) rfl tf11) ?_
 refine lv (v := Nx ((ar4.length + 24) + bs.length)) (e_add (a := ((ar4.length + 24 : Nat) : Int)) (b := ((bs.length : Nat) : Int)) rfl rfl (i64n (by omega) (by omega))) ?_
 refine lv (e_gtr (a := (((ar4.length + 24) + bs.length : Nat) : Int)) (b := (262144 : Int)) rfl rfl) ?_
 refine lv e_move ?_
 refine l_split (s := 29) (p := (262144 : Int) < (((ar4.length + 24) + bs.length : Nat) : Int)) rfl (fun h => ?_) (fun h => ?_)
 exact absurd h (by omega)
 refine g_val (v := pp b1 4) rfl rfl rfl rfl rfl (e_fieldPt rfl tf159) ?_
 refine g_val (v := pp b1 5) rfl rfl rfl rfl rfl (e_fieldPt rfl tf147) ?_
 refine g_val (v := Nx (i.next)) rfl rfl rfl rfl rfl (e_load1 tf25 rfl (k_pt 1 rfl rfl)) ?_
 refine g_val rfl rfl rfl rfl rfl (e_eql (a := ((i.next : Nat) : Int)) (b := (4611686018427387904 : Int)) rfl rfl) ?_
 refine lv (v := .bool (decide (((i.next : Nat) : Int) = (4611686018427387904 : Int)))) (e_pick_f rfl) ?_
 refine lnf ?_
 refine c_if (((i.next : Nat) : Int) = (4611686018427387904 : Int)) rfl (fun hc9 => ?_) (fun hc9 => ?_)
 ·exact absurd hc9 (by omega)
 refine csk ?_
 refine c_seq ?_
 refine c_any [⟨[], [], [0], [37], fun f => f 37 = pp b1 0⟩, ⟨[0], [0], [], [38], fun f => f 38 = .agg #[sB vha k.head (vhc), sB vaa k.a (vac), sB vba k.b (vbc), Ix (k.power)]⟩, ⟨[0, 1], [1], [], [39], fun f => f 39 = .agg #[sB (sla (prt 0 (f 39))) k.head (slc (prt 0 (f 39))), sB (sla (prt 1 (f 39))) k.a (slc (prt 1 (f 39))), sB (sla (prt 2 (f 39))) k.b (slc (prt 2 (f 39))), Ix (k.power)]⟩, ⟨[], [], [0], [40], fun f => f 40 = pp b1 4⟩, ⟨[3], [3], [], [41], fun f => f 41 = pp b1 4⟩, ⟨[3, 4], [4], [], [42], fun f => f 42 = Nx (i.epoch)⟩, ⟨[3, 4, 5], [5], [], [43], fun f => f 43 = Nx (i.epoch % 2)⟩, ⟨[], [], [0], [44], fun f => f 44 = pp b1 4⟩, ⟨[7], [7], [], [45], fun f => f 45 = pp b1 8⟩, ⟨[7, 8], [8], [], [46], fun f => f 46 = Nx (i.size)⟩, ⟨[], [], [0], [47], fun f => f 47 = pp b1 4⟩, ⟨[10], [10], [], [48], fun f => f 48 = pp b1 4⟩, ⟨[10, 11], [11], [], [49], fun f => f 49 = Nx (i.epoch)⟩, ⟨[], [], [0], [50], fun f => f 50 = pp b1 4⟩, ⟨[13], [13], [], [51], fun f => f 51 = pp b1 5⟩, ⟨[13, 14], [14], [], [52], fun f => f 52 = Nx (i.next)⟩, ⟨[], [], [1], [53], fun f => f 53 = sB va bs (vc)⟩, ⟨[0, 1, 2, 10, 11, 12, 13, 14, 15, 16], [12, 15, 16], [], [54], fun f => f 54 = sB (sla (f 54)) (formB ((i.epoch : Nat) : Int) ((i.next : Nat) : Int) bs) (slc (f 54))⟩, ⟨(List.range 18), [2, 6, 9, 17], [], [39, 55], fun f => f 55 = .tuple #[.agg #[sB (sla (prt 0 (f 39))) ((wrS k i.epoch i.size (formB ((i.epoch : Nat) : Int) ((i.next : Nat) : Int) bs)).head) (slc (prt 0 (f 39))), sB (sla (prt 1 (prt 0 (f 55)))) ((wrS k i.epoch i.size (formB ((i.epoch : Nat) : Int) ((i.next : Nat) : Int) bs)).a) (slc (prt 1 (prt 0 (f 55)))), sB (sla (prt 2 (prt 0 (f 55)))) ((wrS k i.epoch i.size (formB ((i.epoch : Nat) : Int) ((i.next : Nat) : Int) bs)).b) (slc (prt 2 (prt 0 (f 55)))), Ix ((wrS k i.epoch i.size (formB ((i.epoch : Nat) : Int) ((i.next : Nat) : Int) bs)).power)], .bool (decide (¬ wrOk k.power (formB ((i.epoch : Nat) : Int) ((i.next : Nat) : Int) bs)))]⟩, ⟨(List.range 19), [18], [], [36, 39, 55], fun f => f 36 = .tuple #[.agg #[sB (sla (prt 0 (f 39))) ((wrS k i.epoch i.size (formB ((i.epoch : Nat) : Int) ((i.next : Nat) : Int) bs)).head) (slc (prt 0 (f 39))), sB (sla (prt 1 (prt 0 (f 55)))) ((wrS k i.epoch i.size (formB ((i.epoch : Nat) : Int) ((i.next : Nat) : Int) bs)).a) (slc (prt 1 (prt 0 (f 55)))), sB (sla (prt 2 (prt 0 (f 55)))) ((wrS k i.epoch i.size (formB ((i.epoch : Nat) : Int) ((i.next : Nat) : Int) bs)).b) (slc (prt 2 (prt 0 (f 55)))), Ix ((wrS k i.epoch i.size (formB ((i.epoch : Nat) : Int) ((i.next : Nat) : Int) bs)).power)], .bool (decide (¬ wrOk k.power (formB ((i.epoch : Nat) : Int) ((i.next : Nat) : Int) bs)))]⟩, ⟨(List.range 20), [19], [], [39, 55, 56], fun f => f 56 = .agg #[sB (sla (prt 0 (f 39))) ((wrS k i.epoch i.size (formB ((i.epoch : Nat) : Int) ((i.next : Nat) : Int) bs)).head) (slc (prt 0 (f 39))), sB (sla (prt 1 (prt 0 (f 55)))) ((wrS k i.epoch i.size (formB ((i.epoch : Nat) : Int) ((i.next : Nat) : Int) bs)).a) (slc (prt 1 (prt 0 (f 55)))), sB (sla (prt 2 (prt 0 (f 55)))) ((wrS k i.epoch i.size (formB ((i.epoch : Nat) : Int) ((i.next : Nat) : Int) bs)).b) (slc (prt 2 (prt 0 (f 55)))), Ix ((wrS k i.epoch i.size (formB ((i.epoch : Nat) : Int) ((i.next : Nat) : Int) bs)).power)]⟩, ⟨(List.range 20), [19], [], [57], fun f => f 57 = .bool (decide (¬ wrOk k.power (formB ((i.epoch : Nat) : Int) ((i.next : Nat) : Int) bs)))⟩, ⟨[], [], [], [7], fun f => f 7 = .pointer (some ⟨(blk (f 7)), 0, none⟩)⟩, ⟨[0, 1, 2, 3, 4, 5, 6, 7, 8, 9, 10, 11, 12, 13, 14, 15, 16, 17, 18, 19, 20, 22], [22, 20], [], [], fun _ => True⟩, ⟨(List.range 24), [21], [], [8], fun f => f 8 = .bool (decide (¬ wrOk k.power (formB ((i.epoch : Nat) : Int) ((i.next : Nat) : Int) bs)))⟩] [⟨none, none, [], [], fun _ => pt b2 (.cells #[.slice none 0 0, .slice none 0 0, .slice none 0 0, .int .i64 (0), .int .i64 (0), .int .i64 (0), .slice none 0 0, .slice none 0 0, .int .i64 (0), .bool false] 56)⟩, ⟨none, none, [1, 5, 9, 12, 15], [], fun _ => pt b1 (.cells #[sB vha k.head (vhc), sB vaa k.a (vac), sB vba k.b (vbc), Ix (k.power), Nx (i.epoch), Nx (i.next), sB ps i.state cs, sB pr i.recs (cr), Nx (i.size), .bool false] 56)⟩, ⟨(some 2), (some 18), [18], [39], fun f => rB (sla (prt 0 (f 39))) k.head (slc (prt 0 (f 39)))⟩, ⟨(some 2), (some 18), [18], [39], fun f => rB (sla (prt 1 (f 39))) k.a (slc (prt 1 (f 39)))⟩, ⟨(some 2), (some 18), [18], [39], fun f => rB (sla (prt 2 (f 39))) k.b (slc (prt 2 (f 39)))⟩, ⟨(some 17), none, [18], [54], fun f => rB (sla (f 54)) (formB ((i.epoch : Nat) : Int) ((i.next : Nat) : Int) bs) (slc (f 54))⟩, ⟨(some 18), none, [], [39], fun f => rB (sla (prt 0 (f 39))) ((wrS k i.epoch i.size (formB ((i.epoch : Nat) : Int) ((i.next : Nat) : Int) bs)).head) (slc (prt 0 (f 39)))⟩, ⟨(some 18), none, [], [55], fun f => rB (sla (prt 1 (prt 0 (f 55)))) ((wrS k i.epoch i.size (formB ((i.epoch : Nat) : Int) ((i.next : Nat) : Int) bs)).a) (slc (prt 1 (prt 0 (f 55))))⟩, ⟨(some 18), none, [], [55], fun f => rB (sla (prt 2 (prt 0 (f 55)))) ((wrS k i.epoch i.size (formB ((i.epoch : Nat) : Int) ((i.next : Nat) : Int) bs)).b) (slc (prt 2 (prt 0 (f 55))))⟩, ⟨(some 22), (some 23), [23], [7], fun f => pt (blk (f 7)) (.cells #[.slice none 0 0, .slice none 0 0, .slice none 0 0, .int .i64 (0)] 32)⟩, ⟨(some 23), none, [], [7, 39, 55], fun f => pt (blk (f 7)) (.cells #[sB (sla (prt 0 (f 39))) ((wrS k i.epoch i.size (formB ((i.epoch : Nat) : Int) ((i.next : Nat) : Int) bs)).head) (slc (prt 0 (f 39))), sB (sla (prt 1 (prt 0 (f 55)))) ((wrS k i.epoch i.size (formB ((i.epoch : Nat) : Int) ((i.next : Nat) : Int) bs)).a) (slc (prt 1 (prt 0 (f 55)))), sB (sla (prt 2 (prt 0 (f 55)))) ((wrS k i.epoch i.size (formB ((i.epoch : Nat) : Int) ((i.next : Nat) : Int) bs)).b) (slc (prt 2 (prt 0 (f 55)))), Ix ((wrS k i.epoch i.size (formB ((i.epoch : Nat) : Int) ((i.next : Nat) : Int) bs)).power)] 32)⟩] [(2, pp b1 0), (1, sB va bs (vc)), (4, pp b2 0)] [1, 0, 2] [] (by kernel_rfl) (by kernel_rfl) (by kernel_rfl) (by kernel_rfl) rfl ⟨rfl, rfl, rfl, trivial⟩ ⟨?_, ?_, ?_, ?_, ?_, ?_, ?_, ?_, ?_, ?_, ?_, ?_, ?_, ?_, ?_, ?_, ?_, ?_, ?_, ?_, ?_, ?_, ?_, ?_, ?_, trivial⟩ ?_
 ·rintro f M - ⟨i0, -⟩
  exact ob0 (up_cons (d := 2) rfl i0) rfl (e_fieldPt rfl tf158) (.refl _)
 ·rintro f M ⟨k0, -⟩ -
  exact obv (L' := pt b1 (.cells #[sB vha k.head (vhc), sB vaa k.a (vac), sB vba k.b (vbc), Ix (k.power), Nx (i.epoch), Nx (i.next), sB ps i.state cs, sB pr i.recs (cr), Nx (i.size), .bool false] 56) :: M) (up_cons (d := 37) rfl k0) rfl (e_load tf56 rfl (k_pt 0 rfl rfl) rfl) (perm_front 0 rfl) (by rfl)
 ·rintro f M ⟨k0, -⟩ -
  refine ob_start (L' := M) (by rfl) (up_cons (d := 38) rfl k0) ?_
  refine lcf (cl0 (vs := [.agg #[sB vha k.head (vhc), sB vaa k.a (vac), sB vba k.b (vbc), Ix (k.power)]]) tf155 rfl rfl) rfl fun w β1 sb kn hw1 back => (rcopied_ok β1 w hw1 k _ _ _ (Sl.mono _ _ _ _ _ sb (⟨⟨_, _, rfl, vhl, vhm, vhe⟩⟩ : Sl U8R _ _ k.head)) (Sl.mono _ _ _ _ _ sb (⟨⟨_, _, rfl, val, vam, vae⟩⟩ : Sl U8R _ _ k.a)) (Sl.mono _ _ _ _ _ sb (⟨⟨_, _, rfl, vbl, vbm, vbe⟩⟩ : Sl U8R _ _ k.b)) (by omega) (by omega) (by omega)).mono ?_
  rintro e w' ⟨pH16, pA17, pB18, cH19, cA20, cB21, rfl, hw'⟩
  refine ⟨_, rfl, _, back _ _ hw', ?_⟩
  clear hw1 hw' back kn sb
  refine l_nil ?_
  exact f_owes_d (up_cons (d := 38) rfl k0) rfl (((perm_front 2 rfl).trans (perm_front 2 rfl)).trans (perm_front 2 rfl))
 ·rintro f M - ⟨i0, -⟩
  exact ob0 (up_cons (d := 2) rfl i0) rfl (e_fieldPt rfl tf159) (.refl _)
 ·rintro f M ⟨k0, -⟩ -
  exact ob0 (up_cons (d := 40) rfl k0) rfl (e_fieldPt rfl tf144) (.refl _)
 ·rintro f M ⟨k0, -⟩ -
  exact obv (L' := pt b1 (.cells #[sB vha k.head (vhc), sB vaa k.a (vac), sB vba k.b (vbc), Ix (k.power), Nx (i.epoch), Nx (i.next), sB ps i.state cs, sB pr i.recs (cr), Nx (i.size), .bool false] 56) :: M) (up_cons (d := 41) rfl k0) rfl (e_load1 tf25 rfl (k_pt 0 rfl rfl)) (perm_front 0 rfl) (by rfl)
 ·rintro f M ⟨k0, -⟩ -
  exact ob0 (up_cons (d := 42) rfl k0) rfl (e_rem (a := ((i.epoch : Nat) : Int)) (b := (2 : Int)) rfl rfl (by decide) (nat_tmod _ 2)) (.refl _)
 ·rintro f M - ⟨i0, -⟩
  exact ob0 (up_cons (d := 2) rfl i0) rfl (e_fieldPt rfl tf159) (.refl _)
 ·rintro f M ⟨k0, -⟩ -
  exact ob0 (up_cons (d := 44) rfl k0) rfl (e_fieldPt rfl tf149) (.refl _)
 ·rintro f M ⟨k0, -⟩ -
  exact obv (L' := pt b1 (.cells #[sB vha k.head (vhc), sB vaa k.a (vac), sB vba k.b (vbc), Ix (k.power), Nx (i.epoch), Nx (i.next), sB ps i.state cs, sB pr i.recs (cr), Nx (i.size), .bool false] 56) :: M) (up_cons (d := 45) rfl k0) rfl (e_load1 tf25 rfl (k_pt 0 rfl rfl)) (perm_front 0 rfl) (by rfl)
 ·rintro f M - ⟨i0, -⟩
  exact ob0 (up_cons (d := 2) rfl i0) rfl (e_fieldPt rfl tf159) (.refl _)
 ·rintro f M ⟨k0, -⟩ -
  exact ob0 (up_cons (d := 47) rfl k0) rfl (e_fieldPt rfl tf144) (.refl _)
 ·rintro f M ⟨k0, -⟩ -
  exact obv (L' := pt b1 (.cells #[sB vha k.head (vhc), sB vaa k.a (vac), sB vba k.b (vbc), Ix (k.power), Nx (i.epoch), Nx (i.next), sB ps i.state cs, sB pr i.recs (cr), Nx (i.size), .bool false] 56) :: M) (up_cons (d := 48) rfl k0) rfl (e_load1 tf25 rfl (k_pt 0 rfl rfl)) (perm_front 0 rfl) (by rfl)
 ·rintro f M - ⟨i0, -⟩
  exact ob0 (up_cons (d := 2) rfl i0) rfl (e_fieldPt rfl tf159) (.refl _)
 ·rintro f M ⟨k0, -⟩ -
  exact ob0 (up_cons (d := 50) rfl k0) rfl (e_fieldPt rfl tf147) (.refl _)
 ·rintro f M ⟨k0, -⟩ -
  exact obv (L' := pt b1 (.cells #[sB vha k.head (vhc), sB vaa k.a (vac), sB vba k.b (vbc), Ix (k.power), Nx (i.epoch), Nx (i.next), sB ps i.state cs, sB pr i.recs (cr), Nx (i.size), .bool false] 56) :: M) (up_cons (d := 51) rfl k0) rfl (e_load1 tf25 rfl (k_pt 0 rfl rfl)) (perm_front 0 rfl) (by rfl)
 ·rintro f M - ⟨i0, -⟩
  exact ob0 (up_cons (d := 1) rfl i0) rfl e_move (.refl _)
 ·rintro f M ⟨k0, k1, k2, -⟩ -
  refine ob_start (L' := M) (by rfl) (up_cons (d := 53) (up_cons (d := 52) (up_cons (d := 49) rfl k0) k1) k2) ?_
  refine lcf (cl0 (vs := [Nx (i.epoch), Nx (i.next), sB va bs (vc)]) tf138 rfl rfl) rfl fun w β1 sb kn hw1 back => (rform_ok β1 w hw1 ((i.epoch : Nat) : Int) ((i.next : Nat) : Int) bs _ (by omega) (Sl.mono _ _ _ _ _ sb (⟨⟨_, _, rfl, vl, vm, ve⟩⟩ : Sl U8R _ _ bs))).mono ?_
  rintro e w' ⟨p24, c25, rfl, hw'⟩
  refine ⟨_, rfl, _, back _ _ hw', ?_⟩
  clear hw1 hw' back kn sb
  refine l_nil ?_
  exact f_owes_d (up_cons (d := 53) (up_cons (d := 52) (up_cons (d := 49) rfl k0) k1) k2) rfl (perm_front 0 rfl)
 ·rintro f M ⟨k0, k1, k2, k3, -⟩ -
  have hs39 : f 39 = .agg #[sB (sla (prt 0 (f 39))) k.head (slc (prt 0 (f 39))), sB (sla (prt 1 (f 39))) k.a (slc (prt 1 (f 39))), sB (sla (prt 2 (f 39))) k.b (slc (prt 2 (f 39))), Ix (k.power)] := k0
  have hs54 : f 54 = sB (sla (f 54)) (formB ((i.epoch : Nat) : Int) ((i.next : Nat) : Int) bs) (slc (f 54)) := k3
  refine ob_start (L' := rB (sla (prt 0 (f 39))) k.head (slc (prt 0 (f 39))) :: rB (sla (prt 1 (f 39))) k.a (slc (prt 1 (f 39))) :: rB (sla (prt 2 (f 39))) k.b (slc (prt 2 (f 39))) :: rB (sla (f 54)) (formB ((i.epoch : Nat) : Int) ((i.next : Nat) : Int) bs) (slc (f 54)) :: M) (by rfl) (up_cons (up_cons (d := 46) (up_cons (d := 43) (up_cons rfl hs39) k1) k2) hs54) ?_
  refine l_call rfl rfl rfl (cl0 (vs := [.agg #[sB (sla (prt 0 (f 39))) k.head (slc (prt 0 (f 39))), sB (sla (prt 1 (f 39))) k.a (slc (prt 1 (f 39))), sB (sla (prt 2 (f 39))) k.b (slc (prt 2 (f 39))), Ix (k.power)], Nx (i.epoch % 2), Nx (i.size), sB (sla (f 54)) (formB ((i.epoch : Nat) : Int) ((i.next : Nat) : Int) bs) (slc (f 54))]) tf160 rfl rfl) ?_
  intro w hw
  replace hw := hw.perm (L' := _ :: _ :: _ :: _ :: M) (by exact ((((perm_front 3 rfl).trans (perm_front 3 rfl)).trans (perm_front 3 rfl)).trans (perm_front 3 rfl)))
  obtain ⟨β1, sb, kn, hw1, back⟩ := St.frame (L := [_, _, _]) (M := _ :: M) hw
  refine (rwriteX_ok β1 w (sla (prt 0 (f 39))) (sla (prt 1 (f 39))) (sla (prt 2 (f 39))) (slc (prt 0 (f 39))) (slc (prt 1 (f 39))) (slc (prt 2 (f 39))) k ⟨by have := hfit.1; omega, by have := hfit.2.1; omega, by have := hfit.2.2.1; omega, hfit.2.2.2⟩ i.epoch i.size (by omega) (formB ((i.epoch : Nat) : Int) ((i.next : Nat) : Int) bs) _ (by omega) (kU kn 0 rfl) hw1).mono ?_
  rintro e w' ⟨pA30, pB31, cA32, cB33, rfl, hw'⟩
  refine ⟨_, rfl, _, back _ _ hw', ?_⟩
  clear hw hw1 hw' back kn sb
  refine l_nil ?_
  exact f_owes_d (up_cons (up_cons (d := 46) (up_cons (d := 43) (up_cons rfl hs39) k1) k2) hs54) rfl ((((perm_front 2 rfl).trans (perm_front 2 rfl)).trans (perm_front 2 rfl)).trans (perm_front 3 rfl))
 ·rintro f M ⟨k0, -⟩ -
  have hs55 : f 55 = .tuple #[.agg #[sB (sla (prt 0 (f 39))) ((wrS k i.epoch i.size (formB ((i.epoch : Nat) : Int) ((i.next : Nat) : Int) bs)).head) (slc (prt 0 (f 39))), sB (sla (prt 1 (prt 0 (f 55)))) ((wrS k i.epoch i.size (formB ((i.epoch : Nat) : Int) ((i.next : Nat) : Int) bs)).a) (slc (prt 1 (prt 0 (f 55)))), sB (sla (prt 2 (prt 0 (f 55)))) ((wrS k i.epoch i.size (formB ((i.epoch : Nat) : Int) ((i.next : Nat) : Int) bs)).b) (slc (prt 2 (prt 0 (f 55)))), Ix ((wrS k i.epoch i.size (formB ((i.epoch : Nat) : Int) ((i.next : Nat) : Int) bs)).power)], .bool (decide (¬ wrOk k.power (formB ((i.epoch : Nat) : Int) ((i.next : Nat) : Int) bs)))] := k0
  exact ob0 (up_cons rfl hs55) rfl e_move (.refl _)
 ·rintro f M ⟨k0, -⟩ -
  have hs36 : f 36 = .tuple #[.agg #[sB (sla (prt 0 (f 39))) ((wrS k i.epoch i.size (formB ((i.epoch : Nat) : Int) ((i.next : Nat) : Int) bs)).head) (slc (prt 0 (f 39))), sB (sla (prt 1 (prt 0 (f 55)))) ((wrS k i.epoch i.size (formB ((i.epoch : Nat) : Int) ((i.next : Nat) : Int) bs)).a) (slc (prt 1 (prt 0 (f 55)))), sB (sla (prt 2 (prt 0 (f 55)))) ((wrS k i.epoch i.size (formB ((i.epoch : Nat) : Int) ((i.next : Nat) : Int) bs)).b) (slc (prt 2 (prt 0 (f 55)))), Ix ((wrS k i.epoch i.size (formB ((i.epoch : Nat) : Int) ((i.next : Nat) : Int) bs)).power)], .bool (decide (¬ wrOk k.power (formB ((i.epoch : Nat) : Int) ((i.next : Nat) : Int) bs)))] := k0
  exact ob0 (up_cons rfl hs36) rfl (e_extract (vs := #[.agg #[sB (sla (prt 0 (f 39))) ((wrS k i.epoch i.size (formB ((i.epoch : Nat) : Int) ((i.next : Nat) : Int) bs)).head) (slc (prt 0 (f 39))), sB (sla (prt 1 (prt 0 (f 55)))) ((wrS k i.epoch i.size (formB ((i.epoch : Nat) : Int) ((i.next : Nat) : Int) bs)).a) (slc (prt 1 (prt 0 (f 55)))), sB (sla (prt 2 (prt 0 (f 55)))) ((wrS k i.epoch i.size (formB ((i.epoch : Nat) : Int) ((i.next : Nat) : Int) bs)).b) (slc (prt 2 (prt 0 (f 55)))), Ix ((wrS k i.epoch i.size (formB ((i.epoch : Nat) : Int) ((i.next : Nat) : Int) bs)).power)], .bool (decide (¬ wrOk k.power (formB ((i.epoch : Nat) : Int) ((i.next : Nat) : Int) bs)))]) rfl rfl) (.refl _)
 ·rintro f M ⟨k0, -⟩ -
  have hs36 : f 36 = .tuple #[.agg #[sB (sla (prt 0 (f 39))) ((wrS k i.epoch i.size (formB ((i.epoch : Nat) : Int) ((i.next : Nat) : Int) bs)).head) (slc (prt 0 (f 39))), sB (sla (prt 1 (prt 0 (f 55)))) ((wrS k i.epoch i.size (formB ((i.epoch : Nat) : Int) ((i.next : Nat) : Int) bs)).a) (slc (prt 1 (prt 0 (f 55)))), sB (sla (prt 2 (prt 0 (f 55)))) ((wrS k i.epoch i.size (formB ((i.epoch : Nat) : Int) ((i.next : Nat) : Int) bs)).b) (slc (prt 2 (prt 0 (f 55)))), Ix ((wrS k i.epoch i.size (formB ((i.epoch : Nat) : Int) ((i.next : Nat) : Int) bs)).power)], .bool (decide (¬ wrOk k.power (formB ((i.epoch : Nat) : Int) ((i.next : Nat) : Int) bs)))] := k0
  exact ob0 (up_cons rfl hs36) rfl (e_extract (vs := #[.agg #[sB (sla (prt 0 (f 39))) ((wrS k i.epoch i.size (formB ((i.epoch : Nat) : Int) ((i.next : Nat) : Int) bs)).head) (slc (prt 0 (f 39))), sB (sla (prt 1 (prt 0 (f 55)))) ((wrS k i.epoch i.size (formB ((i.epoch : Nat) : Int) ((i.next : Nat) : Int) bs)).a) (slc (prt 1 (prt 0 (f 55)))), sB (sla (prt 2 (prt 0 (f 55)))) ((wrS k i.epoch i.size (formB ((i.epoch : Nat) : Int) ((i.next : Nat) : Int) bs)).b) (slc (prt 2 (prt 0 (f 55)))), Ix ((wrS k i.epoch i.size (formB ((i.epoch : Nat) : Int) ((i.next : Nat) : Int) bs)).power)], .bool (decide (¬ wrOk k.power (formB ((i.epoch : Nat) : Int) ((i.next : Nat) : Int) bs)))]) rfl rfl) (.refl _)
 ·rintro f M - -
  refine ob_start (L' := M) (by rfl) rfl ?_
  refine l_mv rfl rfl rfl (m_alloc tf106) ?_
  rintro _ _ ⟨b35, rfl, rfl⟩
  refine l_nil ?_
  exact f_owes_d rfl rfl (perm_front 0 rfl)
 ·rintro f M ⟨k0, k1, -⟩ -
  have hs7 : f 7 = .pointer (some ⟨(blk (f 7)), 0, none⟩) := k0
  have hs56 : f 56 = .agg #[sB (sla (prt 0 (f 39))) ((wrS k i.epoch i.size (formB ((i.epoch : Nat) : Int) ((i.next : Nat) : Int) bs)).head) (slc (prt 0 (f 39))), sB (sla (prt 1 (prt 0 (f 55)))) ((wrS k i.epoch i.size (formB ((i.epoch : Nat) : Int) ((i.next : Nat) : Int) bs)).a) (slc (prt 1 (prt 0 (f 55)))), sB (sla (prt 2 (prt 0 (f 55)))) ((wrS k i.epoch i.size (formB ((i.epoch : Nat) : Int) ((i.next : Nat) : Int) bs)).b) (slc (prt 2 (prt 0 (f 55)))), Ix ((wrS k i.epoch i.size (formB ((i.epoch : Nat) : Int) ((i.next : Nat) : Int) bs)).power)] := k1
  refine ob_start (L' := pt (blk (f 7)) (.cells #[.slice none 0 0, .slice none 0 0, .slice none 0 0, .int .i64 (0)] 32) :: M) (by rfl) (up_cons (up_cons rfl hs7) hs56) ?_
  refine lu (m_store 0 tf56 (cs' := #[sB (sla (prt 0 (f 39))) ((wrS k i.epoch i.size (formB ((i.epoch : Nat) : Int) ((i.next : Nat) : Int) bs)).head) (slc (prt 0 (f 39))), sB (sla (prt 1 (prt 0 (f 55)))) ((wrS k i.epoch i.size (formB ((i.epoch : Nat) : Int) ((i.next : Nat) : Int) bs)).a) (slc (prt 1 (prt 0 (f 55)))), sB (sla (prt 2 (prt 0 (f 55)))) ((wrS k i.epoch i.size (formB ((i.epoch : Nat) : Int) ((i.next : Nat) : Int) bs)).b) (slc (prt 2 (prt 0 (f 55)))), Ix ((wrS k i.epoch i.size (formB ((i.epoch : Nat) : Int) ((i.next : Nat) : Int) bs)).power)]) rfl rfl rfl rfl rfl rfl rfl) ?_
  refine l_nil ?_
  exact f_owes_n (up_cons (up_cons rfl hs7) hs56) trivial (perm_front 0 rfl)
 ·rintro f M ⟨k0, -⟩ -
  exact ob0 (up_cons (d := 57) rfl k0) rfl e_assign (.refl _)
 rintro fa36 ⟨-, -, -, -, -, -, -, -, -, -, -, -, -, -, -, -, -, -, -, -, -, -, k22, -, k24, -⟩ ⟨j0, j1, j2, -⟩
 refine f_re (L' := [pt b2 (.cells #[.slice none 0 0, .slice none 0 0, .slice none 0 0, .int .i64 (0), .int .i64 (0), .int .i64 (0), .slice none 0 0, .slice none 0 0, .int .i64 (0), .bool false] 56), pt b1 (.cells #[sB vha k.head (vhc), sB vaa k.a (vac), sB vba k.b (vbc), Ix (k.power), Nx (i.epoch), Nx (i.next), sB ps i.state cs, sB pr i.recs (cr), Nx (i.size), .bool false] 56), rB (sla (fa36 54)) (formB ((i.epoch : Nat) : Int) ((i.next : Nat) : Int) bs) (slc (fa36 54)), rB (sla (prt 0 (fa36 39))) ((wrS k i.epoch i.size (formB ((i.epoch : Nat) : Int) ((i.next : Nat) : Int) bs)).head) (slc (prt 0 (fa36 39))), rB (sla (prt 1 (prt 0 (fa36 55)))) ((wrS k i.epoch i.size (formB ((i.epoch : Nat) : Int) ((i.next : Nat) : Int) bs)).a) (slc (prt 1 (prt 0 (fa36 55)))), rB (sla (prt 2 (prt 0 (fa36 55)))) ((wrS k i.epoch i.size (formB ((i.epoch : Nat) : Int) ((i.next : Nat) : Int) bs)).b) (slc (prt 2 (prt 0 (fa36 55)))), pt (blk (fa36 7)) (.cells #[sB (sla (prt 0 (fa36 39))) ((wrS k i.epoch i.size (formB ((i.epoch : Nat) : Int) ((i.next : Nat) : Int) bs)).head) (slc (prt 0 (fa36 39))), sB (sla (prt 1 (prt 0 (fa36 55)))) ((wrS k i.epoch i.size (formB ((i.epoch : Nat) : Int) ((i.next : Nat) : Int) bs)).a) (slc (prt 1 (prt 0 (fa36 55)))), sB (sla (prt 2 (prt 0 (fa36 55)))) ((wrS k i.epoch i.size (formB ((i.epoch : Nat) : Int) ((i.next : Nat) : Int) bs)).b) (slc (prt 2 (prt 0 (fa36 55)))), Ix ((wrS k i.epoch i.size (formB ((i.epoch : Nat) : Int) ((i.next : Nat) : Int) bs)).power)] 32)]) (by rfl) ?_
 refine f_rebase (d := 1) j0 ?_
 refine f_rebase (d := 2) j1 ?_
 refine f_rebase (d := 4) j2 ?_
 refine f_rebase (d := 7) k22 ?_
 refine f_rebase (d := 8) k24 ?_
 refine ftc ?_
 refine lv (v := .agg #[sB (sla (prt 0 (fa36 39))) ((wrS k i.epoch i.size (formB ((i.epoch : Nat) : Int) ((i.next : Nat) : Int) bs)).head) (slc (prt 0 (fa36 39))), sB (sla (prt 1 (prt 0 (fa36 55)))) ((wrS k i.epoch i.size (formB ((i.epoch : Nat) : Int) ((i.next : Nat) : Int) bs)).a) (slc (prt 1 (prt 0 (fa36 55)))), sB (sla (prt 2 (prt 0 (fa36 55)))) ((wrS k i.epoch i.size (formB ((i.epoch : Nat) : Int) ((i.next : Nat) : Int) bs)).b) (slc (prt 2 (prt 0 (fa36 55)))), Ix ((wrS k i.epoch i.size (formB ((i.epoch : Nat) : Int) ((i.next : Nat) : Int) bs)).power)]) (e_load tf56 rfl (k_pt 6 rfl rfl) rfl) ?_
 refine lv (e_fieldPt rfl tf158) ?_
 refine lu (m_store 1 tf56 (cs' := #[sB (sla (prt 0 (fa36 39))) ((wrS k i.epoch i.size (formB ((i.epoch : Nat) : Int) ((i.next : Nat) : Int) bs)).head) (slc (prt 0 (fa36 39))), sB (sla (prt 1 (prt 0 (fa36 55)))) ((wrS k i.epoch i.size (formB ((i.epoch : Nat) : Int) ((i.next : Nat) : Int) bs)).a) (slc (prt 1 (prt 0 (fa36 55)))), sB (sla (prt 2 (prt 0 (fa36 55)))) ((wrS k i.epoch i.size (formB ((i.epoch : Nat) : Int) ((i.next : Nat) : Int) bs)).b) (slc (prt 2 (prt 0 (fa36 55)))), Ix ((wrS k i.epoch i.size (formB ((i.epoch : Nat) : Int) ((i.next : Nat) : Int) bs)).power), Nx (i.epoch), Nx (i.next), sB ps i.state cs, sB pr i.recs (cr), Nx (i.size), .bool false]) rfl rfl rfl rfl rfl rfl rfl) ?_
 refine lnf ?_
 refine cs2 ?_
 refine c_region ?_
 refine lv e_move ?_
 refine lnf ?_
 refine c_if (¬ wrOk k.power (formB ((i.epoch : Nat) : Int) ((i.next : Nat) : Int) bs)) rfl (fun hc37 => ?_) (fun hc37 => ?_)
 ·refine csr ?_
  refine lv (e_fieldPt rfl tf157) ?_
  refine lu (m_store 1 tf40 (cs' := #[sB (sla (prt 0 (fa36 39))) ((wrS k i.epoch i.size (formB ((i.epoch : Nat) : Int) ((i.next : Nat) : Int) bs)).head) (slc (prt 0 (fa36 39))), sB (sla (prt 1 (prt 0 (fa36 55)))) ((wrS k i.epoch i.size (formB ((i.epoch : Nat) : Int) ((i.next : Nat) : Int) bs)).a) (slc (prt 1 (prt 0 (fa36 55)))), sB (sla (prt 2 (prt 0 (fa36 55)))) ((wrS k i.epoch i.size (formB ((i.epoch : Nat) : Int) ((i.next : Nat) : Int) bs)).b) (slc (prt 2 (prt 0 (fa36 55)))), Ix ((wrS k i.epoch i.size (formB ((i.epoch : Nat) : Int) ((i.next : Nat) : Int) bs)).power), Nx (i.epoch), Nx (i.next), sB ps i.state cs, sB pr i.recs (cr), Nx (i.size), .bool true]) rfl rfl rfl rfl rfl rfl rfl) ?_
  refine lnc ?_
  refine lv (v := .agg #[sB (sla (prt 0 (fa36 39))) ((wrS k i.epoch i.size (formB ((i.epoch : Nat) : Int) ((i.next : Nat) : Int) bs)).head) (slc (prt 0 (fa36 39))), sB (sla (prt 1 (prt 0 (fa36 55)))) ((wrS k i.epoch i.size (formB ((i.epoch : Nat) : Int) ((i.next : Nat) : Int) bs)).a) (slc (prt 1 (prt 0 (fa36 55)))), sB (sla (prt 2 (prt 0 (fa36 55)))) ((wrS k i.epoch i.size (formB ((i.epoch : Nat) : Int) ((i.next : Nat) : Int) bs)).b) (slc (prt 2 (prt 0 (fa36 55)))), Ix ((wrS k i.epoch i.size (formB ((i.epoch : Nat) : Int) ((i.next : Nat) : Int) bs)).power), Nx (i.epoch), Nx (i.next), sB ps i.state cs, sB pr i.recs (cr), Nx (i.size), .bool true]) (e_load tf154 rfl (k_pt 1 rfl rfl) rfl) ?_
  refine lu (m_store 0 tf154 (cs' := #[sB (sla (prt 0 (fa36 39))) ((wrS k i.epoch i.size (formB ((i.epoch : Nat) : Int) ((i.next : Nat) : Int) bs)).head) (slc (prt 0 (fa36 39))), sB (sla (prt 1 (prt 0 (fa36 55)))) ((wrS k i.epoch i.size (formB ((i.epoch : Nat) : Int) ((i.next : Nat) : Int) bs)).a) (slc (prt 1 (prt 0 (fa36 55)))), sB (sla (prt 2 (prt 0 (fa36 55)))) ((wrS k i.epoch i.size (formB ((i.epoch : Nat) : Int) ((i.next : Nat) : Int) bs)).b) (slc (prt 2 (prt 0 (fa36 55)))), Ix ((wrS k i.epoch i.size (formB ((i.epoch : Nat) : Int) ((i.next : Nat) : Int) bs)).power), Nx (i.epoch), Nx (i.next), sB ps i.state cs, sB pr i.recs (cr), Nx (i.size), .bool true]) rfl rfl rfl rfl rfl rfl rfl) ?_
  refine lv e_assign ?_
  refine lv e_assign ?_
  refine lnf ?_
  refine c_ret ?_
  refine f_then_ret ?_
  refine retG (m := [.agg #[sB (sla (prt 0 (fa36 39))) ((wrS k i.epoch i.size (formB ((i.epoch : Nat) : Int) ((i.next : Nat) : Int) bs)).head) (slc (prt 0 (fa36 39))), sB (sla (prt 1 (prt 0 (fa36 55)))) ((wrS k i.epoch i.size (formB ((i.epoch : Nat) : Int) ((i.next : Nat) : Int) bs)).a) (slc (prt 1 (prt 0 (fa36 55)))), sB (sla (prt 2 (prt 0 (fa36 55)))) ((wrS k i.epoch i.size (formB ((i.epoch : Nat) : Int) ((i.next : Nat) : Int) bs)).b) (slc (prt 2 (prt 0 (fa36 55)))), Ix ((wrS k i.epoch i.size (formB ((i.epoch : Nat) : Int) ((i.next : Nat) : Int) bs)).power), Nx (i.epoch), Nx (i.next), sB ps i.state cs, sB pr i.recs (cr), Nx (i.size), .bool true], .int .i64 (0), .int .i64 (310)]) Try.results24 ⟨rd_cell tf154 rfl (k_pt 0 rfl rfl) rfl, rd_tmp (v := .int .i64 (0)) rfl, rd_tmp (v := .int .i64 (310)) rfl, trivial⟩ rfl ?_
  intro w hw
  exact .inl ⟨hc37, _, _, _, _, _, _, rfl, st_mask [true, true, true, false, false, false, false] rfl (hw.perm (L' := [rB (sla (prt 0 (fa36 39))) ((wrS k i.epoch i.size (formB ((i.epoch : Nat) : Int) ((i.next : Nat) : Int) bs)).head) (slc (prt 0 (fa36 39))), rB (sla (prt 1 (prt 0 (fa36 55)))) ((wrS k i.epoch i.size (formB ((i.epoch : Nat) : Int) ((i.next : Nat) : Int) bs)).a) (slc (prt 1 (prt 0 (fa36 55)))), rB (sla (prt 2 (prt 0 (fa36 55)))) ((wrS k i.epoch i.size (formB ((i.epoch : Nat) : Int) ((i.next : Nat) : Int) bs)).b) (slc (prt 2 (prt 0 (fa36 55)))), pt b2 (.cells #[sB (sla (prt 0 (fa36 39))) ((wrS k i.epoch i.size (formB ((i.epoch : Nat) : Int) ((i.next : Nat) : Int) bs)).head) (slc (prt 0 (fa36 39))), sB (sla (prt 1 (prt 0 (fa36 55)))) ((wrS k i.epoch i.size (formB ((i.epoch : Nat) : Int) ((i.next : Nat) : Int) bs)).a) (slc (prt 1 (prt 0 (fa36 55)))), sB (sla (prt 2 (prt 0 (fa36 55)))) ((wrS k i.epoch i.size (formB ((i.epoch : Nat) : Int) ((i.next : Nat) : Int) bs)).b) (slc (prt 2 (prt 0 (fa36 55)))), Ix ((wrS k i.epoch i.size (formB ((i.epoch : Nat) : Int) ((i.next : Nat) : Int) bs)).power), Nx (i.epoch), Nx (i.next), sB ps i.state cs, sB pr i.recs (cr), Nx (i.size), .bool true] 56), pt b1 (.cells #[sB (sla (prt 0 (fa36 39))) ((wrS k i.epoch i.size (formB ((i.epoch : Nat) : Int) ((i.next : Nat) : Int) bs)).head) (slc (prt 0 (fa36 39))), sB (sla (prt 1 (prt 0 (fa36 55)))) ((wrS k i.epoch i.size (formB ((i.epoch : Nat) : Int) ((i.next : Nat) : Int) bs)).a) (slc (prt 1 (prt 0 (fa36 55)))), sB (sla (prt 2 (prt 0 (fa36 55)))) ((wrS k i.epoch i.size (formB ((i.epoch : Nat) : Int) ((i.next : Nat) : Int) bs)).b) (slc (prt 2 (prt 0 (fa36 55)))), Ix ((wrS k i.epoch i.size (formB ((i.epoch : Nat) : Int) ((i.next : Nat) : Int) bs)).power), Nx (i.epoch), Nx (i.next), sB ps i.state cs, sB pr i.recs (cr), Nx (i.size), .bool true] 56), rB (sla (fa36 54)) (formB ((i.epoch : Nat) : Int) ((i.next : Nat) : Int) bs) (slc (fa36 54)), pt (blk (fa36 7)) (.cells #[sB (sla (prt 0 (fa36 39))) ((wrS k i.epoch i.size (formB ((i.epoch : Nat) : Int) ((i.next : Nat) : Int) bs)).head) (slc (prt 0 (fa36 39))), sB (sla (prt 1 (prt 0 (fa36 55)))) ((wrS k i.epoch i.size (formB ((i.epoch : Nat) : Int) ((i.next : Nat) : Int) bs)).a) (slc (prt 1 (prt 0 (fa36 55)))), sB (sla (prt 2 (prt 0 (fa36 55)))) ((wrS k i.epoch i.size (formB ((i.epoch : Nat) : Int) ((i.next : Nat) : Int) bs)).b) (slc (prt 2 (prt 0 (fa36 55)))), Ix ((wrS k i.epoch i.size (formB ((i.epoch : Nat) : Int) ((i.next : Nat) : Int) bs)).power)] 32)]) (by exact (perm_ix [3, 4, 5, 0, 1, 2, 6] 7 rfl (by kernel_rfl) (by kernel_rfl))))⟩
 refine csk ?_
 refine csr ?_
 refine lv (e_fieldPt rfl tf159) ?_
 refine lv (e_fieldPt rfl tf147) ?_
 refine lv (v := Nx (i.next)) (e_load1 tf25 rfl (k_pt 1 rfl rfl)) ?_
 refine lv e_assign ?_
 refine lnc ?_
 refine l_mv rfl rfl rfl (m_slice0 tf66) ?_
 rintro _ _ ⟨b38, rfl, rfl⟩
 refine lv (e_fieldPt rfl tf159) ?_
 refine lv (e_fieldPt rfl tf150) ?_
 refine lv (v := sB pr i.recs (cr)) (e_load1 tf65 rfl (k_pt 2 rfl rfl)) ?_
 refine l_conseq 0 (r' := row (.slice (some ⟨b38, 0, none⟩) 0 0) 30 1 0 []) rfl (fun a h => pt_row (m := 0) (by decide) rfl a h) ?_
 refine l_mv rfl rfl rfl (m_append_w 0 tf66 tf68 (v := .slice (some ⟨b38, 0, none⟩) 0 0) (m := 0) (vs := []) (ao := pr) (k := i.recs.length) (c := cr) (news := us) rfl rfl rfl (by rw [Nat.mul_one]; exact hul) (kB hus) hu1 hpr (by unfold maxLen; omega) (by omega)) ?_
 rintro _ _ ⟨rp39, rc40, rfl, rfl⟩
 refine l_mv rfl rfl rfl (m_slice0 tf12) ?_
 rintro _ _ ⟨b41, rfl, rfl⟩
 refine lv e_move ?_
 refine l_conseq 0 (r' := row (.slice (some ⟨b41, 0, none⟩) 0 0) 5 1 0 (BX [])) rfl (fun a h => pt_row (m := 0) (by decide) rfl a h) ?_
 refine l_mv rfl rfl rfl (m_appendE (enc := fun c : UInt8 => Bx c) 0 bx_cell tf12 tf15 (v := .slice (some ⟨b41, 0, none⟩) 0 0) (xs := []) (ys := bs) (ao := va) (c := vc) rfl rfl (by first | rfl | simp) rfl (by first | rfl | simp) (Knows.of_base (Elems.mono _ _ _) ve) (by first | omega | (simp only [List.length_append, List.length_nil, List.length_cons, be_length] at *; omega)) (by first | omega | (simp only [List.length_append, List.length_nil, List.length_cons, be_length] at *; omega))) ?_
 rintro _ _ ⟨rp42, rc43, rfl, rfl⟩
 refine l_mv rfl rfl rfl (m_slices tf66 tf67 (cells := #[sB rp42 ([] ++ bs) rc43]) rfl rfl rfl rfl) ?_
 rintro _ _ ⟨b44, rfl, rfl⟩
 refine l_mv rfl rfl rfl (m_append_w 2 tf66 tf68 (v := .slice rp39 (0 + i.recs.length) rc40) (m := 0 + i.recs.length) (vs := [] ++ us) (ao := some ⟨b44, 0, none⟩) (k := 1) (c := 1) (news := [sB rp42 ([] ++ bs) rc43]) rfl rfl rfl rfl (k_pt 0 rfl rfl) rfl (fun _ => rfl) (by unfold maxLen; omega) (by omega)) ?_
 rintro _ _ ⟨rp45, rc46, rfl, rfl⟩
 refine lv (e_fieldPt rfl tf159) ?_
 refine lv (e_fieldPt rfl tf150) ?_
 refine lu (m_store 4 tf65 (cs' := #[sB (sla (prt 0 (fa36 39))) ((wrS k i.epoch i.size (formB ((i.epoch : Nat) : Int) ((i.next : Nat) : Int) bs)).head) (slc (prt 0 (fa36 39))), sB (sla (prt 1 (prt 0 (fa36 55)))) ((wrS k i.epoch i.size (formB ((i.epoch : Nat) : Int) ((i.next : Nat) : Int) bs)).a) (slc (prt 1 (prt 0 (fa36 55)))), sB (sla (prt 2 (prt 0 (fa36 55)))) ((wrS k i.epoch i.size (formB ((i.epoch : Nat) : Int) ((i.next : Nat) : Int) bs)).b) (slc (prt 2 (prt 0 (fa36 55)))), Ix ((wrS k i.epoch i.size (formB ((i.epoch : Nat) : Int) ((i.next : Nat) : Int) bs)).power), Nx (i.epoch), Nx (i.next), sB ps i.state cs, .slice rp45 ((0 + i.recs.length) + 1) rc46, Nx (i.size), .bool false]) rfl rfl rfl rfl rfl rfl rfl) ?_
 refine lnc ?_
 refine lv (e_fieldPt rfl tf159) ?_
 refine lv (e_fieldPt rfl tf149) ?_
 refine lv (v := Nx (i.size)) (e_load1 tf25 rfl (k_pt 4 rfl rfl)) ?_
 refine lv (v := Nx (i.size + 24)) (e_add (a := ((i.size : Nat) : Int)) (b := (24 : Int)) rfl rfl (i64n (by omega) (by omega))) ?_
 refine lv e_move ?_
 refine lv (v := Nx (bs.length)) (e_len (a := va) (n := bs.length) (c := vc) rfl tf11) ?_
 refine lv (v := Nx ((i.size + 24) + bs.length)) (e_add (a := ((i.size + 24 : Nat) : Int)) (b := ((bs.length : Nat) : Int)) rfl rfl (i64n (by omega) (by omega))) ?_
 refine lv (e_fieldPt rfl tf159) ?_
 refine lv (e_fieldPt rfl tf149) ?_
 refine lu (m_store 4 tf25 (cs' := #[sB (sla (prt 0 (fa36 39))) ((wrS k i.epoch i.size (formB ((i.epoch : Nat) : Int) ((i.next : Nat) : Int) bs)).head) (slc (prt 0 (fa36 39))), sB (sla (prt 1 (prt 0 (fa36 55)))) ((wrS k i.epoch i.size (formB ((i.epoch : Nat) : Int) ((i.next : Nat) : Int) bs)).a) (slc (prt 1 (prt 0 (fa36 55)))), sB (sla (prt 2 (prt 0 (fa36 55)))) ((wrS k i.epoch i.size (formB ((i.epoch : Nat) : Int) ((i.next : Nat) : Int) bs)).b) (slc (prt 2 (prt 0 (fa36 55)))), Ix ((wrS k i.epoch i.size (formB ((i.epoch : Nat) : Int) ((i.next : Nat) : Int) bs)).power), Nx (i.epoch), Nx (i.next), sB ps i.state cs, .slice rp45 ((0 + i.recs.length) + 1) rc46, Nx ((i.size + 24) + bs.length), .bool false]) rfl rfl rfl rfl rfl rfl rfl) ?_
 refine lnc ?_
 refine lv (e_fieldPt rfl tf159) ?_
 refine lv (e_fieldPt rfl tf147) ?_
 refine lv (v := Nx (i.next)) (e_load1 tf25 rfl (k_pt 4 rfl rfl)) ?_
 refine lv (v := Nx (i.next + 1)) (e_add (a := ((i.next : Nat) : Int)) (b := (1 : Int)) rfl rfl (i64n (by omega) (by omega))) ?_
 refine lv (e_fieldPt rfl tf159) ?_
 refine lv (e_fieldPt rfl tf147) ?_
 refine lu (m_store 4 tf25 (cs' := #[sB (sla (prt 0 (fa36 39))) ((wrS k i.epoch i.size (formB ((i.epoch : Nat) : Int) ((i.next : Nat) : Int) bs)).head) (slc (prt 0 (fa36 39))), sB (sla (prt 1 (prt 0 (fa36 55)))) ((wrS k i.epoch i.size (formB ((i.epoch : Nat) : Int) ((i.next : Nat) : Int) bs)).a) (slc (prt 1 (prt 0 (fa36 55)))), sB (sla (prt 2 (prt 0 (fa36 55)))) ((wrS k i.epoch i.size (formB ((i.epoch : Nat) : Int) ((i.next : Nat) : Int) bs)).b) (slc (prt 2 (prt 0 (fa36 55)))), Ix ((wrS k i.epoch i.size (formB ((i.epoch : Nat) : Int) ((i.next : Nat) : Int) bs)).power), Nx (i.epoch), Nx (i.next + 1), sB ps i.state cs, .slice rp45 ((0 + i.recs.length) + 1) rc46, Nx ((i.size + 24) + bs.length), .bool false]) rfl rfl rfl rfl rfl rfl rfl) ?_
 refine lnc ?_
 refine lv (v := .agg #[sB (sla (prt 0 (fa36 39))) ((wrS k i.epoch i.size (formB ((i.epoch : Nat) : Int) ((i.next : Nat) : Int) bs)).head) (slc (prt 0 (fa36 39))), sB (sla (prt 1 (prt 0 (fa36 55)))) ((wrS k i.epoch i.size (formB ((i.epoch : Nat) : Int) ((i.next : Nat) : Int) bs)).a) (slc (prt 1 (prt 0 (fa36 55)))), sB (sla (prt 2 (prt 0 (fa36 55)))) ((wrS k i.epoch i.size (formB ((i.epoch : Nat) : Int) ((i.next : Nat) : Int) bs)).b) (slc (prt 2 (prt 0 (fa36 55)))), Ix ((wrS k i.epoch i.size (formB ((i.epoch : Nat) : Int) ((i.next : Nat) : Int) bs)).power), Nx (i.epoch), Nx (i.next + 1), sB ps i.state cs, .slice rp45 ((0 + i.recs.length) + 1) rc46, Nx ((i.size + 24) + bs.length), .bool false]) (e_load tf154 rfl (k_pt 4 rfl rfl) rfl) ?_
 refine lv e_move ?_
 refine lu (m_store 3 tf154 (cs' := #[sB (sla (prt 0 (fa36 39))) ((wrS k i.epoch i.size (formB ((i.epoch : Nat) : Int) ((i.next : Nat) : Int) bs)).head) (slc (prt 0 (fa36 39))), sB (sla (prt 1 (prt 0 (fa36 55)))) ((wrS k i.epoch i.size (formB ((i.epoch : Nat) : Int) ((i.next : Nat) : Int) bs)).a) (slc (prt 1 (prt 0 (fa36 55)))), sB (sla (prt 2 (prt 0 (fa36 55)))) ((wrS k i.epoch i.size (formB ((i.epoch : Nat) : Int) ((i.next : Nat) : Int) bs)).b) (slc (prt 2 (prt 0 (fa36 55)))), Ix ((wrS k i.epoch i.size (formB ((i.epoch : Nat) : Int) ((i.next : Nat) : Int) bs)).power), Nx (i.epoch), Nx (i.next + 1), sB ps i.state cs, .slice rp45 ((0 + i.recs.length) + 1) rc46, Nx ((i.size + 24) + bs.length), .bool false]) rfl rfl rfl rfl rfl rfl rfl) ?_
 refine lv e_assign ?_
 refine lv e_assign ?_
 refine lnf ?_
 refine c_ret ?_
 refine retG (m := [.agg #[sB (sla (prt 0 (fa36 39))) ((wrS k i.epoch i.size (formB ((i.epoch : Nat) : Int) ((i.next : Nat) : Int) bs)).head) (slc (prt 0 (fa36 39))), sB (sla (prt 1 (prt 0 (fa36 55)))) ((wrS k i.epoch i.size (formB ((i.epoch : Nat) : Int) ((i.next : Nat) : Int) bs)).a) (slc (prt 1 (prt 0 (fa36 55)))), sB (sla (prt 2 (prt 0 (fa36 55)))) ((wrS k i.epoch i.size (formB ((i.epoch : Nat) : Int) ((i.next : Nat) : Int) bs)).b) (slc (prt 2 (prt 0 (fa36 55)))), Ix ((wrS k i.epoch i.size (formB ((i.epoch : Nat) : Int) ((i.next : Nat) : Int) bs)).power), Nx (i.epoch), Nx (i.next + 1), sB ps i.state cs, .slice rp45 ((0 + i.recs.length) + 1) rc46, Nx ((i.size + 24) + bs.length), .bool false], Nx (i.next), .int .i64 (0)]) Try.results24 ⟨rd_cell tf154 rfl (k_pt 3 rfl rfl) rfl, rd_tmp (v := Nx (i.next)) rfl, rd_tmp (v := .int .i64 (0)) rfl, trivial⟩ rfl ?_
 intro w hw
 have hw2 := st_mask [true, true, true, true, true, false, false, false, false, false] rfl (hw.perm (L' := [rB (sla (prt 0 (fa36 39))) ((wrS k i.epoch i.size (formB ((i.epoch : Nat) : Int) ((i.next : Nat) : Int) bs)).head) (slc (prt 0 (fa36 39))), rB (sla (prt 1 (prt 0 (fa36 55)))) ((wrS k i.epoch i.size (formB ((i.epoch : Nat) : Int) ((i.next : Nat) : Int) bs)).a) (slc (prt 1 (prt 0 (fa36 55)))), rB (sla (prt 2 (prt 0 (fa36 55)))) ((wrS k i.epoch i.size (formB ((i.epoch : Nat) : Int) ((i.next : Nat) : Int) bs)).b) (slc (prt 2 (prt 0 (fa36 55)))), row (.slice rp45 ((0 + i.recs.length) + 1) rc46) 30 1 ((0 + i.recs.length) + 1) ([] ++ us ++ [sB rp42 ([] ++ bs) rc43]), rB rp42 ([] ++ bs) rc43, pt b44 (.cells #[sB rp42 ([] ++ bs) rc43] 30), pt b2 (.cells #[sB (sla (prt 0 (fa36 39))) ((wrS k i.epoch i.size (formB ((i.epoch : Nat) : Int) ((i.next : Nat) : Int) bs)).head) (slc (prt 0 (fa36 39))), sB (sla (prt 1 (prt 0 (fa36 55)))) ((wrS k i.epoch i.size (formB ((i.epoch : Nat) : Int) ((i.next : Nat) : Int) bs)).a) (slc (prt 1 (prt 0 (fa36 55)))), sB (sla (prt 2 (prt 0 (fa36 55)))) ((wrS k i.epoch i.size (formB ((i.epoch : Nat) : Int) ((i.next : Nat) : Int) bs)).b) (slc (prt 2 (prt 0 (fa36 55)))), Ix ((wrS k i.epoch i.size (formB ((i.epoch : Nat) : Int) ((i.next : Nat) : Int) bs)).power), Nx (i.epoch), Nx (i.next + 1), sB ps i.state cs, .slice rp45 ((0 + i.recs.length) + 1) rc46, Nx ((i.size + 24) + bs.length), .bool false] 56), pt b1 (.cells #[sB (sla (prt 0 (fa36 39))) ((wrS k i.epoch i.size (formB ((i.epoch : Nat) : Int) ((i.next : Nat) : Int) bs)).head) (slc (prt 0 (fa36 39))), sB (sla (prt 1 (prt 0 (fa36 55)))) ((wrS k i.epoch i.size (formB ((i.epoch : Nat) : Int) ((i.next : Nat) : Int) bs)).a) (slc (prt 1 (prt 0 (fa36 55)))), sB (sla (prt 2 (prt 0 (fa36 55)))) ((wrS k i.epoch i.size (formB ((i.epoch : Nat) : Int) ((i.next : Nat) : Int) bs)).b) (slc (prt 2 (prt 0 (fa36 55)))), Ix ((wrS k i.epoch i.size (formB ((i.epoch : Nat) : Int) ((i.next : Nat) : Int) bs)).power), Nx (i.epoch), Nx (i.next + 1), sB ps i.state cs, .slice rp45 ((0 + i.recs.length) + 1) rc46, Nx ((i.size + 24) + bs.length), .bool false] 56), rB (sla (fa36 54)) (formB ((i.epoch : Nat) : Int) ((i.next : Nat) : Int) bs) (slc (fa36 54)), pt (blk (fa36 7)) (.cells #[sB (sla (prt 0 (fa36 39))) ((wrS k i.epoch i.size (formB ((i.epoch : Nat) : Int) ((i.next : Nat) : Int) bs)).head) (slc (prt 0 (fa36 39))), sB (sla (prt 1 (prt 0 (fa36 55)))) ((wrS k i.epoch i.size (formB ((i.epoch : Nat) : Int) ((i.next : Nat) : Int) bs)).a) (slc (prt 1 (prt 0 (fa36 55)))), sB (sla (prt 2 (prt 0 (fa36 55)))) ((wrS k i.epoch i.size (formB ((i.epoch : Nat) : Int) ((i.next : Nat) : Int) bs)).b) (slc (prt 2 (prt 0 (fa36 55)))), Ix ((wrS k i.epoch i.size (formB ((i.epoch : Nat) : Int) ((i.next : Nat) : Int) bs)).power)] 32)]) (by exact (perm_ix [6, 7, 8, 2, 1, 0, 3, 4, 5, 9] 10 rfl (by kernel_rfl) (by kernel_rfl))))
 simp only [sB, rB, Nat.zero_add, List.nil_append] at hw2 ⊢
 exact .inr ⟨Decidable.not_not.1 hc37, _, _, _, _, _, _, _, _, _, _, by rw [show i.size + 24 + bs.length = i.size + (formB i.epoch i.next bs).length by omega], hw2⟩
theorem rapp_fail (β : Base) (w : World) (hw : St β [] w) (k : KS) (vh va vb : Value) (hH : Sl U8R β.heap vh k.head) (hA : Sl U8R β.heap va k.a) (hB : Sl U8R β.heap vb k.b) (i : KI) (ps pr : Option Addr) (cs cr : Nat) (us : List Value) (hul : us.length = i.recs.length) (hus : Cs β.heap (ba pr) us) (hu1 : us.all (·.oneCell') = true) (hpr : 0 < i.recs.length → pr = some (ba pr)) (bs : Bs) (v : Value) (hs : Sl U8R β.heap v bs) (hfit : k.fits 524288) (hB9 : i.epoch ≤ 4611686018427387904 ∧ i.next ≤ 4611686018427387904 ∧ i.size ≤ 1048576 ∧ i.recs.length ≤ 1048576) (hbl : bs.length ≤ 65536) (hroom : (k.area i.epoch).length + 24 + bs.length ≤ 262144) (hnx : i.next ≠ 4611686018427387904) (hok : ¬ wrOk k.power (formB i.epoch i.next bs)) : Calls Try.prog 24 #[.agg #[vh, va, vb, Ix k.power, Nx i.epoch, Nx i.next, sB ps i.state cs, sB pr i.recs cr, Nx i.size, .bool false], v] w fun r w' => ∃ pH pA pB cH cA cB, r = .returned (.tuple #[.agg #[sB pH ((wrS k i.epoch i.size (formB i.epoch i.next bs)).head) cH, sB pA ((wrS k i.epoch i.size (formB i.epoch i.next bs)).a) cA, sB pB ((wrS k i.epoch i.size (formB i.epoch i.next bs)).b) cB, Ix (wrS k i.epoch i.size (formB i.epoch i.next bs)).power, Nx i.epoch, Nx i.next, sB ps i.state cs, sB pr i.recs cr, Nx i.size, .bool true], .int .i64 0, .int .i64 310]) ∧ St β [rB pH ((wrS k i.epoch i.size (formB i.epoch i.next bs)).head) cH, rB pA ((wrS k i.epoch i.size (formB i.epoch i.next bs)).a) cA, rB pB ((wrS k i.epoch i.size (formB i.epoch i.next bs)).b) cB] w' := by
 exact (rapp_all β w hw k vh va vb hH hA hB i ps pr cs cr us hul hus hu1 hpr bs v hs hfit hB9 hbl hroom hnx).mono fun r w' h => h.elim (fun h => h.2) (fun h => absurd h.1 hok)
theorem rapp_ok (β : Base) (w : World) (hw : St β [] w) (k : KS) (vh va vb : Value) (hH : Sl U8R β.heap vh k.head) (hA : Sl U8R β.heap va k.a) (hB : Sl U8R β.heap vb k.b) (i : KI) (ps pr : Option Addr) (cs cr : Nat) (us : List Value) (hul : us.length = i.recs.length) (hus : Cs β.heap (ba pr) us) (hu1 : us.all (·.oneCell') = true) (hpr : 0 < i.recs.length → pr = some (ba pr)) (bs : Bs) (v : Value) (hs : Sl U8R β.heap v bs) (hfit : k.fits 524288) (hB9 : i.epoch ≤ 4611686018427387904 ∧ i.next ≤ 4611686018427387904 ∧ i.size ≤ 1048576 ∧ i.recs.length ≤ 1048576) (hbl : bs.length ≤ 65536) (hroom : (k.area i.epoch).length + 24 + bs.length ≤ 262144) (hnx : i.next ≠ 4611686018427387904) (hok : wrOk k.power (formB i.epoch i.next bs)) : Calls Try.prog 24 #[.agg #[vh, va, vb, Ix k.power, Nx i.epoch, Nx i.next, sB ps i.state cs, sB pr i.recs cr, Nx i.size, .bool false], v] w fun r w' => ∃ pH pA pB cH cA cB p c q cq, r = .returned (.tuple #[.agg #[sB pH ((wrS k i.epoch i.size (formB i.epoch i.next bs)).head) cH, sB pA ((wrS k i.epoch i.size (formB i.epoch i.next bs)).a) cA, sB pB ((wrS k i.epoch i.size (formB i.epoch i.next bs)).b) cB, Ix (wrS k i.epoch i.size (formB i.epoch i.next bs)).power, Nx i.epoch, Nx (i.next + 1), sB ps i.state cs, .slice p (i.recs.length + 1) c, Nx (i.size + (formB i.epoch i.next bs).length), .bool false], Nx i.next, .int .i64 0]) ∧ St β ([rB pH ((wrS k i.epoch i.size (formB i.epoch i.next bs)).head) cH, rB pA ((wrS k i.epoch i.size (formB i.epoch i.next bs)).a) cA, rB pB ((wrS k i.epoch i.size (formB i.epoch i.next bs)).b) cB] ++ [row (.slice p (i.recs.length + 1) c) 30 1 (i.recs.length + 1) (us ++ [sB q bs cq]), rB q bs cq]) w' := by
 exact (rapp_all β w hw k vh va vb hH hA hB i ps pr cs cr us hul hus hu1 hpr bs v hs hfit hB9 hbl hroom hnx).mono fun r w' h => h.elim (fun h => absurd hok h.1) (fun h => h.2)
theorem rckp_down (β : Base) (w : World) (hw : St β [] w) (k : KS) (vh va vb : Value) (hH : Sl U8R β.heap vh k.head) (hA : Sl U8R β.heap va k.a) (hB : Sl U8R β.heap vb k.b) (i : KI) (ps pr : Option Addr) (cs cr : Nat) (bs : Bs) (v : Value) (hs : Sl U8R β.heap v bs) (hbl : bs.length ≤ 65536) : Calls Try.prog 25 #[.agg #[vh, va, vb, Ix k.power, Nx i.epoch, Nx i.next, sB ps i.state cs, sB pr i.recs cr, Nx i.size, .bool true], v] w fun r w' => r = .returned (.tuple #[.agg #[vh, va, vb, Ix k.power, Nx i.epoch, Nx i.next, sB ps i.state cs, sB pr i.recs cr, Nx i.size, .bool true], .int .i64 310]) ∧ St β [] w' := by
 obtain ⟨vha, vhc, rfl, vhl, vhm, vhe⟩ := hH.get
 obtain ⟨vaa, vac, rfl, val, vam, vae⟩ := hA.get
 obtain ⟨vba, vbc, rfl, vbl, vbm, vbe⟩ := hB.get
 obtain ⟨va, vc, rfl, vl, vm, ve⟩ := hs.get
 refine enter (n := 85) Try.func25 rfl Try.ntmps25 rfl ?_ hw
 refine csr ?_
 refine l_mv rfl rfl rfl (m_box (v := .agg #[sB vha k.head (vhc), sB vaa k.a (vac), sB vba k.b (vbc), Ix (k.power), Nx (i.epoch), Nx (i.next), sB ps i.state cs, sB pr i.recs (cr), Nx (i.size), .bool true]) rfl) ?_
 rintro _ _ ⟨b1, rfl, rfl⟩
 refine l_mv rfl rfl rfl (m_alloc tf151) ?_
 rintro _ _ ⟨b2, rfl, rfl⟩
 refine lv e_assign ?_
 refine lnf ?_
 refine cs2 ?_
 refine c_region ?_
 refine lv e_move ?_
 refine lv (v := Nx (bs.length)) (e_len (a := va) (n := bs.length) (c := vc) rfl tf11) ?_
 refine lv (e_gtr (a := ((bs.length : Nat) : Int)) (b := (65536 : Int)) rfl rfl) ?_
 refine lnf ?_
 refine c_if ((65536 : Int) < ((bs.length : Nat) : Int)) rfl (fun hc3 => ?_) (fun hc3 => ?_)
 ·exact absurd hc3 (by omega)
 refine csk ?_
 refine cs2 ?_
 refine c_region ?_
 refine lv (e_fieldPt rfl tf157) ?_
 refine lv (v := .bool true) (e_load1 tf40 rfl (k_pt 1 rfl rfl)) ?_
 refine lnf ?_
 refine c_yes rfl ?_
 refine csr ?_
 refine lv (v := .agg #[sB vha k.head (vhc), sB vaa k.a (vac), sB vba k.b (vbc), Ix (k.power), Nx (i.epoch), Nx (i.next), sB ps i.state cs, sB pr i.recs (cr), Nx (i.size), .bool true]) (e_load tf154 rfl (k_pt 1 rfl rfl) rfl) ?_
 refine lu (m_store 0 tf154 (cs' := #[sB vha k.head (vhc), sB vaa k.a (vac), sB vba k.b (vbc), Ix (k.power), Nx (i.epoch), Nx (i.next), sB ps i.state cs, sB pr i.recs (cr), Nx (i.size), .bool true]) rfl rfl rfl rfl rfl rfl rfl) ?_
 refine lv e_assign ?_
 refine lnf ?_
 refine c_ret ?_
 refine f_then_ret ?_
 refine retG (m := [.agg #[sB vha k.head (vhc), sB vaa k.a (vac), sB vba k.b (vbc), Ix (k.power), Nx (i.epoch), Nx (i.next), sB ps i.state cs, sB pr i.recs (cr), Nx (i.size), .bool true], .int .i64 (310)]) Try.results25 ⟨rd_cell tf154 rfl (k_pt 0 rfl rfl) rfl, rd_tmp (v := .int .i64 (310)) rfl, trivial⟩ rfl ?_
 intro w hw
 exact ⟨rfl, st_mask [false, false] rfl hw⟩
set_option maxHeartbeats 4000000 in
theorem rckp_all (β : Base) (w : World) (hw : St β [] w) (k : KS) (vh va vb : Value) (hH : Sl U8R β.heap vh k.head) (hA : Sl U8R β.heap va k.a) (hB : Sl U8R β.heap vb k.b) (i : KI) (ps pr : Option Addr) (cs cr : Nat) (bs : Bs) (v : Value) (hs : Sl U8R β.heap v bs) (hfit : k.fits 524288) (hB9 : i.epoch ≤ 4611686018427387904 ∧ i.next ≤ 4611686018427387904 ∧ i.size ≤ 1048576 ∧ i.recs.length ≤ 1048576) (hbl : bs.length ≤ 65536) (hne : i.epoch ≠ 4611686018427387903) : Calls Try.prog 25 #[.agg #[vh, va, vb, Ix k.power, Nx i.epoch, Nx i.next, sB ps i.state cs, sB pr i.recs cr, Nx i.size, .bool false], v] w fun r w' => (¬ ckOk k (i.epoch + 1) i.next bs ∧ ∃ pH pA pB cH cA cB, r = .returned (.tuple #[.agg #[sB pH ((ckS k (i.epoch + 1) i.next bs).head) cH, sB pA ((ckS k (i.epoch + 1) i.next bs).a) cA, sB pB ((ckS k (i.epoch + 1) i.next bs).b) cB, Ix (ckS k (i.epoch + 1) i.next bs).power, Nx i.epoch, Nx i.next, sB ps i.state cs, sB pr i.recs cr, Nx i.size, .bool true], .int .i64 310]) ∧ St β [rB pH ((ckS k (i.epoch + 1) i.next bs).head) cH, rB pA ((ckS k (i.epoch + 1) i.next bs).a) cA, rB pB ((ckS k (i.epoch + 1) i.next bs).b) cB] w') ∨ (ckOk k (i.epoch + 1) i.next bs ∧ ∃ pH pA pB cH cA cB q cq, r = .returned (.tuple #[.agg #[sB pH ((ckS k (i.epoch + 1) i.next bs).head) cH, sB pA ((ckS k (i.epoch + 1) i.next bs).a) cA, sB pB ((ckS k (i.epoch + 1) i.next bs).b) cB, Ix (ckS k (i.epoch + 1) i.next bs).power, Nx (i.epoch + 1), Nx i.next, sB q bs cq, .slice none 0 0, Nx (24 + bs.length), .bool false], .int .i64 0]) ∧ St β ([rB pH ((ckS k (i.epoch + 1) i.next bs).head) cH, rB pA ((ckS k (i.epoch + 1) i.next bs).a) cA, rB pB ((ckS k (i.epoch + 1) i.next bs).b) cB] ++ [rB q bs cq]) w') := by
 obtain ⟨vha, vhc, rfl, vhl, vhm, vhe⟩ := hH.get
 obtain ⟨vaa, vac, rfl, val, vam, vae⟩ := hA.get
 obtain ⟨vba, vbc, rfl, vbl, vbm, vbe⟩ := hB.get
 obtain ⟨va, vc, rfl, vl, vm, ve⟩ := hs.get
 refine enter (n := 85) Try.func25 rfl Try.ntmps25 rfl ?_ hw
 refine csr ?_
 refine l_mv rfl rfl rfl (m_box (v := .agg #[sB vha k.head (vhc), sB vaa k.a (vac), sB vba k.b (vbc), Ix (k.power), Nx (i.epoch), Nx (i.next), sB ps i.state cs, sB pr i.recs (cr), Nx (i.size), .bool false]) rfl) ?_
 rintro _ _ ⟨b1, rfl, rfl⟩
 refine l_mv rfl rfl rfl (m_alloc tf151) ?_
 rintro _ _ ⟨b2, rfl, rfl⟩
 refine lv e_assign ?_
 refine lnf ?_
 refine cs2 ?_
 refine c_region ?_
 refine lv e_move ?_
 refine lv (v := Nx (bs.length)) (e_len (a := va) (n := bs.length) (c := vc) rfl tf11) ?_
 refine lv (e_gtr (a := ((bs.length : Nat) : Int)) (b := (65536 : Int)) rfl rfl) ?_
 refine lnf ?_
 refine c_if ((65536 : Int) < ((bs.length : Nat) : Int)) rfl (fun hc3 => ?_) (fun hc3 => ?_)
 ·exact absurd hc3 (by omega)
 refine csk ?_
 refine cs2 ?_
 refine c_region ?_
 refine lv (e_fieldPt rfl tf157) ?_
 refine lv (v := .bool false) (e_load1 tf40 rfl (k_pt 1 rfl rfl)) ?_
 refine lnf ?_
 refine c_no rfl ?_
 refine csk ?_
 refine cs2 ?_
 refine c_region ?_
 refine lv (e_fieldPt rfl tf159) ?_
 refine lv (e_fieldPt rfl tf144) ?_
 refine lv (v := Nx (i.epoch)) (e_load1 tf25 rfl (k_pt 1 rfl rfl)) ?_
 refine lv (e_eql (a := ((i.epoch : Nat) : Int)) (b := (4611686018427387903 : Int)) rfl rfl) ?_
 refine lnf ?_
 refine c_if (((i.epoch : Nat) : Int) = (4611686018427387903 : Int)) rfl (fun hc4 => ?_) (fun hc4 => ?_)
 ·exact absurd hc4 (by omega)
 refine csk ?_
 refine c_seq ?_
 have hl1 : k.head.length ≤ 1048576 := hfit.1
 have hl2 : k.a.length ≤ 1048576 := by have := hfit.2.1; omega
 have hl3 : k.b.length ≤ 1048576 := by have := hfit.2.2.1; omega
 have hfl := formB_length ((i.epoch + 1 : Nat) : Int) i.next bs
 obtain ⟨hB1, hB2, hB3, hB4⟩ := hB9
 refine c_region ?_
 refine lv (e_fieldPt rfl tf159) ?_
 refine lv (e_fieldPt rfl tf144) ?_
 refine lv (v := Nx (i.epoch)) (e_load1 tf25 rfl (k_pt 1 rfl rfl)) ?_
 refine lv (v := Nx (i.epoch + 1)) (e_add (a := ((i.epoch : Nat) : Int)) (b := (1 : Int)) rfl rfl (i64n (by omega) (by omega))) ?_
 refine lv e_assign ?_
 refine lnc ?_
 refine lv (e_fieldPt rfl tf158) ?_
 refine lv (v := .agg #[sB vha k.head (vhc), sB vaa k.a (vac), sB vba k.b (vbc), Ix (k.power)]) (e_load tf56 rfl (k_pt 1 rfl rfl) rfl) ?_
 refine lcf (cl0 (vs := [.agg #[sB vha k.head (vhc), sB vaa k.a (vac), sB vba k.b (vbc), Ix (k.power)]]) tf155 rfl rfl) rfl fun w β1 sb kn hw1 back => (rcopied_ok β1 w hw1 k _ _ _ (Sl.mono _ _ _ _ _ sb (⟨⟨_, _, rfl, vhl, vhm, vhe⟩⟩ : Sl U8R _ _ k.head)) (Sl.mono _ _ _ _ _ sb (⟨⟨_, _, rfl, val, vam, vae⟩⟩ : Sl U8R _ _ k.a)) (Sl.mono _ _ _ _ _ sb (⟨⟨_, _, rfl, vbl, vbm, vbe⟩⟩ : Sl U8R _ _ k.b)) (by omega) (by omega) (by omega)).mono ?_
 rintro e w' ⟨pH5, pA6, pB7, cH8, cA9, cB10, rfl, hw'⟩
 refine ⟨_, rfl, _, back _ _ hw', ?_⟩
 clear hw1 hw' back kn sb
 refine lv e_move ?_
 refine lv (v := Nx ((i.epoch + 1) % 2)) (e_rem (a := ((i.epoch + 1 : Nat) : Int)) (b := (2 : Int)) rfl rfl (by decide) (nat_tmod _ 2)) ?_
 refine l_call rfl rfl rfl (cl0 (vs := [.agg #[sB pH5 k.head cH8, sB pA6 k.a cA9, sB pB7 k.b cB10, Ix (k.power)], Nx ((i.epoch + 1) % 2), .int .i64 (0)]) tf156 rfl rfl) ?_
 intro w hw
 replace hw := hw.perm (L' := _ :: _ :: _ :: _ :: _ :: []) (by exact (((((perm_front 4 rfl).trans (perm_front 4 rfl)).trans (perm_front 4 rfl)).trans (perm_front 4 rfl)).trans (perm_front 4 rfl)))
 obtain ⟨β1, sb, kn, hw1, back⟩ := St.frame (L := [_, _, _]) (M := _ :: _ :: []) hw
 refine (rcutX_ok β1 w pH5 pA6 pB7 cH8 cA9 cB10 k (i.epoch + 1) 0 (Nat.zero_le _) hfit.2.2.2 hw1).mono ?_
 rintro e w' ⟨rfl, hw'⟩
 refine ⟨_, rfl, _, back _ _ hw', ?_⟩
 clear hw hw1 hw' back kn sb
 refine lv e_move ?_
 refine lv (v := .agg #[sB pH5 ((cutS k (i.epoch + 1) 0).head) cH8, sB pA6 ((cutS k (i.epoch + 1) 0).a) cA9, sB pB7 ((cutS k (i.epoch + 1) 0).b) cB10, Ix ((cutS k (i.epoch + 1) 0).power)]) (e_extract (vs := #[.agg #[sB pH5 ((cutS k (i.epoch + 1) 0).head) cH8, sB pA6 ((cutS k (i.epoch + 1) 0).a) cA9, sB pB7 ((cutS k (i.epoch + 1) 0).b) cB10, Ix ((cutS k (i.epoch + 1) 0).power)], .bool (decide (¬ cutOk (k.area (i.epoch + 1)) k.power 0))]) rfl rfl) ?_
 refine lv (v := .bool (decide (¬ cutOk (k.area (i.epoch + 1)) k.power 0))) (e_extract (vs := #[.agg #[sB pH5 ((cutS k (i.epoch + 1) 0).head) cH8, sB pA6 ((cutS k (i.epoch + 1) 0).a) cA9, sB pB7 ((cutS k (i.epoch + 1) 0).b) cB10, Ix ((cutS k (i.epoch + 1) 0).power)], .bool (decide (¬ cutOk (k.area (i.epoch + 1)) k.power 0))]) rfl rfl) ?_
 refine l_mv rfl rfl rfl (m_alloc tf106) ?_
 rintro _ _ ⟨b11, rfl, rfl⟩
 refine lu (m_store 0 tf56 (cs' := #[sB pH5 ((cutS k (i.epoch + 1) 0).head) cH8, sB pA6 ((cutS k (i.epoch + 1) 0).a) cA9, sB pB7 ((cutS k (i.epoch + 1) 0).b) cB10, Ix ((cutS k (i.epoch + 1) 0).power)]) rfl rfl rfl rfl rfl rfl rfl) ?_
 refine lv e_assign ?_
 refine lnf ?_
 refine cs2 ?_
 obtain ⟨K1, hK1⟩ : ∃ z, z = cutS k (i.epoch + 1) 0 := ⟨_, rfl⟩
 refine c_re (L' := [pt b11 (.cells #[sB pH5 K1.head cH8, sB pA6 K1.a cA9, sB pB7 K1.b cB10, Ix (K1.power)] 32), rB pH5 K1.head cH8, rB pA6 K1.a cA9, rB pB7 K1.b cB10, pt b2 (.cells #[.slice none 0 0, .slice none 0 0, .slice none 0 0, .int .i64 (0), .int .i64 (0), .int .i64 (0), .slice none 0 0, .slice none 0 0, .int .i64 (0), .bool false] 56), pt b1 (.cells #[sB vha k.head (vhc), sB vaa k.a (vac), sB vba k.b (vbc), Ix (k.power), Nx (i.epoch), Nx (i.next), sB ps i.state cs, sB pr i.recs (cr), Nx (i.size), .bool false] 56)]) (by show [pt b11 (.cells #[sB pH5 ((cutS k (i.epoch + 1) 0).head) cH8, sB pA6 ((cutS k (i.epoch + 1) 0).a) cA9, sB pB7 ((cutS k (i.epoch + 1) 0).b) cB10, Ix ((cutS k (i.epoch + 1) 0).power)] 32), rB pH5 ((cutS k (i.epoch + 1) 0).head) cH8, rB pA6 ((cutS k (i.epoch + 1) 0).a) cA9, rB pB7 ((cutS k (i.epoch + 1) 0).b) cB10, pt b2 (.cells #[.slice none 0 0, .slice none 0 0, .slice none 0 0, .int .i64 (0), .int .i64 (0), .int .i64 (0), .slice none 0 0, .slice none 0 0, .int .i64 (0), .bool false] 56), pt b1 (.cells #[sB vha k.head (vhc), sB vaa k.a (vac), sB vba k.b (vbc), Ix (k.power), Nx (i.epoch), Nx (i.next), sB ps i.state cs, sB pr i.recs (cr), Nx (i.size), .bool false] 56)] = _; rw [hK1]) ?_
 have hf1 : K1.fits 524288 := by rw [hK1]; exact hfit.cut
 refine c_region ?_
 refine lv e_move ?_
 refine lv (v := .bool (decide (¬ (¬ cutOk (k.area (i.epoch + 1)) k.power 0)))) (e_not_p (p := ¬ cutOk (k.area (i.epoch + 1)) k.power 0) rfl) ?_
 refine lnf ?_
 refine c_if (¬ (¬ cutOk (k.area (i.epoch + 1)) k.power 0)) rfl (fun hc12 => ?_) (fun hc12 => ?_)
 ·refine c_any [⟨[], [], [0], [37], fun f => f 37 = .agg #[sB pH5 K1.head cH8, sB pA6 K1.a cA9, sB pB7 K1.b cB10, Ix (K1.power)]⟩, ⟨[], [], [1], [38], fun f => f 38 = Nx (i.epoch + 1)⟩, ⟨[1], [1], [], [39], fun f => f 39 = Nx ((i.epoch + 1) % 2)⟩, ⟨[], [], [1], [40], fun f => f 40 = Nx (i.epoch + 1)⟩, ⟨[], [], [2], [41], fun f => f 41 = pp b1 4⟩, ⟨[4], [4], [], [42], fun f => f 42 = pp b1 5⟩, ⟨[4, 5], [5], [], [43], fun f => f 43 = Nx (i.next)⟩, ⟨[], [], [3], [44], fun f => f 44 = sB va bs (vc)⟩, ⟨[3, 4, 5, 6, 7], [3, 6, 7], [], [45], fun f => f 45 = sB (sla (f 45)) (formB ((i.epoch + 1 : Nat) : Int) ((i.next : Nat) : Int) bs) (slc (f 45))⟩, ⟨(List.range 9), [0, 2, 8], [], [46], fun f => f 46 = .tuple #[.agg #[sB pH5 ((wrS K1 (i.epoch + 1) 0 (formB ((i.epoch + 1 : Nat) : Int) ((i.next : Nat) : Int) bs)).head) cH8, sB (sla (prt 1 (prt 0 (f 46)))) ((wrS K1 (i.epoch + 1) 0 (formB ((i.epoch + 1 : Nat) : Int) ((i.next : Nat) : Int) bs)).a) (slc (prt 1 (prt 0 (f 46)))), sB (sla (prt 2 (prt 0 (f 46)))) ((wrS K1 (i.epoch + 1) 0 (formB ((i.epoch + 1 : Nat) : Int) ((i.next : Nat) : Int) bs)).b) (slc (prt 2 (prt 0 (f 46)))), Ix ((wrS K1 (i.epoch + 1) 0 (formB ((i.epoch + 1 : Nat) : Int) ((i.next : Nat) : Int) bs)).power)], .bool (decide (¬ wrOk K1.power (formB ((i.epoch + 1 : Nat) : Int) ((i.next : Nat) : Int) bs)))]⟩, ⟨(List.range 10), [9], [], [36, 46], fun f => f 36 = .tuple #[.agg #[sB pH5 ((wrS K1 (i.epoch + 1) 0 (formB ((i.epoch + 1 : Nat) : Int) ((i.next : Nat) : Int) bs)).head) cH8, sB (sla (prt 1 (prt 0 (f 46)))) ((wrS K1 (i.epoch + 1) 0 (formB ((i.epoch + 1 : Nat) : Int) ((i.next : Nat) : Int) bs)).a) (slc (prt 1 (prt 0 (f 46)))), sB (sla (prt 2 (prt 0 (f 46)))) ((wrS K1 (i.epoch + 1) 0 (formB ((i.epoch + 1 : Nat) : Int) ((i.next : Nat) : Int) bs)).b) (slc (prt 2 (prt 0 (f 46)))), Ix ((wrS K1 (i.epoch + 1) 0 (formB ((i.epoch + 1 : Nat) : Int) ((i.next : Nat) : Int) bs)).power)], .bool (decide (¬ wrOk K1.power (formB ((i.epoch + 1 : Nat) : Int) ((i.next : Nat) : Int) bs)))]⟩, ⟨(List.range 11), [10], [], [46, 47], fun f => f 47 = .agg #[sB pH5 ((wrS K1 (i.epoch + 1) 0 (formB ((i.epoch + 1 : Nat) : Int) ((i.next : Nat) : Int) bs)).head) cH8, sB (sla (prt 1 (prt 0 (f 46)))) ((wrS K1 (i.epoch + 1) 0 (formB ((i.epoch + 1 : Nat) : Int) ((i.next : Nat) : Int) bs)).a) (slc (prt 1 (prt 0 (f 46)))), sB (sla (prt 2 (prt 0 (f 46)))) ((wrS K1 (i.epoch + 1) 0 (formB ((i.epoch + 1 : Nat) : Int) ((i.next : Nat) : Int) bs)).b) (slc (prt 2 (prt 0 (f 46)))), Ix ((wrS K1 (i.epoch + 1) 0 (formB ((i.epoch + 1 : Nat) : Int) ((i.next : Nat) : Int) bs)).power)]⟩, ⟨(List.range 11), [10], [], [48], fun f => f 48 = .bool (decide (¬ wrOk K1.power (formB ((i.epoch + 1 : Nat) : Int) ((i.next : Nat) : Int) bs)))⟩, ⟨(List.range 12), [11], [0], [], fun _ => True⟩, ⟨(List.range 14), [12], [], [8], fun f => f 8 = .bool (decide (¬ wrOk K1.power (formB ((i.epoch + 1 : Nat) : Int) ((i.next : Nat) : Int) bs)))⟩] [⟨none, (some 13), [0, 13], [], fun _ => pt b11 (.cells #[sB pH5 K1.head cH8, sB pA6 K1.a cA9, sB pB7 K1.b cB10, Ix (K1.power)] 32)⟩, ⟨none, (some 9), [9], [], fun _ => rB pH5 K1.head cH8⟩, ⟨none, (some 9), [9], [], fun _ => rB pA6 K1.a cA9⟩, ⟨none, (some 9), [9], [], fun _ => rB pB7 K1.b cB10⟩, ⟨none, none, [], [], fun _ => pt b2 (.cells #[.slice none 0 0, .slice none 0 0, .slice none 0 0, .int .i64 (0), .int .i64 (0), .int .i64 (0), .slice none 0 0, .slice none 0 0, .int .i64 (0), .bool false] 56)⟩, ⟨none, none, [6], [], fun _ => pt b1 (.cells #[sB vha k.head (vhc), sB vaa k.a (vac), sB vba k.b (vbc), Ix (k.power), Nx (i.epoch), Nx (i.next), sB ps i.state cs, sB pr i.recs (cr), Nx (i.size), .bool false] 56)⟩, ⟨(some 8), none, [9], [45], fun f => rB (sla (f 45)) (formB ((i.epoch + 1 : Nat) : Int) ((i.next : Nat) : Int) bs) (slc (f 45))⟩, ⟨(some 9), none, [], [], fun _ => rB pH5 ((wrS K1 (i.epoch + 1) 0 (formB ((i.epoch + 1 : Nat) : Int) ((i.next : Nat) : Int) bs)).head) cH8⟩, ⟨(some 9), none, [], [46], fun f => rB (sla (prt 1 (prt 0 (f 46)))) ((wrS K1 (i.epoch + 1) 0 (formB ((i.epoch + 1 : Nat) : Int) ((i.next : Nat) : Int) bs)).a) (slc (prt 1 (prt 0 (f 46))))⟩, ⟨(some 9), none, [], [46], fun f => rB (sla (prt 2 (prt 0 (f 46)))) ((wrS K1 (i.epoch + 1) 0 (formB ((i.epoch + 1 : Nat) : Int) ((i.next : Nat) : Int) bs)).b) (slc (prt 2 (prt 0 (f 46))))⟩, ⟨(some 13), none, [], [46], fun f => pt b11 (.cells #[sB pH5 ((wrS K1 (i.epoch + 1) 0 (formB ((i.epoch + 1 : Nat) : Int) ((i.next : Nat) : Int) bs)).head) cH8, sB (sla (prt 1 (prt 0 (f 46)))) ((wrS K1 (i.epoch + 1) 0 (formB ((i.epoch + 1 : Nat) : Int) ((i.next : Nat) : Int) bs)).a) (slc (prt 1 (prt 0 (f 46)))), sB (sla (prt 2 (prt 0 (f 46)))) ((wrS K1 (i.epoch + 1) 0 (formB ((i.epoch + 1 : Nat) : Int) ((i.next : Nat) : Int) bs)).b) (slc (prt 2 (prt 0 (f 46)))), Ix ((wrS K1 (i.epoch + 1) 0 (formB ((i.epoch + 1 : Nat) : Int) ((i.next : Nat) : Int) bs)).power)] 32)⟩] [(7, pp b11 0), (6, Nx (i.epoch + 1)), (2, pp b1 0), (1, sB va bs (vc)), (4, pp b2 0)] [3, 2, 4, 1, 0] [] (by kernel_rfl) (by kernel_rfl) (by kernel_rfl) (by kernel_rfl) rfl ⟨rfl, rfl, rfl, rfl, rfl, trivial⟩ ⟨?_, ?_, ?_, ?_, ?_, ?_, ?_, ?_, ?_, ?_, ?_, ?_, ?_, ?_, ?_, trivial⟩ ?_
  ·rintro f M - ⟨i0, -⟩
   exact obv (L' := pt b11 (.cells #[sB pH5 K1.head cH8, sB pA6 K1.a cA9, sB pB7 K1.b cB10, Ix (K1.power)] 32) :: M) (up_cons (d := 7) rfl i0) rfl (e_load tf56 rfl (k_pt 0 rfl rfl) rfl) (perm_front 0 rfl) (by rfl)
  ·rintro f M - ⟨i0, -⟩
   exact ob0 (up_cons (d := 6) rfl i0) rfl e_move (.refl _)
  ·rintro f M ⟨k0, -⟩ -
   exact ob0 (up_cons (d := 38) rfl k0) rfl (e_rem (a := ((i.epoch + 1 : Nat) : Int)) (b := (2 : Int)) rfl rfl (by decide) (nat_tmod _ 2)) (.refl _)
  ·rintro f M - ⟨i0, -⟩
   exact ob0 (up_cons (d := 6) rfl i0) rfl e_move (.refl _)
  ·rintro f M - ⟨i0, -⟩
   exact ob0 (up_cons (d := 2) rfl i0) rfl (e_fieldPt rfl tf159) (.refl _)
  ·rintro f M ⟨k0, -⟩ -
   exact ob0 (up_cons (d := 41) rfl k0) rfl (e_fieldPt rfl tf147) (.refl _)
  ·rintro f M ⟨k0, -⟩ -
   exact obv (L' := pt b1 (.cells #[sB vha k.head (vhc), sB vaa k.a (vac), sB vba k.b (vbc), Ix (k.power), Nx (i.epoch), Nx (i.next), sB ps i.state cs, sB pr i.recs (cr), Nx (i.size), .bool false] 56) :: M) (up_cons (d := 42) rfl k0) rfl (e_load1 tf25 rfl (k_pt 0 rfl rfl)) (perm_front 0 rfl) (by rfl)
  ·rintro f M - ⟨i0, -⟩
   exact ob0 (up_cons (d := 1) rfl i0) rfl e_move (.refl _)
  ·rintro f M ⟨k0, k1, k2, -⟩ -
   refine ob_start (L' := M) (by rfl) (up_cons (d := 44) (up_cons (d := 43) (up_cons (d := 40) rfl k0) k1) k2) ?_
   refine lcf (cl0 (vs := [Nx (i.epoch + 1), Nx (i.next), sB va bs (vc)]) tf138 rfl rfl) rfl fun w β1 sb kn hw1 back => (rform_ok β1 w hw1 ((i.epoch + 1 : Nat) : Int) ((i.next : Nat) : Int) bs _ (by omega) (Sl.mono _ _ _ _ _ sb (⟨⟨_, _, rfl, vl, vm, ve⟩⟩ : Sl U8R _ _ bs))).mono ?_
   rintro e w' ⟨p15, c16, rfl, hw'⟩
   refine ⟨_, rfl, _, back _ _ hw', ?_⟩
   clear hw1 hw' back kn sb
   refine l_nil ?_
   exact f_owes_d (up_cons (d := 44) (up_cons (d := 43) (up_cons (d := 40) rfl k0) k1) k2) rfl (perm_front 0 rfl)
  ·rintro f M ⟨k0, k1, k2, -⟩ -
   have hs45 : f 45 = sB (sla (f 45)) (formB ((i.epoch + 1 : Nat) : Int) ((i.next : Nat) : Int) bs) (slc (f 45)) := k2
   refine ob_start (L' := rB pH5 K1.head cH8 :: rB pA6 K1.a cA9 :: rB pB7 K1.b cB10 :: rB (sla (f 45)) (formB ((i.epoch + 1 : Nat) : Int) ((i.next : Nat) : Int) bs) (slc (f 45)) :: M) (by rfl) (up_cons (up_cons (d := 39) (up_cons (d := 37) rfl k0) k1) hs45) ?_
   refine l_call rfl rfl rfl (cl0 (vs := [.agg #[sB pH5 K1.head cH8, sB pA6 K1.a cA9, sB pB7 K1.b cB10, Ix (K1.power)], Nx ((i.epoch + 1) % 2), .int .i64 (0), sB (sla (f 45)) (formB ((i.epoch + 1 : Nat) : Int) ((i.next : Nat) : Int) bs) (slc (f 45))]) tf160 rfl rfl) ?_
   intro w hw
   replace hw := hw.perm (L' := _ :: _ :: _ :: _ :: M) (by exact ((((perm_front 3 rfl).trans (perm_front 3 rfl)).trans (perm_front 3 rfl)).trans (perm_front 3 rfl)))
   obtain ⟨β1, sb, kn, hw1, back⟩ := St.frame (L := [_, _, _]) (M := _ :: M) hw
   refine (rwriteX_ok β1 w pH5 pA6 pB7 cH8 cA9 cB10 K1 (fit_of hf1 (by omega)) (i.epoch + 1) 0 (by omega) (formB ((i.epoch + 1 : Nat) : Int) ((i.next : Nat) : Int) bs) _ (by first | omega | (simp only [List.length_append, be_length]; omega)) (kU kn 0 rfl) hw1).mono ?_
   rintro e w' ⟨pA21, pB22, cA23, cB24, rfl, hw'⟩
   refine ⟨_, rfl, _, back _ _ hw', ?_⟩
   clear hw hw1 hw' back kn sb
   refine l_nil ?_
   exact f_owes_d (up_cons (up_cons (d := 39) (up_cons (d := 37) rfl k0) k1) hs45) rfl ((((perm_front 2 rfl).trans (perm_front 2 rfl)).trans (perm_front 2 rfl)).trans (perm_front 3 rfl))
  ·rintro f M ⟨k0, -⟩ -
   have hs46 : f 46 = .tuple #[.agg #[sB pH5 ((wrS K1 (i.epoch + 1) 0 (formB ((i.epoch + 1 : Nat) : Int) ((i.next : Nat) : Int) bs)).head) cH8, sB (sla (prt 1 (prt 0 (f 46)))) ((wrS K1 (i.epoch + 1) 0 (formB ((i.epoch + 1 : Nat) : Int) ((i.next : Nat) : Int) bs)).a) (slc (prt 1 (prt 0 (f 46)))), sB (sla (prt 2 (prt 0 (f 46)))) ((wrS K1 (i.epoch + 1) 0 (formB ((i.epoch + 1 : Nat) : Int) ((i.next : Nat) : Int) bs)).b) (slc (prt 2 (prt 0 (f 46)))), Ix ((wrS K1 (i.epoch + 1) 0 (formB ((i.epoch + 1 : Nat) : Int) ((i.next : Nat) : Int) bs)).power)], .bool (decide (¬ wrOk K1.power (formB ((i.epoch + 1 : Nat) : Int) ((i.next : Nat) : Int) bs)))] := k0
   exact ob0 (up_cons rfl hs46) rfl e_move (.refl _)
  ·rintro f M ⟨k0, -⟩ -
   have hs36 : f 36 = .tuple #[.agg #[sB pH5 ((wrS K1 (i.epoch + 1) 0 (formB ((i.epoch + 1 : Nat) : Int) ((i.next : Nat) : Int) bs)).head) cH8, sB (sla (prt 1 (prt 0 (f 46)))) ((wrS K1 (i.epoch + 1) 0 (formB ((i.epoch + 1 : Nat) : Int) ((i.next : Nat) : Int) bs)).a) (slc (prt 1 (prt 0 (f 46)))), sB (sla (prt 2 (prt 0 (f 46)))) ((wrS K1 (i.epoch + 1) 0 (formB ((i.epoch + 1 : Nat) : Int) ((i.next : Nat) : Int) bs)).b) (slc (prt 2 (prt 0 (f 46)))), Ix ((wrS K1 (i.epoch + 1) 0 (formB ((i.epoch + 1 : Nat) : Int) ((i.next : Nat) : Int) bs)).power)], .bool (decide (¬ wrOk K1.power (formB ((i.epoch + 1 : Nat) : Int) ((i.next : Nat) : Int) bs)))] := k0
   exact ob0 (up_cons rfl hs36) rfl (e_extract (vs := #[.agg #[sB pH5 ((wrS K1 (i.epoch + 1) 0 (formB ((i.epoch + 1 : Nat) : Int) ((i.next : Nat) : Int) bs)).head) cH8, sB (sla (prt 1 (prt 0 (f 46)))) ((wrS K1 (i.epoch + 1) 0 (formB ((i.epoch + 1 : Nat) : Int) ((i.next : Nat) : Int) bs)).a) (slc (prt 1 (prt 0 (f 46)))), sB (sla (prt 2 (prt 0 (f 46)))) ((wrS K1 (i.epoch + 1) 0 (formB ((i.epoch + 1 : Nat) : Int) ((i.next : Nat) : Int) bs)).b) (slc (prt 2 (prt 0 (f 46)))), Ix ((wrS K1 (i.epoch + 1) 0 (formB ((i.epoch + 1 : Nat) : Int) ((i.next : Nat) : Int) bs)).power)], .bool (decide (¬ wrOk K1.power (formB ((i.epoch + 1 : Nat) : Int) ((i.next : Nat) : Int) bs)))]) rfl rfl) (.refl _)
  ·rintro f M ⟨k0, -⟩ -
   have hs36 : f 36 = .tuple #[.agg #[sB pH5 ((wrS K1 (i.epoch + 1) 0 (formB ((i.epoch + 1 : Nat) : Int) ((i.next : Nat) : Int) bs)).head) cH8, sB (sla (prt 1 (prt 0 (f 46)))) ((wrS K1 (i.epoch + 1) 0 (formB ((i.epoch + 1 : Nat) : Int) ((i.next : Nat) : Int) bs)).a) (slc (prt 1 (prt 0 (f 46)))), sB (sla (prt 2 (prt 0 (f 46)))) ((wrS K1 (i.epoch + 1) 0 (formB ((i.epoch + 1 : Nat) : Int) ((i.next : Nat) : Int) bs)).b) (slc (prt 2 (prt 0 (f 46)))), Ix ((wrS K1 (i.epoch + 1) 0 (formB ((i.epoch + 1 : Nat) : Int) ((i.next : Nat) : Int) bs)).power)], .bool (decide (¬ wrOk K1.power (formB ((i.epoch + 1 : Nat) : Int) ((i.next : Nat) : Int) bs)))] := k0
   exact ob0 (up_cons rfl hs36) rfl (e_extract (vs := #[.agg #[sB pH5 ((wrS K1 (i.epoch + 1) 0 (formB ((i.epoch + 1 : Nat) : Int) ((i.next : Nat) : Int) bs)).head) cH8, sB (sla (prt 1 (prt 0 (f 46)))) ((wrS K1 (i.epoch + 1) 0 (formB ((i.epoch + 1 : Nat) : Int) ((i.next : Nat) : Int) bs)).a) (slc (prt 1 (prt 0 (f 46)))), sB (sla (prt 2 (prt 0 (f 46)))) ((wrS K1 (i.epoch + 1) 0 (formB ((i.epoch + 1 : Nat) : Int) ((i.next : Nat) : Int) bs)).b) (slc (prt 2 (prt 0 (f 46)))), Ix ((wrS K1 (i.epoch + 1) 0 (formB ((i.epoch + 1 : Nat) : Int) ((i.next : Nat) : Int) bs)).power)], .bool (decide (¬ wrOk K1.power (formB ((i.epoch + 1 : Nat) : Int) ((i.next : Nat) : Int) bs)))]) rfl rfl) (.refl _)
  ·rintro f M ⟨k0, -⟩ ⟨i0, -⟩
   have hs47 : f 47 = .agg #[sB pH5 ((wrS K1 (i.epoch + 1) 0 (formB ((i.epoch + 1 : Nat) : Int) ((i.next : Nat) : Int) bs)).head) cH8, sB (sla (prt 1 (prt 0 (f 46)))) ((wrS K1 (i.epoch + 1) 0 (formB ((i.epoch + 1 : Nat) : Int) ((i.next : Nat) : Int) bs)).a) (slc (prt 1 (prt 0 (f 46)))), sB (sla (prt 2 (prt 0 (f 46)))) ((wrS K1 (i.epoch + 1) 0 (formB ((i.epoch + 1 : Nat) : Int) ((i.next : Nat) : Int) bs)).b) (slc (prt 2 (prt 0 (f 46)))), Ix ((wrS K1 (i.epoch + 1) 0 (formB ((i.epoch + 1 : Nat) : Int) ((i.next : Nat) : Int) bs)).power)] := k0
   refine ob_start (L' := pt b11 (.cells #[sB pH5 K1.head cH8, sB pA6 K1.a cA9, sB pB7 K1.b cB10, Ix (K1.power)] 32) :: M) (by rfl) (up_cons (up_cons (d := 7) rfl i0) hs47) ?_
   refine lu (m_store 0 tf56 (cs' := #[sB pH5 ((wrS K1 (i.epoch + 1) 0 (formB ((i.epoch + 1 : Nat) : Int) ((i.next : Nat) : Int) bs)).head) cH8, sB (sla (prt 1 (prt 0 (f 46)))) ((wrS K1 (i.epoch + 1) 0 (formB ((i.epoch + 1 : Nat) : Int) ((i.next : Nat) : Int) bs)).a) (slc (prt 1 (prt 0 (f 46)))), sB (sla (prt 2 (prt 0 (f 46)))) ((wrS K1 (i.epoch + 1) 0 (formB ((i.epoch + 1 : Nat) : Int) ((i.next : Nat) : Int) bs)).b) (slc (prt 2 (prt 0 (f 46)))), Ix ((wrS K1 (i.epoch + 1) 0 (formB ((i.epoch + 1 : Nat) : Int) ((i.next : Nat) : Int) bs)).power)]) rfl rfl rfl rfl rfl rfl rfl) ?_
   refine l_nil ?_
   exact f_owes_n (up_cons (up_cons (d := 7) rfl i0) hs47) trivial (perm_front 0 rfl)
  ·rintro f M ⟨k0, -⟩ -
   exact ob0 (up_cons (d := 48) rfl k0) rfl e_assign (.refl _)
  rintro fa25 ⟨-, -, -, -, -, -, -, -, -, -, -, -, -, -, k14, -⟩ ⟨j0, j1, j2, j3, j4, -⟩
  refine f_re (L' := [pt b2 (.cells #[.slice none 0 0, .slice none 0 0, .slice none 0 0, .int .i64 (0), .int .i64 (0), .int .i64 (0), .slice none 0 0, .slice none 0 0, .int .i64 (0), .bool false] 56), pt b1 (.cells #[sB vha k.head (vhc), sB vaa k.a (vac), sB vba k.b (vbc), Ix (k.power), Nx (i.epoch), Nx (i.next), sB ps i.state cs, sB pr i.recs (cr), Nx (i.size), .bool false] 56), rB (sla (fa25 45)) (formB ((i.epoch + 1 : Nat) : Int) ((i.next : Nat) : Int) bs) (slc (fa25 45)), rB pH5 ((wrS K1 (i.epoch + 1) 0 (formB ((i.epoch + 1 : Nat) : Int) ((i.next : Nat) : Int) bs)).head) cH8, rB (sla (prt 1 (prt 0 (fa25 46)))) ((wrS K1 (i.epoch + 1) 0 (formB ((i.epoch + 1 : Nat) : Int) ((i.next : Nat) : Int) bs)).a) (slc (prt 1 (prt 0 (fa25 46)))), rB (sla (prt 2 (prt 0 (fa25 46)))) ((wrS K1 (i.epoch + 1) 0 (formB ((i.epoch + 1 : Nat) : Int) ((i.next : Nat) : Int) bs)).b) (slc (prt 2 (prt 0 (fa25 46)))), pt b11 (.cells #[sB pH5 ((wrS K1 (i.epoch + 1) 0 (formB ((i.epoch + 1 : Nat) : Int) ((i.next : Nat) : Int) bs)).head) cH8, sB (sla (prt 1 (prt 0 (fa25 46)))) ((wrS K1 (i.epoch + 1) 0 (formB ((i.epoch + 1 : Nat) : Int) ((i.next : Nat) : Int) bs)).a) (slc (prt 1 (prt 0 (fa25 46)))), sB (sla (prt 2 (prt 0 (fa25 46)))) ((wrS K1 (i.epoch + 1) 0 (formB ((i.epoch + 1 : Nat) : Int) ((i.next : Nat) : Int) bs)).b) (slc (prt 2 (prt 0 (fa25 46)))), Ix ((wrS K1 (i.epoch + 1) 0 (formB ((i.epoch + 1 : Nat) : Int) ((i.next : Nat) : Int) bs)).power)] 32)]) (by rfl) ?_
  refine f_rebase (d := 1) j0 ?_
  refine f_rebase (d := 2) j1 ?_
  refine f_rebase (d := 4) j2 ?_
  refine f_rebase (d := 6) j3 ?_
  refine f_rebase (d := 7) j4 ?_
  refine f_rebase (d := 8) k14 ?_
  refine fts ?_
  refine c_seq ?_
  obtain ⟨K2, hK2⟩ : ∃ z, z = (wrS K1 (i.epoch + 1) 0 (formB ((i.epoch + 1 : Nat) : Int) ((i.next : Nat) : Int) bs)) := ⟨_, rfl⟩
  refine c_re (L' := [pt b2 (.cells #[.slice none 0 0, .slice none 0 0, .slice none 0 0, .int .i64 (0), .int .i64 (0), .int .i64 (0), .slice none 0 0, .slice none 0 0, .int .i64 (0), .bool false] 56), pt b1 (.cells #[sB vha k.head (vhc), sB vaa k.a (vac), sB vba k.b (vbc), Ix (k.power), Nx (i.epoch), Nx (i.next), sB ps i.state cs, sB pr i.recs (cr), Nx (i.size), .bool false] 56), rB (sla (fa25 45)) (formB ((i.epoch + 1 : Nat) : Int) ((i.next : Nat) : Int) bs) (slc (fa25 45)), rB pH5 K2.head cH8, rB (sla (prt 1 (prt 0 (fa25 46)))) K2.a (slc (prt 1 (prt 0 (fa25 46)))), rB (sla (prt 2 (prt 0 (fa25 46)))) K2.b (slc (prt 2 (prt 0 (fa25 46)))), pt b11 (.cells #[sB pH5 K2.head cH8, sB (sla (prt 1 (prt 0 (fa25 46)))) K2.a (slc (prt 1 (prt 0 (fa25 46)))), sB (sla (prt 2 (prt 0 (fa25 46)))) K2.b (slc (prt 2 (prt 0 (fa25 46)))), Ix (K2.power)] 32)]) (by show [pt b2 (.cells #[.slice none 0 0, .slice none 0 0, .slice none 0 0, .int .i64 (0), .int .i64 (0), .int .i64 (0), .slice none 0 0, .slice none 0 0, .int .i64 (0), .bool false] 56), pt b1 (.cells #[sB vha k.head (vhc), sB vaa k.a (vac), sB vba k.b (vbc), Ix (k.power), Nx (i.epoch), Nx (i.next), sB ps i.state cs, sB pr i.recs (cr), Nx (i.size), .bool false] 56), rB (sla (fa25 45)) (formB ((i.epoch + 1 : Nat) : Int) ((i.next : Nat) : Int) bs) (slc (fa25 45)), rB pH5 ((wrS K1 (i.epoch + 1) 0 (formB ((i.epoch + 1 : Nat) : Int) ((i.next : Nat) : Int) bs)).head) cH8, rB (sla (prt 1 (prt 0 (fa25 46)))) ((wrS K1 (i.epoch + 1) 0 (formB ((i.epoch + 1 : Nat) : Int) ((i.next : Nat) : Int) bs)).a) (slc (prt 1 (prt 0 (fa25 46)))), rB (sla (prt 2 (prt 0 (fa25 46)))) ((wrS K1 (i.epoch + 1) 0 (formB ((i.epoch + 1 : Nat) : Int) ((i.next : Nat) : Int) bs)).b) (slc (prt 2 (prt 0 (fa25 46)))), pt b11 (.cells #[sB pH5 ((wrS K1 (i.epoch + 1) 0 (formB ((i.epoch + 1 : Nat) : Int) ((i.next : Nat) : Int) bs)).head) cH8, sB (sla (prt 1 (prt 0 (fa25 46)))) ((wrS K1 (i.epoch + 1) 0 (formB ((i.epoch + 1 : Nat) : Int) ((i.next : Nat) : Int) bs)).a) (slc (prt 1 (prt 0 (fa25 46)))), sB (sla (prt 2 (prt 0 (fa25 46)))) ((wrS K1 (i.epoch + 1) 0 (formB ((i.epoch + 1 : Nat) : Int) ((i.next : Nat) : Int) bs)).b) (slc (prt 2 (prt 0 (fa25 46)))), Ix ((wrS K1 (i.epoch + 1) 0 (formB ((i.epoch + 1 : Nat) : Int) ((i.next : Nat) : Int) bs)).power)] 32)] = _; rw [hK2]) ?_
  have hf2 : K2.fits (524288 + (formB ((i.epoch + 1 : Nat) : Int) i.next bs).length) := by rw [hK2]; exact hf1.wr
  have e2 : ck2 k (i.epoch + 1) i.next bs = K2 := by rw [hK2, hK1]; rfl
  refine c_region ?_
  refine lv e_move ?_
  refine lv (v := .bool (decide (¬ (¬ wrOk K1.power (formB ((i.epoch + 1 : Nat) : Int) ((i.next : Nat) : Int) bs))))) (e_not_p (p := ¬ wrOk K1.power (formB ((i.epoch + 1 : Nat) : Int) ((i.next : Nat) : Int) bs)) rfl) ?_
  refine lnf ?_
  refine c_if (¬ (¬ wrOk K1.power (formB ((i.epoch + 1 : Nat) : Int) ((i.next : Nat) : Int) bs))) rfl (fun hc26 => ?_) (fun hc26 => ?_)
  ·obtain ⟨K3, hK3⟩ : ∃ z, z = ck3 k (i.epoch + 1) i.next bs := ⟨_, rfl⟩
   refine c_seq_cut (fun (f : Fm) (L : List Res) => ∃ pH3 cH3, (f 1 = sB va bs (vc) ∧ f 2 = pp b1 0 ∧ f 4 = pp b2 0 ∧ f 6 = Nx (i.epoch + 1) ∧ f 7 = pp b11 0) ∧ L = [pt b2 (.cells #[.slice none 0 0, .slice none 0 0, .slice none 0 0, .int .i64 (0), .int .i64 (0), .int .i64 (0), .slice none 0 0, .slice none 0 0, .int .i64 (0), .bool false] 56), pt b1 (.cells #[sB vha k.head (vhc), sB vaa k.a (vac), sB vba k.b (vbc), Ix (k.power), Nx (i.epoch), Nx (i.next), sB ps i.state cs, sB pr i.recs (cr), Nx (i.size), .bool false] 56), rB (sla (fa25 45)) (formB ((i.epoch + 1 : Nat) : Int) ((i.next : Nat) : Int) bs) (slc (fa25 45)), rB pH3 K3.head cH3, rB (sla (prt 1 (prt 0 (fa25 46)))) K3.a (slc (prt 1 (prt 0 (fa25 46)))), rB (sla (prt 2 (prt 0 (fa25 46)))) K3.b (slc (prt 2 (prt 0 (fa25 46)))), pt b11 (.cells #[sB pH3 K3.head cH3, sB (sla (prt 1 (prt 0 (fa25 46)))) K3.a (slc (prt 1 (prt 0 (fa25 46)))), sB (sla (prt 2 (prt 0 (fa25 46)))) K3.b (slc (prt 2 (prt 0 (fa25 46)))), Ix (K3.power)] 32)]) ?_ ?_
   ·refine csr ?_
    refine lv (e_fieldPt rfl tf20) ?_
    refine lv (v := sB pH5 K2.head cH8) (e_load1 tf21 rfl (k_pt 6 rfl rfl)) ?_
    refine lv (v := Nx ((K2.head).length)) (e_len (a := pH5) (n := (K2.head).length) (c := cH8) rfl tf11) ?_
    refine lv (e_eql (a := (((K2.head).length : Nat) : Int)) (b := (0 : Int)) rfl rfl) ?_
    refine lnf ?_
    refine c_if ((((K2.head).length : Nat) : Int) = (0 : Int)) rfl (fun hc27 => ?_) (fun hc27 => ?_)
    ·refine c_region ?_
     refine l_mv rfl rfl rfl (m_makeB (c := 32) tf12 tf15 tf14 rfl rfl (by omega) (by omega)) ?_
     rintro _ _ ⟨b28, rfl, rfl⟩
     refine lv (e_fieldPt rfl tf20) ?_
     refine lu (m_store 7 tf21 (cs' := #[sB (some ⟨b28, 0, none⟩) (List.replicate 32 (0 : UInt8)) 32, sB (sla (prt 1 (prt 0 (fa25 46)))) K2.a (slc (prt 1 (prt 0 (fa25 46)))), sB (sla (prt 2 (prt 0 (fa25 46)))) K2.b (slc (prt 2 (prt 0 (fa25 46)))), Ix (K2.power)]) rfl rfl rfl rfl rfl rfl rfl) ?_
     refine l_nil ?_
     refine f_pi [1, 2, 3, 0, 5, 6, 7, 4] 8 rfl (by kernel_rfl) ?_
     refine f_mask [true, true, true, true, true, true, true, false] rfl ?_
     have e3 : ({ K2 with head := List.replicate 32 (0 : UInt8) } : KS) = K3 := by rw [hK3]; unfold ck3; simp only; rw [e2, if_pos (show K2.head.length = 0 by omega)]
     refine f_re (L' := [pt b2 (.cells #[.slice none 0 0, .slice none 0 0, .slice none 0 0, .int .i64 (0), .int .i64 (0), .int .i64 (0), .slice none 0 0, .slice none 0 0, .int .i64 (0), .bool false] 56), pt b1 (.cells #[sB vha k.head (vhc), sB vaa k.a (vac), sB vba k.b (vbc), Ix (k.power), Nx (i.epoch), Nx (i.next), sB ps i.state cs, sB pr i.recs (cr), Nx (i.size), .bool false] 56), rB (sla (fa25 45)) (formB ((i.epoch + 1 : Nat) : Int) ((i.next : Nat) : Int) bs) (slc (fa25 45)), rB (some ⟨b28, 0, none⟩) K3.head 32, rB (sla (prt 1 (prt 0 (fa25 46)))) K3.a (slc (prt 1 (prt 0 (fa25 46)))), rB (sla (prt 2 (prt 0 (fa25 46)))) K3.b (slc (prt 2 (prt 0 (fa25 46)))), pt b11 (.cells #[sB (some ⟨b28, 0, none⟩) K3.head 32, sB (sla (prt 1 (prt 0 (fa25 46)))) K3.a (slc (prt 1 (prt 0 (fa25 46)))), sB (sla (prt 2 (prt 0 (fa25 46)))) K3.b (slc (prt 2 (prt 0 (fa25 46)))), Ix (K3.power)] 32)]) (by show [pt b2 (.cells #[.slice none 0 0, .slice none 0 0, .slice none 0 0, .int .i64 (0), .int .i64 (0), .int .i64 (0), .slice none 0 0, .slice none 0 0, .int .i64 (0), .bool false] 56), pt b1 (.cells #[sB vha k.head (vhc), sB vaa k.a (vac), sB vba k.b (vbc), Ix (k.power), Nx (i.epoch), Nx (i.next), sB ps i.state cs, sB pr i.recs (cr), Nx (i.size), .bool false] 56), rB (sla (fa25 45)) (formB ((i.epoch + 1 : Nat) : Int) ((i.next : Nat) : Int) bs) (slc (fa25 45)), rB (some ⟨b28, 0, none⟩) (List.replicate 32 (0 : UInt8)) 32, rB (sla (prt 1 (prt 0 (fa25 46)))) K2.a (slc (prt 1 (prt 0 (fa25 46)))), rB (sla (prt 2 (prt 0 (fa25 46)))) K2.b (slc (prt 2 (prt 0 (fa25 46)))), pt b11 (.cells #[sB (some ⟨b28, 0, none⟩) (List.replicate 32 (0 : UInt8)) 32, sB (sla (prt 1 (prt 0 (fa25 46)))) K2.a (slc (prt 1 (prt 0 (fa25 46)))), sB (sla (prt 2 (prt 0 (fa25 46)))) K2.b (slc (prt 2 (prt 0 (fa25 46)))), Ix (K2.power)] 32)] = _; rw [← e3]) ?_
     exact f_cut ⟨_, _, ⟨rfl, rfl, rfl, rfl, rfl⟩, rfl⟩
    refine c_skip ?_
    have e3 : K2 = K3 := by rw [hK3]; unfold ck3; simp only; rw [e2, if_neg (show ¬ K2.head.length = 0 by omega)]
    refine f_re (L' := [pt b2 (.cells #[.slice none 0 0, .slice none 0 0, .slice none 0 0, .int .i64 (0), .int .i64 (0), .int .i64 (0), .slice none 0 0, .slice none 0 0, .int .i64 (0), .bool false] 56), pt b1 (.cells #[sB vha k.head (vhc), sB vaa k.a (vac), sB vba k.b (vbc), Ix (k.power), Nx (i.epoch), Nx (i.next), sB ps i.state cs, sB pr i.recs (cr), Nx (i.size), .bool false] 56), rB (sla (fa25 45)) (formB ((i.epoch + 1 : Nat) : Int) ((i.next : Nat) : Int) bs) (slc (fa25 45)), rB pH5 K3.head cH8, rB (sla (prt 1 (prt 0 (fa25 46)))) K3.a (slc (prt 1 (prt 0 (fa25 46)))), rB (sla (prt 2 (prt 0 (fa25 46)))) K3.b (slc (prt 2 (prt 0 (fa25 46)))), pt b11 (.cells #[sB pH5 K3.head cH8, sB (sla (prt 1 (prt 0 (fa25 46)))) K3.a (slc (prt 1 (prt 0 (fa25 46)))), sB (sla (prt 2 (prt 0 (fa25 46)))) K3.b (slc (prt 2 (prt 0 (fa25 46)))), Ix (K3.power)] 32)]) (by show [pt b2 (.cells #[.slice none 0 0, .slice none 0 0, .slice none 0 0, .int .i64 (0), .int .i64 (0), .int .i64 (0), .slice none 0 0, .slice none 0 0, .int .i64 (0), .bool false] 56), pt b1 (.cells #[sB vha k.head (vhc), sB vaa k.a (vac), sB vba k.b (vbc), Ix (k.power), Nx (i.epoch), Nx (i.next), sB ps i.state cs, sB pr i.recs (cr), Nx (i.size), .bool false] 56), rB (sla (fa25 45)) (formB ((i.epoch + 1 : Nat) : Int) ((i.next : Nat) : Int) bs) (slc (fa25 45)), rB pH5 K2.head cH8, rB (sla (prt 1 (prt 0 (fa25 46)))) K2.a (slc (prt 1 (prt 0 (fa25 46)))), rB (sla (prt 2 (prt 0 (fa25 46)))) K2.b (slc (prt 2 (prt 0 (fa25 46)))), pt b11 (.cells #[sB pH5 K2.head cH8, sB (sla (prt 1 (prt 0 (fa25 46)))) K2.a (slc (prt 1 (prt 0 (fa25 46)))), sB (sla (prt 2 (prt 0 (fa25 46)))) K2.b (slc (prt 2 (prt 0 (fa25 46)))), Ix (K2.power)] 32)] = _; rw [← e3]) ?_
    exact f_cut ⟨_, _, ⟨rfl, rfl, rfl, rfl, rfl⟩, rfl⟩
   rintro f0 L0 ⟨pH3, cH3, ⟨hs1, hs2, hs4, hs6, hs7⟩, hL⟩
   subst L0
   refine rebase (d := 1) hs1 ?_
   refine rebase (d := 2) hs2 ?_
   refine rebase (d := 4) hs4 ?_
   refine rebase (d := 6) hs6 ?_
   refine rebase (d := 7) hs7 ?_
   have hf3 : K3.fits (524288 + (formB ((i.epoch + 1 : Nat) : Int) i.next bs).length) := by rw [hK3]; unfold ck3; simp only; rw [e2]; split; exact fits_head hf2 (by simp); exact hf2
   refine c_any [⟨[], [], [0], [58], fun f => f 58 = .agg #[sB pH3 K3.head cH3, sB (sla (prt 1 (prt 0 (fa25 46)))) K3.a (slc (prt 1 (prt 0 (fa25 46)))), sB (sla (prt 2 (prt 0 (fa25 46)))) K3.b (slc (prt 2 (prt 0 (fa25 46)))), Ix (K3.power)]⟩, ⟨[], [], [1], [59], fun f => f 59 = Nx (i.epoch + 1)⟩, ⟨[1], [1], [], [60], fun f => f 60 = Nx ((i.epoch + 1) % 2)⟩, ⟨[1, 2], [2], [], [61], fun f => f 61 = Nx (((i.epoch + 1) % 2) * 16)⟩, ⟨[], [], [1], [62], fun f => f 62 = Nx (i.epoch + 1)⟩, ⟨[4], [4], [], [63], fun f => f 63 = sB (sla (f 63)) (be 8 (U ((i.epoch + 1 : Nat) : Int)) ++ be 8 (tickU ((i.epoch + 1 : Nat) : Int))) (slc (f 63))⟩, ⟨(List.range 6), [0, 3, 5], [], [64], fun f => f 64 = .tuple #[.agg #[sB (sla (prt 0 (prt 0 (f 64)))) ((wrH K3 (((i.epoch + 1) % 2) * 16) (be 8 (U ((i.epoch + 1 : Nat) : Int)) ++ be 8 (tickU ((i.epoch + 1 : Nat) : Int)))).head) (slc (prt 0 (prt 0 (f 64)))), sB (sla (prt 1 (prt 0 (fa25 46)))) ((wrH K3 (((i.epoch + 1) % 2) * 16) (be 8 (U ((i.epoch + 1 : Nat) : Int)) ++ be 8 (tickU ((i.epoch + 1 : Nat) : Int)))).a) (slc (prt 1 (prt 0 (fa25 46)))), sB (sla (prt 2 (prt 0 (fa25 46)))) ((wrH K3 (((i.epoch + 1) % 2) * 16) (be 8 (U ((i.epoch + 1 : Nat) : Int)) ++ be 8 (tickU ((i.epoch + 1 : Nat) : Int)))).b) (slc (prt 2 (prt 0 (fa25 46)))), Ix ((wrH K3 (((i.epoch + 1) % 2) * 16) (be 8 (U ((i.epoch + 1 : Nat) : Int)) ++ be 8 (tickU ((i.epoch + 1 : Nat) : Int)))).power)], .bool (decide (¬ wrOk K3.power (be 8 (U ((i.epoch + 1 : Nat) : Int)) ++ be 8 (tickU ((i.epoch + 1 : Nat) : Int)))))]⟩, ⟨(List.range 7), [6], [], [57, 64], fun f => f 57 = .tuple #[.agg #[sB (sla (prt 0 (prt 0 (f 64)))) ((wrH K3 (((i.epoch + 1) % 2) * 16) (be 8 (U ((i.epoch + 1 : Nat) : Int)) ++ be 8 (tickU ((i.epoch + 1 : Nat) : Int)))).head) (slc (prt 0 (prt 0 (f 64)))), sB (sla (prt 1 (prt 0 (fa25 46)))) ((wrH K3 (((i.epoch + 1) % 2) * 16) (be 8 (U ((i.epoch + 1 : Nat) : Int)) ++ be 8 (tickU ((i.epoch + 1 : Nat) : Int)))).a) (slc (prt 1 (prt 0 (fa25 46)))), sB (sla (prt 2 (prt 0 (fa25 46)))) ((wrH K3 (((i.epoch + 1) % 2) * 16) (be 8 (U ((i.epoch + 1 : Nat) : Int)) ++ be 8 (tickU ((i.epoch + 1 : Nat) : Int)))).b) (slc (prt 2 (prt 0 (fa25 46)))), Ix ((wrH K3 (((i.epoch + 1) % 2) * 16) (be 8 (U ((i.epoch + 1 : Nat) : Int)) ++ be 8 (tickU ((i.epoch + 1 : Nat) : Int)))).power)], .bool (decide (¬ wrOk K3.power (be 8 (U ((i.epoch + 1 : Nat) : Int)) ++ be 8 (tickU ((i.epoch + 1 : Nat) : Int)))))]⟩, ⟨(List.range 8), [7], [], [64, 65], fun f => f 65 = .agg #[sB (sla (prt 0 (prt 0 (f 64)))) ((wrH K3 (((i.epoch + 1) % 2) * 16) (be 8 (U ((i.epoch + 1 : Nat) : Int)) ++ be 8 (tickU ((i.epoch + 1 : Nat) : Int)))).head) (slc (prt 0 (prt 0 (f 64)))), sB (sla (prt 1 (prt 0 (fa25 46)))) ((wrH K3 (((i.epoch + 1) % 2) * 16) (be 8 (U ((i.epoch + 1 : Nat) : Int)) ++ be 8 (tickU ((i.epoch + 1 : Nat) : Int)))).a) (slc (prt 1 (prt 0 (fa25 46)))), sB (sla (prt 2 (prt 0 (fa25 46)))) ((wrH K3 (((i.epoch + 1) % 2) * 16) (be 8 (U ((i.epoch + 1 : Nat) : Int)) ++ be 8 (tickU ((i.epoch + 1 : Nat) : Int)))).b) (slc (prt 2 (prt 0 (fa25 46)))), Ix ((wrH K3 (((i.epoch + 1) % 2) * 16) (be 8 (U ((i.epoch + 1 : Nat) : Int)) ++ be 8 (tickU ((i.epoch + 1 : Nat) : Int)))).power)]⟩, ⟨(List.range 8), [7], [], [66], fun f => f 66 = .bool (decide (¬ wrOk K3.power (be 8 (U ((i.epoch + 1 : Nat) : Int)) ++ be 8 (tickU ((i.epoch + 1 : Nat) : Int)))))⟩, ⟨(List.range 9), [8], [0], [], fun _ => True⟩, ⟨(List.range 11), [9], [], [8], fun f => f 8 = .bool (decide (¬ wrOk K3.power (be 8 (U ((i.epoch + 1 : Nat) : Int)) ++ be 8 (tickU ((i.epoch + 1 : Nat) : Int)))))⟩] [⟨none, none, [], [], fun _ => pt b2 (.cells #[.slice none 0 0, .slice none 0 0, .slice none 0 0, .int .i64 (0), .int .i64 (0), .int .i64 (0), .slice none 0 0, .slice none 0 0, .int .i64 (0), .bool false] 56)⟩, ⟨none, none, [], [], fun _ => pt b1 (.cells #[sB vha k.head (vhc), sB vaa k.a (vac), sB vba k.b (vbc), Ix (k.power), Nx (i.epoch), Nx (i.next), sB ps i.state cs, sB pr i.recs (cr), Nx (i.size), .bool false] 56)⟩, ⟨none, none, [], [], fun _ => rB (sla (fa25 45)) (formB ((i.epoch + 1 : Nat) : Int) ((i.next : Nat) : Int) bs) (slc (fa25 45))⟩, ⟨none, (some 6), [6], [], fun _ => rB pH3 K3.head cH3⟩, ⟨none, (some 6), [6], [], fun _ => rB (sla (prt 1 (prt 0 (fa25 46)))) K3.a (slc (prt 1 (prt 0 (fa25 46))))⟩, ⟨none, (some 6), [6], [], fun _ => rB (sla (prt 2 (prt 0 (fa25 46)))) K3.b (slc (prt 2 (prt 0 (fa25 46))))⟩, ⟨none, (some 10), [0, 10], [], fun _ => pt b11 (.cells #[sB pH3 K3.head cH3, sB (sla (prt 1 (prt 0 (fa25 46)))) K3.a (slc (prt 1 (prt 0 (fa25 46)))), sB (sla (prt 2 (prt 0 (fa25 46)))) K3.b (slc (prt 2 (prt 0 (fa25 46)))), Ix (K3.power)] 32)⟩, ⟨(some 5), none, [6], [63], fun f => rB (sla (f 63)) (be 8 (U ((i.epoch + 1 : Nat) : Int)) ++ be 8 (tickU ((i.epoch + 1 : Nat) : Int))) (slc (f 63))⟩, ⟨(some 6), none, [], [64], fun f => rB (sla (prt 0 (prt 0 (f 64)))) ((wrH K3 (((i.epoch + 1) % 2) * 16) (be 8 (U ((i.epoch + 1 : Nat) : Int)) ++ be 8 (tickU ((i.epoch + 1 : Nat) : Int)))).head) (slc (prt 0 (prt 0 (f 64))))⟩, ⟨(some 6), none, [], [], fun _ => rB (sla (prt 1 (prt 0 (fa25 46)))) ((wrH K3 (((i.epoch + 1) % 2) * 16) (be 8 (U ((i.epoch + 1 : Nat) : Int)) ++ be 8 (tickU ((i.epoch + 1 : Nat) : Int)))).a) (slc (prt 1 (prt 0 (fa25 46))))⟩, ⟨(some 6), none, [], [], fun _ => rB (sla (prt 2 (prt 0 (fa25 46)))) ((wrH K3 (((i.epoch + 1) % 2) * 16) (be 8 (U ((i.epoch + 1 : Nat) : Int)) ++ be 8 (tickU ((i.epoch + 1 : Nat) : Int)))).b) (slc (prt 2 (prt 0 (fa25 46))))⟩, ⟨(some 10), none, [], [64], fun f => pt b11 (.cells #[sB (sla (prt 0 (prt 0 (f 64)))) ((wrH K3 (((i.epoch + 1) % 2) * 16) (be 8 (U ((i.epoch + 1 : Nat) : Int)) ++ be 8 (tickU ((i.epoch + 1 : Nat) : Int)))).head) (slc (prt 0 (prt 0 (f 64)))), sB (sla (prt 1 (prt 0 (fa25 46)))) ((wrH K3 (((i.epoch + 1) % 2) * 16) (be 8 (U ((i.epoch + 1 : Nat) : Int)) ++ be 8 (tickU ((i.epoch + 1 : Nat) : Int)))).a) (slc (prt 1 (prt 0 (fa25 46)))), sB (sla (prt 2 (prt 0 (fa25 46)))) ((wrH K3 (((i.epoch + 1) % 2) * 16) (be 8 (U ((i.epoch + 1 : Nat) : Int)) ++ be 8 (tickU ((i.epoch + 1 : Nat) : Int)))).b) (slc (prt 2 (prt 0 (fa25 46)))), Ix ((wrH K3 (((i.epoch + 1) % 2) * 16) (be 8 (U ((i.epoch + 1 : Nat) : Int)) ++ be 8 (tickU ((i.epoch + 1 : Nat) : Int)))).power)] 32)⟩] [(7, pp b11 0), (6, Nx (i.epoch + 1)), (1, sB va bs (vc)), (2, pp b1 0), (4, pp b2 0)] [2, 3, 4, 1, 0] [] (by kernel_rfl) (by kernel_rfl) (by kernel_rfl) (by kernel_rfl) rfl ⟨rfl, rfl, rfl, rfl, rfl, trivial⟩ ⟨?_, ?_, ?_, ?_, ?_, ?_, ?_, ?_, ?_, ?_, ?_, ?_, trivial⟩ ?_
   ·rintro f M - ⟨i0, -⟩
    exact obv (L' := pt b11 (.cells #[sB pH3 K3.head cH3, sB (sla (prt 1 (prt 0 (fa25 46)))) K3.a (slc (prt 1 (prt 0 (fa25 46)))), sB (sla (prt 2 (prt 0 (fa25 46)))) K3.b (slc (prt 2 (prt 0 (fa25 46)))), Ix (K3.power)] 32) :: M) (up_cons (d := 7) rfl i0) rfl (e_load tf56 rfl (k_pt 0 rfl rfl) rfl) (perm_front 0 rfl) (by rfl)
   ·rintro f M - ⟨i0, -⟩
    exact ob0 (up_cons (d := 6) rfl i0) rfl e_move (.refl _)
   ·rintro f M ⟨k0, -⟩ -
    exact ob0 (up_cons (d := 59) rfl k0) rfl (e_rem (a := ((i.epoch + 1 : Nat) : Int)) (b := (2 : Int)) rfl rfl (by decide) (nat_tmod _ 2)) (.refl _)
   ·rintro f M ⟨k0, -⟩ -
    exact ob0 (up_cons (d := 60) rfl k0) rfl (e_mul (a := (((i.epoch + 1) % 2 : Nat) : Int)) (b := (16 : Int)) rfl rfl (i64n (by omega) (by omega))) (.refl _)
   ·rintro f M - ⟨i0, -⟩
    exact ob0 (up_cons (d := 6) rfl i0) rfl e_move (.refl _)
   ·rintro f M ⟨k0, -⟩ -
    refine ob_start (L' := M) (by rfl) (up_cons (d := 62) rfl k0) ?_
    refine lcf (cl0 (vs := [Nx (i.epoch + 1)]) tf136 rfl rfl) rfl fun w β1 sb kn hw1 back => (rcopy_ok β1 w hw1 ((i.epoch + 1 : Nat) : Int)).mono ?_
    rintro e w' ⟨p31, c32, rfl, hw'⟩
    refine ⟨_, rfl, _, back _ _ hw', ?_⟩
    clear hw1 hw' back kn sb
    refine l_nil ?_
    exact f_owes_d (up_cons (d := 62) rfl k0) rfl (perm_front 0 rfl)
   ·rintro f M ⟨k0, k1, k2, -⟩ -
    have hs63 : f 63 = sB (sla (f 63)) (be 8 (U ((i.epoch + 1 : Nat) : Int)) ++ be 8 (tickU ((i.epoch + 1 : Nat) : Int))) (slc (f 63)) := k2
    refine ob_start (L' := rB pH3 K3.head cH3 :: rB (sla (prt 1 (prt 0 (fa25 46)))) K3.a (slc (prt 1 (prt 0 (fa25 46)))) :: rB (sla (prt 2 (prt 0 (fa25 46)))) K3.b (slc (prt 2 (prt 0 (fa25 46)))) :: rB (sla (f 63)) (be 8 (U ((i.epoch + 1 : Nat) : Int)) ++ be 8 (tickU ((i.epoch + 1 : Nat) : Int))) (slc (f 63)) :: M) (by rfl) (up_cons (up_cons (d := 61) (up_cons (d := 58) rfl k0) k1) hs63) ?_
    refine l_call rfl rfl rfl (cl0 (vs := [.agg #[sB pH3 K3.head cH3, sB (sla (prt 1 (prt 0 (fa25 46)))) K3.a (slc (prt 1 (prt 0 (fa25 46)))), sB (sla (prt 2 (prt 0 (fa25 46)))) K3.b (slc (prt 2 (prt 0 (fa25 46)))), Ix (K3.power)], .int .i64 (2), Nx (((i.epoch + 1) % 2) * 16), sB (sla (f 63)) (be 8 (U ((i.epoch + 1 : Nat) : Int)) ++ be 8 (tickU ((i.epoch + 1 : Nat) : Int))) (slc (f 63))]) tf160 rfl rfl) ?_
    intro w hw
    replace hw := hw.perm (L' := _ :: _ :: _ :: _ :: M) (by exact ((((perm_front 3 rfl).trans (perm_front 3 rfl)).trans (perm_front 3 rfl)).trans (perm_front 3 rfl)))
    obtain ⟨β1, sb, kn, hw1, back⟩ := St.frame (L := [_, _, _]) (M := _ :: M) hw
    refine (rwriteH_ok β1 w pH3 (sla (prt 1 (prt 0 (fa25 46)))) (sla (prt 2 (prt 0 (fa25 46)))) cH3 (slc (prt 1 (prt 0 (fa25 46)))) (slc (prt 2 (prt 0 (fa25 46)))) K3 (fit_of hf3 (by omega)) (((i.epoch + 1) % 2) * 16) (by omega) (be 8 (U ((i.epoch + 1 : Nat) : Int)) ++ be 8 (tickU ((i.epoch + 1 : Nat) : Int))) _ (by first | omega | (simp only [List.length_append, be_length]; omega)) (kU kn 0 rfl) hw1).mono ?_
    rintro e w' ⟨p35, c36, rfl, hw'⟩
    refine ⟨_, rfl, _, back _ _ hw', ?_⟩
    clear hw hw1 hw' back kn sb
    refine l_nil ?_
    exact f_owes_d (up_cons (up_cons (d := 61) (up_cons (d := 58) rfl k0) k1) hs63) rfl ((((perm_front 2 rfl).trans (perm_front 2 rfl)).trans (perm_front 2 rfl)).trans (perm_front 3 rfl))
   ·rintro f M ⟨k0, -⟩ -
    have hs64 : f 64 = .tuple #[.agg #[sB (sla (prt 0 (prt 0 (f 64)))) ((wrH K3 (((i.epoch + 1) % 2) * 16) (be 8 (U ((i.epoch + 1 : Nat) : Int)) ++ be 8 (tickU ((i.epoch + 1 : Nat) : Int)))).head) (slc (prt 0 (prt 0 (f 64)))), sB (sla (prt 1 (prt 0 (fa25 46)))) ((wrH K3 (((i.epoch + 1) % 2) * 16) (be 8 (U ((i.epoch + 1 : Nat) : Int)) ++ be 8 (tickU ((i.epoch + 1 : Nat) : Int)))).a) (slc (prt 1 (prt 0 (fa25 46)))), sB (sla (prt 2 (prt 0 (fa25 46)))) ((wrH K3 (((i.epoch + 1) % 2) * 16) (be 8 (U ((i.epoch + 1 : Nat) : Int)) ++ be 8 (tickU ((i.epoch + 1 : Nat) : Int)))).b) (slc (prt 2 (prt 0 (fa25 46)))), Ix ((wrH K3 (((i.epoch + 1) % 2) * 16) (be 8 (U ((i.epoch + 1 : Nat) : Int)) ++ be 8 (tickU ((i.epoch + 1 : Nat) : Int)))).power)], .bool (decide (¬ wrOk K3.power (be 8 (U ((i.epoch + 1 : Nat) : Int)) ++ be 8 (tickU ((i.epoch + 1 : Nat) : Int)))))] := k0
    exact ob0 (up_cons rfl hs64) rfl e_move (.refl _)
   ·rintro f M ⟨k0, -⟩ -
    have hs57 : f 57 = .tuple #[.agg #[sB (sla (prt 0 (prt 0 (f 64)))) ((wrH K3 (((i.epoch + 1) % 2) * 16) (be 8 (U ((i.epoch + 1 : Nat) : Int)) ++ be 8 (tickU ((i.epoch + 1 : Nat) : Int)))).head) (slc (prt 0 (prt 0 (f 64)))), sB (sla (prt 1 (prt 0 (fa25 46)))) ((wrH K3 (((i.epoch + 1) % 2) * 16) (be 8 (U ((i.epoch + 1 : Nat) : Int)) ++ be 8 (tickU ((i.epoch + 1 : Nat) : Int)))).a) (slc (prt 1 (prt 0 (fa25 46)))), sB (sla (prt 2 (prt 0 (fa25 46)))) ((wrH K3 (((i.epoch + 1) % 2) * 16) (be 8 (U ((i.epoch + 1 : Nat) : Int)) ++ be 8 (tickU ((i.epoch + 1 : Nat) : Int)))).b) (slc (prt 2 (prt 0 (fa25 46)))), Ix ((wrH K3 (((i.epoch + 1) % 2) * 16) (be 8 (U ((i.epoch + 1 : Nat) : Int)) ++ be 8 (tickU ((i.epoch + 1 : Nat) : Int)))).power)], .bool (decide (¬ wrOk K3.power (be 8 (U ((i.epoch + 1 : Nat) : Int)) ++ be 8 (tickU ((i.epoch + 1 : Nat) : Int)))))] := k0
    exact ob0 (up_cons rfl hs57) rfl (e_extract (vs := #[.agg #[sB (sla (prt 0 (prt 0 (f 64)))) ((wrH K3 (((i.epoch + 1) % 2) * 16) (be 8 (U ((i.epoch + 1 : Nat) : Int)) ++ be 8 (tickU ((i.epoch + 1 : Nat) : Int)))).head) (slc (prt 0 (prt 0 (f 64)))), sB (sla (prt 1 (prt 0 (fa25 46)))) ((wrH K3 (((i.epoch + 1) % 2) * 16) (be 8 (U ((i.epoch + 1 : Nat) : Int)) ++ be 8 (tickU ((i.epoch + 1 : Nat) : Int)))).a) (slc (prt 1 (prt 0 (fa25 46)))), sB (sla (prt 2 (prt 0 (fa25 46)))) ((wrH K3 (((i.epoch + 1) % 2) * 16) (be 8 (U ((i.epoch + 1 : Nat) : Int)) ++ be 8 (tickU ((i.epoch + 1 : Nat) : Int)))).b) (slc (prt 2 (prt 0 (fa25 46)))), Ix ((wrH K3 (((i.epoch + 1) % 2) * 16) (be 8 (U ((i.epoch + 1 : Nat) : Int)) ++ be 8 (tickU ((i.epoch + 1 : Nat) : Int)))).power)], .bool (decide (¬ wrOk K3.power (be 8 (U ((i.epoch + 1 : Nat) : Int)) ++ be 8 (tickU ((i.epoch + 1 : Nat) : Int)))))]) rfl rfl) (.refl _)
   ·rintro f M ⟨k0, -⟩ -
    have hs57 : f 57 = .tuple #[.agg #[sB (sla (prt 0 (prt 0 (f 64)))) ((wrH K3 (((i.epoch + 1) % 2) * 16) (be 8 (U ((i.epoch + 1 : Nat) : Int)) ++ be 8 (tickU ((i.epoch + 1 : Nat) : Int)))).head) (slc (prt 0 (prt 0 (f 64)))), sB (sla (prt 1 (prt 0 (fa25 46)))) ((wrH K3 (((i.epoch + 1) % 2) * 16) (be 8 (U ((i.epoch + 1 : Nat) : Int)) ++ be 8 (tickU ((i.epoch + 1 : Nat) : Int)))).a) (slc (prt 1 (prt 0 (fa25 46)))), sB (sla (prt 2 (prt 0 (fa25 46)))) ((wrH K3 (((i.epoch + 1) % 2) * 16) (be 8 (U ((i.epoch + 1 : Nat) : Int)) ++ be 8 (tickU ((i.epoch + 1 : Nat) : Int)))).b) (slc (prt 2 (prt 0 (fa25 46)))), Ix ((wrH K3 (((i.epoch + 1) % 2) * 16) (be 8 (U ((i.epoch + 1 : Nat) : Int)) ++ be 8 (tickU ((i.epoch + 1 : Nat) : Int)))).power)], .bool (decide (¬ wrOk K3.power (be 8 (U ((i.epoch + 1 : Nat) : Int)) ++ be 8 (tickU ((i.epoch + 1 : Nat) : Int)))))] := k0
    exact ob0 (up_cons rfl hs57) rfl (e_extract (vs := #[.agg #[sB (sla (prt 0 (prt 0 (f 64)))) ((wrH K3 (((i.epoch + 1) % 2) * 16) (be 8 (U ((i.epoch + 1 : Nat) : Int)) ++ be 8 (tickU ((i.epoch + 1 : Nat) : Int)))).head) (slc (prt 0 (prt 0 (f 64)))), sB (sla (prt 1 (prt 0 (fa25 46)))) ((wrH K3 (((i.epoch + 1) % 2) * 16) (be 8 (U ((i.epoch + 1 : Nat) : Int)) ++ be 8 (tickU ((i.epoch + 1 : Nat) : Int)))).a) (slc (prt 1 (prt 0 (fa25 46)))), sB (sla (prt 2 (prt 0 (fa25 46)))) ((wrH K3 (((i.epoch + 1) % 2) * 16) (be 8 (U ((i.epoch + 1 : Nat) : Int)) ++ be 8 (tickU ((i.epoch + 1 : Nat) : Int)))).b) (slc (prt 2 (prt 0 (fa25 46)))), Ix ((wrH K3 (((i.epoch + 1) % 2) * 16) (be 8 (U ((i.epoch + 1 : Nat) : Int)) ++ be 8 (tickU ((i.epoch + 1 : Nat) : Int)))).power)], .bool (decide (¬ wrOk K3.power (be 8 (U ((i.epoch + 1 : Nat) : Int)) ++ be 8 (tickU ((i.epoch + 1 : Nat) : Int)))))]) rfl rfl) (.refl _)
   ·rintro f M ⟨k0, -⟩ ⟨i0, -⟩
    have hs65 : f 65 = .agg #[sB (sla (prt 0 (prt 0 (f 64)))) ((wrH K3 (((i.epoch + 1) % 2) * 16) (be 8 (U ((i.epoch + 1 : Nat) : Int)) ++ be 8 (tickU ((i.epoch + 1 : Nat) : Int)))).head) (slc (prt 0 (prt 0 (f 64)))), sB (sla (prt 1 (prt 0 (fa25 46)))) ((wrH K3 (((i.epoch + 1) % 2) * 16) (be 8 (U ((i.epoch + 1 : Nat) : Int)) ++ be 8 (tickU ((i.epoch + 1 : Nat) : Int)))).a) (slc (prt 1 (prt 0 (fa25 46)))), sB (sla (prt 2 (prt 0 (fa25 46)))) ((wrH K3 (((i.epoch + 1) % 2) * 16) (be 8 (U ((i.epoch + 1 : Nat) : Int)) ++ be 8 (tickU ((i.epoch + 1 : Nat) : Int)))).b) (slc (prt 2 (prt 0 (fa25 46)))), Ix ((wrH K3 (((i.epoch + 1) % 2) * 16) (be 8 (U ((i.epoch + 1 : Nat) : Int)) ++ be 8 (tickU ((i.epoch + 1 : Nat) : Int)))).power)] := k0
    refine ob_start (L' := pt b11 (.cells #[sB pH3 K3.head cH3, sB (sla (prt 1 (prt 0 (fa25 46)))) K3.a (slc (prt 1 (prt 0 (fa25 46)))), sB (sla (prt 2 (prt 0 (fa25 46)))) K3.b (slc (prt 2 (prt 0 (fa25 46)))), Ix (K3.power)] 32) :: M) (by rfl) (up_cons (up_cons (d := 7) rfl i0) hs65) ?_
    refine lu (m_store 0 tf56 (cs' := #[sB (sla (prt 0 (prt 0 (f 64)))) ((wrH K3 (((i.epoch + 1) % 2) * 16) (be 8 (U ((i.epoch + 1 : Nat) : Int)) ++ be 8 (tickU ((i.epoch + 1 : Nat) : Int)))).head) (slc (prt 0 (prt 0 (f 64)))), sB (sla (prt 1 (prt 0 (fa25 46)))) ((wrH K3 (((i.epoch + 1) % 2) * 16) (be 8 (U ((i.epoch + 1 : Nat) : Int)) ++ be 8 (tickU ((i.epoch + 1 : Nat) : Int)))).a) (slc (prt 1 (prt 0 (fa25 46)))), sB (sla (prt 2 (prt 0 (fa25 46)))) ((wrH K3 (((i.epoch + 1) % 2) * 16) (be 8 (U ((i.epoch + 1 : Nat) : Int)) ++ be 8 (tickU ((i.epoch + 1 : Nat) : Int)))).b) (slc (prt 2 (prt 0 (fa25 46)))), Ix ((wrH K3 (((i.epoch + 1) % 2) * 16) (be 8 (U ((i.epoch + 1 : Nat) : Int)) ++ be 8 (tickU ((i.epoch + 1 : Nat) : Int)))).power)]) rfl rfl rfl rfl rfl rfl rfl) ?_
    refine l_nil ?_
    exact f_owes_n (up_cons (up_cons (d := 7) rfl i0) hs65) trivial (perm_front 0 rfl)
   ·rintro f M ⟨k0, -⟩ -
    exact ob0 (up_cons (d := 66) rfl k0) rfl e_assign (.refl _)
   rintro fa37 ⟨-, -, -, -, -, -, -, -, -, -, -, k11, -⟩ ⟨j0, j1, j2, j3, j4, -⟩
   refine f_re (L' := [pt b2 (.cells #[.slice none 0 0, .slice none 0 0, .slice none 0 0, .int .i64 (0), .int .i64 (0), .int .i64 (0), .slice none 0 0, .slice none 0 0, .int .i64 (0), .bool false] 56), pt b1 (.cells #[sB vha k.head (vhc), sB vaa k.a (vac), sB vba k.b (vbc), Ix (k.power), Nx (i.epoch), Nx (i.next), sB ps i.state cs, sB pr i.recs (cr), Nx (i.size), .bool false] 56), rB (sla (fa25 45)) (formB ((i.epoch + 1 : Nat) : Int) ((i.next : Nat) : Int) bs) (slc (fa25 45)), rB (sla (fa37 63)) (be 8 (U ((i.epoch + 1 : Nat) : Int)) ++ be 8 (tickU ((i.epoch + 1 : Nat) : Int))) (slc (fa37 63)), rB (sla (prt 0 (prt 0 (fa37 64)))) ((wrH K3 (((i.epoch + 1) % 2) * 16) (be 8 (U ((i.epoch + 1 : Nat) : Int)) ++ be 8 (tickU ((i.epoch + 1 : Nat) : Int)))).head) (slc (prt 0 (prt 0 (fa37 64)))), rB (sla (prt 1 (prt 0 (fa25 46)))) ((wrH K3 (((i.epoch + 1) % 2) * 16) (be 8 (U ((i.epoch + 1 : Nat) : Int)) ++ be 8 (tickU ((i.epoch + 1 : Nat) : Int)))).a) (slc (prt 1 (prt 0 (fa25 46)))), rB (sla (prt 2 (prt 0 (fa25 46)))) ((wrH K3 (((i.epoch + 1) % 2) * 16) (be 8 (U ((i.epoch + 1 : Nat) : Int)) ++ be 8 (tickU ((i.epoch + 1 : Nat) : Int)))).b) (slc (prt 2 (prt 0 (fa25 46)))), pt b11 (.cells #[sB (sla (prt 0 (prt 0 (fa37 64)))) ((wrH K3 (((i.epoch + 1) % 2) * 16) (be 8 (U ((i.epoch + 1 : Nat) : Int)) ++ be 8 (tickU ((i.epoch + 1 : Nat) : Int)))).head) (slc (prt 0 (prt 0 (fa37 64)))), sB (sla (prt 1 (prt 0 (fa25 46)))) ((wrH K3 (((i.epoch + 1) % 2) * 16) (be 8 (U ((i.epoch + 1 : Nat) : Int)) ++ be 8 (tickU ((i.epoch + 1 : Nat) : Int)))).a) (slc (prt 1 (prt 0 (fa25 46)))), sB (sla (prt 2 (prt 0 (fa25 46)))) ((wrH K3 (((i.epoch + 1) % 2) * 16) (be 8 (U ((i.epoch + 1 : Nat) : Int)) ++ be 8 (tickU ((i.epoch + 1 : Nat) : Int)))).b) (slc (prt 2 (prt 0 (fa25 46)))), Ix ((wrH K3 (((i.epoch + 1) % 2) * 16) (be 8 (U ((i.epoch + 1 : Nat) : Int)) ++ be 8 (tickU ((i.epoch + 1 : Nat) : Int)))).power)] 32)]) (by rfl) ?_
   refine f_rebase (d := 1) j0 ?_
   refine f_rebase (d := 2) j1 ?_
   refine f_rebase (d := 4) j2 ?_
   refine f_rebase (d := 6) j3 ?_
   refine f_rebase (d := 7) j4 ?_
   refine f_rebase (d := 8) k11 ?_
   refine fts ?_
   obtain ⟨K4, hK4⟩ : ∃ z, z = (wrH K3 (((i.epoch + 1) % 2) * 16) (be 8 (U ((i.epoch + 1 : Nat) : Int)) ++ be 8 (tickU ((i.epoch + 1 : Nat) : Int)))) := ⟨_, rfl⟩
   refine c_re (L' := [pt b2 (.cells #[.slice none 0 0, .slice none 0 0, .slice none 0 0, .int .i64 (0), .int .i64 (0), .int .i64 (0), .slice none 0 0, .slice none 0 0, .int .i64 (0), .bool false] 56), pt b1 (.cells #[sB vha k.head (vhc), sB vaa k.a (vac), sB vba k.b (vbc), Ix (k.power), Nx (i.epoch), Nx (i.next), sB ps i.state cs, sB pr i.recs (cr), Nx (i.size), .bool false] 56), rB (sla (fa25 45)) (formB ((i.epoch + 1 : Nat) : Int) ((i.next : Nat) : Int) bs) (slc (fa25 45)), rB (sla (fa37 63)) (be 8 (U ((i.epoch + 1 : Nat) : Int)) ++ be 8 (tickU ((i.epoch + 1 : Nat) : Int))) (slc (fa37 63)), rB (sla (prt 0 (prt 0 (fa37 64)))) K4.head (slc (prt 0 (prt 0 (fa37 64)))), rB (sla (prt 1 (prt 0 (fa25 46)))) K4.a (slc (prt 1 (prt 0 (fa25 46)))), rB (sla (prt 2 (prt 0 (fa25 46)))) K4.b (slc (prt 2 (prt 0 (fa25 46)))), pt b11 (.cells #[sB (sla (prt 0 (prt 0 (fa37 64)))) K4.head (slc (prt 0 (prt 0 (fa37 64)))), sB (sla (prt 1 (prt 0 (fa25 46)))) K4.a (slc (prt 1 (prt 0 (fa25 46)))), sB (sla (prt 2 (prt 0 (fa25 46)))) K4.b (slc (prt 2 (prt 0 (fa25 46)))), Ix (K4.power)] 32)]) (by show [pt b2 (.cells #[.slice none 0 0, .slice none 0 0, .slice none 0 0, .int .i64 (0), .int .i64 (0), .int .i64 (0), .slice none 0 0, .slice none 0 0, .int .i64 (0), .bool false] 56), pt b1 (.cells #[sB vha k.head (vhc), sB vaa k.a (vac), sB vba k.b (vbc), Ix (k.power), Nx (i.epoch), Nx (i.next), sB ps i.state cs, sB pr i.recs (cr), Nx (i.size), .bool false] 56), rB (sla (fa25 45)) (formB ((i.epoch + 1 : Nat) : Int) ((i.next : Nat) : Int) bs) (slc (fa25 45)), rB (sla (fa37 63)) (be 8 (U ((i.epoch + 1 : Nat) : Int)) ++ be 8 (tickU ((i.epoch + 1 : Nat) : Int))) (slc (fa37 63)), rB (sla (prt 0 (prt 0 (fa37 64)))) ((wrH K3 (((i.epoch + 1) % 2) * 16) (be 8 (U ((i.epoch + 1 : Nat) : Int)) ++ be 8 (tickU ((i.epoch + 1 : Nat) : Int)))).head) (slc (prt 0 (prt 0 (fa37 64)))), rB (sla (prt 1 (prt 0 (fa25 46)))) ((wrH K3 (((i.epoch + 1) % 2) * 16) (be 8 (U ((i.epoch + 1 : Nat) : Int)) ++ be 8 (tickU ((i.epoch + 1 : Nat) : Int)))).a) (slc (prt 1 (prt 0 (fa25 46)))), rB (sla (prt 2 (prt 0 (fa25 46)))) ((wrH K3 (((i.epoch + 1) % 2) * 16) (be 8 (U ((i.epoch + 1 : Nat) : Int)) ++ be 8 (tickU ((i.epoch + 1 : Nat) : Int)))).b) (slc (prt 2 (prt 0 (fa25 46)))), pt b11 (.cells #[sB (sla (prt 0 (prt 0 (fa37 64)))) ((wrH K3 (((i.epoch + 1) % 2) * 16) (be 8 (U ((i.epoch + 1 : Nat) : Int)) ++ be 8 (tickU ((i.epoch + 1 : Nat) : Int)))).head) (slc (prt 0 (prt 0 (fa37 64)))), sB (sla (prt 1 (prt 0 (fa25 46)))) ((wrH K3 (((i.epoch + 1) % 2) * 16) (be 8 (U ((i.epoch + 1 : Nat) : Int)) ++ be 8 (tickU ((i.epoch + 1 : Nat) : Int)))).a) (slc (prt 1 (prt 0 (fa25 46)))), sB (sla (prt 2 (prt 0 (fa25 46)))) ((wrH K3 (((i.epoch + 1) % 2) * 16) (be 8 (U ((i.epoch + 1 : Nat) : Int)) ++ be 8 (tickU ((i.epoch + 1 : Nat) : Int)))).b) (slc (prt 2 (prt 0 (fa25 46)))), Ix ((wrH K3 (((i.epoch + 1) % 2) * 16) (be 8 (U ((i.epoch + 1 : Nat) : Int)) ++ be 8 (tickU ((i.epoch + 1 : Nat) : Int)))).power)] 32)] = _; rw [hK4]) ?_
   have h1 : ckOk1 k (i.epoch + 1) := Decidable.not_not.1 hc12
   have h2 : ckOk2 k (i.epoch + 1) i.next bs := by have q := Decidable.not_not.1 hc26; rw [hK1] at q; exact q
   have eK : ckS k (i.epoch + 1) i.next bs = K4 := by rw [ckS, if_pos h1, if_pos h2, ck4, ← hK3, hK4]; rfl
   refine c_region ?_
   refine lv (v := .agg #[sB (sla (prt 0 (prt 0 (fa37 64)))) K4.head (slc (prt 0 (prt 0 (fa37 64)))), sB (sla (prt 1 (prt 0 (fa25 46)))) K4.a (slc (prt 1 (prt 0 (fa25 46)))), sB (sla (prt 2 (prt 0 (fa25 46)))) K4.b (slc (prt 2 (prt 0 (fa25 46)))), Ix (K4.power)]) (e_load tf56 rfl (k_pt 7 rfl rfl) rfl) ?_
   refine lv (e_fieldPt rfl tf158) ?_
   refine lu (m_store 1 tf56 (cs' := #[sB (sla (prt 0 (prt 0 (fa37 64)))) K4.head (slc (prt 0 (prt 0 (fa37 64)))), sB (sla (prt 1 (prt 0 (fa25 46)))) K4.a (slc (prt 1 (prt 0 (fa25 46)))), sB (sla (prt 2 (prt 0 (fa25 46)))) K4.b (slc (prt 2 (prt 0 (fa25 46)))), Ix (K4.power), Nx (i.epoch), Nx (i.next), sB ps i.state cs, sB pr i.recs (cr), Nx (i.size), .bool false]) rfl rfl rfl rfl rfl rfl rfl) ?_
   refine lnf ?_
   refine cs2 ?_
   refine c_region ?_
   refine lv e_move ?_
   refine lnf ?_
   refine c_if (¬ wrOk K3.power (be 8 (U ((i.epoch + 1 : Nat) : Int)) ++ be 8 (tickU ((i.epoch + 1 : Nat) : Int)))) rfl (fun hc38 => ?_) (fun hc38 => ?_)
   ·refine csr ?_
    refine lv (e_fieldPt rfl tf157) ?_
    refine lu (m_store 1 tf40 (cs' := #[sB (sla (prt 0 (prt 0 (fa37 64)))) K4.head (slc (prt 0 (prt 0 (fa37 64)))), sB (sla (prt 1 (prt 0 (fa25 46)))) K4.a (slc (prt 1 (prt 0 (fa25 46)))), sB (sla (prt 2 (prt 0 (fa25 46)))) K4.b (slc (prt 2 (prt 0 (fa25 46)))), Ix (K4.power), Nx (i.epoch), Nx (i.next), sB ps i.state cs, sB pr i.recs (cr), Nx (i.size), .bool true]) rfl rfl rfl rfl rfl rfl rfl) ?_
    refine lnc ?_
    refine lv (v := .agg #[sB (sla (prt 0 (prt 0 (fa37 64)))) K4.head (slc (prt 0 (prt 0 (fa37 64)))), sB (sla (prt 1 (prt 0 (fa25 46)))) K4.a (slc (prt 1 (prt 0 (fa25 46)))), sB (sla (prt 2 (prt 0 (fa25 46)))) K4.b (slc (prt 2 (prt 0 (fa25 46)))), Ix (K4.power), Nx (i.epoch), Nx (i.next), sB ps i.state cs, sB pr i.recs (cr), Nx (i.size), .bool true]) (e_load tf154 rfl (k_pt 1 rfl rfl) rfl) ?_
    refine lu (m_store 0 tf154 (cs' := #[sB (sla (prt 0 (prt 0 (fa37 64)))) K4.head (slc (prt 0 (prt 0 (fa37 64)))), sB (sla (prt 1 (prt 0 (fa25 46)))) K4.a (slc (prt 1 (prt 0 (fa25 46)))), sB (sla (prt 2 (prt 0 (fa25 46)))) K4.b (slc (prt 2 (prt 0 (fa25 46)))), Ix (K4.power), Nx (i.epoch), Nx (i.next), sB ps i.state cs, sB pr i.recs (cr), Nx (i.size), .bool true]) rfl rfl rfl rfl rfl rfl rfl) ?_
    refine lv e_assign ?_
    refine lnf ?_
    refine c_ret ?_
    refine f_then_ret ?_
    refine retG (m := [.agg #[sB (sla (prt 0 (prt 0 (fa37 64)))) K4.head (slc (prt 0 (prt 0 (fa37 64)))), sB (sla (prt 1 (prt 0 (fa25 46)))) K4.a (slc (prt 1 (prt 0 (fa25 46)))), sB (sla (prt 2 (prt 0 (fa25 46)))) K4.b (slc (prt 2 (prt 0 (fa25 46)))), Ix (K4.power), Nx (i.epoch), Nx (i.next), sB ps i.state cs, sB pr i.recs (cr), Nx (i.size), .bool true], .int .i64 (310)]) Try.results25 ⟨rd_cell tf154 rfl (k_pt 0 rfl rfl) rfl, rd_tmp (v := .int .i64 (310)) rfl, trivial⟩ rfl ?_
    intro w hw
    have h3 : ¬ ckOk3 k (i.epoch + 1) i.next bs := by unfold ckOk3; rw [← hK3]; exact hc38
    have hw2 := st_mask [true, true, true, false, false, false, false, false] rfl (hw.perm (L' := [rB (sla (prt 0 (prt 0 (fa37 64)))) K4.head (slc (prt 0 (prt 0 (fa37 64)))), rB (sla (prt 1 (prt 0 (fa25 46)))) K4.a (slc (prt 1 (prt 0 (fa25 46)))), rB (sla (prt 2 (prt 0 (fa25 46)))) K4.b (slc (prt 2 (prt 0 (fa25 46)))), pt b2 (.cells #[sB (sla (prt 0 (prt 0 (fa37 64)))) K4.head (slc (prt 0 (prt 0 (fa37 64)))), sB (sla (prt 1 (prt 0 (fa25 46)))) K4.a (slc (prt 1 (prt 0 (fa25 46)))), sB (sla (prt 2 (prt 0 (fa25 46)))) K4.b (slc (prt 2 (prt 0 (fa25 46)))), Ix (K4.power), Nx (i.epoch), Nx (i.next), sB ps i.state cs, sB pr i.recs (cr), Nx (i.size), .bool true] 56), pt b1 (.cells #[sB (sla (prt 0 (prt 0 (fa37 64)))) K4.head (slc (prt 0 (prt 0 (fa37 64)))), sB (sla (prt 1 (prt 0 (fa25 46)))) K4.a (slc (prt 1 (prt 0 (fa25 46)))), sB (sla (prt 2 (prt 0 (fa25 46)))) K4.b (slc (prt 2 (prt 0 (fa25 46)))), Ix (K4.power), Nx (i.epoch), Nx (i.next), sB ps i.state cs, sB pr i.recs (cr), Nx (i.size), .bool true] 56), rB (sla (fa25 45)) (formB ((i.epoch + 1 : Nat) : Int) ((i.next : Nat) : Int) bs) (slc (fa25 45)), rB (sla (fa37 63)) (be 8 (U ((i.epoch + 1 : Nat) : Int)) ++ be 8 (tickU ((i.epoch + 1 : Nat) : Int))) (slc (fa37 63)), pt b11 (.cells #[sB (sla (prt 0 (prt 0 (fa37 64)))) K4.head (slc (prt 0 (prt 0 (fa37 64)))), sB (sla (prt 1 (prt 0 (fa25 46)))) K4.a (slc (prt 1 (prt 0 (fa25 46)))), sB (sla (prt 2 (prt 0 (fa25 46)))) K4.b (slc (prt 2 (prt 0 (fa25 46)))), Ix (K4.power)] 32)]) (by exact (perm_ix [4, 5, 6, 0, 1, 2, 3, 7] 8 rfl (by kernel_rfl) (by kernel_rfl))))
    rw [eK]
    exact .inl ⟨fun q => h3 q.2.2, _, _, _, _, _, _, rfl, hw2⟩
   refine csk ?_
   refine c_seq ?_
   refine c_any [⟨[], [], [0], [72], fun f => f 72 = Nx (i.epoch + 1)⟩, ⟨[], [], [1], [73], fun f => f 73 = pp b1 4⟩, ⟨[1], [1], [], [74], fun f => f 74 = pp b1 5⟩, ⟨[1, 2], [2], [], [75], fun f => f 75 = Nx (i.next)⟩, ⟨[], [], [], [76], fun f => f 76 = .slice (some ⟨(blk (f 76)), 0, none⟩) 0 0⟩, ⟨[], [], [2], [77], fun f => f 77 = sB va bs (vc)⟩, ⟨[4, 5], [4, 5], [], [78], fun f => f 78 = sB (sla (f 78)) ([] ++ bs) (slc (f 78))⟩, ⟨[], [], [2], [79], fun f => f 79 = sB va bs (vc)⟩, ⟨[7], [7], [], [80], fun f => f 80 = Nx (bs.length)⟩, ⟨[7, 8], [8], [], [81], fun f => f 81 = Nx (24 + bs.length)⟩, ⟨(List.range 10), [0, 3, 6, 9], [], [78, 82], fun f => f 82 = .agg #[Nx (i.epoch + 1), Nx (i.next), sB (sla (f 78)) ([] ++ bs) (slc (f 78)), .slice none 0 0, Nx (24 + bs.length)]⟩, ⟨(List.range 11), [], [1], [83], fun f => f 83 = pp b1 4⟩, ⟨(List.range 12), [11, 10], [], [], fun _ => True⟩] [⟨none, none, [], [], fun _ => pt b2 (.cells #[.slice none 0 0, .slice none 0 0, .slice none 0 0, .int .i64 (0), .int .i64 (0), .int .i64 (0), .slice none 0 0, .slice none 0 0, .int .i64 (0), .bool false] 56)⟩, ⟨none, (some 12), [3, 12], [], fun _ => pt b1 (.cells #[sB (sla (prt 0 (prt 0 (fa37 64)))) K4.head (slc (prt 0 (prt 0 (fa37 64)))), sB (sla (prt 1 (prt 0 (fa25 46)))) K4.a (slc (prt 1 (prt 0 (fa25 46)))), sB (sla (prt 2 (prt 0 (fa25 46)))) K4.b (slc (prt 2 (prt 0 (fa25 46)))), Ix (K4.power), Nx (i.epoch), Nx (i.next), sB ps i.state cs, sB pr i.recs (cr), Nx (i.size), .bool false] 56)⟩, ⟨none, none, [], [], fun _ => rB (sla (fa25 45)) (formB ((i.epoch + 1 : Nat) : Int) ((i.next : Nat) : Int) bs) (slc (fa25 45))⟩, ⟨none, none, [], [], fun _ => rB (sla (fa37 63)) (be 8 (U ((i.epoch + 1 : Nat) : Int)) ++ be 8 (tickU ((i.epoch + 1 : Nat) : Int))) (slc (fa37 63))⟩, ⟨none, none, [], [], fun _ => rB (sla (prt 0 (prt 0 (fa37 64)))) K4.head (slc (prt 0 (prt 0 (fa37 64))))⟩, ⟨none, none, [], [], fun _ => rB (sla (prt 1 (prt 0 (fa25 46)))) K4.a (slc (prt 1 (prt 0 (fa25 46))))⟩, ⟨none, none, [], [], fun _ => rB (sla (prt 2 (prt 0 (fa25 46)))) K4.b (slc (prt 2 (prt 0 (fa25 46))))⟩, ⟨none, none, [], [], fun _ => pt b11 (.cells #[sB (sla (prt 0 (prt 0 (fa37 64)))) K4.head (slc (prt 0 (prt 0 (fa37 64)))), sB (sla (prt 1 (prt 0 (fa25 46)))) K4.a (slc (prt 1 (prt 0 (fa25 46)))), sB (sla (prt 2 (prt 0 (fa25 46)))) K4.b (slc (prt 2 (prt 0 (fa25 46)))), Ix (K4.power)] 32)⟩, ⟨(some 4), (some 6), [6], [76], fun f => pt (blk (f 76)) (.cells #[] 5)⟩, ⟨(some 6), none, [], [78], fun f => rB (sla (f 78)) ([] ++ bs) (slc (f 78))⟩, ⟨(some 12), none, [], [78], fun f => pt b1 (.cells #[sB (sla (prt 0 (prt 0 (fa37 64)))) K4.head (slc (prt 0 (prt 0 (fa37 64)))), sB (sla (prt 1 (prt 0 (fa25 46)))) K4.a (slc (prt 1 (prt 0 (fa25 46)))), sB (sla (prt 2 (prt 0 (fa25 46)))) K4.b (slc (prt 2 (prt 0 (fa25 46)))), Ix (K4.power), Nx (i.epoch + 1), Nx (i.next), sB (sla (f 78)) ([] ++ bs) (slc (f 78)), .slice none 0 0, Nx (24 + bs.length), .bool false] 56)⟩] [(6, Nx (i.epoch + 1)), (2, pp b1 0), (1, sB va bs (vc)), (4, pp b2 0)] [1, 3] [] (by kernel_rfl) (by kernel_rfl) (by kernel_rfl) (by kernel_rfl) rfl ⟨rfl, rfl, rfl, rfl, trivial⟩ ⟨?_, ?_, ?_, ?_, ?_, ?_, ?_, ?_, ?_, ?_, ?_, ?_, ?_, trivial⟩ ?_
   ·rintro f M - ⟨i0, -⟩
    exact ob0 (up_cons (d := 6) rfl i0) rfl e_move (.refl _)
   ·rintro f M - ⟨i0, -⟩
    exact ob0 (up_cons (d := 2) rfl i0) rfl (e_fieldPt rfl tf159) (.refl _)
   ·rintro f M ⟨k0, -⟩ -
    exact ob0 (up_cons (d := 73) rfl k0) rfl (e_fieldPt rfl tf147) (.refl _)
   ·rintro f M ⟨k0, -⟩ -
    exact obv (L' := pt b1 (.cells #[sB (sla (prt 0 (prt 0 (fa37 64)))) K4.head (slc (prt 0 (prt 0 (fa37 64)))), sB (sla (prt 1 (prt 0 (fa25 46)))) K4.a (slc (prt 1 (prt 0 (fa25 46)))), sB (sla (prt 2 (prt 0 (fa25 46)))) K4.b (slc (prt 2 (prt 0 (fa25 46)))), Ix (K4.power), Nx (i.epoch), Nx (i.next), sB ps i.state cs, sB pr i.recs (cr), Nx (i.size), .bool false] 56) :: M) (up_cons (d := 74) rfl k0) rfl (e_load1 tf25 rfl (k_pt 0 rfl rfl)) (perm_front 0 rfl) (by rfl)
   ·rintro f M - -
    refine ob_start (L' := M) (by rfl) rfl ?_
    refine l_mv rfl rfl rfl (m_slice0 tf12) ?_
    rintro _ _ ⟨b40, rfl, rfl⟩
    refine l_nil ?_
    exact f_owes_d rfl rfl (perm_front 0 rfl)
   ·rintro f M - ⟨i0, -⟩
    exact ob0 (up_cons (d := 1) rfl i0) rfl e_move (.refl _)
   ·rintro f M ⟨k0, k1, -⟩ -
    have hs76 : f 76 = .slice (some ⟨(blk (f 76)), 0, none⟩) 0 0 := k0
    refine ob_start (L' := pt (blk (f 76)) (.cells #[] 5) :: M) (by rfl) (up_cons (d := 77) (up_cons rfl hs76) k1) ?_
    refine l_conseq 0 (r' := row (.slice (some ⟨(blk (f 76)), 0, none⟩) 0 0) 5 1 0 (BX [])) rfl (fun a h => pt_row (m := 0) (by decide) rfl a h) ?_
    refine l_mv rfl rfl rfl (m_appendE (enc := fun c : UInt8 => Bx c) 0 bx_cell tf12 tf15 (v := .slice (some ⟨(blk (f 76)), 0, none⟩) 0 0) (xs := []) (ys := bs) (ao := va) (c := vc) rfl rfl (by first | rfl | simp) rfl (by first | rfl | simp) (Knows.of_base (Elems.mono _ _ _) ve) (by first | omega | (simp only [List.length_append, List.length_nil, List.length_cons, be_length] at *; omega)) (by first | omega | (simp only [List.length_append, List.length_nil, List.length_cons, be_length] at *; omega))) ?_
    rintro _ _ ⟨rp43, rc44, rfl, rfl⟩
    refine l_nil ?_
    exact f_owes_d (up_cons (d := 77) (up_cons rfl hs76) k1) rfl (perm_front 0 rfl)
   ·rintro f M - ⟨i0, -⟩
    exact ob0 (up_cons (d := 1) rfl i0) rfl e_move (.refl _)
   ·rintro f M ⟨k0, -⟩ -
    exact ob0 (up_cons (d := 79) rfl k0) rfl (e_len (a := va) (n := bs.length) (c := vc) rfl tf11) (.refl _)
   ·rintro f M ⟨k0, -⟩ -
    exact ob0 (up_cons (d := 80) rfl k0) rfl (e_add (a := (24 : Int)) (b := ((bs.length : Nat) : Int)) rfl rfl (i64n (by omega) (by omega))) (.refl _)
   ·rintro f M ⟨k0, k1, k2, k3, -⟩ -
    have hs78 : f 78 = sB (sla (f 78)) ([] ++ bs) (slc (f 78)) := k2
    exact ob0 (up_cons (d := 81) (up_cons (up_cons (d := 75) (up_cons (d := 72) rfl k0) k1) hs78) k3) rfl (e_build tf139 tf141 (vs := [(0, Nx (i.epoch + 1)), (1, Nx (i.next)), (2, sB (sla (f 78)) ([] ++ bs) (slc (f 78))), (4, Nx (24 + bs.length))]) (cells := #[Nx (i.epoch + 1), Nx (i.next), sB (sla (f 78)) ([] ++ bs) (slc (f 78)), .slice none 0 0, Nx (24 + bs.length)]) rfl rfl) (.refl _)
   ·rintro f M - ⟨i0, -⟩
    exact ob0 (up_cons (d := 2) rfl i0) rfl (e_fieldPt rfl tf159) (.refl _)
   ·rintro f M ⟨k0, k1, -⟩ -
    have hs82 : f 82 = .agg #[Nx (i.epoch + 1), Nx (i.next), sB (sla (f 78)) ([] ++ bs) (slc (f 78)), .slice none 0 0, Nx (24 + bs.length)] := k1
    refine ob_start (L' := pt b1 (.cells #[sB (sla (prt 0 (prt 0 (fa37 64)))) K4.head (slc (prt 0 (prt 0 (fa37 64)))), sB (sla (prt 1 (prt 0 (fa25 46)))) K4.a (slc (prt 1 (prt 0 (fa25 46)))), sB (sla (prt 2 (prt 0 (fa25 46)))) K4.b (slc (prt 2 (prt 0 (fa25 46)))), Ix (K4.power), Nx (i.epoch), Nx (i.next), sB ps i.state cs, sB pr i.recs (cr), Nx (i.size), .bool false] 56) :: M) (by rfl) (up_cons (up_cons (d := 83) rfl k0) hs82) ?_
    refine lu (m_store 0 tf142 (cs' := #[sB (sla (prt 0 (prt 0 (fa37 64)))) K4.head (slc (prt 0 (prt 0 (fa37 64)))), sB (sla (prt 1 (prt 0 (fa25 46)))) K4.a (slc (prt 1 (prt 0 (fa25 46)))), sB (sla (prt 2 (prt 0 (fa25 46)))) K4.b (slc (prt 2 (prt 0 (fa25 46)))), Ix (K4.power), Nx (i.epoch + 1), Nx (i.next), sB (sla (f 78)) ([] ++ bs) (slc (f 78)), .slice none 0 0, Nx (24 + bs.length), .bool false]) rfl rfl rfl rfl rfl rfl rfl) ?_
    refine l_nil ?_
    exact f_owes_n (up_cons (up_cons (d := 83) rfl k0) hs82) trivial (perm_front 0 rfl)
   rintro fa45 ⟨-, -, -, -, -, -, -, -, -, -, -, -, -, -⟩ ⟨j0, j1, -⟩
   refine f_re (L' := [pt b2 (.cells #[.slice none 0 0, .slice none 0 0, .slice none 0 0, .int .i64 (0), .int .i64 (0), .int .i64 (0), .slice none 0 0, .slice none 0 0, .int .i64 (0), .bool false] 56), rB (sla (fa25 45)) (formB ((i.epoch + 1 : Nat) : Int) ((i.next : Nat) : Int) bs) (slc (fa25 45)), rB (sla (fa37 63)) (be 8 (U ((i.epoch + 1 : Nat) : Int)) ++ be 8 (tickU ((i.epoch + 1 : Nat) : Int))) (slc (fa37 63)), rB (sla (prt 0 (prt 0 (fa37 64)))) K4.head (slc (prt 0 (prt 0 (fa37 64)))), rB (sla (prt 1 (prt 0 (fa25 46)))) K4.a (slc (prt 1 (prt 0 (fa25 46)))), rB (sla (prt 2 (prt 0 (fa25 46)))) K4.b (slc (prt 2 (prt 0 (fa25 46)))), pt b11 (.cells #[sB (sla (prt 0 (prt 0 (fa37 64)))) K4.head (slc (prt 0 (prt 0 (fa37 64)))), sB (sla (prt 1 (prt 0 (fa25 46)))) K4.a (slc (prt 1 (prt 0 (fa25 46)))), sB (sla (prt 2 (prt 0 (fa25 46)))) K4.b (slc (prt 2 (prt 0 (fa25 46)))), Ix (K4.power)] 32), rB (sla (fa45 78)) ([] ++ bs) (slc (fa45 78)), pt b1 (.cells #[sB (sla (prt 0 (prt 0 (fa37 64)))) K4.head (slc (prt 0 (prt 0 (fa37 64)))), sB (sla (prt 1 (prt 0 (fa25 46)))) K4.a (slc (prt 1 (prt 0 (fa25 46)))), sB (sla (prt 2 (prt 0 (fa25 46)))) K4.b (slc (prt 2 (prt 0 (fa25 46)))), Ix (K4.power), Nx (i.epoch + 1), Nx (i.next), sB (sla (fa45 78)) ([] ++ bs) (slc (fa45 78)), .slice none 0 0, Nx (24 + bs.length), .bool false] 56)]) (by rfl) ?_
   refine f_rebase (d := 2) j0 ?_
   refine f_rebase (d := 4) j1 ?_
   refine ftc ?_
   refine lv (v := .agg #[sB (sla (prt 0 (prt 0 (fa37 64)))) K4.head (slc (prt 0 (prt 0 (fa37 64)))), sB (sla (prt 1 (prt 0 (fa25 46)))) K4.a (slc (prt 1 (prt 0 (fa25 46)))), sB (sla (prt 2 (prt 0 (fa25 46)))) K4.b (slc (prt 2 (prt 0 (fa25 46)))), Ix (K4.power), Nx (i.epoch + 1), Nx (i.next), sB (sla (fa45 78)) ([] ++ bs) (slc (fa45 78)), .slice none 0 0, Nx (24 + bs.length), .bool false]) (e_load tf154 rfl (k_pt 8 rfl rfl) rfl) ?_
   refine lu (m_store 0 tf154 (cs' := #[sB (sla (prt 0 (prt 0 (fa37 64)))) K4.head (slc (prt 0 (prt 0 (fa37 64)))), sB (sla (prt 1 (prt 0 (fa25 46)))) K4.a (slc (prt 1 (prt 0 (fa25 46)))), sB (sla (prt 2 (prt 0 (fa25 46)))) K4.b (slc (prt 2 (prt 0 (fa25 46)))), Ix (K4.power), Nx (i.epoch + 1), Nx (i.next), sB (sla (fa45 78)) ([] ++ bs) (slc (fa45 78)), .slice none 0 0, Nx (24 + bs.length), .bool false]) rfl rfl rfl rfl rfl rfl rfl) ?_
   refine lv e_assign ?_
   refine lnf ?_
   refine c_ret ?_
   refine retG (m := [.agg #[sB (sla (prt 0 (prt 0 (fa37 64)))) K4.head (slc (prt 0 (prt 0 (fa37 64)))), sB (sla (prt 1 (prt 0 (fa25 46)))) K4.a (slc (prt 1 (prt 0 (fa25 46)))), sB (sla (prt 2 (prt 0 (fa25 46)))) K4.b (slc (prt 2 (prt 0 (fa25 46)))), Ix (K4.power), Nx (i.epoch + 1), Nx (i.next), sB (sla (fa45 78)) ([] ++ bs) (slc (fa45 78)), .slice none 0 0, Nx (24 + bs.length), .bool false], .int .i64 (0)]) Try.results25 ⟨rd_cell tf154 rfl (k_pt 0 rfl rfl) rfl, rd_tmp (v := .int .i64 (0)) rfl, trivial⟩ rfl ?_
   intro w hw
   have h3 : ckOk3 k (i.epoch + 1) i.next bs := by unfold ckOk3; rw [← hK3]; exact Decidable.not_not.1 hc38
   have hw2 := st_mask [true, true, true, true, false, false, false, false, false] rfl (hw.perm (L' := [rB (sla (prt 0 (prt 0 (fa37 64)))) K4.head (slc (prt 0 (prt 0 (fa37 64)))), rB (sla (prt 1 (prt 0 (fa25 46)))) K4.a (slc (prt 1 (prt 0 (fa25 46)))), rB (sla (prt 2 (prt 0 (fa25 46)))) K4.b (slc (prt 2 (prt 0 (fa25 46)))), rB (sla (fa45 78)) ([] ++ bs) (slc (fa45 78)), pt b2 (.cells #[sB (sla (prt 0 (prt 0 (fa37 64)))) K4.head (slc (prt 0 (prt 0 (fa37 64)))), sB (sla (prt 1 (prt 0 (fa25 46)))) K4.a (slc (prt 1 (prt 0 (fa25 46)))), sB (sla (prt 2 (prt 0 (fa25 46)))) K4.b (slc (prt 2 (prt 0 (fa25 46)))), Ix (K4.power), Nx (i.epoch + 1), Nx (i.next), sB (sla (fa45 78)) ([] ++ bs) (slc (fa45 78)), .slice none 0 0, Nx (24 + bs.length), .bool false] 56), rB (sla (fa25 45)) (formB ((i.epoch + 1 : Nat) : Int) ((i.next : Nat) : Int) bs) (slc (fa25 45)), rB (sla (fa37 63)) (be 8 (U ((i.epoch + 1 : Nat) : Int)) ++ be 8 (tickU ((i.epoch + 1 : Nat) : Int))) (slc (fa37 63)), pt b11 (.cells #[sB (sla (prt 0 (prt 0 (fa37 64)))) K4.head (slc (prt 0 (prt 0 (fa37 64)))), sB (sla (prt 1 (prt 0 (fa25 46)))) K4.a (slc (prt 1 (prt 0 (fa25 46)))), sB (sla (prt 2 (prt 0 (fa25 46)))) K4.b (slc (prt 2 (prt 0 (fa25 46)))), Ix (K4.power)] 32), pt b1 (.cells #[sB (sla (prt 0 (prt 0 (fa37 64)))) K4.head (slc (prt 0 (prt 0 (fa37 64)))), sB (sla (prt 1 (prt 0 (fa25 46)))) K4.a (slc (prt 1 (prt 0 (fa25 46)))), sB (sla (prt 2 (prt 0 (fa25 46)))) K4.b (slc (prt 2 (prt 0 (fa25 46)))), Ix (K4.power), Nx (i.epoch + 1), Nx (i.next), sB (sla (fa45 78)) ([] ++ bs) (slc (fa45 78)), .slice none 0 0, Nx (24 + bs.length), .bool false] 56)]) (by exact (perm_ix [3, 4, 5, 7, 0, 1, 2, 6, 8] 9 rfl (by kernel_rfl) (by kernel_rfl))))
   rw [eK]
   exact .inr ⟨⟨h1, h2, h3⟩, _, _, _, _, _, _, _, _, rfl, hw2⟩
  refine csk ?_
  refine c_seq ?_
  have h1 : ckOk1 k (i.epoch + 1) := Decidable.not_not.1 hc12
  have h2 : ¬ ckOk2 k (i.epoch + 1) i.next bs := by have q := Decidable.not_not.1 hc26; rw [hK1] at q; exact q
  have eK : ckS k (i.epoch + 1) i.next bs = K2 := by rw [ckS, if_pos h1, if_neg h2, e2]
  refine c_region ?_
  refine lv (v := .agg #[sB pH5 K2.head cH8, sB (sla (prt 1 (prt 0 (fa25 46)))) K2.a (slc (prt 1 (prt 0 (fa25 46)))), sB (sla (prt 2 (prt 0 (fa25 46)))) K2.b (slc (prt 2 (prt 0 (fa25 46)))), Ix (K2.power)]) (e_load tf56 rfl (k_pt 6 rfl rfl) rfl) ?_
  refine lv (e_fieldPt rfl tf158) ?_
  refine lu (m_store 1 tf56 (cs' := #[sB pH5 K2.head cH8, sB (sla (prt 1 (prt 0 (fa25 46)))) K2.a (slc (prt 1 (prt 0 (fa25 46)))), sB (sla (prt 2 (prt 0 (fa25 46)))) K2.b (slc (prt 2 (prt 0 (fa25 46)))), Ix (K2.power), Nx (i.epoch), Nx (i.next), sB ps i.state cs, sB pr i.recs (cr), Nx (i.size), .bool false]) rfl rfl rfl rfl rfl rfl rfl) ?_
  refine lnf ?_
  refine cs2 ?_
  refine c_region ?_
  refine lv e_move ?_
  refine lnf ?_
  refine c_if (¬ wrOk K1.power (formB ((i.epoch + 1 : Nat) : Int) ((i.next : Nat) : Int) bs)) rfl (fun hc46 => ?_) (fun hc46 => ?_)
  ·refine csr ?_
   refine lv (e_fieldPt rfl tf157) ?_
   refine lu (m_store 1 tf40 (cs' := #[sB pH5 K2.head cH8, sB (sla (prt 1 (prt 0 (fa25 46)))) K2.a (slc (prt 1 (prt 0 (fa25 46)))), sB (sla (prt 2 (prt 0 (fa25 46)))) K2.b (slc (prt 2 (prt 0 (fa25 46)))), Ix (K2.power), Nx (i.epoch), Nx (i.next), sB ps i.state cs, sB pr i.recs (cr), Nx (i.size), .bool true]) rfl rfl rfl rfl rfl rfl rfl) ?_
   refine lnc ?_
   refine lv (v := .agg #[sB pH5 K2.head cH8, sB (sla (prt 1 (prt 0 (fa25 46)))) K2.a (slc (prt 1 (prt 0 (fa25 46)))), sB (sla (prt 2 (prt 0 (fa25 46)))) K2.b (slc (prt 2 (prt 0 (fa25 46)))), Ix (K2.power), Nx (i.epoch), Nx (i.next), sB ps i.state cs, sB pr i.recs (cr), Nx (i.size), .bool true]) (e_load tf154 rfl (k_pt 1 rfl rfl) rfl) ?_
   refine lu (m_store 0 tf154 (cs' := #[sB pH5 K2.head cH8, sB (sla (prt 1 (prt 0 (fa25 46)))) K2.a (slc (prt 1 (prt 0 (fa25 46)))), sB (sla (prt 2 (prt 0 (fa25 46)))) K2.b (slc (prt 2 (prt 0 (fa25 46)))), Ix (K2.power), Nx (i.epoch), Nx (i.next), sB ps i.state cs, sB pr i.recs (cr), Nx (i.size), .bool true]) rfl rfl rfl rfl rfl rfl rfl) ?_
   refine lv e_assign ?_
   refine lnf ?_
   refine c_ret ?_
   refine f_then_ret ?_
   refine retG (m := [.agg #[sB pH5 K2.head cH8, sB (sla (prt 1 (prt 0 (fa25 46)))) K2.a (slc (prt 1 (prt 0 (fa25 46)))), sB (sla (prt 2 (prt 0 (fa25 46)))) K2.b (slc (prt 2 (prt 0 (fa25 46)))), Ix (K2.power), Nx (i.epoch), Nx (i.next), sB ps i.state cs, sB pr i.recs (cr), Nx (i.size), .bool true], .int .i64 (310)]) Try.results25 ⟨rd_cell tf154 rfl (k_pt 0 rfl rfl) rfl, rd_tmp (v := .int .i64 (310)) rfl, trivial⟩ rfl ?_
   intro w hw
   have hw2 := st_mask [true, true, true, false, false, false, false] rfl (hw.perm (L' := [rB pH5 K2.head cH8, rB (sla (prt 1 (prt 0 (fa25 46)))) K2.a (slc (prt 1 (prt 0 (fa25 46)))), rB (sla (prt 2 (prt 0 (fa25 46)))) K2.b (slc (prt 2 (prt 0 (fa25 46)))), pt b2 (.cells #[sB pH5 K2.head cH8, sB (sla (prt 1 (prt 0 (fa25 46)))) K2.a (slc (prt 1 (prt 0 (fa25 46)))), sB (sla (prt 2 (prt 0 (fa25 46)))) K2.b (slc (prt 2 (prt 0 (fa25 46)))), Ix (K2.power), Nx (i.epoch), Nx (i.next), sB ps i.state cs, sB pr i.recs (cr), Nx (i.size), .bool true] 56), pt b1 (.cells #[sB pH5 K2.head cH8, sB (sla (prt 1 (prt 0 (fa25 46)))) K2.a (slc (prt 1 (prt 0 (fa25 46)))), sB (sla (prt 2 (prt 0 (fa25 46)))) K2.b (slc (prt 2 (prt 0 (fa25 46)))), Ix (K2.power), Nx (i.epoch), Nx (i.next), sB ps i.state cs, sB pr i.recs (cr), Nx (i.size), .bool true] 56), rB (sla (fa25 45)) (formB ((i.epoch + 1 : Nat) : Int) ((i.next : Nat) : Int) bs) (slc (fa25 45)), pt b11 (.cells #[sB pH5 K2.head cH8, sB (sla (prt 1 (prt 0 (fa25 46)))) K2.a (slc (prt 1 (prt 0 (fa25 46)))), sB (sla (prt 2 (prt 0 (fa25 46)))) K2.b (slc (prt 2 (prt 0 (fa25 46)))), Ix (K2.power)] 32)]) (by exact (perm_ix [3, 4, 5, 0, 1, 2, 6] 7 rfl (by kernel_rfl) (by kernel_rfl))))
   rw [eK]
   exact .inl ⟨fun q => h2 q.2.1, _, _, _, _, _, _, rfl, hw2⟩
  exact absurd (Decidable.not_not.1 hc26) hc46
 refine csk ?_
 refine cs2 ?_
 refine c_region ?_
 refine lv e_move ?_
 refine lv (v := .bool (decide (¬ (¬ cutOk (k.area (i.epoch + 1)) k.power 0)))) (e_not_p (p := ¬ cutOk (k.area (i.epoch + 1)) k.power 0) rfl) ?_
 refine lnf ?_
 refine c_if (¬ (¬ cutOk (k.area (i.epoch + 1)) k.power 0)) rfl (fun hc47 => ?_) (fun hc47 => ?_)
 ·exact absurd hc47 hc12
 refine csk ?_
 refine c_seq ?_
 have h1 : ¬ ckOk1 k (i.epoch + 1) := Decidable.not_not.1 hc47
 have eK : ckS k (i.epoch + 1) i.next bs = K1 := by rw [ckS, if_neg h1, hK1]; exact (cut_no h1).symm
 refine c_region ?_
 refine lv (v := .agg #[sB pH5 K1.head cH8, sB pA6 K1.a cA9, sB pB7 K1.b cB10, Ix (K1.power)]) (e_load tf56 rfl (k_pt 0 rfl rfl) rfl) ?_
 refine lv (e_fieldPt rfl tf158) ?_
 refine lu (m_store 5 tf56 (cs' := #[sB pH5 K1.head cH8, sB pA6 K1.a cA9, sB pB7 K1.b cB10, Ix (K1.power), Nx (i.epoch), Nx (i.next), sB ps i.state cs, sB pr i.recs (cr), Nx (i.size), .bool false]) rfl rfl rfl rfl rfl rfl rfl) ?_
 refine lnf ?_
 refine cs2 ?_
 refine c_region ?_
 refine lv e_move ?_
 refine lnf ?_
 refine c_if (¬ cutOk (k.area (i.epoch + 1)) k.power 0) rfl (fun hc48 => ?_) (fun hc48 => ?_)
 ·refine csr ?_
  refine lv (e_fieldPt rfl tf157) ?_
  refine lu (m_store 5 tf40 (cs' := #[sB pH5 K1.head cH8, sB pA6 K1.a cA9, sB pB7 K1.b cB10, Ix (K1.power), Nx (i.epoch), Nx (i.next), sB ps i.state cs, sB pr i.recs (cr), Nx (i.size), .bool true]) rfl rfl rfl rfl rfl rfl rfl) ?_
  refine lnc ?_
  refine lv (v := .agg #[sB pH5 K1.head cH8, sB pA6 K1.a cA9, sB pB7 K1.b cB10, Ix (K1.power), Nx (i.epoch), Nx (i.next), sB ps i.state cs, sB pr i.recs (cr), Nx (i.size), .bool true]) (e_load tf154 rfl (k_pt 5 rfl rfl) rfl) ?_
  refine lu (m_store 4 tf154 (cs' := #[sB pH5 K1.head cH8, sB pA6 K1.a cA9, sB pB7 K1.b cB10, Ix (K1.power), Nx (i.epoch), Nx (i.next), sB ps i.state cs, sB pr i.recs (cr), Nx (i.size), .bool true]) rfl rfl rfl rfl rfl rfl rfl) ?_
  refine lv e_assign ?_
  refine lnf ?_
  refine c_ret ?_
  refine f_then_ret ?_
  refine retG (m := [.agg #[sB pH5 K1.head cH8, sB pA6 K1.a cA9, sB pB7 K1.b cB10, Ix (K1.power), Nx (i.epoch), Nx (i.next), sB ps i.state cs, sB pr i.recs (cr), Nx (i.size), .bool true], .int .i64 (310)]) Try.results25 ⟨rd_cell tf154 rfl (k_pt 4 rfl rfl) rfl, rd_tmp (v := .int .i64 (310)) rfl, trivial⟩ rfl ?_
  intro w hw
  have hw2 := st_mask [true, true, true, false, false, false] rfl (hw.perm (L' := [rB pH5 K1.head cH8, rB pA6 K1.a cA9, rB pB7 K1.b cB10, pt b11 (.cells #[sB pH5 K1.head cH8, sB pA6 K1.a cA9, sB pB7 K1.b cB10, Ix (K1.power)] 32), pt b2 (.cells #[sB pH5 K1.head cH8, sB pA6 K1.a cA9, sB pB7 K1.b cB10, Ix (K1.power), Nx (i.epoch), Nx (i.next), sB ps i.state cs, sB pr i.recs (cr), Nx (i.size), .bool true] 56), pt b1 (.cells #[sB pH5 K1.head cH8, sB pA6 K1.a cA9, sB pB7 K1.b cB10, Ix (K1.power), Nx (i.epoch), Nx (i.next), sB ps i.state cs, sB pr i.recs (cr), Nx (i.size), .bool true] 56)]) (by exact (perm_ix [1, 2, 3, 0, 4, 5] 6 rfl (by kernel_rfl) (by kernel_rfl))))
  rw [eK]
  exact .inl ⟨fun q => h1 q.1, _, _, _, _, _, _, rfl, hw2⟩
 exact absurd (Decidable.not_not.1 hc47) hc48
end Go.Proofs
