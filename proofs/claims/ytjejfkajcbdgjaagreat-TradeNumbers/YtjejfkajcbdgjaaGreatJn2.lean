/-
 Power, writing, cutting. Printed by a program of my own.
-/
import Derived.Test.YtjejfkajcbdgjaaGreatJn1
import Derived.Test.YtjejfkajcbdgjaaGreatJnMem
namespace Go.Proofs
open Go Go.Sl Go.Jn
theorem pl_le (p : Int) (j : Nat) : pl p j ≤ p := by unfold pl; split <;> omega
theorem pl_zero (p : Int) : pl p 0 = p := by unfold pl; split <;> omega
theorem cutA_id {xs : Bs} {p : Int} {size : Nat} (h : xs.length ≤ size) : cutA xs p size = xs := by
 unfold cutA; split
 ·rfl
 ·exact List.take_of_length_le h
theorem cutP_id {xs : Bs} {p : Int} {size : Nat} (h : xs.length ≤ size) : cutP xs p size = p := if_neg (by omega)
def readyE (dn : Bool) (bs : Bs) : Int := if 65536 < bs.length then 3 else if dn = true then 310 else 0
theorem tf30 : fldB Tryz.prog 143 0 0 1 false = true := by kernel_rfl
theorem tf31 : tyB Tryz.prog 26 false 1 = true := by kernel_rfl
theorem tf32 : stB Tryz.prog 185 [] = true := by kernel_rfl
theorem tf33 : (Tryz.prog.info? 185).bind (·.zero) = some (.agg #[]) := by kernel_rfl
theorem tf34 : ifcB Tryz.prog 185 = true := by kernel_rfl
theorem tf35 : cfB Tryz.prog 106 = true := by kernel_rfl
theorem tf36 : Tryz.prog.underlying 89 = some (.pointer (Tryz.prog.pointee 89)) := by kernel_rfl
theorem tf37 : Tryz.prog.underlying 26 = some (.pointer (Tryz.prog.pointee 26)) := by kernel_rfl
theorem tf38 : cfB Tryz.prog 103 = true := by kernel_rfl
theorem tf39 : fldB Tryz.prog 143 2 6 1 false = true := by kernel_rfl
theorem tf40 : tyB Tryz.prog 4 false 1 = true := by kernel_rfl
theorem spend_ok (β : Base) (w : World) (J S : Nat) (hJ : Cs β.heap ⟨J, 0, none⟩ [.pointer (some ⟨S, 0, none⟩)]) (x0 x1 x2 : Value) (p : Int) (hp : p ≤ 9223372036854775807) (hw : St β [pt S (.cells #[x0, x1, x2, Ix (p)] 29)] w) : Calls Tryz.prog 106 #[.pointer (some ⟨J, 0, none⟩)] w fun r w' => (r = .panicked chP ∧ p = 0 ∧ St β [pt S (.cells #[x0, x1, x2, Ix (p)] 29)] w') ∨ (r = .returned (.tuple #[]) ∧ p ≠ 0 ∧ St β [pt S (.cells #[x0, x1, x2, Ix (spendP p)] 29)] w') := by
 refine enter (n := 32) Tryz.func106 rfl Tryz.ntmps106 rfl ?_ hw
 refine c_block ?_
 refine c_seq ?_
 refine c_region ?_
 refine l_val (v := .pointer (some (⟨J, 0, none⟩))) rfl rfl rfl (e_move) ?_
 refine l_val (v := .pointer (some (⟨J, 0, none⟩))) rfl rfl rfl (e_nil (a := ⟨J, 0, none⟩) rfl) ?_
 refine l_val (v := .pointer (some ((⟨J, 0, none⟩ : Addr).add 0))) rfl rfl rfl (e_fieldAddr (a := ⟨J, 0, none⟩) rfl tf30) ?_
 refine l_val (v := .pointer (some ⟨S, 0, none⟩)) rfl rfl rfl (e_load1 tf31 (v := .pointer (some ⟨S, 0, none⟩)) rfl (Knows.imp (Knows.of_base (Cs.mono _ _) hJ) (fun _ h => Cs.sub (vs := [.pointer (some ⟨S, 0, none⟩)]) 0 h rfl))) ?_
 refine l_val (v := .pointer (some ⟨S, 0, none⟩)) rfl rfl rfl (e_nil (a := ⟨S, 0, none⟩) rfl) ?_
 refine l_val (v := .pointer (some ⟨S, 3, none⟩)) rfl rfl rfl (e_fieldPt (b := S) (o := 0) rfl tf24) ?_
 refine l_val (v := Ix (p)) rfl rfl rfl (e_load1 tf25 (v := Ix (p)) rfl (k_pt 0 (cs := #[x0, x1, x2, Ix (p)]) (vs := [Ix (p)]) rfl rfl)) ?_
 refine l_val (v := .bool (decide ((p) = (0 : Int)))) rfl rfl rfl (e_eql (a := (p)) (b := (0 : Int)) rfl rfl) ?_
 refine l_val (v := .bool (decide ((p) = (0 : Int)))) rfl rfl rfl (e_assign) ?_
 refine l_nil ?_
 refine f_then ?_
 refine c_if ((p) = (0 : Int)) rfl (fun hc1 => ?_) (fun hc1 => ?_)
 ·
  refine c_region ?_
  refine l_val (v := .agg #[]) rfl rfl rfl (e_build tf33 tf32 (vs := []) (cells := #[]) rfl rfl) ?_
  refine l_val (v := .iface 185 (.agg #[])) rfl rfl rfl (e_iface (v := .agg #[]) tf34 rfl) ?_
  refine l_panic (t := 185) (v := (.agg #[])) rfl ?_
  refine f_block_panic ?_
  refine panR ?_
  intro w hw
  exact .inl ⟨rfl, by omega, st_mask [true] rfl hw⟩
 ·
  refine c_seq ?_
  refine c_region ?_
  refine l_val (v := .pointer (some (⟨J, 0, none⟩))) rfl rfl rfl (e_move) ?_
  refine l_val (v := .pointer (some (⟨J, 0, none⟩))) rfl rfl rfl (e_nil (a := ⟨J, 0, none⟩) rfl) ?_
  refine l_val (v := .pointer (some ((⟨J, 0, none⟩ : Addr).add 0))) rfl rfl rfl (e_fieldAddr (a := ⟨J, 0, none⟩) rfl tf30) ?_
  refine l_val (v := .pointer (some ⟨S, 0, none⟩)) rfl rfl rfl (e_load1 tf31 (v := .pointer (some ⟨S, 0, none⟩)) rfl (Knows.imp (Knows.of_base (Cs.mono _ _) hJ) (fun _ h => Cs.sub (vs := [.pointer (some ⟨S, 0, none⟩)]) 0 h rfl))) ?_
  refine l_val (v := .pointer (some ⟨S, 0, none⟩)) rfl rfl rfl (e_nil (a := ⟨S, 0, none⟩) rfl) ?_
  refine l_val (v := .pointer (some ⟨S, 3, none⟩)) rfl rfl rfl (e_fieldPt (b := S) (o := 0) rfl tf24) ?_
  refine l_val (v := Ix (p)) rfl rfl rfl (e_load1 tf25 (v := Ix (p)) rfl (k_pt 0 (cs := #[x0, x1, x2, Ix (p)]) (vs := [Ix (p)]) rfl rfl)) ?_
  refine l_val (v := .bool (decide ((0 : Int) < (p)))) rfl rfl rfl (e_gtr (a := (p)) (b := (0 : Int)) rfl rfl) ?_
  refine l_val (v := .bool (decide ((0 : Int) < (p)))) rfl rfl rfl (e_assign) ?_
  refine l_nil ?_
  refine f_then ?_
  refine c_if ((0 : Int) < (p)) rfl (fun hc2 => ?_) (fun hc2 => ?_)
  ·
   refine c_region ?_
   refine l_val (v := .pointer (some (⟨J, 0, none⟩))) rfl rfl rfl (e_move) ?_
   refine l_val (v := .pointer (some (⟨J, 0, none⟩))) rfl rfl rfl (e_nil (a := ⟨J, 0, none⟩) rfl) ?_
   refine l_val (v := .pointer (some ((⟨J, 0, none⟩ : Addr).add 0))) rfl rfl rfl (e_fieldAddr (a := ⟨J, 0, none⟩) rfl tf30) ?_
   refine l_val (v := .pointer (some ⟨S, 0, none⟩)) rfl rfl rfl (e_load1 tf31 (v := .pointer (some ⟨S, 0, none⟩)) rfl (Knows.imp (Knows.of_base (Cs.mono _ _) hJ) (fun _ h => Cs.sub (vs := [.pointer (some ⟨S, 0, none⟩)]) 0 h rfl))) ?_
   refine l_val (v := .pointer (some ⟨S, 0, none⟩)) rfl rfl rfl (e_nil (a := ⟨S, 0, none⟩) rfl) ?_
   refine l_val (v := .pointer (some ⟨S, 3, none⟩)) rfl rfl rfl (e_fieldPt (b := S) (o := 0) rfl tf24) ?_
   refine l_val (v := Ix (p)) rfl rfl rfl (e_load1 tf25 (v := Ix (p)) rfl (k_pt 0 (cs := #[x0, x1, x2, Ix (p)]) (vs := [Ix (p)]) rfl rfl)) ?_
   refine l_val (v := Ix ((p) - (1 : Int))) rfl rfl rfl (e_sub (a := (p)) (b := (1 : Int)) rfl rfl (i64w (by omega))) ?_
   refine l_val (v := .pointer (some ⟨S, 0, none⟩)) rfl rfl rfl (e_nil (a := ⟨S, 0, none⟩) rfl) ?_
   refine l_val (v := .pointer (some ⟨S, 3, none⟩)) rfl rfl rfl (e_fieldPt (b := S) (o := 0) rfl tf24) ?_
   refine l_mu rfl rfl (m_store 0 tf25 (b := S) (o := 3) (T := 29) (cs := #[x0, x1, x2, Ix (p)]) (cs' := #[x0, x1, x2, Ix ((p) - (1 : Int))]) (v := Ix ((p) - (1 : Int))) rfl rfl rfl rfl rfl rfl rfl) ?_
   refine l_nil ?_
   refine f_block ?_
   refine end0 Tryz.results106 ?_
   intro w hw
   exact .inr ⟨rfl, by omega, by unfold spendP; rw [if_pos (by omega)]; exact st_mask [true] rfl hw⟩
  ·
   refine c_skip ?_
   refine f_block ?_
   refine end0 Tryz.results106 ?_
   intro w hw
   exact .inr ⟨rfl, by omega, by unfold spendP; rw [if_neg (by omega)]; exact st_mask [true] rfl hw⟩
set_option maxHeartbeats 4000000 in
theorem writeA_ok (β : Base) (w : World) (J S : Nat) (hJ : Cs β.heap ⟨J, 0, none⟩ [.pointer (some ⟨S, 0, none⟩)]) (k : KS) (hk : k.head.length ≤ 1048576 ∧ k.a.length ≤ 1048576 ∧ k.b.length ≤ 1048576 ∧ k.power ≤ 9223372036854775807) (at_ : Nat) (hat : at_ ≤ 1048576) (bs : Bs) (v : Value) (hb : bs.length ≤ 1048576) (hs : Sl U8R β.heap v bs) (hw : St β [storeR S k] w) : Calls Tryz.prog 64 #[.pointer (some ⟨J, 0, none⟩), .pointer (some ⟨S, 1, none⟩), Nx at_, v] w fun r w' => (r = .panicked chP ∧ ¬ wrOk k.power bs ∧ St β [storeR S { k with a := wrA k.a k.power at_ bs, power := pl k.power bs.length }] w') ∨ (r = .returned (.tuple #[]) ∧ wrOk k.power bs ∧ St β [storeR S { k with a := wrA k.a k.power at_ bs, power := pl k.power bs.length }] w') := by
 obtain ⟨va, vc, rfl, vl, vm, ve⟩ := hs.get
 obtain ⟨pH, pA, pB, cH, cA, cB, hw⟩ := St.openStore hw
 refine enter (n := 44) Tryz.func64 rfl Tryz.ntmps64 rfl ?_ hw
 refine c_seq ?_
 refine c_region ?_
 refine l_val (v := .slice va (bs.length) (vc)) rfl rfl rfl (e_move) ?_
 refine l_val (v := Nx (bs.length)) rfl rfl rfl (e_len (a := va) (n := bs.length) (c := vc) rfl tf11) ?_
 refine l_val (v := .int .i64 (0)) rfl rfl rfl (e_move) ?_
 refine l_nil ?_
 refine f_then ?_
 refine c_block ?_
 refine c_loop (fun (x_ : Nat × Bs × Option Addr × Nat) (f : Fm) (L : List Res) => match x_ with | (j, ys, p, c) => (f 0 = .pointer (some (⟨J, 0, none⟩)) ∧ f 1 = .pointer (some ⟨S, 1, none⟩) ∧ f 2 = Nx (at_) ∧ f 10 = .slice va (bs.length) (vc) ∧ f 11 = Nx (bs.length) ∧ f 12 = Nx (j)) ∧ L = [pt S (.cells #[.slice pH (k.head).length cH, .slice p (ys).length c, .slice pB (k.b).length cB, Ix (pl k.power j)] 29), row (.slice pH (k.head).length cH) 5 1 ((k.head).length) (BX k.head), row (.slice p (ys).length c) 5 1 ((ys).length) (BX ys), row (.slice pB (k.b).length cB) 5 1 ((k.b).length) (BX k.b)] ∧ (j ≤ pw k.power bs.length ∧ ys = wr k.a at_ (bs.take j))) (fun (x_ : Nat × Bs × Option Addr × Nat) => match x_ with | (j, ys, p, c) => bs.length - j) (0, k.a, pA, cA) ?_ ?_
 ·exact ⟨⟨rfl, rfl, rfl, rfl, rfl, rfl⟩, (by rw [pl_zero]; rfl), ⟨by omega, by simp [wr]⟩⟩
 rintro ⟨j, ys, p, c⟩ f0 L0 ⟨⟨hs0, hs1, hs2, hs10, hs11, hs12⟩, hL, ⟨hj, hys⟩⟩
 subst L0
 refine rebase (d := 0) hs0 ?_
 refine rebase (d := 1) hs1 ?_
 refine rebase (d := 2) hs2 ?_
 refine rebase (d := 10) hs10 ?_
 refine rebase (d := 11) hs11 ?_
 refine rebase (d := 12) hs12 ?_
 clear hs0 hs1 hs2 hs10 hs11 hs12
 have hyl : ys.length ≤ k.a.length + bs.length := by rw [hys]; refine Nat.le_trans wr_length ?_; simp; omega
 refine c_seq ?_
 refine c_region ?_
 refine l_val (v := .bool (decide (((j : Nat) : Int) < ((bs.length : Nat) : Int)))) rfl rfl rfl (e_lss (a := ((j : Nat) : Int)) (b := ((bs.length : Nat) : Int)) rfl rfl) ?_
 refine l_nil ?_
 refine f_then ?_
 refine c_seq ?_
 refine c_if (((j : Nat) : Int) < ((bs.length : Nat) : Int)) rfl (fun hc1 => ?_) (fun hc1 => ?_)
 ·
  have hc_ : j < bs.length := by omega
  refine c_skip ?_
  refine f_then ?_
  refine c_seq ?_
  refine c_block ?_
  refine c_seq ?_
  refine c_region ?_
  refine l_val (v := Nx (j)) rfl rfl rfl (e_move) ?_
  obtain ⟨x2, hx3⟩ : ∃ x_, (bs)[j]? = some x_ := ⟨_, List.getElem?_eq_getElem (by omega)⟩
  obtain ⟨ha4, cs5, hc6, rfl⟩ := ve _ _ hx3
  refine l_val (v := .pointer (some ((ba va).add (j * 1)))) rfl rfl rfl (e_indexAddr (k := j) (len := bs.length) (cap := vc) (a := va) rfl rfl tf12 (by omega) ha4) ?_
  refine l_val (v := Bx (x2)) rfl rfl rfl (e_load1 tf13 (v := Bx (x2)) rfl (Knows.of_base (Cs.mono _ _) hc6)) ?_
  refine l_val (v := Nx (j)) rfl rfl rfl (e_assign) ?_
  refine l_val (v := Bx (x2)) rfl rfl rfl (e_assign) ?_
  refine l_nil ?_
  refine f_then ?_
  refine c_seq ?_
  refine c_region ?_
  refine l_val (v := .pointer (some (⟨J, 0, none⟩))) rfl rfl rfl (e_move) ?_
  refine l_callP rfl rfl rfl (cl_value (fst := []) (cap := []) (vs := [.pointer (some (⟨J, 0, none⟩))]) (all := [.pointer (some (⟨J, 0, none⟩))]) tf35 rfl rfl rfl) ?_
  intro w hw
  replace hw := hw.perm (L' := _ :: _ :: _ :: _ :: []) (by exact ((((perm_front 3 rfl).trans (perm_front 3 rfl)).trans (perm_front 3 rfl)).trans (perm_front 3 rfl)))
  obtain ⟨β1, sb, kn, hw1, back⟩ := St.frame (L := [_]) (M := _ :: _ :: _ :: []) hw
  refine (spend_ok β1 w J S (Cs.mono _ _ _ _ sb hJ) (.slice pH (k.head).length cH) (.slice p (ys).length c) (.slice pB (k.b).length cB) (pl k.power j) (by have := pl_le k.power j; omega) hw1).mono ?_
  rintro e w' (⟨rfl, hp8, hw'⟩ | ⟨rfl, hp8, hw'⟩)
  ·
   refine .inl ⟨_, rfl, _, back _ _ hw', ?_⟩
   clear hw hw1 hw' back kn sb
   refine f_then_panic ?_
   refine f_block_panic ?_
   refine f_then_panic ?_
   refine f_then_panic ?_
   refine f_block_panic ?_
   refine panR ?_
   intro w hw
   obtain ⟨e1, e3⟩ := pw_stop hj hc_ hp8
   have e2 : ys = wrA k.a k.power at_ bs := by rw [hys, wrA, e1]
   subst e2
   rw [hp8, ← e3] at hw
   exact .inl ⟨rfl, by unfold wrOk; omega, St.closeStore (k := { k with a := wrA k.a k.power at_ bs, power := pl k.power bs.length }) (st_mask [true, true, true, true] rfl hw)⟩
  refine .inr ⟨_, rfl, _, back _ _ hw', ?_⟩
  clear hw hw1 hw' back kn sb
  refine l_nil ?_
  refine f_then ?_
  refine c_seq ?_
  have hpst := pw_step hj hc_ hp8
  refine c_region ?_
  refine l_val (v := Nx (at_)) rfl rfl rfl (e_move) ?_
  refine l_val (v := Nx (j)) rfl rfl rfl (e_move) ?_
  refine l_val (v := Nx (at_ + j)) rfl rfl rfl (e_add (a := ((at_ : Nat) : Int)) (b := ((j : Nat) : Int)) rfl rfl (i64n (by omega) (by omega))) ?_
  refine l_val (v := .pointer (some ⟨S, 1, none⟩)) rfl rfl rfl (e_move) ?_
  refine l_val (v := .pointer (some ⟨S, 1, none⟩)) rfl rfl rfl (e_nil (a := ⟨S, 1, none⟩) rfl) ?_
  refine l_val (v := .slice p (ys).length c) rfl rfl rfl (e_load1 tf21 (v := .slice p (ys).length c) rfl (k_pt 0 (cs := #[.slice pH (k.head).length cH, .slice p (ys).length c, .slice pB (k.b).length cB, Ix (spendP (pl k.power j))]) (vs := [.slice p (ys).length c]) rfl rfl)) ?_
  refine l_val (v := Nx ((ys).length)) rfl rfl rfl (e_len (a := p) (n := (ys).length) (c := c) rfl tf11) ?_
  refine l_val (v := .bool (decide (((at_ + j : Nat) : Int) < (((ys).length : Nat) : Int)))) rfl rfl rfl (e_lss (a := ((at_ + j : Nat) : Int)) (b := (((ys).length : Nat) : Int)) rfl rfl) ?_
  refine l_nil ?_
  refine f_then ?_
  refine c_if (((at_ + j : Nat) : Int) < (((ys).length : Nat) : Int)) rfl (fun hc9 => ?_) (fun hc9 => ?_)
  ·
   refine c_region ?_
   refine l_val (v := .pointer (some ⟨S, 1, none⟩)) rfl rfl rfl (e_move) ?_
   refine l_val (v := .pointer (some ⟨S, 1, none⟩)) rfl rfl rfl (e_nil (a := ⟨S, 1, none⟩) rfl) ?_
   refine l_val (v := .slice p (ys).length c) rfl rfl rfl (e_load1 tf21 (v := .slice p (ys).length c) rfl (k_pt 0 (cs := #[.slice pH (k.head).length cH, .slice p (ys).length c, .slice pB (k.b).length cB, Ix (spendP (pl k.power j))]) (vs := [.slice p (ys).length c]) rfl rfl)) ?_
   refine l_val (v := Nx (at_)) rfl rfl rfl (e_move) ?_
   refine l_val (v := Nx (j)) rfl rfl rfl (e_move) ?_
   refine l_val (v := Nx (at_ + j)) rfl rfl rfl (e_add (a := ((at_ : Nat) : Int)) (b := ((j : Nat) : Int)) rfl rfl (i64n (by omega) (by omega))) ?_
   refine l_val (v := Bx (x2)) rfl rfl rfl (e_move) ?_
   refine l_val (v := .pointer (some ((ba p).add ((at_ + j) * 1)))) rfl rfl rfl (e_indexRow 2 (j := at_ + j) (len := (ys).length) (cap := c) (p := p) rfl rfl tf12 (by omega) (by omega) rfl) ?_
   refine l_mu rfl rfl (m_storeRow 2 tf13 (o := (at_ + j) * 1) (v := Bx (x2)) rfl rfl rfl rfl rfl (by omega) (by omega)) ?_
   refine l_re (L' := [pt S (.cells #[.slice pH (k.head).length cH, .slice p ((ys.set (at_ + j) x2)).length c, .slice pB (k.b).length cB, Ix (spendP (pl k.power j))] 29), row (.slice pH (k.head).length cH) 5 1 ((k.head).length) (BX k.head), row (.slice p ((ys.set (at_ + j) x2)).length c) 5 1 (((ys.set (at_ + j) x2)).length) (BX (ys.set (at_ + j) x2)), row (.slice pB (k.b).length cB) 5 1 ((k.b).length) (BX k.b)]) (by show [pt S (.cells #[.slice pH (k.head).length cH, .slice p (ys).length c, .slice pB (k.b).length cB, Ix (spendP (pl k.power j))] 29), row (.slice pH (k.head).length cH) 5 1 ((k.head).length) (BX k.head), row (.slice p (ys).length c) 5 1 ((ys).length) ((overL (BX ys) ((at_ + j) * 1) [Bx (x2)])), row (.slice pB (k.b).length cB) 5 1 ((k.b).length) (BX k.b)] = _; rw [overL_bx (by omega)]; simp only [List.length_set]) ?_
   refine l_nil ?_
   refine f_block ?_
   refine f_then ?_
   refine c_region ?_
   refine l_val (v := Nx (j + 1)) rfl rfl rfl (e_add (a := ((j : Nat) : Int)) (b := (1 : Int)) rfl rfl (i64n (by omega) (by omega))) ?_
   refine l_val (v := Nx (j + 1)) rfl rfl rfl (e_move) ?_
   refine l_nil ?_
   exact f_cut ⟨(j + 1, (ys.set (at_ + j) x2), p, c), ⟨⟨rfl, rfl, rfl, rfl, rfl, rfl⟩, (by rw [hpst.2]), ⟨hpst.1, by rw [hys, wr_take hx3, if_pos (by rw [← hys]; omega)]⟩⟩, (show bs.length - (j + 1) < bs.length - j from by omega)⟩
  ·
   refine c_region ?_
   refine l_val (v := .pointer (some ⟨S, 1, none⟩)) rfl rfl rfl (e_move) ?_
   refine l_val (v := .pointer (some ⟨S, 1, none⟩)) rfl rfl rfl (e_move) ?_
   refine l_val (v := .pointer (some ⟨S, 1, none⟩)) rfl rfl rfl (e_nil (a := ⟨S, 1, none⟩) rfl) ?_
   refine l_val (v := .slice p (ys).length c) rfl rfl rfl (e_load1 tf21 (v := .slice p (ys).length c) rfl (k_pt 0 (cs := #[.slice pH (k.head).length cH, .slice p (ys).length c, .slice pB (k.b).length cB, Ix (spendP (pl k.power j))]) (vs := [.slice p (ys).length c]) rfl rfl)) ?_
   refine l_val (v := Bx (x2)) rfl rfl rfl (e_move) ?_
   refine l_mv rfl rfl rfl (m_slices tf12 tf14 (vs := [(0, Bx (x2))]) (cells := #[Bx (x2)]) rfl rfl rfl rfl) ?_
   rintro _ _ ⟨b10, rfl, rfl⟩
   refine l_mv rfl rfl rfl (m_appendE (enc := fun c : UInt8 => Bx c) 3 bx_cell tf12 tf15 (v := .slice p (ys).length c) (xs := ys) (ys := [x2]) (ao := some ⟨b10, 0, none⟩) (c := 1) rfl rfl (by first | rfl | simp) rfl (by first | rfl | simp) (k_ptE 0 (xs := [x2]) rfl) (by first | omega | (simp only [List.length_append, List.length_nil, List.length_cons, be_length] at *; omega)) (by first | omega | (simp only [List.length_append, List.length_nil, List.length_cons, be_length] at *; omega))) ?_
   rintro _ _ ⟨rp11, rc12, rfl, rfl⟩
   refine l_val (v := .pointer (some ⟨S, 1, none⟩)) rfl rfl rfl (e_nil (a := ⟨S, 1, none⟩) rfl) ?_
   refine l_mu rfl rfl (m_store 1 tf21 (b := S) (o := 1) (T := 29) (cs := #[.slice pH (k.head).length cH, .slice p (ys).length c, .slice pB (k.b).length cB, Ix (spendP (pl k.power j))]) (cs' := #[.slice pH (k.head).length cH, .slice rp11 (ys ++ [x2]).length rc12, .slice pB (k.b).length cB, Ix (spendP (pl k.power j))]) (v := .slice rp11 (ys ++ [x2]).length rc12) rfl rfl rfl rfl rfl rfl rfl) ?_
   refine l_nil ?_
   refine f_block ?_
   refine f_then ?_
   refine c_region ?_
   refine l_val (v := Nx (j + 1)) rfl rfl rfl (e_add (a := ((j : Nat) : Int)) (b := (1 : Int)) rfl rfl (i64n (by omega) (by omega))) ?_
   refine l_val (v := Nx (j + 1)) rfl rfl rfl (e_move) ?_
   refine l_nil ?_
   refine f_mask (L' := [pt S (.cells #[.slice pH (k.head).length cH, .slice rp11 (ys ++ [x2]).length rc12, .slice pB (k.b).length cB, Ix (spendP (pl k.power j))] 29), row (.slice pH (k.head).length cH) 5 1 ((k.head).length) (BX k.head), row (.slice rp11 (ys ++ [x2]).length rc12) 5 1 ((ys ++ [x2]).length) (BX (ys ++ [x2])), row (.slice pB (k.b).length cB) 5 1 ((k.b).length) (BX k.b)]) [false, true, true, true, true] rfl ?_
   exact f_cut ⟨(j + 1, ys ++ [x2], rp11, rc12), ⟨⟨rfl, rfl, rfl, rfl, rfl, rfl⟩, (by rw [hpst.2]), ⟨hpst.1, by rw [hys, wr_take hx3, if_neg (by rw [← hys]; omega)]⟩⟩, (show bs.length - (j + 1) < bs.length - j from by omega)⟩
 ·
  refine c_exit ?_
  refine f_then_exit ?_
  refine f_then_exit ?_
  refine f_exit ?_
  refine end0 Tryz.results64 ?_
  intro w hw
  obtain ⟨e1, rfl⟩ := pw_all hj (by omega)
  have e2 : ys = wrA k.a k.power at_ bs := by rw [hys, wrA, e1]
  subst e2
  exact .inr ⟨rfl, e1, St.closeStore (k := { k with a := wrA k.a k.power at_ bs, power := pl k.power bs.length }) (st_mask [true, true, true, true] rfl hw)⟩
set_option maxHeartbeats 4000000 in
theorem writeB_ok (β : Base) (w : World) (J S : Nat) (hJ : Cs β.heap ⟨J, 0, none⟩ [.pointer (some ⟨S, 0, none⟩)]) (k : KS) (hk : k.head.length ≤ 1048576 ∧ k.a.length ≤ 1048576 ∧ k.b.length ≤ 1048576 ∧ k.power ≤ 9223372036854775807) (at_ : Nat) (hat : at_ ≤ 1048576) (bs : Bs) (v : Value) (hb : bs.length ≤ 1048576) (hs : Sl U8R β.heap v bs) (hw : St β [storeR S k] w) : Calls Tryz.prog 64 #[.pointer (some ⟨J, 0, none⟩), .pointer (some ⟨S, 2, none⟩), Nx at_, v] w fun r w' => (r = .panicked chP ∧ ¬ wrOk k.power bs ∧ St β [storeR S { k with b := wrA k.b k.power at_ bs, power := pl k.power bs.length }] w') ∨ (r = .returned (.tuple #[]) ∧ wrOk k.power bs ∧ St β [storeR S { k with b := wrA k.b k.power at_ bs, power := pl k.power bs.length }] w') := by
 obtain ⟨va, vc, rfl, vl, vm, ve⟩ := hs.get
 obtain ⟨pH, pA, pB, cH, cA, cB, hw⟩ := St.openStore hw
 refine enter (n := 44) Tryz.func64 rfl Tryz.ntmps64 rfl ?_ hw
 refine c_seq ?_
 refine c_region ?_
 refine l_val (v := .slice va (bs.length) (vc)) rfl rfl rfl (e_move) ?_
 refine l_val (v := Nx (bs.length)) rfl rfl rfl (e_len (a := va) (n := bs.length) (c := vc) rfl tf11) ?_
 refine l_val (v := .int .i64 (0)) rfl rfl rfl (e_move) ?_
 refine l_nil ?_
 refine f_then ?_
 refine c_block ?_
 refine c_loop (fun (x_ : Nat × Bs × Option Addr × Nat) (f : Fm) (L : List Res) => match x_ with | (j, ys, p, c) => (f 0 = .pointer (some (⟨J, 0, none⟩)) ∧ f 1 = .pointer (some ⟨S, 2, none⟩) ∧ f 2 = Nx (at_) ∧ f 10 = .slice va (bs.length) (vc) ∧ f 11 = Nx (bs.length) ∧ f 12 = Nx (j)) ∧ L = [pt S (.cells #[.slice pH (k.head).length cH, .slice pA (k.a).length cA, .slice p (ys).length c, Ix (pl k.power j)] 29), row (.slice pH (k.head).length cH) 5 1 ((k.head).length) (BX k.head), row (.slice pA (k.a).length cA) 5 1 ((k.a).length) (BX k.a), row (.slice p (ys).length c) 5 1 ((ys).length) (BX ys)] ∧ (j ≤ pw k.power bs.length ∧ ys = wr k.b at_ (bs.take j))) (fun (x_ : Nat × Bs × Option Addr × Nat) => match x_ with | (j, ys, p, c) => bs.length - j) (0, k.b, pB, cB) ?_ ?_
 ·exact ⟨⟨rfl, rfl, rfl, rfl, rfl, rfl⟩, (by rw [pl_zero]; rfl), ⟨by omega, by simp [wr]⟩⟩
 rintro ⟨j, ys, p, c⟩ f0 L0 ⟨⟨hs0, hs1, hs2, hs10, hs11, hs12⟩, hL, ⟨hj, hys⟩⟩
 subst L0
 refine rebase (d := 0) hs0 ?_
 refine rebase (d := 1) hs1 ?_
 refine rebase (d := 2) hs2 ?_
 refine rebase (d := 10) hs10 ?_
 refine rebase (d := 11) hs11 ?_
 refine rebase (d := 12) hs12 ?_
 clear hs0 hs1 hs2 hs10 hs11 hs12
 have hyl : ys.length ≤ k.b.length + bs.length := by rw [hys]; refine Nat.le_trans wr_length ?_; simp; omega
 refine c_seq ?_
 refine c_region ?_
 refine l_val (v := .bool (decide (((j : Nat) : Int) < ((bs.length : Nat) : Int)))) rfl rfl rfl (e_lss (a := ((j : Nat) : Int)) (b := ((bs.length : Nat) : Int)) rfl rfl) ?_
 refine l_nil ?_
 refine f_then ?_
 refine c_seq ?_
 refine c_if (((j : Nat) : Int) < ((bs.length : Nat) : Int)) rfl (fun hc1 => ?_) (fun hc1 => ?_)
 ·
  have hc_ : j < bs.length := by omega
  refine c_skip ?_
  refine f_then ?_
  refine c_seq ?_
  refine c_block ?_
  refine c_seq ?_
  refine c_region ?_
  refine l_val (v := Nx (j)) rfl rfl rfl (e_move) ?_
  obtain ⟨x2, hx3⟩ : ∃ x_, (bs)[j]? = some x_ := ⟨_, List.getElem?_eq_getElem (by omega)⟩
  obtain ⟨ha4, cs5, hc6, rfl⟩ := ve _ _ hx3
  refine l_val (v := .pointer (some ((ba va).add (j * 1)))) rfl rfl rfl (e_indexAddr (k := j) (len := bs.length) (cap := vc) (a := va) rfl rfl tf12 (by omega) ha4) ?_
  refine l_val (v := Bx (x2)) rfl rfl rfl (e_load1 tf13 (v := Bx (x2)) rfl (Knows.of_base (Cs.mono _ _) hc6)) ?_
  refine l_val (v := Nx (j)) rfl rfl rfl (e_assign) ?_
  refine l_val (v := Bx (x2)) rfl rfl rfl (e_assign) ?_
  refine l_nil ?_
  refine f_then ?_
  refine c_seq ?_
  refine c_region ?_
  refine l_val (v := .pointer (some (⟨J, 0, none⟩))) rfl rfl rfl (e_move) ?_
  refine l_callP rfl rfl rfl (cl_value (fst := []) (cap := []) (vs := [.pointer (some (⟨J, 0, none⟩))]) (all := [.pointer (some (⟨J, 0, none⟩))]) tf35 rfl rfl rfl) ?_
  intro w hw
  replace hw := hw.perm (L' := _ :: _ :: _ :: _ :: []) (by exact ((((perm_front 3 rfl).trans (perm_front 3 rfl)).trans (perm_front 3 rfl)).trans (perm_front 3 rfl)))
  obtain ⟨β1, sb, kn, hw1, back⟩ := St.frame (L := [_]) (M := _ :: _ :: _ :: []) hw
  refine (spend_ok β1 w J S (Cs.mono _ _ _ _ sb hJ) (.slice pH (k.head).length cH) (.slice pA (k.a).length cA) (.slice p (ys).length c) (pl k.power j) (by have := pl_le k.power j; omega) hw1).mono ?_
  rintro e w' (⟨rfl, hp8, hw'⟩ | ⟨rfl, hp8, hw'⟩)
  ·
   refine .inl ⟨_, rfl, _, back _ _ hw', ?_⟩
   clear hw hw1 hw' back kn sb
   refine f_then_panic ?_
   refine f_block_panic ?_
   refine f_then_panic ?_
   refine f_then_panic ?_
   refine f_block_panic ?_
   refine panR ?_
   intro w hw
   obtain ⟨e1, e3⟩ := pw_stop hj hc_ hp8
   have e2 : ys = wrA k.b k.power at_ bs := by rw [hys, wrA, e1]
   subst e2
   rw [hp8, ← e3] at hw
   exact .inl ⟨rfl, by unfold wrOk; omega, St.closeStore (k := { k with b := wrA k.b k.power at_ bs, power := pl k.power bs.length }) (st_mask [true, true, true, true] rfl hw)⟩
  refine .inr ⟨_, rfl, _, back _ _ hw', ?_⟩
  clear hw hw1 hw' back kn sb
  refine l_nil ?_
  refine f_then ?_
  refine c_seq ?_
  have hpst := pw_step hj hc_ hp8
  refine c_region ?_
  refine l_val (v := Nx (at_)) rfl rfl rfl (e_move) ?_
  refine l_val (v := Nx (j)) rfl rfl rfl (e_move) ?_
  refine l_val (v := Nx (at_ + j)) rfl rfl rfl (e_add (a := ((at_ : Nat) : Int)) (b := ((j : Nat) : Int)) rfl rfl (i64n (by omega) (by omega))) ?_
  refine l_val (v := .pointer (some ⟨S, 2, none⟩)) rfl rfl rfl (e_move) ?_
  refine l_val (v := .pointer (some ⟨S, 2, none⟩)) rfl rfl rfl (e_nil (a := ⟨S, 2, none⟩) rfl) ?_
  refine l_val (v := .slice p (ys).length c) rfl rfl rfl (e_load1 tf21 (v := .slice p (ys).length c) rfl (k_pt 0 (cs := #[.slice pH (k.head).length cH, .slice pA (k.a).length cA, .slice p (ys).length c, Ix (spendP (pl k.power j))]) (vs := [.slice p (ys).length c]) rfl rfl)) ?_
  refine l_val (v := Nx ((ys).length)) rfl rfl rfl (e_len (a := p) (n := (ys).length) (c := c) rfl tf11) ?_
  refine l_val (v := .bool (decide (((at_ + j : Nat) : Int) < (((ys).length : Nat) : Int)))) rfl rfl rfl (e_lss (a := ((at_ + j : Nat) : Int)) (b := (((ys).length : Nat) : Int)) rfl rfl) ?_
  refine l_nil ?_
  refine f_then ?_
  refine c_if (((at_ + j : Nat) : Int) < (((ys).length : Nat) : Int)) rfl (fun hc9 => ?_) (fun hc9 => ?_)
  ·
   refine c_region ?_
   refine l_val (v := .pointer (some ⟨S, 2, none⟩)) rfl rfl rfl (e_move) ?_
   refine l_val (v := .pointer (some ⟨S, 2, none⟩)) rfl rfl rfl (e_nil (a := ⟨S, 2, none⟩) rfl) ?_
   refine l_val (v := .slice p (ys).length c) rfl rfl rfl (e_load1 tf21 (v := .slice p (ys).length c) rfl (k_pt 0 (cs := #[.slice pH (k.head).length cH, .slice pA (k.a).length cA, .slice p (ys).length c, Ix (spendP (pl k.power j))]) (vs := [.slice p (ys).length c]) rfl rfl)) ?_
   refine l_val (v := Nx (at_)) rfl rfl rfl (e_move) ?_
   refine l_val (v := Nx (j)) rfl rfl rfl (e_move) ?_
   refine l_val (v := Nx (at_ + j)) rfl rfl rfl (e_add (a := ((at_ : Nat) : Int)) (b := ((j : Nat) : Int)) rfl rfl (i64n (by omega) (by omega))) ?_
   refine l_val (v := Bx (x2)) rfl rfl rfl (e_move) ?_
   refine l_val (v := .pointer (some ((ba p).add ((at_ + j) * 1)))) rfl rfl rfl (e_indexRow 3 (j := at_ + j) (len := (ys).length) (cap := c) (p := p) rfl rfl tf12 (by omega) (by omega) rfl) ?_
   refine l_mu rfl rfl (m_storeRow 3 tf13 (o := (at_ + j) * 1) (v := Bx (x2)) rfl rfl rfl rfl rfl (by omega) (by omega)) ?_
   refine l_re (L' := [pt S (.cells #[.slice pH (k.head).length cH, .slice pA (k.a).length cA, .slice p ((ys.set (at_ + j) x2)).length c, Ix (spendP (pl k.power j))] 29), row (.slice pH (k.head).length cH) 5 1 ((k.head).length) (BX k.head), row (.slice pA (k.a).length cA) 5 1 ((k.a).length) (BX k.a), row (.slice p ((ys.set (at_ + j) x2)).length c) 5 1 (((ys.set (at_ + j) x2)).length) (BX (ys.set (at_ + j) x2))]) (by show [pt S (.cells #[.slice pH (k.head).length cH, .slice pA (k.a).length cA, .slice p (ys).length c, Ix (spendP (pl k.power j))] 29), row (.slice pH (k.head).length cH) 5 1 ((k.head).length) (BX k.head), row (.slice pA (k.a).length cA) 5 1 ((k.a).length) (BX k.a), row (.slice p (ys).length c) 5 1 ((ys).length) ((overL (BX ys) ((at_ + j) * 1) [Bx (x2)]))] = _; rw [overL_bx (by omega)]; simp only [List.length_set]) ?_
   refine l_nil ?_
   refine f_block ?_
   refine f_then ?_
   refine c_region ?_
   refine l_val (v := Nx (j + 1)) rfl rfl rfl (e_add (a := ((j : Nat) : Int)) (b := (1 : Int)) rfl rfl (i64n (by omega) (by omega))) ?_
   refine l_val (v := Nx (j + 1)) rfl rfl rfl (e_move) ?_
   refine l_nil ?_
   exact f_cut ⟨(j + 1, (ys.set (at_ + j) x2), p, c), ⟨⟨rfl, rfl, rfl, rfl, rfl, rfl⟩, (by rw [hpst.2]), ⟨hpst.1, by rw [hys, wr_take hx3, if_pos (by rw [← hys]; omega)]⟩⟩, (show bs.length - (j + 1) < bs.length - j from by omega)⟩
  ·
   refine c_region ?_
   refine l_val (v := .pointer (some ⟨S, 2, none⟩)) rfl rfl rfl (e_move) ?_
   refine l_val (v := .pointer (some ⟨S, 2, none⟩)) rfl rfl rfl (e_move) ?_
   refine l_val (v := .pointer (some ⟨S, 2, none⟩)) rfl rfl rfl (e_nil (a := ⟨S, 2, none⟩) rfl) ?_
   refine l_val (v := .slice p (ys).length c) rfl rfl rfl (e_load1 tf21 (v := .slice p (ys).length c) rfl (k_pt 0 (cs := #[.slice pH (k.head).length cH, .slice pA (k.a).length cA, .slice p (ys).length c, Ix (spendP (pl k.power j))]) (vs := [.slice p (ys).length c]) rfl rfl)) ?_
   refine l_val (v := Bx (x2)) rfl rfl rfl (e_move) ?_
   refine l_mv rfl rfl rfl (m_slices tf12 tf14 (vs := [(0, Bx (x2))]) (cells := #[Bx (x2)]) rfl rfl rfl rfl) ?_
   rintro _ _ ⟨b10, rfl, rfl⟩
   refine l_mv rfl rfl rfl (m_appendE (enc := fun c : UInt8 => Bx c) 4 bx_cell tf12 tf15 (v := .slice p (ys).length c) (xs := ys) (ys := [x2]) (ao := some ⟨b10, 0, none⟩) (c := 1) rfl rfl (by first | rfl | simp) rfl (by first | rfl | simp) (k_ptE 0 (xs := [x2]) rfl) (by first | omega | (simp only [List.length_append, List.length_nil, List.length_cons, be_length] at *; omega)) (by first | omega | (simp only [List.length_append, List.length_nil, List.length_cons, be_length] at *; omega))) ?_
   rintro _ _ ⟨rp11, rc12, rfl, rfl⟩
   refine l_val (v := .pointer (some ⟨S, 2, none⟩)) rfl rfl rfl (e_nil (a := ⟨S, 2, none⟩) rfl) ?_
   refine l_mu rfl rfl (m_store 1 tf21 (b := S) (o := 2) (T := 29) (cs := #[.slice pH (k.head).length cH, .slice pA (k.a).length cA, .slice p (ys).length c, Ix (spendP (pl k.power j))]) (cs' := #[.slice pH (k.head).length cH, .slice pA (k.a).length cA, .slice rp11 (ys ++ [x2]).length rc12, Ix (spendP (pl k.power j))]) (v := .slice rp11 (ys ++ [x2]).length rc12) rfl rfl rfl rfl rfl rfl rfl) ?_
   refine l_nil ?_
   refine f_block ?_
   refine f_then ?_
   refine c_region ?_
   refine l_val (v := Nx (j + 1)) rfl rfl rfl (e_add (a := ((j : Nat) : Int)) (b := (1 : Int)) rfl rfl (i64n (by omega) (by omega))) ?_
   refine l_val (v := Nx (j + 1)) rfl rfl rfl (e_move) ?_
   refine l_nil ?_
   refine f_mask (L' := [pt S (.cells #[.slice pH (k.head).length cH, .slice pA (k.a).length cA, .slice rp11 (ys ++ [x2]).length rc12, Ix (spendP (pl k.power j))] 29), row (.slice pH (k.head).length cH) 5 1 ((k.head).length) (BX k.head), row (.slice pA (k.a).length cA) 5 1 ((k.a).length) (BX k.a), row (.slice rp11 (ys ++ [x2]).length rc12) 5 1 ((ys ++ [x2]).length) (BX (ys ++ [x2]))]) [false, true, true, true, true] rfl ?_
   exact f_cut ⟨(j + 1, ys ++ [x2], rp11, rc12), ⟨⟨rfl, rfl, rfl, rfl, rfl, rfl⟩, (by rw [hpst.2]), ⟨hpst.1, by rw [hys, wr_take hx3, if_neg (by rw [← hys]; omega)]⟩⟩, (show bs.length - (j + 1) < bs.length - j from by omega)⟩
 ·
  refine c_exit ?_
  refine f_then_exit ?_
  refine f_then_exit ?_
  refine f_exit ?_
  refine end0 Tryz.results64 ?_
  intro w hw
  obtain ⟨e1, rfl⟩ := pw_all hj (by omega)
  have e2 : ys = wrA k.b k.power at_ bs := by rw [hys, wrA, e1]
  subst e2
  exact .inr ⟨rfl, e1, St.closeStore (k := { k with b := wrA k.b k.power at_ bs, power := pl k.power bs.length }) (st_mask [true, true, true, true] rfl hw)⟩
theorem cutA_ok (β : Base) (w : World) (J S : Nat) (hJ : Cs β.heap ⟨J, 0, none⟩ [.pointer (some ⟨S, 0, none⟩)]) (k : KS) (hk : k.head.length ≤ 1048576 ∧ k.a.length ≤ 1048576 ∧ k.b.length ≤ 1048576 ∧ k.power ≤ 9223372036854775807) (size : Nat) (hw : St β [storeR S k] w) : Calls Tryz.prog 90 #[.pointer (some ⟨J, 0, none⟩), .pointer (some ⟨S, 1, none⟩), Nx size] w fun r w' => (r = .panicked chP ∧ ¬ cutOk k.a k.power size ∧ k.power = 0 ∧ St β [storeR S k] w') ∨ (r = .returned (.tuple #[]) ∧ cutOk k.a k.power size ∧ St β [storeR S { k with a := cutA k.a k.power size, power := cutP k.a k.power size }] w') := by
 obtain ⟨pH, pA, pB, cH, cA, cB, hw⟩ := St.openStore hw
 refine enter (n := 21) Tryz.func90 rfl Tryz.ntmps90 rfl ?_ hw
 refine c_seq ?_
 refine c_region ?_
 refine l_val (v := .pointer (some ⟨S, 1, none⟩)) rfl rfl rfl (e_move) ?_
 refine l_val (v := .pointer (some ⟨S, 1, none⟩)) rfl rfl rfl (e_nil (a := ⟨S, 1, none⟩) rfl) ?_
 refine l_val (v := .slice pA (k.a).length cA) rfl rfl rfl (e_load1 tf21 (v := .slice pA (k.a).length cA) rfl (k_pt 0 (cs := #[.slice pH (k.head).length cH, .slice pA (k.a).length cA, .slice pB (k.b).length cB, Ix (k.power)]) (vs := [.slice pA (k.a).length cA]) rfl rfl)) ?_
 refine l_val (v := Nx ((k.a).length)) rfl rfl rfl (e_len (a := pA) (n := (k.a).length) (c := cA) rfl tf11) ?_
 refine l_val (v := Nx (size)) rfl rfl rfl (e_move) ?_
 refine l_val (v := .bool (decide (((size : Nat) : Int) < (((k.a).length : Nat) : Int)))) rfl rfl rfl (e_gtr (a := (((k.a).length : Nat) : Int)) (b := ((size : Nat) : Int)) rfl rfl) ?_
 refine l_nil ?_
 refine f_then ?_
 refine c_if (((size : Nat) : Int) < (((k.a).length : Nat) : Int)) rfl (fun hc1 => ?_) (fun hc1 => ?_)
 ·
  refine c_seq ?_
  refine c_region ?_
  refine l_val (v := .pointer (some (⟨J, 0, none⟩))) rfl rfl rfl (e_move) ?_
  refine l_callP rfl rfl rfl (cl_value (fst := []) (cap := []) (vs := [.pointer (some (⟨J, 0, none⟩))]) (all := [.pointer (some (⟨J, 0, none⟩))]) tf35 rfl rfl rfl) ?_
  intro w hw
  replace hw := hw.perm (L' := _ :: _ :: _ :: _ :: []) (by exact ((((perm_front 3 rfl).trans (perm_front 3 rfl)).trans (perm_front 3 rfl)).trans (perm_front 3 rfl)))
  obtain ⟨β1, sb, kn, hw1, back⟩ := St.frame (L := [_]) (M := _ :: _ :: _ :: []) hw
  refine (spend_ok β1 w J S (Cs.mono _ _ _ _ sb hJ) (.slice pH (k.head).length cH) (.slice pA (k.a).length cA) (.slice pB (k.b).length cB) k.power (by have := pl_le k.power; omega) hw1).mono ?_
  rintro e w' (⟨rfl, hp2, hw'⟩ | ⟨rfl, hp2, hw'⟩)
  ·
   refine .inl ⟨_, rfl, _, back _ _ hw', ?_⟩
   clear hw hw1 hw' back kn sb
   refine f_then_panic ?_
   refine panR ?_
   intro w hw
   exact .inl ⟨rfl, by unfold cutOk; omega, hp2, St.closeStore (k := k) (st_mask [true, true, true, true] rfl hw)⟩
  refine .inr ⟨_, rfl, _, back _ _ hw', ?_⟩
  clear hw hw1 hw' back kn sb
  refine l_nil ?_
  refine f_then ?_
  refine c_rowcap 2 rfl (fun hcl hcm => ?_)
  refine c_region ?_
  refine l_val (v := .pointer (some ⟨S, 1, none⟩)) rfl rfl rfl (e_move) ?_
  refine l_val (v := .pointer (some ⟨S, 1, none⟩)) rfl rfl rfl (e_move) ?_
  refine l_val (v := .pointer (some ⟨S, 1, none⟩)) rfl rfl rfl (e_nil (a := ⟨S, 1, none⟩) rfl) ?_
  refine l_val (v := .slice pA (k.a).length cA) rfl rfl rfl (e_load1 tf21 (v := .slice pA (k.a).length cA) rfl (k_pt 0 (cs := #[.slice pH (k.head).length cH, .slice pA (k.a).length cA, .slice pB (k.b).length cB, Ix (spendP (k.power))]) (vs := [.slice pA (k.a).length cA]) rfl rfl)) ?_
  refine l_val (v := Nx (size)) rfl rfl rfl (e_move) ?_
  refine l_val (v := .slice pA (size) cA) rfl rfl rfl (e_slice_hi (a := pA) (len := (k.a).length) (cap := cA) (h := size) tf12 rfl rfl (by omega)) ?_
  refine l_val (v := .pointer (some ⟨S, 1, none⟩)) rfl rfl rfl (e_nil (a := ⟨S, 1, none⟩) rfl) ?_
  refine l_mu rfl rfl (m_store 0 tf21 (b := S) (o := 1) (T := 29) (cs := #[.slice pH (k.head).length cH, .slice pA (k.a).length cA, .slice pB (k.b).length cB, Ix (spendP (k.power))]) (cs' := #[.slice pH (k.head).length cH, .slice pA (size) cA, .slice pB (k.b).length cB, Ix (spendP (k.power))]) (v := .slice pA (size) cA) rfl rfl rfl rfl rfl rfl rfl) ?_
  refine l_nil ?_
  refine end0 Tryz.results90 ?_
  intro w hw
  have hw := hw.conseq_at 2 rfl (fun a h => row_takeB (h := size) h (by omega))
  have e0 : (k.a.take size).length = size := by simp; omega
  have e1 : cutA k.a k.power size = k.a.take size := if_neg hp2
  have e2 : cutP k.a k.power size = spendP k.power := if_pos (by omega)
  refine .inr ⟨rfl, .inr hp2, St.closeStore (k := { k with a := cutA k.a k.power size, power := cutP k.a k.power size }) (pH := pH) (pA := pA) (pB := pB) (cH := cH) (cA := cA) (cB := cB) ?_⟩
  show St β (stL S pH pA pB cH cA cB { k with a := cutA k.a k.power size, power := cutP k.a k.power size } ++ []) w
  rw [e1, e2]
  simp only [stL, stCells, e0]
  simp only [e0] at hw
  exact st_mask [true, true, true, true] rfl hw
 ·
  refine c_skip ?_
  refine end0 Tryz.results90 ?_
  intro w hw
  refine .inr ⟨rfl, .inl (by omega), ?_⟩
  rw [cutA_id (by omega), cutP_id (by omega)]
  exact St.closeStore (k := k) (st_mask [true, true, true, true] rfl hw)
theorem cutB_ok (β : Base) (w : World) (J S : Nat) (hJ : Cs β.heap ⟨J, 0, none⟩ [.pointer (some ⟨S, 0, none⟩)]) (k : KS) (hk : k.head.length ≤ 1048576 ∧ k.a.length ≤ 1048576 ∧ k.b.length ≤ 1048576 ∧ k.power ≤ 9223372036854775807) (size : Nat) (hw : St β [storeR S k] w) : Calls Tryz.prog 90 #[.pointer (some ⟨J, 0, none⟩), .pointer (some ⟨S, 2, none⟩), Nx size] w fun r w' => (r = .panicked chP ∧ ¬ cutOk k.b k.power size ∧ k.power = 0 ∧ St β [storeR S k] w') ∨ (r = .returned (.tuple #[]) ∧ cutOk k.b k.power size ∧ St β [storeR S { k with b := cutA k.b k.power size, power := cutP k.b k.power size }] w') := by
 obtain ⟨pH, pA, pB, cH, cA, cB, hw⟩ := St.openStore hw
 refine enter (n := 21) Tryz.func90 rfl Tryz.ntmps90 rfl ?_ hw
 refine c_seq ?_
 refine c_region ?_
 refine l_val (v := .pointer (some ⟨S, 2, none⟩)) rfl rfl rfl (e_move) ?_
 refine l_val (v := .pointer (some ⟨S, 2, none⟩)) rfl rfl rfl (e_nil (a := ⟨S, 2, none⟩) rfl) ?_
 refine l_val (v := .slice pB (k.b).length cB) rfl rfl rfl (e_load1 tf21 (v := .slice pB (k.b).length cB) rfl (k_pt 0 (cs := #[.slice pH (k.head).length cH, .slice pA (k.a).length cA, .slice pB (k.b).length cB, Ix (k.power)]) (vs := [.slice pB (k.b).length cB]) rfl rfl)) ?_
 refine l_val (v := Nx ((k.b).length)) rfl rfl rfl (e_len (a := pB) (n := (k.b).length) (c := cB) rfl tf11) ?_
 refine l_val (v := Nx (size)) rfl rfl rfl (e_move) ?_
 refine l_val (v := .bool (decide (((size : Nat) : Int) < (((k.b).length : Nat) : Int)))) rfl rfl rfl (e_gtr (a := (((k.b).length : Nat) : Int)) (b := ((size : Nat) : Int)) rfl rfl) ?_
 refine l_nil ?_
 refine f_then ?_
 refine c_if (((size : Nat) : Int) < (((k.b).length : Nat) : Int)) rfl (fun hc1 => ?_) (fun hc1 => ?_)
 ·
  refine c_seq ?_
  refine c_region ?_
  refine l_val (v := .pointer (some (⟨J, 0, none⟩))) rfl rfl rfl (e_move) ?_
  refine l_callP rfl rfl rfl (cl_value (fst := []) (cap := []) (vs := [.pointer (some (⟨J, 0, none⟩))]) (all := [.pointer (some (⟨J, 0, none⟩))]) tf35 rfl rfl rfl) ?_
  intro w hw
  replace hw := hw.perm (L' := _ :: _ :: _ :: _ :: []) (by exact ((((perm_front 3 rfl).trans (perm_front 3 rfl)).trans (perm_front 3 rfl)).trans (perm_front 3 rfl)))
  obtain ⟨β1, sb, kn, hw1, back⟩ := St.frame (L := [_]) (M := _ :: _ :: _ :: []) hw
  refine (spend_ok β1 w J S (Cs.mono _ _ _ _ sb hJ) (.slice pH (k.head).length cH) (.slice pA (k.a).length cA) (.slice pB (k.b).length cB) k.power (by have := pl_le k.power; omega) hw1).mono ?_
  rintro e w' (⟨rfl, hp2, hw'⟩ | ⟨rfl, hp2, hw'⟩)
  ·
   refine .inl ⟨_, rfl, _, back _ _ hw', ?_⟩
   clear hw hw1 hw' back kn sb
   refine f_then_panic ?_
   refine panR ?_
   intro w hw
   exact .inl ⟨rfl, by unfold cutOk; omega, hp2, St.closeStore (k := k) (st_mask [true, true, true, true] rfl hw)⟩
  refine .inr ⟨_, rfl, _, back _ _ hw', ?_⟩
  clear hw hw1 hw' back kn sb
  refine l_nil ?_
  refine f_then ?_
  refine c_rowcap 3 rfl (fun hcl hcm => ?_)
  refine c_region ?_
  refine l_val (v := .pointer (some ⟨S, 2, none⟩)) rfl rfl rfl (e_move) ?_
  refine l_val (v := .pointer (some ⟨S, 2, none⟩)) rfl rfl rfl (e_move) ?_
  refine l_val (v := .pointer (some ⟨S, 2, none⟩)) rfl rfl rfl (e_nil (a := ⟨S, 2, none⟩) rfl) ?_
  refine l_val (v := .slice pB (k.b).length cB) rfl rfl rfl (e_load1 tf21 (v := .slice pB (k.b).length cB) rfl (k_pt 0 (cs := #[.slice pH (k.head).length cH, .slice pA (k.a).length cA, .slice pB (k.b).length cB, Ix (spendP (k.power))]) (vs := [.slice pB (k.b).length cB]) rfl rfl)) ?_
  refine l_val (v := Nx (size)) rfl rfl rfl (e_move) ?_
  refine l_val (v := .slice pB (size) cB) rfl rfl rfl (e_slice_hi (a := pB) (len := (k.b).length) (cap := cB) (h := size) tf12 rfl rfl (by omega)) ?_
  refine l_val (v := .pointer (some ⟨S, 2, none⟩)) rfl rfl rfl (e_nil (a := ⟨S, 2, none⟩) rfl) ?_
  refine l_mu rfl rfl (m_store 0 tf21 (b := S) (o := 2) (T := 29) (cs := #[.slice pH (k.head).length cH, .slice pA (k.a).length cA, .slice pB (k.b).length cB, Ix (spendP (k.power))]) (cs' := #[.slice pH (k.head).length cH, .slice pA (k.a).length cA, .slice pB (size) cB, Ix (spendP (k.power))]) (v := .slice pB (size) cB) rfl rfl rfl rfl rfl rfl rfl) ?_
  refine l_nil ?_
  refine end0 Tryz.results90 ?_
  intro w hw
  have hw := hw.conseq_at 3 rfl (fun a h => row_takeB (h := size) h (by omega))
  have e0 : (k.b.take size).length = size := by simp; omega
  have e1 : cutA k.b k.power size = k.b.take size := if_neg hp2
  have e2 : cutP k.b k.power size = spendP k.power := if_pos (by omega)
  refine .inr ⟨rfl, .inr hp2, St.closeStore (k := { k with b := cutA k.b k.power size, power := cutP k.b k.power size }) (pH := pH) (pA := pA) (pB := pB) (cH := cH) (cA := cA) (cB := cB) ?_⟩
  show St β (stL S pH pA pB cH cA cB { k with b := cutA k.b k.power size, power := cutP k.b k.power size } ++ []) w
  rw [e1, e2]
  simp only [stL, stCells, e0]
  simp only [e0] at hw
  exact st_mask [true, true, true, true] rfl hw
 ·
  refine c_skip ?_
  refine end0 Tryz.results90 ?_
  intro w hw
  refine .inr ⟨rfl, .inl (by omega), ?_⟩
  rw [cutA_id (by omega), cutP_id (by omega)]
  exact St.closeStore (k := k) (st_mask [true, true, true, true] rfl hw)
theorem there_ok (β : Base) (w : World) (hw : St β [] w) (J S : Nat) (hJ : Cs β.heap ⟨J, 0, none⟩ [.pointer (some ⟨S, 0, none⟩)]) : Calls Tryz.prog 103 #[.pointer (some ⟨J, 0, none⟩)] w fun r w' => r = .returned (.bool true) ∧ St β [] w' := by
 refine enter (n := 12) Tryz.func103 rfl Tryz.ntmps103 rfl ?_ hw
 refine c_seq ?_
 refine c_region ?_
 refine l_val (v := .bool false) rfl rfl rfl (e_assign) ?_
 refine l_nil ?_
 refine f_then ?_
 refine c_seq ?_
 refine c_region ?_
 refine l_val (v := .pointer (some (⟨J, 0, none⟩))) rfl rfl rfl (e_move) ?_
 refine l_val (v := .bool true) rfl rfl rfl (e_neq_pnil (p := some (⟨J, 0, none⟩)) rfl rfl tf36) ?_
 refine l_val (v := .bool true) rfl rfl rfl (e_move) ?_
 refine g_val (v := .pointer (some (⟨J, 0, none⟩))) rfl rfl rfl rfl rfl (e_move) ?_
 refine g_val (v := .pointer (some (⟨J, 0, none⟩))) rfl rfl rfl rfl rfl (e_nil (a := ⟨J, 0, none⟩) rfl) ?_
 refine g_val (v := .pointer (some ((⟨J, 0, none⟩ : Addr).add 0))) rfl rfl rfl rfl rfl (e_fieldAddr (a := ⟨J, 0, none⟩) rfl tf30) ?_
 refine g_val (v := .pointer (some ⟨S, 0, none⟩)) rfl rfl rfl rfl rfl (e_load1 tf31 (v := .pointer (some ⟨S, 0, none⟩)) rfl (Knows.imp (Knows.of_base (Cs.mono _ _) hJ) (fun _ h => Cs.sub (vs := [.pointer (some ⟨S, 0, none⟩)]) 0 h rfl))) ?_
 refine g_val (v := .bool true) rfl rfl rfl rfl rfl (e_neq_pnil (p := some (⟨S, 0, none⟩)) rfl rfl tf37) ?_
 refine l_val (v := .bool true) rfl rfl rfl (e_pick_t rfl) ?_
 refine l_val (v := .bool true) rfl rfl rfl (e_assign) ?_
 refine l_nil ?_
 refine f_then ?_
 refine c_ret ?_
 refine ret1 Tryz.results103 (v := .bool true) rfl ?_
 intro w hw
 exact ⟨rfl, st_mask [] rfl hw⟩
theorem there_nil (β : Base) (w : World) (hw : St β [] w) : Calls Tryz.prog 103 #[.pointer none] w fun r w' => r = .returned (.bool false) ∧ St β [] w' := by
 refine enter (n := 12) Tryz.func103 rfl Tryz.ntmps103 rfl ?_ hw
 refine c_seq ?_
 refine c_region ?_
 refine l_val (v := .bool false) rfl rfl rfl (e_assign) ?_
 refine l_nil ?_
 refine f_then ?_
 refine c_seq ?_
 refine c_region ?_
 refine l_val (v := .pointer none) rfl rfl rfl (e_move) ?_
 refine l_val (v := .bool false) rfl rfl rfl (e_neq_pnil (p := none) rfl rfl tf36) ?_
 refine l_val (v := .bool false) rfl rfl rfl (e_move) ?_
 refine l_skip rfl rfl rfl rfl rfl rfl ?_
 refine l_skip rfl rfl rfl rfl rfl rfl ?_
 refine l_skip rfl rfl rfl rfl rfl rfl ?_
 refine l_skip rfl rfl rfl rfl rfl rfl ?_
 refine l_skip rfl rfl rfl rfl rfl rfl ?_
 refine l_val (v := .bool false) rfl rfl rfl (e_pick_f rfl) ?_
 refine l_val (v := .bool false) rfl rfl rfl (e_assign) ?_
 refine l_nil ?_
 refine f_then ?_
 refine c_ret ?_
 refine ret1 Tryz.results103 (v := .bool false) rfl ?_
 intro w hw
 exact ⟨rfl, st_mask [] rfl hw⟩
set_option maxHeartbeats 4000000 in
theorem ready_ok (β : Base) (w : World) (hw : St β [] w) (J S : Nat) (x1 x2 x3 x4 x5 : Value) (dn : Bool) (hJ : Cs β.heap ⟨J, 0, none⟩ [.pointer (some ⟨S, 0, none⟩), x1, x2, x3, x4, x5, .bool (dn)]) (bs : Bs) (v : Value) (hs : Sl U8R β.heap v bs) : Calls Tryz.prog 60 #[.pointer (some ⟨J, 0, none⟩), v] w fun r w' => r = .returned (.int .i64 (readyE dn bs)) ∧ St β [] w' := by
 obtain ⟨va, vc, rfl, vl, vm, ve⟩ := hs.get
 refine enter (n := 18) Tryz.func60 rfl Tryz.ntmps60 rfl ?_ hw
 refine c_seq ?_
 refine c_region ?_
 refine l_val (v := .int .i64 (0)) rfl rfl rfl (e_assign) ?_
 refine l_nil ?_
 refine f_then ?_
 refine c_seq ?_
 refine c_block ?_
 refine c_seq ?_
 refine c_region ?_
 refine l_val (v := .pointer (some (⟨J, 0, none⟩))) rfl rfl rfl (e_move) ?_
 refine l_call rfl rfl rfl (cl_value (fst := []) (cap := []) (vs := [.pointer (some (⟨J, 0, none⟩))]) (all := [.pointer (some (⟨J, 0, none⟩))]) tf38 rfl rfl rfl) ?_
 intro w hw
 obtain ⟨β1, sb, kn, hw1, back⟩ := St.frame_all hw
 refine (there_ok β1 w hw1 J S (by have h0 := Cs.sub (vs := [.pointer (some ⟨S, 0, none⟩)]) 0 (Cs.mono _ _ _ _ sb hJ) rfl; rwa [Addr.add_zero'] at h0)).mono ?_
 rintro e w' ⟨rfl, hw'⟩
 refine ⟨_, rfl, _, back _ _ hw', ?_⟩
 clear hw hw1 hw' back kn sb
 refine l_val (v := .bool false) rfl rfl rfl (e_not (a := true) rfl) ?_
 refine l_val (v := .bool false) rfl rfl rfl (e_assign) ?_
 refine l_nil ?_
 refine f_then ?_
 refine c_no rfl ?_
 refine c_seq ?_
 refine c_region ?_
 refine l_val (v := .slice va (bs.length) (vc)) rfl rfl rfl (e_move) ?_
 refine l_val (v := Nx (bs.length)) rfl rfl rfl (e_len (a := va) (n := bs.length) (c := vc) rfl tf11) ?_
 refine l_val (v := .bool (decide ((65536 : Int) < ((bs.length : Nat) : Int)))) rfl rfl rfl (e_gtr (a := ((bs.length : Nat) : Int)) (b := (65536 : Int)) rfl rfl) ?_
 refine l_val (v := .bool (decide ((65536 : Int) < ((bs.length : Nat) : Int)))) rfl rfl rfl (e_assign) ?_
 refine l_nil ?_
 refine f_then ?_
 refine c_if ((65536 : Int) < ((bs.length : Nat) : Int)) rfl (fun hc1 => ?_) (fun hc1 => ?_)
 ·
  refine c_seq ?_
  refine c_region ?_
  refine l_val (v := .int .i64 (3)) rfl rfl rfl (e_assign) ?_
  refine l_nil ?_
  refine f_then ?_
  refine c_ret ?_
  refine f_block_ret ?_
  refine f_then_ret ?_
  refine ret1 Tryz.results60 (v := .int .i64 (3)) rfl ?_
  intro w hw
  exact ⟨by rw [readyE, if_pos (by omega)], st_mask [] rfl hw⟩
 ·
  refine c_seq ?_
  refine c_region ?_
  refine l_val (v := .pointer (some (⟨J, 0, none⟩))) rfl rfl rfl (e_move) ?_
  refine l_val (v := .pointer (some (⟨J, 0, none⟩))) rfl rfl rfl (e_nil (a := ⟨J, 0, none⟩) rfl) ?_
  refine l_val (v := .pointer (some ((⟨J, 0, none⟩ : Addr).add 6))) rfl rfl rfl (e_fieldAddr (a := ⟨J, 0, none⟩) rfl tf39) ?_
  refine l_val (v := .bool (dn)) rfl rfl rfl (e_load1 tf40 (v := .bool (dn)) rfl (Knows.imp (Knows.of_base (Cs.mono _ _) hJ) (fun _ h => Cs.sub (vs := [.bool (dn)]) 6 h rfl))) ?_
  refine l_val (v := .bool (dn)) rfl rfl rfl (e_assign) ?_
  refine l_nil ?_
  refine f_then ?_
  refine c_ifb (dn) rfl (fun hc2 => ?_) (fun hc2 => ?_)
  ·
   refine c_seq ?_
   refine c_region ?_
   refine l_val (v := .int .i64 (310)) rfl rfl rfl (e_assign) ?_
   refine l_nil ?_
   refine f_then ?_
   refine c_ret ?_
   refine f_block_ret ?_
   refine f_then_ret ?_
   refine ret1 Tryz.results60 (v := .int .i64 (310)) rfl ?_
   intro w hw
   exact ⟨by rw [readyE, if_neg (by omega), if_pos hc2], st_mask [] rfl hw⟩
  ·
   refine c_skip ?_
   refine f_block ?_
   refine f_then ?_
   refine c_seq ?_
   refine c_region ?_
   refine l_val (v := .int .i64 (0)) rfl rfl rfl (e_assign) ?_
   refine l_nil ?_
   refine f_then ?_
   refine c_ret ?_
   refine ret1 Tryz.results60 (v := .int .i64 (0)) rfl ?_
   intro w hw
   exact ⟨by rw [readyE, if_neg (by omega), if_neg (by rw [hc2]; decide)], st_mask [] rfl hw⟩
theorem ready_nil (β : Base) (w : World) (hw : St β [] w) (v : Value) : Calls Tryz.prog 60 #[.pointer none, v] w fun r w' => r = .returned (.int .i64 1) ∧ St β [] w' := by
 refine enter (n := 18) Tryz.func60 rfl Tryz.ntmps60 rfl ?_ hw
 refine c_seq ?_
 refine c_region ?_
 refine l_val (v := .int .i64 (0)) rfl rfl rfl (e_assign) ?_
 refine l_nil ?_
 refine f_then ?_
 refine c_seq ?_
 refine c_block ?_
 refine c_seq ?_
 refine c_region ?_
 refine l_val (v := .pointer none) rfl rfl rfl (e_move) ?_
 refine l_call rfl rfl rfl (cl_value (fst := []) (cap := []) (vs := [.pointer none]) (all := [.pointer none]) tf38 rfl rfl rfl) ?_
 intro w hw
 obtain ⟨β1, sb, kn, hw1, back⟩ := St.frame_all hw
 refine (there_nil β1 w hw1).mono ?_
 rintro e w' ⟨rfl, hw'⟩
 refine ⟨_, rfl, _, back _ _ hw', ?_⟩
 clear hw hw1 hw' back kn sb
 refine l_val (v := .bool true) rfl rfl rfl (e_not (a := false) rfl) ?_
 refine l_val (v := .bool true) rfl rfl rfl (e_assign) ?_
 refine l_nil ?_
 refine f_then ?_
 refine c_yes rfl ?_
 refine c_seq ?_
 refine c_region ?_
 refine l_val (v := .int .i64 (1)) rfl rfl rfl (e_assign) ?_
 refine l_nil ?_
 refine f_then ?_
 refine c_ret ?_
 refine f_block_ret ?_
 refine f_then_ret ?_
 refine ret1 Tryz.results60 (v := .int .i64 (1)) rfl ?_
 intro w hw
 exact ⟨rfl, st_mask [] rfl hw⟩
end Go.Proofs
