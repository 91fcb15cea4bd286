/-
  The marks: walked. Printed by a program of my own.
-/
import Derived.Test.YthncdmfogeemcaaGreatPt4
import Derived.Test.YthncdmfogeemcaaGreatPtHp
import Derived.Test.YthncdmfogeemcaaGreatSlMks
namespace Go.Pth
open Go.Sl Go.Brd Go.Proofs
/-- nodes of the first rooms, other than n -/
def outN (RR : List (List Nat)) (n : Nat) (rs : List Nat) : List Nat := rs.flatMap fun r => (RR.getD r []).filter fun k => decide (k ≠ n)
theorem nAt_of {hn : List HN} {n : Nat} {x : HN} (h : hn[n]? = some x) : nAt (hn.map HN.k) n = x.k := by
  unfold nAt; rw [List.getD_eq_getElem?_getD, List.getElem?_map, h]; rfl
theorem nr_eq {hn : List HN} {RR : List (List Nat)} {n : Nat} {x : HN} (h : hn[n]? = some x) : nrL (hn.map HN.k) RR n = outN RR n x.rs := by
  unfold nrL outN; rw [nAt_of h]; rfl
theorem wt_eq {hn : List HN} {n k : Nat} {x y : HN} (h : hn[n]? = some x) (g : hn[k]? = some y) : wtL (hn.map HN.k) n k = lenV x.x x.y y.x y.y := by
  unfold wtL; rw [nAt_of h, nAt_of g]; rfl
theorem wtL_bd (ns : List KN) (n k : Nat) : wtL ns n k ≤ 134217728 := lenV_bd _ _ _ _
theorem row_of {hr : List (HV Nat)} {r : Nat} {y : HV Nat} (h : hr[r]? = some y) : (hr.map (·.xs)).getD r [] = y.xs := by
  rw [List.getD_eq_getElem?_getD, List.getElem?_map, h]; rfl
theorem out_row {hr : List (HV Nat)} {n k r : Nat} {rs : List Nat} {y : HV Nat} (hk : rs[k]? = some r) (hy : hr[r]? = some y) : outN (hr.map (·.xs)) n (rs.take (k + 1)) = outN (hr.map (·.xs)) n (rs.take k) ++ y.xs.filter fun z => decide (z ≠ n) := by
  unfold outN; rw [List.take_add_one, hk, List.flatMap_append]
  show _ ++ [r].flatMap _ = _
  rw [List.flatMap_cons, List.flatMap_nil, List.append_nil, row_of hy]
theorem flt_yes {xs : List Nat} {n j q : Nat} (h : xs[j]? = some q) (hq : q ≠ n) : ((xs.take (j + 1)).filter fun z => decide (z ≠ n)) = ((xs.take j).filter fun z => decide (z ≠ n)) ++ [q] := by
  rw [List.take_add_one, h, List.filter_append]
  congr 1
  simp [hq]
theorem flt_no {xs : List Nat} {n j q : Nat} (h : xs[j]? = some q) (hq : q = n) : ((xs.take (j + 1)).filter fun z => decide (z ≠ n)) = ((xs.take j).filter fun z => decide (z ≠ n)) := by
  rw [List.take_add_one, h, List.filter_append]
  subst hq
  simp
theorem out_pre {hn : List HN} {hr : List (HV Nat)} {n k r j q : Nat} {x : HN} {y : HV Nat} (hx : hn[n]? = some x) (hk : x.rs[k]? = some r) (hy : hr[r]? = some y) (hj : y.xs[j]? = some q) (hq : q ≠ n) :
    (outN (hr.map (·.xs)) n (x.rs.take k) ++ (y.xs.take j).filter fun z => decide (z ≠ n)) ++ [q] <+: nrL (hn.map HN.k) (hr.map (·.xs)) n := by
  rw [nr_eq hx, List.append_assoc, ← flt_yes hj hq]
  have h1 : outN (hr.map (·.xs)) n x.rs = outN (hr.map (·.xs)) n (x.rs.take (k + 1)) ++ outN (hr.map (·.xs)) n (x.rs.drop (k + 1)) := by
    unfold outN; rw [← List.flatMap_append, List.take_append_drop]
  rw [h1, out_row hk hy, List.append_assoc]
  refine List.prefix_append_right_inj _ |>.2 ?_
  refine List.IsPrefix.trans ?_ (List.prefix_append _ _)
  exact (List.take_prefix _ _).filter _
section
variable {N e c : Nat} {nr : Nat → List Nat} {wt : Nat → Nat → Nat} {out hp : List KM}
theorem Dj.cnt_le (h : Dj N nr wt e out hp c) : c ≤ N := by
  rw [h.cnt, ← h.len]; exact List.length_filter_le _ _
theorem Dj.cnt_lt (h : Dj N nr wt e out hp c) {x : KM} (hx : x.node < N) (hp' : 0 < x.pts) (h0 : (mAt out x.node).pts = 0) : c + 1 ≤ N := by
  have h1 := cnt_set (l := out) (i := x.node) (x := x) (by rw [h.len]; exact hx) h0 hp'
  have h2 := List.length_filter_le (fun y => decide (0 < y.pts)) (out.set x.node x)
  rw [h1, ← h.cnt, List.length_set, h.len] at h2
  exact h2
theorem Mk.lenbd (h : Mk N nr wt e out) (hw : ∀ n k, wt n k ≤ 134217728) : ∀ y ∈ out, y.len ≤ y.pts * 134217728 := by
  have key : ∀ p n, n < N → 0 < (mAt out n).pts → (mAt out n).pts = p → (mAt out n).len ≤ p * 134217728 := by
    intro p
    induction p with
    | zero => intro n _ h1 h2; omega
    | succ p ih =>
      intro n hn h1 h2
      by_cases hne : n = e
      · subst hne; rw [h.fe]; exact Nat.zero_le _
      · obtain ⟨m, m1, m2, m3, m4, m5⟩ := h.fs n hn h1 hne
        have := ih m m1 m2 (by omega)
        have := hw m n
        rw [m4]; omega
  intro y hy
  obtain ⟨n, hn, rfl⟩ := List.getElem_of_mem hy
  have e1 : mAt out n = out[n] := mAt_of (List.getElem?_eq_getElem hn)
  rw [← e1]
  by_cases h0 : 0 < (mAt out n).pts
  · exact key _ n (by rw [← h.len]; exact hn) h0 rfl
  · rw [h.z n (by rw [← h.len]; exact hn) (by omega)]; exact Nat.zero_le _
end
end Go.Pth
namespace Go.Proofs
open Go Go.Sl Go.Brd Go.Pth
theorem tw70 : fldB Tryz.prog 72 1 2 1 false = true := by kernel_rfl
theorem tw71 : slB Tryz.prog 67 70 3 = true := by kernel_rfl
theorem tw72 : elB Tryz.prog 70 3 24 = true := by kernel_rfl
theorem tw73 : (Tryz.prog.info? 70).bind (·.zero) = some (.agg #[.int .i64 (0), .int .i64 (0), .int .i64 (0)]) := by kernel_rfl
theorem tw74 : stB Tryz.prog 70 [(0, 1), (1, 1), (2, 1)] = true := by kernel_rfl
theorem tw75 : stB Tryz.prog 98 [(0, 1), (1, 1)] = true := by kernel_rfl
theorem tw76 : (Tryz.prog.info? 98).bind (·.zero) = some (.agg #[.slice none 0 0, .nilFunc]) := by kernel_rfl
theorem tw77 : nifB Tryz.prog 95 = true := by kernel_rfl
theorem tw78 : (Tryz.prog.info? 100).bind (·.zero) = some (.nilIface) := by kernel_rfl
theorem tw79 : tyB Tryz.prog 100 false 1 = true := by kernel_rfl
theorem tw81 : mtB Tryz.prog 95 "Len" 123 = true := by kernel_rfl
theorem tw82 : cfB Tryz.prog 42 = true := by kernel_rfl
theorem tw83 : nifB Tryz.prog 70 = true := by kernel_rfl
theorem tw84 : tyB Tryz.prog 70 true 3 = true := by kernel_rfl
theorem tw85 : fldB Tryz.prog 70 0 0 1 false = true := by kernel_rfl
theorem tw86 : fldB Tryz.prog 70 2 2 1 false = true := by kernel_rfl
theorem tw87 : cfB Tryz.prog 26 = true := by kernel_rfl
theorem tw88 : fldB Tryz.prog 70 1 1 1 false = true := by kernel_rfl
theorem tw89 : fldB Tryz.prog 72 0 0 2 true = true := by kernel_rfl
theorem tw90 : cfB Tryz.prog 14 = true := by kernel_rfl
theorem tw91 : cfB Tryz.prog 43 = true := by kernel_rfl
theorem near_ok (β : Base) (w : World) (hw : St β [] w) (v1 v2 : Value) (n : Nat) : Calls Tryz.prog 26 #[.agg #[v1, v2], Nx n] w fun r w' => ∃ b c, r = .returned (.func (.func 46) #[] #[.pointer (some ⟨b, 0, none⟩), .pointer (some ⟨c, 0, none⟩)]) ∧ St β [pt b (.cells #[v1, v2] 65), pt c (.cells #[Nx n] 3)] w' := by
  refine enter (n := 6) Tryz.func26 rfl Tryz.ntmps26 rfl ?_ hw
  refine c_seq ?_
  refine c_region ?_
  refine l_mv rfl rfl rfl (m_box (v := .agg #[v1, v2]) rfl) ?_
  rintro _ _ ⟨b1, rfl, rfl⟩
  refine l_mv rfl rfl rfl (m_box (v := Nx (n)) rfl) ?_
  rintro _ _ ⟨b2, rfl, rfl⟩
  refine l_val (v := .nilFunc) rfl rfl rfl (e_assign) ?_
  refine l_nil ?_
  refine f_then ?_
  refine c_seq ?_
  refine c_region ?_
  refine l_val (v := .func (.func 46) #[] #[.pointer (some ⟨b1, 0, none⟩), .pointer (some ⟨b2, 0, none⟩)]) rfl rfl rfl (e_func (u := []) (v := [.pointer (some ⟨b1, 0, none⟩), .pointer (some ⟨b2, 0, none⟩)]) rfl rfl) ?_
  refine l_val (v := .func (.func 46) #[] #[.pointer (some ⟨b1, 0, none⟩), .pointer (some ⟨b2, 0, none⟩)]) rfl rfl rfl (e_assign) ?_
  refine l_nil ?_
  refine f_then ?_
  refine c_ret ?_
  refine ret1 Tryz.results26 (v := .func (.func 46) #[] #[.pointer (some ⟨b1, 0, none⟩), .pointer (some ⟨b2, 0, none⟩)]) rfl ?_
  intro w hw
  replace hw := hw.perm (L' := [pt b1 (.cells #[v1, v2] 65), pt b2 (.cells #[Nx (n)] 3)]) (by exact (perm_ix [1, 0] 2 rfl (by kernel_rfl) (by kernel_rfl)))
  exact ⟨_, _, rfl, hw⟩
theorem near_seq (β : Base) (b2 b3 : Nat) (v1 v2 : Value) (ns : List KN) (RR : List (List Nat)) (hG : GrB β.heap v1 v2 ns RR) (n : Nat) (hnN : n < ns.length) (hRR : ∀ x ∈ ns, ∀ r ∈ x.rs, r < RR.length) : SeqK Tryz.prog β (.func (.func 46) #[] #[.pointer (some ⟨b2, 0, none⟩), .pointer (some ⟨b3, 0, none⟩)]) (fun z : Nat => [Nx z]) (fun l => l = nrL ns RR n) [pt b2 (.cells #[v1, v2] 65), pt b3 (.cells #[Nx n] 3)] := by
  refine ⟨46, [], [.pointer (some ⟨b2, 0, none⟩), .pointer (some ⟨b3, 0, none⟩)], rfl, by kernel_rfl, fun β₁ ext l J X hY M w hJ hw => ?_⟩
  replace hw := hw.perm (List.perm_append_comm)
  replace hG := hG.mono ext.sub
  obtain ⟨hn, hr, rfl, rfl, s1, s2, a1, a2⟩ := hG
  obtain ⟨na, nc, rfl, nl, nm, ne⟩ := s1.get
  obtain ⟨ra, rc, rfl, rl, rm, re⟩ := s2.get
  rw [List.length_map] at hnN
  refine enter (n := 40) Tryz.func46 rfl Tryz.ntmps46 rfl ?_ hw
  refine c_seq ?_
  refine c_region ?_
  refine l_val (v := .pointer (some ⟨b2, 0, none⟩)) rfl rfl rfl (e_fieldPt (b := b2) (o := 0) rfl tv48) ?_
  refine l_val (v := .slice na (hn.length) (nc)) rfl rfl rfl (e_load1 tv49 (v := .slice na (hn.length) (nc)) rfl (k_pt 0 (cs := #[.slice na (hn.length) (nc), .slice ra (hr.length) (rc)]) (vs := [.slice na (hn.length) (nc)]) rfl rfl)) ?_
  refine l_val (v := Nx (n)) rfl rfl rfl (e_load1 tp2 (v := Nx (n)) rfl (k_pt 1 (cs := #[Nx (n)]) (vs := [Nx (n)]) rfl rfl)) ?_
  obtain ⟨x1, hx2⟩ : ∃ x_, (hn)[n]? = some x_ := ⟨_, List.getElem?_eq_getElem (by omega)⟩
  obtain ⟨ha3, cs4, hc5, hr6⟩ := ne _ _ hx2
  obtain rfl := hr6
  obtain ⟨-, x1m, x1t, x1e⟩ := Sl.parts (a1 x1 (List.mem_of_getElem? hx2))
  refine l_val (v := .pointer (some ((ba na).add (n * 3)))) rfl rfl rfl (e_indexAddr (k := n) (len := hn.length) (cap := nc) (a := na) rfl rfl tv53 (by omega) ha3) ?_
  refine l_val (v := .pointer (some (((ba na).add (n * 3) : Addr).add 2))) rfl rfl rfl (e_fieldAddr (a := (ba na).add (n * 3)) rfl tw70) ?_
  refine l_val (v := .slice x1.p (x1.rs.length) (x1.c)) rfl rfl rfl (e_load1 tv47 (v := .slice x1.p (x1.rs.length) (x1.c)) rfl (Knows.imp (Knows.of_base (Cs.mono _ _) hc5) (fun _ h => Cs.sub (vs := [.slice x1.p (x1.rs.length) (x1.c)]) 2 h rfl))) ?_
  refine l_val (v := Nx (x1.rs.length)) rfl rfl rfl (e_len (a := x1.p) (n := x1.rs.length) (c := x1.c) rfl tv43) ?_
  refine l_val (v := .int .i64 (0)) rfl rfl rfl (e_move) ?_
  refine l_nil ?_
  refine f_then ?_
  refine c_block ?_
  refine c_loop (fun (x_ : Nat × List Res) (f : Fm) (L : List Res) => match x_ with | (k, M) => (f 0 = yfn l ∧ f 1 = .pointer (some ⟨b2, 0, none⟩) ∧ f 2 = .pointer (some ⟨b3, 0, none⟩) ∧ f 13 = .slice x1.p (x1.rs.length) (x1.c) ∧ f 14 = Nx (x1.rs.length) ∧ f 15 = Nx (k)) ∧ L = (pt b2 (.cells #[.slice na (hn.length) (nc), .slice ra (hr.length) (rc)] 65) :: pt b3 (.cells #[Nx (n)] 3) :: M) ∧ (k ≤ x1.rs.length ∧ J (outN (hr.map (·.xs)) n (x1.rs.take k)) M)) (fun (x_ : Nat × List Res) => match x_ with | (k, M) => x1.rs.length - k) (0, M) ?_ ?_
  · exact ⟨⟨rfl, rfl, rfl, rfl, rfl, rfl⟩, rfl, ⟨by omega, by simpa [outN] using hJ⟩⟩
  rintro ⟨k, M⟩ f0 L0 ⟨⟨hs0, hs1, hs2, hs13, hs14, hs15⟩, hL, ⟨hk, hJ⟩⟩
  subst L0
  refine rebase (d := 0) hs0 ?_
  refine rebase (d := 1) hs1 ?_
  refine rebase (d := 2) hs2 ?_
  refine rebase (d := 13) hs13 ?_
  refine rebase (d := 14) hs14 ?_
  refine rebase (d := 15) hs15 ?_
  clear hs0 hs1 hs2 hs13 hs14 hs15
  refine c_seq ?_
  refine c_region ?_
  refine l_val (v := .bool (decide (((k : Nat) : Int) < ((x1.rs.length : Nat) : Int)))) rfl rfl rfl (e_lss (a := ((k : Nat) : Int)) (b := ((x1.rs.length : Nat) : Int)) rfl rfl) ?_
  refine l_nil ?_
  refine f_then ?_
  refine c_seq ?_
  refine c_if (((k : Nat) : Int) < ((x1.rs.length : Nat) : Int)) rfl (fun hc7 => ?_) (fun hc7 => ?_)
  ·
    refine c_skip ?_
    refine f_then ?_
    refine c_seq ?_
    refine c_block ?_
    refine c_seq ?_
    refine c_region ?_
    obtain ⟨x8, hx9⟩ : ∃ x_, (x1.rs)[k]? = some x_ := ⟨_, List.getElem?_eq_getElem (by omega)⟩
    obtain ⟨ha10, cs11, hc12, rfl⟩ := x1e _ _ hx9
    refine l_val (v := .pointer (some ((ba x1.p).add (k * 1)))) rfl rfl rfl (e_indexAddr (k := k) (len := x1.rs.length) (cap := x1.c) (a := x1.p) rfl rfl tu29 (by omega) ha10) ?_
    refine l_val (v := Nx (x8)) rfl rfl rfl (e_load1 tp2 (v := Nx (x8)) rfl (Knows.of_base (Cs.mono _ _) hc12)) ?_
    refine l_val (v := Nx (x8)) rfl rfl rfl (e_assign) ?_
    refine l_nil ?_
    refine f_then ?_
    refine c_seq ?_
    have hrR : x8 < hr.length := by have h := hRR (HN.k x1) (List.mem_of_getElem? (show (hn.map HN.k)[n]? = some x1.k by rw [List.getElem?_map, hx2]; rfl)) x8 (List.mem_of_getElem? hx9); rwa [List.length_map] at h
    refine c_region ?_
    refine l_val (v := .pointer (some ⟨b2, 1, none⟩)) rfl rfl rfl (e_fieldPt (b := b2) (o := 0) rfl tv44) ?_
    refine l_val (v := .slice ra (hr.length) (rc)) rfl rfl rfl (e_load1 tv45 (v := .slice ra (hr.length) (rc)) rfl (k_pt 0 (cs := #[.slice na (hn.length) (nc), .slice ra (hr.length) (rc)]) (vs := [.slice ra (hr.length) (rc)]) rfl rfl)) ?_
    refine l_val (v := Nx (x8)) rfl rfl rfl (e_move) ?_
    obtain ⟨x14, hx15⟩ : ∃ x_, (hr)[x8]? = some x_ := ⟨_, List.getElem?_eq_getElem (by omega)⟩
    obtain ⟨ha16, cs17, hc18, hr19⟩ := re _ _ hx15
    obtain rfl := hr19
    obtain ⟨-, x14m, x14t, x14e⟩ := Sl.parts (a2 x14 (List.mem_of_getElem? hx15))
    refine l_val (v := .pointer (some ((ba ra).add (x8 * 1)))) rfl rfl rfl (e_indexAddr (k := x8) (len := hr.length) (cap := rc) (a := ra) rfl rfl tv46 (by omega) ha16) ?_
    refine l_val (v := .slice x14.p (x14.xs.length) (x14.c)) rfl rfl rfl (e_load1 tv47 (v := .slice x14.p (x14.xs.length) (x14.c)) rfl (Knows.of_base (Cs.mono _ _) hc18)) ?_
    refine l_val (v := Nx (x14.xs.length)) rfl rfl rfl (e_len (a := x14.p) (n := x14.xs.length) (c := x14.c) rfl tv43) ?_
    refine l_val (v := .int .i64 (0)) rfl rfl rfl (e_move) ?_
    refine l_nil ?_
    refine f_then ?_
    refine c_block ?_
    refine c_loop (fun (x_ : Nat × List Res) (f : Fm) (L : List Res) => match x_ with | (j, M) => (f 0 = yfn l ∧ f 1 = .pointer (some ⟨b2, 0, none⟩) ∧ f 2 = .pointer (some ⟨b3, 0, none⟩) ∧ f 13 = .slice x1.p (x1.rs.length) (x1.c) ∧ f 14 = Nx (x1.rs.length) ∧ f 15 = Nx (k) ∧ f 23 = .slice x14.p (x14.xs.length) (x14.c) ∧ f 24 = Nx (x14.xs.length) ∧ f 25 = Nx (j)) ∧ L = (pt b2 (.cells #[.slice na (hn.length) (nc), .slice ra (hr.length) (rc)] 65) :: pt b3 (.cells #[Nx (n)] 3) :: M) ∧ (j ≤ x14.xs.length ∧ J (outN (hr.map (·.xs)) n (x1.rs.take k) ++ (x14.xs.take j).filter fun z => decide (z ≠ n)) M)) (fun (x_ : Nat × List Res) => match x_ with | (j, M) => x14.xs.length - j) (0, M) ?_ ?_
    · exact ⟨⟨rfl, rfl, rfl, rfl, rfl, rfl, rfl, rfl, rfl⟩, rfl, ⟨by omega, by simpa using hJ⟩⟩
    rintro ⟨j, M⟩ f0 L0 ⟨⟨hs0, hs1, hs2, hs13, hs14, hs15, hs23, hs24, hs25⟩, hL, ⟨hj, hJ⟩⟩
    subst L0
    refine rebase (d := 0) hs0 ?_
    refine rebase (d := 1) hs1 ?_
    refine rebase (d := 2) hs2 ?_
    refine rebase (d := 13) hs13 ?_
    refine rebase (d := 14) hs14 ?_
    refine rebase (d := 15) hs15 ?_
    refine rebase (d := 23) hs23 ?_
    refine rebase (d := 24) hs24 ?_
    refine rebase (d := 25) hs25 ?_
    clear hs0 hs1 hs2 hs13 hs14 hs15 hs23 hs24 hs25
    refine c_seq ?_
    refine c_region ?_
    refine l_val (v := .bool (decide (((j : Nat) : Int) < ((x14.xs.length : Nat) : Int)))) rfl rfl rfl (e_lss (a := ((j : Nat) : Int)) (b := ((x14.xs.length : Nat) : Int)) rfl rfl) ?_
    refine l_nil ?_
    refine f_then ?_
    refine c_seq ?_
    refine c_if (((j : Nat) : Int) < ((x14.xs.length : Nat) : Int)) rfl (fun hc20 => ?_) (fun hc20 => ?_)
    ·
      refine c_skip ?_
      refine f_then ?_
      refine c_seq ?_
      refine c_block ?_
      refine c_seq ?_
      refine c_region ?_
      obtain ⟨x21, hx22⟩ : ∃ x_, (x14.xs)[j]? = some x_ := ⟨_, List.getElem?_eq_getElem (by omega)⟩
      obtain ⟨ha23, cs24, hc25, rfl⟩ := x14e _ _ hx22
      refine l_val (v := .pointer (some ((ba x14.p).add (j * 1)))) rfl rfl rfl (e_indexAddr (k := j) (len := x14.xs.length) (cap := x14.c) (a := x14.p) rfl rfl tu29 (by omega) ha23) ?_
      refine l_val (v := Nx (x21)) rfl rfl rfl (e_load1 tp2 (v := Nx (x21)) rfl (Knows.of_base (Cs.mono _ _) hc25)) ?_
      refine l_val (v := Nx (x21)) rfl rfl rfl (e_assign) ?_
      refine l_nil ?_
      refine f_then ?_
      refine c_seq ?_
      refine c_region ?_
      refine l_val (v := Nx (x21)) rfl rfl rfl (e_move) ?_
      refine l_val (v := Nx (n)) rfl rfl rfl (e_load1 tp2 (v := Nx (n)) rfl (k_pt 1 (cs := #[Nx (n)]) (vs := [Nx (n)]) rfl rfl)) ?_
      refine l_val (v := .bool (decide (((x21 : Nat) : Int) ≠ ((n : Nat) : Int)))) rfl rfl rfl (e_neq (a := ((x21 : Nat) : Int)) (b := ((n : Nat) : Int)) rfl rfl) ?_
      refine l_val (v := .bool (decide (((x21 : Nat) : Int) ≠ ((n : Nat) : Int)))) rfl rfl rfl (e_move) ?_
      refine l_split (s := 32) (p := ((x21 : Nat) : Int) ≠ ((n : Nat) : Int)) rfl (fun hg27 => ?_) (fun hg27 => ?_)
      ·
        refine g_val (v := yfn l) rfl rfl rfl rfl rfl (e_move) ?_
        refine g_val (v := Nx (x21)) rfl rfl rfl rfl rfl (e_move) ?_
        refine g_yield rfl rfl (own := [pt b2 (.cells #[.slice na (hn.length) (nc), .slice ra (hr.length) (rc)] 65), pt b3 (.cells #[Nx (n)] 3)]) (M := M) (d := 35) (enc := fun z : Nat => [Nx z]) (pre := outN (hr.map (·.xs)) n (x1.rs.take k) ++ (x14.xs.take j).filter fun z => decide (z ≠ n)) (x := x21) rfl rfl rfl rfl hY (⟨_, rfl, out_pre hx2 hx9 hx15 hx22 (by have q := hg27; omega)⟩) hJ (fun M1 hJ1 => ?_) (fun M1 hX1 => ?_)
        ·
          refine g_val (v := .bool false) rfl rfl rfl rfl rfl (e_not (a := true) rfl) ?_
          refine l_val (v := .bool false) rfl rfl rfl (e_pick_t rfl) ?_
          refine l_nil ?_
          refine f_then ?_
          refine c_no rfl ?_
          refine c_skip ?_
          refine f_block ?_
          refine f_then ?_
          refine c_region ?_
          refine l_val (v := Nx (j + 1)) rfl rfl rfl (e_add (a := ((j : Nat) : Int)) (b := (1 : Int)) rfl rfl (i64n (by omega) (by omega))) ?_
          refine l_val (v := Nx (j + 1)) rfl rfl rfl (e_move) ?_
          refine l_nil ?_
          exact f_cut ⟨(j + 1, M1), ⟨⟨rfl, rfl, rfl, rfl, rfl, rfl, rfl, rfl, rfl⟩, rfl, ⟨by omega, by rw [flt_yes hx22 (by have q := hg27; omega), ← List.append_assoc]; exact hJ1⟩⟩, (show x14.xs.length - (j + 1) < x14.xs.length - j from by omega)⟩
        ·
          refine g_val (v := .bool true) rfl rfl rfl rfl rfl (e_not (a := false) rfl) ?_
          refine l_val (v := .bool true) rfl rfl rfl (e_pick_t rfl) ?_
          refine l_nil ?_
          refine f_then ?_
          refine c_yes rfl ?_
          refine c_ret ?_
          refine f_block_ret ?_
          refine f_then_ret ?_
          refine f_then_ret ?_
          refine f_block_ret ?_
          refine f_block_ret ?_
          refine f_then_ret ?_
          refine f_then_ret ?_
          refine f_block_ret ?_
          refine ret0 Tryz.results46 ?_
          intro w hw
          exact ⟨⟨_, rfl⟩, .inr ⟨_, M1, hX1, st_mask [false, false] rfl hw⟩⟩
      ·
        refine l_skip rfl rfl rfl rfl rfl rfl ?_
        refine l_skip rfl rfl rfl rfl rfl rfl ?_
        refine l_skip rfl rfl rfl rfl rfl rfl ?_
        refine l_skip rfl rfl rfl rfl rfl rfl ?_
        refine l_val (v := .bool false) rfl rfl rfl (e_pick_f rfl) ?_
        refine l_nil ?_
        refine f_then ?_
        refine c_no rfl ?_
        refine c_skip ?_
        refine f_block ?_
        refine f_then ?_
        refine c_region ?_
        refine l_val (v := Nx (j + 1)) rfl rfl rfl (e_add (a := ((j : Nat) : Int)) (b := (1 : Int)) rfl rfl (i64n (by omega) (by omega))) ?_
        refine l_val (v := Nx (j + 1)) rfl rfl rfl (e_move) ?_
        refine l_nil ?_
        exact f_cut ⟨(j + 1, M), ⟨⟨rfl, rfl, rfl, rfl, rfl, rfl, rfl, rfl, rfl⟩, rfl, ⟨by omega, by rw [flt_no hx22 (by have q := hg27; omega)]; exact hJ⟩⟩, (show x14.xs.length - (j + 1) < x14.xs.length - j from by omega)⟩
    ·
      refine c_exit ?_
      refine f_then_exit ?_
      refine f_then_exit ?_
      refine f_exit ?_
      refine f_block ?_
      refine f_then ?_
      refine c_region ?_
      refine l_val (v := Nx (k + 1)) rfl rfl rfl (e_add (a := ((k : Nat) : Int)) (b := (1 : Int)) rfl rfl (i64n (by omega) (by omega))) ?_
      refine l_val (v := Nx (k + 1)) rfl rfl rfl (e_move) ?_
      refine l_nil ?_
      exact f_cut ⟨(k + 1, M), ⟨⟨rfl, rfl, rfl, rfl, rfl, rfl⟩, rfl, ⟨by omega, by rw [out_row hx9 hx15]; rw [List.take_of_length_le (l := x14.xs) (by omega)] at hJ; exact hJ⟩⟩, (show x1.rs.length - (k + 1) < x1.rs.length - k from by omega)⟩
  ·
    refine c_exit ?_
    refine f_then_exit ?_
    refine f_then_exit ?_
    refine f_exit ?_
    refine end0 Tryz.results46 ?_
    intro w hw
    exact ⟨⟨_, rfl⟩, .inl ⟨_, M, rfl, by rw [List.take_of_length_le (by omega), ← nr_eq hx2] at hJ; exact hJ, st_mask [false, false] rfl hw⟩⟩
set_option maxHeartbeats 4000000 in
theorem marks_ok (β : Base) (w : World) (hw : St β [] w) (v1 v2 : Value) (ns : List KN) (RR : List (List Nat)) (hG : GrB β.heap v1 v2 ns RR) (e : Nat) (he : e < ns.length) (hN : ns.length ≤ 5000) (hnb : ∀ m, m < ns.length → ∀ k ∈ nrL ns RR m, k < ns.length) (hnbl : ∀ m, m < ns.length → (nrL ns RR m).length ≤ 1000000) (hRR : ∀ x ∈ ns, ∀ r ∈ x.rs, r < RR.length) : Calls Tryz.prog 23 #[.agg #[v1, v2], Nx e] w fun r w' => ∃ p c out, r = .returned (.slice p ns.length c) ∧ Mk ns.length (nrL ns RR) (wtL ns) e out ∧ (∀ y ∈ out, y.len ≤ y.pts * 134217728 ∧ y.pts ≤ 5000) ∧ St β [rowF MarkF 70 p c out] w' := by
  have hG0 := hG
  obtain ⟨hn, hr, rfl, rfl, s1, s2, a1, a2⟩ := hG
  obtain ⟨na, nc, rfl, nl, nm, ne⟩ := s1.get
  obtain ⟨ra, rc, rfl, rl, rm, re⟩ := s2.get
  have hnlE : (hn.map HN.k).length = hn.length := List.length_map _
  rw [List.length_map] at hN
  refine enterM (n := 68) Tryz.func23 rfl Tryz.ntmps23 rfl ?_ hw
  refine c_seq ?_
  refine c_emp (r := Sat (([] : List Nat).map mkR)) trivial ?_
  refine c_region ?_
  refine l_mv rfl rfl rfl (m_box (v := .agg #[.slice na (hn.length) (nc), .slice ra (hr.length) (rc)]) rfl) ?_
  rintro _ _ ⟨b1, rfl, rfl⟩
  refine l_val (v := .slice none 0 0) rfl rfl rfl (e_assign) ?_
  refine l_nil ?_
  refine f_then ?_
  refine c_seq ?_
  refine c_region ?_
  refine l_val (v := .pointer (some ⟨b1, 0, none⟩)) rfl rfl rfl (e_fieldPt (b := b1) (o := 0) rfl tv48) ?_
  refine l_val (v := .slice na (hn.length) (nc)) rfl rfl rfl (e_load1 tv49 (v := .slice na (hn.length) (nc)) rfl (k_pt 0 (cs := #[.slice na (hn.length) (nc), .slice ra (hr.length) (rc)]) (vs := [.slice na (hn.length) (nc)]) rfl rfl)) ?_
  refine l_val (v := Nx (hn.length)) rfl rfl rfl (e_len (a := na) (n := hn.length) (c := nc) rfl tv50) ?_
  refine l_mv rfl rfl rfl (m_makeFl (F := MarkF) (x0 := zM) (c := hn.length) tw71 tw72 tw73 rfl rfl rfl (by unfold maxLen; omega) (by omega)) ?_
  rintro _ _ ⟨b2, rfl, rfl⟩
  refine l_val (v := .slice (some ⟨b2, 0, none⟩) (hn.length) hn.length) rfl rfl rfl (e_assign) ?_
  refine l_nil ?_
  refine f_then ?_
  refine c_seq ?_
  refine c_region ?_
  refine l_val (v := Nx (e)) rfl rfl rfl (e_move) ?_
  refine l_val (v := .agg #[Nx (e), .int .i64 (0), .int .i64 (1)]) rfl rfl rfl (e_build tw73 tw74 (vs := [(0, Nx (e)), (1, .int .i64 (0)), (2, .int .i64 (1))]) (cells := #[Nx (e), .int .i64 (0), .int .i64 (1)]) rfl rfl) ?_
  refine l_mv rfl rfl rfl (m_slices tw71 tw73 (vs := [(0, .agg #[Nx (e), .int .i64 (0), .int .i64 (1)])]) (cells := #[Nx (e), .int .i64 (0), .int .i64 (1)]) rfl rfl rfl rfl) ?_
  rintro _ _ ⟨b3, rfl, rfl⟩
  refine l_val (v := .agg #[.slice (some ⟨b3, 0, none⟩) 1 1, .func (.func 41) #[] #[]]) rfl rfl rfl (e_build tw76 tw75 (vs := [(0, .slice (some ⟨b3, 0, none⟩) 1 1), (1, .func (.func 41) #[] #[])]) (cells := #[.slice (some ⟨b3, 0, none⟩) 1 1, .func (.func 41) #[] #[]]) rfl rfl) ?_
  refine l_mv rfl rfl rfl (m_box (v := .agg #[.slice (some ⟨b3, 0, none⟩) 1 1, .func (.func 41) #[] #[]]) rfl) ?_
  rintro _ _ ⟨b4, rfl, rfl⟩
  refine l_val (v := .iface 95 (.pointer (some ⟨b4, 0, none⟩))) rfl rfl rfl (e_mkif (v := .pointer (some ⟨b4, 0, none⟩)) rfl tw77) ?_
  refine l_mv rfl rfl rfl (m_alloc tw78) ?_
  rintro _ _ ⟨b5, rfl, rfl⟩
  refine l_mu rfl rfl (m_store 0 tw79 (b := b5) (o := 0) (T := 100) (cs := #[.nilIface]) (cs' := #[.iface 95 (.pointer (some ⟨b4, 0, none⟩))]) (v := .iface 95 (.pointer (some ⟨b4, 0, none⟩))) rfl rfl rfl rfl rfl rfl rfl) ?_
  refine l_nil ?_
  refine f_then ?_
  refine c_seq ?_
  refine c_block ?_
  refine c_conseq 2 (r' := rowF MarkF 70 (some ⟨b3, 0, none⟩) 1 [⟨e, 0, 1⟩]) rfl (pt_rowF (F := MarkF) (xs := [⟨e, 0, 1⟩]) rfl (by simp)) ?_
  refine c_perm (L' := [pt b4 (.cells #[.slice (some ⟨b3, 0, none⟩) (1) 1, .func (.func 41) #[] #[]] 98), rowF MarkF 70 (some ⟨b3, 0, none⟩) 1 [⟨e, 0, 1⟩], pt b5 (.cells #[.iface 95 (.pointer (some ⟨b4, 0, none⟩))] 100), rowF MarkF 70 (some ⟨b2, 0, none⟩) hn.length (List.replicate hn.length zM), pt b1 (.cells #[.slice na (hn.length) (nc), .slice ra (hr.length) (rc)] 65), Sat (([] : List Nat).map mkR)]) (perm_ix [1, 2, 0, 3, 4, 5] 6 rfl (by kernel_rfl) (by kernel_rfl)) ?_
  refine c_heap rfl ?_
  refine c_loopM [] (fun (x_ : List KM × List KM × Nat) (Ds : List Nat) (f : Fm) (L : List Res) => match x_ with | (out, hp, cc) => (f 2 = .pointer (some ⟨b1, 0, none⟩) ∧ f 5 = .slice (some ⟨b2, 0, none⟩) (hn.length) hn.length ∧ f 6 = .pointer (some ⟨b5, 0, none⟩)) ∧ L = [heapR b4 hp, pt b5 (.cells #[.iface 95 (.pointer (some ⟨b4, 0, none⟩))] 100), rowF MarkF 70 (some ⟨b2, 0, none⟩) hn.length out, pt b1 (.cells #[.slice na (hn.length) (nc), .slice ra (hr.length) (rc)] 65), Sat (Ds.map mkR)] ∧ (Dj (hn.map HN.k).length (nrL (hn.map HN.k) (hr.map (·.xs))) (wtL (hn.map HN.k)) e out hp cc ∧ (∀ y ∈ hp, y.len ≤ y.pts * 134217728) ∧ hp.length ≤ 1 + cc * 1000000)) (fun (x_ : List KM × List KM × Nat) => match x_ with | (out, hp, cc) => (hn.length - cc) * 1000001 + hp.length) ((List.replicate hn.length zM), [⟨e, 0, 1⟩], 0) ?_ ?_
  · exact ⟨⟨rfl, rfl, rfl⟩, rfl, ⟨by have h := Dj.start (wt := wtL (hn.map HN.k)) he hnb; rwa [List.length_map] at h ⊢, (fun y hy => by rw [List.mem_singleton.1 hy]; exact Nat.zero_le _), by simp⟩⟩
  rintro ⟨out, hp, cc⟩ Ds f0 L0 ⟨⟨hs2, hs5, hs6⟩, hL, ⟨hD, hB, hHl⟩⟩
  subst L0
  refine rebase (d := 2) hs2 ?_
  refine rebase (d := 5) hs5 ?_
  refine rebase (d := 6) hs6 ?_
  clear hs2 hs5 hs6
  have hcN := hD.cnt_le
  have hoL := hD.len
  rw [List.length_map] at hcN hoL
  refine c_seq ?_
  refine c_seq ?_
  refine c_region ?_
  refine l_val (v := .iface 95 (.pointer (some ⟨b4, 0, none⟩))) rfl rfl rfl (e_load1 tw79 (v := .iface 95 (.pointer (some ⟨b4, 0, none⟩))) rfl (k_pt 1 (cs := #[.iface 95 (.pointer (some ⟨b4, 0, none⟩))]) (vs := [.iface 95 (.pointer (some ⟨b4, 0, none⟩))]) rfl rfl)) ?_
  refine l_call rfl rfl rfl (cl_invoke (v := .pointer (some ⟨b4, 0, none⟩)) (vs := []) (all := [.pointer (some ⟨b4, 0, none⟩)]) tw81 rfl rfl rfl) ?_
  intro w hw
  replace hw := hw.perm (L' := _ :: _ :: _ :: _ :: _ :: []) (by exact (((((perm_front 4 rfl).trans (perm_front 4 rfl)).trans (perm_front 4 rfl)).trans (perm_front 4 rfl)).trans (perm_front 4 rfl)))
  obtain ⟨β1, sb, kn, hw1, back⟩ := St.frame (L := [_]) (M := _ :: _ :: _ :: _ :: []) hw
  refine (hlen_ok β1 w b4 hp hw1).mono ?_
  rintro e w' ⟨rfl, hw'⟩
  refine ⟨_, rfl, _, back _ _ hw', ?_⟩
  clear hw hw1 hw' back kn sb
  refine l_val (v := .bool (decide ((0 : Int) < ((hp.length : Nat) : Int)))) rfl rfl rfl (e_gtr (a := ((hp.length : Nat) : Int)) (b := (0 : Int)) rfl rfl) ?_
  refine l_nil ?_
  refine f_then ?_
  refine c_if ((0 : Int) < ((hp.length : Nat) : Int)) rfl (fun hc6 => ?_) (fun hc6 => ?_)
  ·
    refine c_skip ?_
    refine f_then ?_
    refine c_block ?_
    refine c_seq ?_
    have h0l : 0 < hp.length := by have q := hc6; omega
    refine c_region ?_
    refine l_val (v := .iface 95 (.pointer (some ⟨b4, 0, none⟩))) rfl rfl rfl (e_load1 tw79 (v := .iface 95 (.pointer (some ⟨b4, 0, none⟩))) rfl (k_pt 1 (cs := #[.iface 95 (.pointer (some ⟨b4, 0, none⟩))]) (vs := [.iface 95 (.pointer (some ⟨b4, 0, none⟩))]) rfl rfl)) ?_
    refine l_call rfl rfl rfl (cl_value (fst := []) (cap := []) (vs := [.iface 95 (.pointer (some ⟨b4, 0, none⟩))]) (all := [.iface 95 (.pointer (some ⟨b4, 0, none⟩))]) tw82 rfl rfl rfl) ?_
    intro w hw
    replace hw := hw.perm (L' := _ :: _ :: _ :: _ :: _ :: []) (by exact (((((perm_front 4 rfl).trans (perm_front 4 rfl)).trans (perm_front 4 rfl)).trans (perm_front 4 rfl)).trans (perm_front 4 rfl)))
    obtain ⟨β1, sb, kn, hw1, back⟩ := St.frame (L := [_]) (M := _ :: _ :: _ :: _ :: []) hw
    refine (hpop_ok β1 w b4 hp h0l (by omega) hw1).mono ?_
    rintro e w' ⟨x7, ys8, rfl, hyp9, hym10, hw'⟩
    refine ⟨_, rfl, _, back _ _ hw', ?_⟩
    clear hw hw1 hw' back kn sb
    refine l_val (v := .agg #[Nx (x7.node), Nx (x7.len), Nx (x7.pts)]) rfl rfl rfl (e_asrt (v := .agg #[Nx (x7.node), Nx (x7.len), Nx (x7.pts)]) rfl tw83) ?_
    refine l_mv rfl rfl rfl (m_alloc tw73) ?_
    rintro _ _ ⟨b11, rfl, rfl⟩
    refine l_mu rfl rfl (m_store 0 tw84 (b := b11) (o := 0) (T := 70) (cs := #[.int .i64 (0), .int .i64 (0), .int .i64 (0)]) (cs' := #[Nx (x7.node), Nx (x7.len), Nx (x7.pts)]) (v := .agg #[Nx (x7.node), Nx (x7.len), Nx (x7.pts)]) rfl rfl rfl rfl rfl rfl rfl) ?_
    refine l_nil ?_
    refine f_then ?_
    refine c_seq ?_
    refine c_seq ?_
    have hxm : x7 ∈ hp := hyp9.mem_iff.2 List.mem_cons_self
    obtain ⟨hxN, hxp, hxc⟩ := hD.hin x7 hxm
    rw [List.length_map] at hxN
    have hxB := hB x7 hxm
    have hrl := hyp9.length_eq
    rw [List.length_cons] at hrl
    refine c_region ?_
    refine l_val (v := .slice (some ⟨b2, 0, none⟩) (hn.length) hn.length) rfl rfl rfl (e_move) ?_
    refine l_val (v := .pointer (some ⟨b11, 0, none⟩)) rfl rfl rfl (e_fieldPt (b := b11) (o := 0) rfl tw85) ?_
    refine l_val (v := Nx (x7.node)) rfl rfl rfl (e_load1 tp2 (v := Nx (x7.node)) rfl (k_pt 0 (cs := #[Nx (x7.node), Nx (x7.len), Nx (x7.pts)]) (vs := [Nx (x7.node)]) rfl rfl)) ?_
    refine l_val (v := .pointer (some ((ba (some ⟨b2, 0, none⟩)).add (x7.node * 3)))) rfl rfl rfl (e_indexFlN 3 (F := MarkF) (j := x7.node) (m := hn.length) (xs := out) rfl (by omega) rfl tw71 (by omega) rfl) ?_
    refine l_val (v := .pointer (some ((ba (some ⟨b2, 0, none⟩)).add (x7.node * 3 + 2)))) rfl rfl rfl (ev_eq (congrArg (fun z => Value.pointer (some z)) (show ((ba (some ⟨b2, 0, none⟩)).add (x7.node * 3) : Addr).add 2 = (ba (some ⟨b2, 0, none⟩)).add (x7.node * 3 + 2) by rw [Addr.add_add'])) (e_fieldAddr (a := (ba (some ⟨b2, 0, none⟩)).add (x7.node * 3)) rfl tw86)) ?_
    obtain ⟨x12, hx13⟩ : ∃ x_, out[x7.node]? = some x_ := ⟨_, List.getElem?_eq_getElem (by omega)⟩
    refine l_val (v := Nx (x12.pts)) rfl rfl rfl (e_load1 tp2 (v := Nx (x12.pts)) rfl (k_flPart 3 (F := MarkF) (o := 2) (us := [Nx (x12.pts)]) rfl hx13 rfl)) ?_
    refine l_val (v := .bool (decide ((0 : Int) < ((x12.pts : Nat) : Int)))) rfl rfl rfl (e_gtr (a := ((x12.pts : Nat) : Int)) (b := (0 : Int)) rfl rfl) ?_
    refine l_nil ?_
    refine f_then ?_
    refine c_if ((0 : Int) < ((x12.pts : Nat) : Int)) rfl (fun hc14 => ?_) (fun hc14 => ?_)
    ·
      refine c_exit ?_
      refine f_then_exit ?_
      refine f_exit ?_
      refine f_mask (L' := [heapR b4 ys8, pt b5 (.cells #[.iface 95 (.pointer (some ⟨b4, 0, none⟩))] 100), rowF MarkF 70 (some ⟨b2, 0, none⟩) hn.length out, pt b1 (.cells #[.slice na (hn.length) (nc), .slice ra (hr.length) (rc)] 65), Sat (Ds.map mkR)]) [false, true, true, true, true, true] rfl ?_
      exact f_cutM Ds ⟨(out, ys8, cc), ⟨⟨rfl, rfl, rfl⟩, rfl, ⟨hD.skip (fun y => hyp9.mem_iff.trans List.mem_cons) (by rw [mAt_of hx13]; have q := hc14; omega), fun y hy => hB y (hyp9.mem_iff.2 (List.mem_cons_of_mem _ hy)), by omega⟩⟩, (show (hn.length - cc) * 1000001 + ys8.length < (hn.length - cc) * 1000001 + hp.length from by omega)⟩
    ·
      refine c_skip ?_
      refine f_then ?_
      refine c_seq ?_
      refine c_region ?_
      refine l_val (v := .slice (some ⟨b2, 0, none⟩) (hn.length) hn.length) rfl rfl rfl (e_move) ?_
      refine l_val (v := .pointer (some ⟨b11, 0, none⟩)) rfl rfl rfl (e_fieldPt (b := b11) (o := 0) rfl tw85) ?_
      refine l_val (v := Nx (x7.node)) rfl rfl rfl (e_load1 tp2 (v := Nx (x7.node)) rfl (k_pt 0 (cs := #[Nx (x7.node), Nx (x7.len), Nx (x7.pts)]) (vs := [Nx (x7.node)]) rfl rfl)) ?_
      refine l_val (v := .agg #[Nx (x7.node), Nx (x7.len), Nx (x7.pts)]) rfl rfl rfl (e_load tw84 (cs := [Nx (x7.node), Nx (x7.len), Nx (x7.pts)]) rfl (k_pt 0 (cs := #[Nx (x7.node), Nx (x7.len), Nx (x7.pts)]) (vs := [Nx (x7.node), Nx (x7.len), Nx (x7.pts)]) rfl rfl) rfl) ?_
      refine l_val (v := .pointer (some ((ba (some ⟨b2, 0, none⟩)).add (x7.node * 3)))) rfl rfl rfl (e_indexFlN 3 (F := MarkF) (j := x7.node) (m := hn.length) (xs := out) rfl (by omega) rfl tw71 (by omega) rfl) ?_
      refine l_mu rfl rfl (m_storeFl 3 (F := MarkF) (p := (some ⟨b2, 0, none⟩)) (k := x7.node) (xs := out) (z := x7) tw84 rfl rfl rfl rfl (by omega)) ?_
      refine l_nil ?_
      refine f_then ?_
      refine c_seq ?_
      have hs0 : (mAt out x7.node).pts = 0 := by rw [mAt_of hx13]; have q := hc14; omega
      have hcs : cc + 1 ≤ hn.length := by have h := hD.cnt_lt (by rw [List.length_map]; exact hxN) hxp hs0; rwa [List.length_map] at h
      refine c_region ?_
      refine l_val (v := .agg #[.slice na (hn.length) (nc), .slice ra (hr.length) (rc)]) rfl rfl rfl (e_load tv59 (cs := [.slice na (hn.length) (nc), .slice ra (hr.length) (rc)]) rfl (k_pt 4 (cs := #[.slice na (hn.length) (nc), .slice ra (hr.length) (rc)]) (vs := [.slice na (hn.length) (nc), .slice ra (hr.length) (rc)]) rfl rfl) rfl) ?_
      refine l_val (v := .pointer (some ⟨b11, 0, none⟩)) rfl rfl rfl (e_fieldPt (b := b11) (o := 0) rfl tw85) ?_
      refine l_val (v := Nx (x7.node)) rfl rfl rfl (e_load1 tp2 (v := Nx (x7.node)) rfl (k_pt 0 (cs := #[Nx (x7.node), Nx (x7.len), Nx (x7.pts)]) (vs := [Nx (x7.node)]) rfl rfl)) ?_
      refine l_call rfl rfl rfl (cl_value (fst := []) (cap := []) (vs := [.agg #[.slice na (hn.length) (nc), .slice ra (hr.length) (rc)], Nx (x7.node)]) (all := [.agg #[.slice na (hn.length) (nc), .slice ra (hr.length) (rc)], Nx (x7.node)]) tw87 rfl rfl rfl) ?_
      intro w hw
      obtain ⟨β1, sb, kn, hw1, back⟩ := St.frame_all hw
      refine (near_ok β1 w hw1 (.slice na (hn.length) (nc)) (.slice ra (hr.length) (rc)) x7.node).mono ?_
      rintro e w' ⟨nb15, nd16, rfl, hw'⟩
      refine ⟨_, rfl, _, back _ _ hw', ?_⟩
      clear hw hw1 hw' back kn sb
      refine l_nil ?_
      refine f_then ?_
      refine c_block ?_
      refine c_perm (L' := [pt b11 (.cells #[Nx (x7.node), Nx (x7.len), Nx (x7.pts)] 70), heapR b4 ys8, pt b5 (.cells #[.iface 95 (.pointer (some ⟨b4, 0, none⟩))] 100), rowF MarkF 70 (some ⟨b2, 0, none⟩) hn.length (out.set x7.node x7), pt b1 (.cells #[.slice na (hn.length) (nc), .slice ra (hr.length) (rc)] 65), Sat (Ds.map mkR), pt nb15 (.cells #[.slice na (hn.length) (nc), .slice ra (hr.length) (rc)] 65), pt nd16 (.cells #[Nx (x7.node)] 3)]) (perm_ix [2, 3, 4, 5, 6, 7, 0, 1] 8 rfl (by kernel_rfl) (by kernel_rfl)) ?_
      refine c_rangeK (L := [pt b11 (.cells #[Nx (x7.node), Nx (x7.len), Nx (x7.pts)] 70), heapR b4 ys8, pt b5 (.cells #[.iface 95 (.pointer (some ⟨b4, 0, none⟩))] 100), rowF MarkF 70 (some ⟨b2, 0, none⟩) hn.length (out.set x7.node x7), pt b1 (.cells #[.slice na (hn.length) (nc), .slice ra (hr.length) (rc)] 65), Sat (Ds.map mkR)]) (K := [pt nb15 (.cells #[.slice na (hn.length) (nc), .slice ra (hr.length) (rc)] 65), pt nd16 (.cells #[Nx (x7.node)] 3)]) (α := Nat) (enc := fun z : Nat => [Nx z]) (S := fun l => l = nrL (hn.map HN.k) (hr.map (·.xs)) x7.node) (ps := [41]) (I := fun (pre : List (Nat)) (L : List Res) => L = [pt b11 (.cells #[Nx (x7.node), Nx (x7.len), Nx (x7.pts)] 70), heapR b4 (ys8 ++ pre.map (fun k => (⟨k, x7.len + wtL (hn.map HN.k) x7.node k, x7.pts + 1⟩ : KM))), pt b5 (.cells #[.iface 95 (.pointer (some ⟨b4, 0, none⟩))] 100), rowF MarkF 70 (some ⟨b2, 0, none⟩) hn.length (out.set x7.node x7), pt b1 (.cells #[.slice na (hn.length) (nc), .slice ra (hr.length) (rc)] 65), Sat (Ds.map mkR)] ∧ (True)) (X := fun _ _ _ => False) rfl (near_seq β nb15 nd16 _ _ _ _ hG0 x7.node (by rw [List.length_map]; exact hxN) hRR) (fun _ => rfl) rfl ⟨by rw [List.map_nil, List.append_nil], trivial⟩ ?_ ?_ ?_
      · rintro lz β1 pre x M ext hpre ⟨rfl, -⟩
        refine c_region ?_
        refine l_val (v := Nx (x)) rfl rfl rfl (e_assign) ?_
        refine l_nil ?_
        refine f_cut (fun β2 ext2 => ?_)
        replace s1 := Sl.mono _ _ _ _ _ ext2.sub s1
        obtain ⟨-, -, -, ne⟩ := Sl.parts s1
        obtain ⟨lq, hlq, hpq⟩ := hpre
        subst hlq
        have hxr : x ∈ nrL (hn.map HN.k) (hr.map (·.xs)) x7.node := hpq.subset (List.mem_append_right _ List.mem_cons_self)
        have hxk := hnb _ (by rw [List.length_map]; exact hxN) x hxr
        rw [List.length_map] at hxk
        have hpl := hpq.length_le
        rw [List.length_append, List.length_singleton] at hpl
        have hnl := hnbl _ (show x7.node < (hn.map HN.k).length by rw [List.length_map]; exact hxN)
        refine c_block ?_
        obtain ⟨x17, hx18⟩ : ∃ x_, (hn)[x7.node]? = some x_ := ⟨_, List.getElem?_eq_getElem (by omega)⟩
        obtain ⟨ha19, cs20, hc21, hr22⟩ := ne _ _ hx18
        obtain rfl := hr22
        obtain ⟨-, x17m, x17t, x17e⟩ := Sl.parts (a1 x17 (List.mem_of_getElem? hx18))
        obtain ⟨x23, hx24⟩ : ∃ x_, (hn)[x]? = some x_ := ⟨_, List.getElem?_eq_getElem (by omega)⟩
        obtain ⟨ha25, cs26, hc27, hr28⟩ := ne _ _ hx24
        obtain rfl := hr28
        obtain ⟨-, x23m, x23t, x23e⟩ := Sl.parts (a1 x23 (List.mem_of_getElem? hx24))
        have hlv := lenV_bd x17.x x17.y x23.x x23.y
        refine c_any [⟨[], [], [0], [42], fun f => f 42 = .iface 95 (.pointer (some ⟨b4, 0, none⟩))⟩, ⟨[], [], [1], [43], fun f => f 43 = Nx (x)⟩, ⟨[], [], [2], [44], fun f => f 44 = .pointer (some ⟨b11, 1, none⟩)⟩, ⟨[2], [2], [], [45], fun f => f 45 = Nx (x7.len)⟩, ⟨[], [], [3], [46], fun f => f 46 = .pointer (some ⟨b1, 0, none⟩)⟩, ⟨[4], [4], [], [47], fun f => f 47 = .slice na (hn.length) (nc)⟩, ⟨[], [], [2], [48], fun f => f 48 = .pointer (some ⟨b11, 0, none⟩)⟩, ⟨[6], [6], [], [49], fun f => f 49 = Nx (x7.node)⟩, ⟨[4, 5, 6, 7], [5, 7], [], [50], fun f => f 50 = .pointer (some ((ba na).add (x7.node * 3)))⟩, ⟨[4, 5, 6, 7, 8], [8], [], [51], fun f => f 51 = .pointer (some (((ba na).add (x7.node * 3) : Addr).add 0))⟩, ⟨[4, 5, 6, 7, 8, 9], [9], [], [52], fun f => f 52 = .agg #[Ix (x17.x), Ix (x17.y)]⟩, ⟨[], [], [3], [53], fun f => f 53 = .pointer (some ⟨b1, 0, none⟩)⟩, ⟨[11], [11], [], [54], fun f => f 54 = .slice na (hn.length) (nc)⟩, ⟨[], [], [1], [55], fun f => f 55 = Nx (x)⟩, ⟨[11, 12, 13], [12, 13], [], [56], fun f => f 56 = .pointer (some ((ba na).add (x * 3)))⟩, ⟨[11, 12, 13, 14], [14], [], [57], fun f => f 57 = .pointer (some (((ba na).add (x * 3) : Addr).add 0))⟩, ⟨[11, 12, 13, 14, 15], [15], [], [58], fun f => f 58 = .agg #[Ix (x23.x), Ix (x23.y)]⟩, ⟨[4, 5, 6, 7, 8, 9, 10, 11, 12, 13, 14, 15, 16], [10, 16], [], [59], fun f => f 59 = Nx (lenV x17.x x17.y x23.x x23.y)⟩, ⟨[2, 3, 4, 5, 6, 7, 8, 9, 10, 11, 12, 13, 14, 15, 16, 17], [3, 17], [], [60], fun f => f 60 = Nx (x7.len + (lenV x17.x x17.y x23.x x23.y))⟩, ⟨[], [], [2], [61], fun f => f 61 = .pointer (some ⟨b11, 2, none⟩)⟩, ⟨[19], [19], [], [62], fun f => f 62 = Nx (x7.pts)⟩, ⟨[19, 20], [20], [], [63], fun f => f 63 = Nx (x7.pts + 1)⟩, ⟨[1, 2, 3, 4, 5, 6, 7, 8, 9, 10, 11, 12, 13, 14, 15, 16, 17, 18, 19, 20, 21], [1, 18, 21], [], [64], fun f => f 64 = .agg #[Nx (x), Nx (x7.len + (lenV x17.x x17.y x23.x x23.y)), Nx (x7.pts + 1)]⟩, ⟨[1, 2, 3, 4, 5, 6, 7, 8, 9, 10, 11, 12, 13, 14, 15, 16, 17, 18, 19, 20, 21, 22], [22], [], [65], fun f => f 65 = .iface 70 (.agg #[Nx (x), Nx (x7.len + (lenV x17.x x17.y x23.x x23.y)), Nx (x7.pts + 1)])⟩, ⟨[0, 1, 2, 3, 4, 5, 6, 7, 8, 9, 10, 11, 12, 13, 14, 15, 16, 17, 18, 19, 20, 21, 22, 23], [0, 23], [], [66], fun f => f 66 = .tuple #[]⟩] [⟨none, none, [3, 7, 20], [], fun _ => pt b11 (.cells #[Nx (x7.node), Nx (x7.len), Nx (x7.pts)] 70)⟩, ⟨none, (some 24), [24], [], fun _ => heapR b4 (ys8 ++ pre.map (fun k => (⟨k, x7.len + wtL (hn.map HN.k) x7.node k, x7.pts + 1⟩ : KM)))⟩, ⟨none, none, [0], [], fun _ => pt b5 (.cells #[.iface 95 (.pointer (some ⟨b4, 0, none⟩))] 100)⟩, ⟨none, none, [], [], fun _ => rowF MarkF 70 (some ⟨b2, 0, none⟩) hn.length (out.set x7.node x7)⟩, ⟨none, none, [5, 12], [], fun _ => pt b1 (.cells #[.slice na (hn.length) (nc), .slice ra (hr.length) (rc)] 65)⟩, ⟨none, none, [], [], fun _ => Sat (Ds.map mkR)⟩, ⟨(some 24), none, [], [], fun _ => heapR b4 ((ys8 ++ pre.map (fun k => (⟨k, x7.len + wtL (hn.map HN.k) x7.node k, x7.pts + 1⟩ : KM))) ++ [(⟨x, x7.len + (lenV x17.x x17.y x23.x x23.y), x7.pts + 1⟩ : KM)])⟩] [(6, .pointer (some ⟨b5, 0, none⟩)), (8, Nx (x)), (7, .pointer (some ⟨b11, 0, none⟩)), (2, .pointer (some ⟨b1, 0, none⟩))] [] [] (by kernel_rfl) (by kernel_rfl) (by kernel_rfl) (by kernel_rfl) rfl ⟨rfl, rfl, rfl, rfl, trivial⟩ ⟨?_, ?_, ?_, ?_, ?_, ?_, ?_, ?_, ?_, ?_, ?_, ?_, ?_, ?_, ?_, ?_, ?_, ?_, ?_, ?_, ?_, ?_, ?_, ?_, ?_, trivial⟩ ?_
        · rintro f M - ⟨i0, -⟩
          have hs6 : f 6 = .pointer (some ⟨b5, 0, none⟩) := i0
          refine ob_start (L' := pt b5 (.cells #[.iface 95 (.pointer (some ⟨b4, 0, none⟩))] 100) :: M) (by rfl) (up_cons rfl hs6) ?_
          refine l_val (v := .iface 95 (.pointer (some ⟨b4, 0, none⟩))) rfl rfl rfl (e_load1 tw79 (v := .iface 95 (.pointer (some ⟨b4, 0, none⟩))) rfl (k_pt 0 (cs := #[.iface 95 (.pointer (some ⟨b4, 0, none⟩))]) (vs := [.iface 95 (.pointer (some ⟨b4, 0, none⟩))]) rfl rfl)) ?_
          refine l_nil ?_
          exact f_owes_d (up_cons rfl hs6) rfl (perm_front 0 rfl)
        · rintro f M - ⟨i0, -⟩
          have hs8 : f 8 = Nx (x) := i0
          refine ob_start (L' := M) (by rfl) (up_cons rfl hs8) ?_
          refine l_val (v := Nx (x)) rfl rfl rfl (e_move) ?_
          refine l_nil ?_
          exact f_owes_d (up_cons rfl hs8) rfl (List.Perm.refl _)
        · rintro f M - ⟨i0, -⟩
          have hs7 : f 7 = .pointer (some ⟨b11, 0, none⟩) := i0
          refine ob_start (L' := M) (by rfl) (up_cons rfl hs7) ?_
          refine l_val (v := .pointer (some ⟨b11, 1, none⟩)) rfl rfl rfl (e_fieldPt (b := b11) (o := 0) rfl tw88) ?_
          refine l_nil ?_
          exact f_owes_d (up_cons rfl hs7) rfl (List.Perm.refl _)
        · rintro f M ⟨k0, -⟩ -
          have hs44 : f 44 = .pointer (some ⟨b11, 1, none⟩) := k0
          refine ob_start (L' := pt b11 (.cells #[Nx (x7.node), Nx (x7.len), Nx (x7.pts)] 70) :: M) (by rfl) (up_cons rfl hs44) ?_
          refine l_val (v := Nx (x7.len)) rfl rfl rfl (e_load1 tp2 (v := Nx (x7.len)) rfl (k_pt 0 (cs := #[Nx (x7.node), Nx (x7.len), Nx (x7.pts)]) (vs := [Nx (x7.len)]) rfl rfl)) ?_
          refine l_nil ?_
          exact f_owes_d (up_cons rfl hs44) rfl (perm_front 0 rfl)
        · rintro f M - ⟨i0, -⟩
          have hs2 : f 2 = .pointer (some ⟨b1, 0, none⟩) := i0
          refine ob_start (L' := M) (by rfl) (up_cons rfl hs2) ?_
          refine l_val (v := .pointer (some ⟨b1, 0, none⟩)) rfl rfl rfl (e_fieldPt (b := b1) (o := 0) rfl tv48) ?_
          refine l_nil ?_
          exact f_owes_d (up_cons rfl hs2) rfl (List.Perm.refl _)
        · rintro f M ⟨k0, -⟩ -
          have hs46 : f 46 = .pointer (some ⟨b1, 0, none⟩) := k0
          refine ob_start (L' := pt b1 (.cells #[.slice na (hn.length) (nc), .slice ra (hr.length) (rc)] 65) :: M) (by rfl) (up_cons rfl hs46) ?_
          refine l_val (v := .slice na (hn.length) (nc)) rfl rfl rfl (e_load1 tv49 (v := .slice na (hn.length) (nc)) rfl (k_pt 0 (cs := #[.slice na (hn.length) (nc), .slice ra (hr.length) (rc)]) (vs := [.slice na (hn.length) (nc)]) rfl rfl)) ?_
          refine l_nil ?_
          exact f_owes_d (up_cons rfl hs46) rfl (perm_front 0 rfl)
        · rintro f M - ⟨i0, -⟩
          have hs7 : f 7 = .pointer (some ⟨b11, 0, none⟩) := i0
          refine ob_start (L' := M) (by rfl) (up_cons rfl hs7) ?_
          refine l_val (v := .pointer (some ⟨b11, 0, none⟩)) rfl rfl rfl (e_fieldPt (b := b11) (o := 0) rfl tw85) ?_
          refine l_nil ?_
          exact f_owes_d (up_cons rfl hs7) rfl (List.Perm.refl _)
        · rintro f M ⟨k0, -⟩ -
          have hs48 : f 48 = .pointer (some ⟨b11, 0, none⟩) := k0
          refine ob_start (L' := pt b11 (.cells #[Nx (x7.node), Nx (x7.len), Nx (x7.pts)] 70) :: M) (by rfl) (up_cons rfl hs48) ?_
          refine l_val (v := Nx (x7.node)) rfl rfl rfl (e_load1 tp2 (v := Nx (x7.node)) rfl (k_pt 0 (cs := #[Nx (x7.node), Nx (x7.len), Nx (x7.pts)]) (vs := [Nx (x7.node)]) rfl rfl)) ?_
          refine l_nil ?_
          exact f_owes_d (up_cons rfl hs48) rfl (perm_front 0 rfl)
        · rintro f M ⟨k0, k1, -⟩ -
          have hs47 : f 47 = .slice na (hn.length) (nc) := k0
          have hs49 : f 49 = Nx (x7.node) := k1
          refine ob_start (L' := M) (by rfl) (up_cons (up_cons rfl hs47) hs49) ?_
          refine l_val (v := .pointer (some ((ba na).add (x7.node * 3)))) rfl rfl rfl (e_indexAddr (k := x7.node) (len := hn.length) (cap := nc) (a := na) rfl rfl tv53 (by omega) ha19) ?_
          refine l_nil ?_
          exact f_owes_d (up_cons (up_cons rfl hs47) hs49) rfl (List.Perm.refl _)
        · rintro f M ⟨k0, -⟩ -
          have hs50 : f 50 = .pointer (some ((ba na).add (x7.node * 3))) := k0
          refine ob_start (L' := M) (by rfl) (up_cons rfl hs50) ?_
          refine l_val (v := .pointer (some (((ba na).add (x7.node * 3) : Addr).add 0))) rfl rfl rfl (e_fieldAddr (a := (ba na).add (x7.node * 3)) rfl tw89) ?_
          refine l_nil ?_
          exact f_owes_d (up_cons rfl hs50) rfl (List.Perm.refl _)
        · rintro f M ⟨k0, -⟩ -
          have hs51 : f 51 = .pointer (some (((ba na).add (x7.node * 3) : Addr).add 0)) := k0
          refine ob_start (L' := M) (by rfl) (up_cons rfl hs51) ?_
          refine l_val (v := .agg #[Ix (x17.x), Ix (x17.y)]) rfl rfl rfl (e_load tp7 (cs := [Ix (x17.x), Ix (x17.y)]) rfl (Knows.imp (Knows.of_base (Cs.mono _ _) hc21) (fun _ h => Cs.sub (vs := [Ix (x17.x), Ix (x17.y)]) 0 h rfl)) rfl) ?_
          refine l_nil ?_
          exact f_owes_d (up_cons rfl hs51) rfl (List.Perm.refl _)
        · rintro f M - ⟨i0, -⟩
          have hs2 : f 2 = .pointer (some ⟨b1, 0, none⟩) := i0
          refine ob_start (L' := M) (by rfl) (up_cons rfl hs2) ?_
          refine l_val (v := .pointer (some ⟨b1, 0, none⟩)) rfl rfl rfl (e_fieldPt (b := b1) (o := 0) rfl tv48) ?_
          refine l_nil ?_
          exact f_owes_d (up_cons rfl hs2) rfl (List.Perm.refl _)
        · rintro f M ⟨k0, -⟩ -
          have hs53 : f 53 = .pointer (some ⟨b1, 0, none⟩) := k0
          refine ob_start (L' := pt b1 (.cells #[.slice na (hn.length) (nc), .slice ra (hr.length) (rc)] 65) :: M) (by rfl) (up_cons rfl hs53) ?_
          refine l_val (v := .slice na (hn.length) (nc)) rfl rfl rfl (e_load1 tv49 (v := .slice na (hn.length) (nc)) rfl (k_pt 0 (cs := #[.slice na (hn.length) (nc), .slice ra (hr.length) (rc)]) (vs := [.slice na (hn.length) (nc)]) rfl rfl)) ?_
          refine l_nil ?_
          exact f_owes_d (up_cons rfl hs53) rfl (perm_front 0 rfl)
        · rintro f M - ⟨i0, -⟩
          have hs8 : f 8 = Nx (x) := i0
          refine ob_start (L' := M) (by rfl) (up_cons rfl hs8) ?_
          refine l_val (v := Nx (x)) rfl rfl rfl (e_move) ?_
          refine l_nil ?_
          exact f_owes_d (up_cons rfl hs8) rfl (List.Perm.refl _)
        · rintro f M ⟨k0, k1, -⟩ -
          have hs54 : f 54 = .slice na (hn.length) (nc) := k0
          have hs55 : f 55 = Nx (x) := k1
          refine ob_start (L' := M) (by rfl) (up_cons (up_cons rfl hs54) hs55) ?_
          refine l_val (v := .pointer (some ((ba na).add (x * 3)))) rfl rfl rfl (e_indexAddr (k := x) (len := hn.length) (cap := nc) (a := na) rfl rfl tv53 (by omega) ha25) ?_
          refine l_nil ?_
          exact f_owes_d (up_cons (up_cons rfl hs54) hs55) rfl (List.Perm.refl _)
        · rintro f M ⟨k0, -⟩ -
          have hs56 : f 56 = .pointer (some ((ba na).add (x * 3))) := k0
          refine ob_start (L' := M) (by rfl) (up_cons rfl hs56) ?_
          refine l_val (v := .pointer (some (((ba na).add (x * 3) : Addr).add 0))) rfl rfl rfl (e_fieldAddr (a := (ba na).add (x * 3)) rfl tw89) ?_
          refine l_nil ?_
          exact f_owes_d (up_cons rfl hs56) rfl (List.Perm.refl _)
        · rintro f M ⟨k0, -⟩ -
          have hs57 : f 57 = .pointer (some (((ba na).add (x * 3) : Addr).add 0)) := k0
          refine ob_start (L' := M) (by rfl) (up_cons rfl hs57) ?_
          refine l_val (v := .agg #[Ix (x23.x), Ix (x23.y)]) rfl rfl rfl (e_load tp7 (cs := [Ix (x23.x), Ix (x23.y)]) rfl (Knows.imp (Knows.of_base (Cs.mono _ _) hc27) (fun _ h => Cs.sub (vs := [Ix (x23.x), Ix (x23.y)]) 0 h rfl)) rfl) ?_
          refine l_nil ?_
          exact f_owes_d (up_cons rfl hs57) rfl (List.Perm.refl _)
        · rintro f M ⟨k0, k1, -⟩ -
          have hs52 : f 52 = .agg #[Ix (x17.x), Ix (x17.y)] := k0
          have hs58 : f 58 = .agg #[Ix (x23.x), Ix (x23.y)] := k1
          refine ob_start (L' := M) (by rfl) (up_cons (up_cons rfl hs52) hs58) ?_
          refine l_call rfl rfl rfl (cl_value (fst := []) (cap := []) (vs := [.agg #[Ix (x17.x), Ix (x17.y)], .agg #[Ix (x23.x), Ix (x23.y)]]) (all := [.agg #[Ix (x17.x), Ix (x17.y)], .agg #[Ix (x23.x), Ix (x23.y)]]) tw90 rfl rfl rfl) ?_
          intro w hw
          obtain ⟨β1, sb, kn, hw1, back⟩ := St.frame_all hw
          refine (length_ok β1 w hw1 ⟨x17.x, x17.y⟩ ⟨x23.x, x23.y⟩).mono ?_
          rintro e w' ⟨rfl, hw'⟩
          refine ⟨_, rfl, _, back _ _ hw', ?_⟩
          clear hw hw1 hw' back kn sb
          refine l_nil ?_
          exact f_owes_d (up_cons (up_cons rfl hs52) hs58) rfl (List.Perm.refl _)
        · rintro f M ⟨k0, k1, -⟩ -
          have hs45 : f 45 = Nx (x7.len) := k0
          have hs59 : f 59 = Nx (lenV x17.x x17.y x23.x x23.y) := k1
          refine ob_start (L' := M) (by rfl) (up_cons (up_cons rfl hs45) hs59) ?_
          refine l_val (v := Nx (x7.len + (lenV x17.x x17.y x23.x x23.y))) rfl rfl rfl (e_add (a := ((x7.len : Nat) : Int)) (b := ((lenV x17.x x17.y x23.x x23.y : Nat) : Int)) rfl rfl (i64n (by omega) (by omega))) ?_
          refine l_nil ?_
          exact f_owes_d (up_cons (up_cons rfl hs45) hs59) rfl (List.Perm.refl _)
        · rintro f M - ⟨i0, -⟩
          have hs7 : f 7 = .pointer (some ⟨b11, 0, none⟩) := i0
          refine ob_start (L' := M) (by rfl) (up_cons rfl hs7) ?_
          refine l_val (v := .pointer (some ⟨b11, 2, none⟩)) rfl rfl rfl (e_fieldPt (b := b11) (o := 0) rfl tw86) ?_
          refine l_nil ?_
          exact f_owes_d (up_cons rfl hs7) rfl (List.Perm.refl _)
        · rintro f M ⟨k0, -⟩ -
          have hs61 : f 61 = .pointer (some ⟨b11, 2, none⟩) := k0
          refine ob_start (L' := pt b11 (.cells #[Nx (x7.node), Nx (x7.len), Nx (x7.pts)] 70) :: M) (by rfl) (up_cons rfl hs61) ?_
          refine l_val (v := Nx (x7.pts)) rfl rfl rfl (e_load1 tp2 (v := Nx (x7.pts)) rfl (k_pt 0 (cs := #[Nx (x7.node), Nx (x7.len), Nx (x7.pts)]) (vs := [Nx (x7.pts)]) rfl rfl)) ?_
          refine l_nil ?_
          exact f_owes_d (up_cons rfl hs61) rfl (perm_front 0 rfl)
        · rintro f M ⟨k0, -⟩ -
          have hs62 : f 62 = Nx (x7.pts) := k0
          refine ob_start (L' := M) (by rfl) (up_cons rfl hs62) ?_
          refine l_val (v := Nx (x7.pts + 1)) rfl rfl rfl (e_add (a := ((x7.pts : Nat) : Int)) (b := (1 : Int)) rfl rfl (i64n (by omega) (by omega))) ?_
          refine l_nil ?_
          exact f_owes_d (up_cons rfl hs62) rfl (List.Perm.refl _)
        · rintro f M ⟨k0, k1, k2, -⟩ -
          have hs43 : f 43 = Nx (x) := k0
          have hs60 : f 60 = Nx (x7.len + (lenV x17.x x17.y x23.x x23.y)) := k1
          have hs63 : f 63 = Nx (x7.pts + 1) := k2
          refine ob_start (L' := M) (by rfl) (up_cons (up_cons (up_cons rfl hs43) hs60) hs63) ?_
          refine l_val (v := .agg #[Nx (x), Nx (x7.len + (lenV x17.x x17.y x23.x x23.y)), Nx (x7.pts + 1)]) rfl rfl rfl (e_build tw73 tw74 (vs := [(0, Nx (x)), (1, Nx (x7.len + (lenV x17.x x17.y x23.x x23.y))), (2, Nx (x7.pts + 1))]) (cells := #[Nx (x), Nx (x7.len + (lenV x17.x x17.y x23.x x23.y)), Nx (x7.pts + 1)]) rfl rfl) ?_
          refine l_nil ?_
          exact f_owes_d (up_cons (up_cons (up_cons rfl hs43) hs60) hs63) rfl (List.Perm.refl _)
        · rintro f M ⟨k0, -⟩ -
          have hs64 : f 64 = .agg #[Nx (x), Nx (x7.len + (lenV x17.x x17.y x23.x x23.y)), Nx (x7.pts + 1)] := k0
          refine ob_start (L' := M) (by rfl) (up_cons rfl hs64) ?_
          refine l_val (v := .iface 70 (.agg #[Nx (x), Nx (x7.len + (lenV x17.x x17.y x23.x x23.y)), Nx (x7.pts + 1)])) rfl rfl rfl (e_mkif (v := .agg #[Nx (x), Nx (x7.len + (lenV x17.x x17.y x23.x x23.y)), Nx (x7.pts + 1)]) rfl tw83) ?_
          refine l_nil ?_
          exact f_owes_d (up_cons rfl hs64) rfl (List.Perm.refl _)
        · rintro f M ⟨k0, k1, -⟩ -
          have hs42 : f 42 = .iface 95 (.pointer (some ⟨b4, 0, none⟩)) := k0
          have hs65 : f 65 = .iface 70 (.agg #[Nx (x), Nx (x7.len + (lenV x17.x x17.y x23.x x23.y)), Nx (x7.pts + 1)]) := k1
          refine ob_start (L' := heapR b4 (ys8 ++ pre.map (fun k => (⟨k, x7.len + wtL (hn.map HN.k) x7.node k, x7.pts + 1⟩ : KM))) :: M) (by rfl) (up_cons (up_cons rfl hs42) hs65) ?_
          refine l_call rfl rfl rfl (cl_value (fst := []) (cap := []) (vs := [.iface 95 (.pointer (some ⟨b4, 0, none⟩)), .iface 70 (.agg #[Nx (x), Nx (x7.len + (lenV x17.x x17.y x23.x x23.y)), Nx (x7.pts + 1)])]) (all := [.iface 95 (.pointer (some ⟨b4, 0, none⟩)), .iface 70 (.agg #[Nx (x), Nx (x7.len + (lenV x17.x x17.y x23.x x23.y)), Nx (x7.pts + 1)])]) tw91 rfl rfl rfl) ?_
          intro w hw
          replace hw := hw.perm (L' := _ :: M) (by exact (perm_front 0 rfl))
          obtain ⟨β1, sb, kn, hw1, back⟩ := St.frame (L := [_]) (M := M) hw
          refine (hpush_ok β1 w b4 (ys8 ++ pre.map (fun k => (⟨k, x7.len + wtL (hn.map HN.k) x7.node k, x7.pts + 1⟩ : KM))) (by simp only [List.length_append, List.length_map]; omega) (⟨x, x7.len + (lenV x17.x x17.y x23.x x23.y), x7.pts + 1⟩ : KM) hw1).mono ?_
          rintro e w' ⟨rfl, hw'⟩
          refine ⟨_, rfl, _, back _ _ hw', ?_⟩
          clear hw hw1 hw' back kn sb
          refine l_nil ?_
          exact f_owes_d (up_cons (up_cons rfl hs42) hs65) rfl (perm_front 0 rfl)
        rintro fa29 ⟨-, -, -, -, -, -, -, -, -, -, -, -, -, -, -, -, -, -, -, -, -, -, -, -, -, -⟩ -
        refine f_re (L' := [pt b11 (.cells #[Nx (x7.node), Nx (x7.len), Nx (x7.pts)] 70), pt b5 (.cells #[.iface 95 (.pointer (some ⟨b4, 0, none⟩))] 100), rowF MarkF 70 (some ⟨b2, 0, none⟩) hn.length (out.set x7.node x7), pt b1 (.cells #[.slice na (hn.length) (nc), .slice ra (hr.length) (rc)] 65), Sat (Ds.map mkR), heapR b4 ((ys8 ++ pre.map (fun k => (⟨k, x7.len + wtL (hn.map HN.k) x7.node k, x7.pts + 1⟩ : KM))) ++ [(⟨x, x7.len + (lenV x17.x x17.y x23.x x23.y), x7.pts + 1⟩ : KM)])]) (by rfl) ?_
        refine f_block ?_
        refine f_perm (L' := [pt b11 (.cells #[Nx (x7.node), Nx (x7.len), Nx (x7.pts)] 70), heapR b4 ((ys8 ++ pre.map (fun k => (⟨k, x7.len + wtL (hn.map HN.k) x7.node k, x7.pts + 1⟩ : KM))) ++ [(⟨x, x7.len + (lenV x17.x x17.y x23.x x23.y), x7.pts + 1⟩ : KM)]), pt b5 (.cells #[.iface 95 (.pointer (some ⟨b4, 0, none⟩))] 100), rowF MarkF 70 (some ⟨b2, 0, none⟩) hn.length (out.set x7.node x7), pt b1 (.cells #[.slice na (hn.length) (nc), .slice ra (hr.length) (rc)] 65), Sat (Ds.map mkR)]) (perm_ix [0, 5, 1, 2, 3, 4] 6 rfl (by kernel_rfl) (by kernel_rfl)) ?_
        exact fun a w ha hw => ⟨_, ⟨by simp only [List.map_append, List.map_cons, List.map_nil, ← List.append_assoc, wt_eq hx18 hx24], trivial⟩, hw⟩
      · rintro D1 ys1 M hS1 ⟨rfl, -⟩
        refine f_perm (L' := [pt D1 (.deferred (some [])), Sat (Ds.map mkR), pt b11 (.cells #[Nx (x7.node), Nx (x7.len), Nx (x7.pts)] 70), heapR b4 (ys8 ++ ys1.map (fun k => (⟨k, x7.len + wtL (hn.map HN.k) x7.node k, x7.pts + 1⟩ : KM))), pt b5 (.cells #[.iface 95 (.pointer (some ⟨b4, 0, none⟩))] 100), rowF MarkF 70 (some ⟨b2, 0, none⟩) hn.length (out.set x7.node x7), pt b1 (.cells #[.slice na (hn.length) (nc), .slice ra (hr.length) (rc)] 65)]) (perm_ix [6, 5, 0, 1, 2, 3, 4] 7 rfl (by kernel_rfl) (by kernel_rfl)) ?_
        refine f_consG (own := mkR) (x := D1) rfl ?_
        subst hS1
        have hnl := hnbl _ (show x7.node < (hn.map HN.k).length by rw [List.length_map]; exact hxN)
        obtain ⟨h2, hh2⟩ : ∃ z, z = (ys8 ++ (nrL (hn.map HN.k) (hr.map (·.xs)) x7.node).map (fun k => (⟨k, x7.len + wtL (hn.map HN.k) x7.node k, x7.pts + 1⟩ : KM))) := ⟨_, rfl⟩
        have hql : h2.length = ys8.length + (nrL (hn.map HN.k) (hr.map (·.xs)) x7.node).length := by rw [hh2, List.length_append, List.length_map]
        rw [← hh2]
        have hRD := hD.set (fun y => hyp9.mem_iff.trans List.mem_cons) hym10 hs0 (hp2 := h2) fun y => by rw [hh2, List.mem_append, List.mem_map]; simp only [eq_comm]
        have hRb : ∀ y ∈ h2, y.len ≤ y.pts * 134217728 := fun y hy => by
          rw [hh2] at hy
          rcases List.mem_append.1 hy with q | q
          · exact hB y (hyp9.mem_iff.2 (List.mem_cons_of_mem _ q))
          · obtain ⟨k, _, rfl⟩ := List.mem_map.1 q; have := wtL_bd (hn.map HN.k) x7.node k; show x7.len + _ ≤ (x7.pts + 1) * _; omega
        have hRl : h2.length ≤ 1 + (cc + 1) * 1000000 := by omega
        have hdec : (hn.length - (cc + 1)) * 1000001 + h2.length < (hn.length - cc) * 1000001 + hp.length := by omega
        refine f_block ?_
        refine f_block ?_
        refine f_perm (L' := [heapR b4 h2, pt b5 (.cells #[.iface 95 (.pointer (some ⟨b4, 0, none⟩))] 100), rowF MarkF 70 (some ⟨b2, 0, none⟩) hn.length (out.set x7.node x7), pt b1 (.cells #[.slice na (hn.length) (nc), .slice ra (hr.length) (rc)] 65), Sat ((D1 :: Ds).map mkR), pt b11 (.cells #[Nx (x7.node), Nx (x7.len), Nx (x7.pts)] 70)]) (perm_ix [2, 3, 4, 5, 0, 1] 6 rfl (by kernel_rfl) (by kernel_rfl)) ?_
        refine f_mask (L' := [heapR b4 h2, pt b5 (.cells #[.iface 95 (.pointer (some ⟨b4, 0, none⟩))] 100), rowF MarkF 70 (some ⟨b2, 0, none⟩) hn.length (out.set x7.node x7), pt b1 (.cells #[.slice na (hn.length) (nc), .slice ra (hr.length) (rc)] 65), Sat ((D1 :: Ds).map mkR)]) [true, true, true, true, true, false] rfl ?_
        exact f_cutM (D1 :: Ds) ⟨((out.set x7.node x7), h2, cc + 1), ⟨⟨rfl, rfl, rfl⟩, rfl, ⟨hRD, hRb, hRl⟩⟩, hdec⟩
      · intro D c pre M h; exact h.elim
  ·
    refine c_exit ?_
    refine f_then_exit ?_
    refine f_then_exit ?_
    refine f_exit ?_
    refine f_then ?_
    refine c_seq ?_
    refine c_region ?_
    refine l_val (v := .slice (some ⟨b2, 0, none⟩) (hn.length) hn.length) rfl rfl rfl (e_move) ?_
    refine l_val (v := .slice (some ⟨b2, 0, none⟩) (hn.length) hn.length) rfl rfl rfl (e_assign) ?_
    refine l_nil ?_
    refine f_then ?_
    refine c_ret ?_
    refine f_perm (L' := [Sat (Ds.map mkR), heapR b4 hp, pt b5 (.cells #[.iface 95 (.pointer (some ⟨b4, 0, none⟩))] 100), rowF MarkF 70 (some ⟨b2, 0, none⟩) hn.length out, pt b1 (.cells #[.slice na (hn.length) (nc), .slice ra (hr.length) (rc)] 65)]) (perm_ix [4, 0, 1, 2, 3] 5 rfl (by kernel_rfl) (by kernel_rfl)) ?_
    refine retMs (Ds := Ds) rfl (res1M Tryz.results23 (v := .slice (some ⟨b2, 0, none⟩) (hn.length) hn.length) rfl) ?_
    intro w hw
    have hh0 : hp = [] := List.eq_nil_of_length_eq_zero (by omega)
    subst hh0
    have hMk := hD.done
    have hMk2 := hMk.lenbd (fun k n => wtL_bd _ k n)
    have hMp : ∀ y ∈ out, y.pts ≤ 5000 := fun y hy => by
      obtain ⟨n, hn', rfl⟩ := List.getElem_of_mem hy
      have h := hD.bd n (by rw [List.length_map, ← hoL]; exact hn')
      rw [mAt_of (List.getElem?_eq_getElem hn')] at h; omega
    exact ⟨(some ⟨b2, 0, none⟩), hn.length, out, by rw [hnlE], hMk, fun y hy => ⟨hMk2 y hy, hMp y hy⟩, st_mask [false, false, true, false] rfl hw⟩
end Go.Proofs
