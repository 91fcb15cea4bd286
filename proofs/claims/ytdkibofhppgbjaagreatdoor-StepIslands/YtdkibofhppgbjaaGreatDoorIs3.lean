/-
 The visit: walked. Printed by a program of my own.
-/
import Derived.Test.YtdkibofhppgbjaaGreatDoorIs2
namespace Go.Isl
open Go.Sl Go.Brd Go.Stp Go.Proofs
/-- what the visit's captured variables hold -/
structure VisC (β : Base) (fb : List KB) (ns : List (List Nat)) (s1 f1 g1 v1 : Nat) (sp : Option Addr) (sc : Nat) : Prop where
 cs : Cs β.heap ⟨s1, 0, none⟩ [.slice sp fb.length sc]
 cf : ∃ fv, Cs β.heap ⟨f1, 0, none⟩ [fv] ∧ Sl KBR β.heap fv fb
 cg : ∃ gv, Cs β.heap ⟨g1, 0, none⟩ [gv] ∧ Sl IntF.R.slice β.heap gv (zI ns)
 cv : Cs β.heap ⟨v1, 0, none⟩ [.func (.func 50) #[] #[.pointer (some ⟨s1, 0, none⟩), .pointer (some ⟨f1, 0, none⟩), .pointer (some ⟨g1, 0, none⟩), .pointer (some ⟨v1, 0, none⟩)]]
theorem VisC.mono {β β' : Base} {fb : List KB} {ns : List (List Nat)} {s1 f1 g1 v1 : Nat} {sp : Option Addr} {sc : Nat} (h : VisC β fb ns s1 f1 g1 v1 sp sc) (hs : Sub β.heap β'.heap) : VisC β' fb ns s1 f1 g1 v1 sp sc where
 cs := Cs.mono _ _ _ _ hs h.cs
 cf := let ⟨v, h1, h2⟩ := h.cf; ⟨v, Cs.mono _ _ _ _ hs h1, Sl.mono _ _ _ _ _ hs h2⟩
 cg := let ⟨v, h1, h2⟩ := h.cg; ⟨v, Cs.mono _ _ _ _ hs h1, Sl.mono _ _ _ _ _ hs h2⟩
 cv := Cs.mono _ _ _ _ hs h.cv
def VisitP (fb : List KB) (ns : List (List Nat)) (s1 f1 g1 v1 : Nat) (sp : Option Addr) (sc : Nat) (N : Nat) : Prop :=
 ∀ (β : Base) (w : World) (s : List Int) (i : Nat), VisC β fb ns s1 f1 g1 v1 sp sc → inR ns fb.length → s.length = fb.length → ns.length = fb.length → fb.length ≤ 1000 → i < fb.length → left s ≤ N → St β [rowF IntF 3 sp sc s] w →
  Calls Tryz.prog 50 #[Nx i, .pointer (some ⟨s1, 0, none⟩), .pointer (some ⟨f1, 0, none⟩), .pointer (some ⟨g1, 0, none⟩), .pointer (some ⟨v1, 0, none⟩)] w fun r w' => ∃ p c, r = .returned (.slice p ((visitF ns (N + 1) s i).1.map (idAt fb)).length c) ∧ St β [rowF IntF 3 p c ((visitF ns (N + 1) s i).1.map (idAt fb)), rowF IntF 3 sp sc (visitF ns (N + 1) s i).2] w'
def visA (ns : List (List Nat)) (M : Nat) (s : List Int) (i k : Nat) : List Nat × List Int := ((ns.getD i []).take k).foldl (fun a k => ((a.1 ++ (visitF ns (M + 1) a.2 k).1), (visitF ns (M + 1) a.2 k).2)) ([i], s.set i 1)
theorem visA_next {ns : List (List Nat)} {M : Nat} {s : List Int} {i k kk : Nat} (h : (ns.getD i [])[k]? = some kk) : ((visA ns M s i k).1 ++ (visitF ns (M + 1) (visA ns M s i k).2 kk).1, (visitF ns (M + 1) (visA ns M s i k).2 kk).2) = visA ns M s i (k + 1) := by
 unfold visA
 rw [List.take_add_one, h, List.foldl_append]; rfl
theorem seen_at {s : List Int} {i : Nat} {q : Int} (h : s[i]? = some q) : s.getD i 0 = q := by rw [List.getD_eq_getElem?_getD, h]; rfl
theorem visit_seen {ns : List (List Nat)} {N : Nat} {s : List Int} {i : Nat} (h : seen s i) : visitF ns (N + 1) s i = ([], s) := by
 unfold visitF; rw [if_pos (show 0 < s.getD i 0 from h)]
theorem visit_all {ns : List (List Nat)} {M : Nat} {s : List Int} {i k : Nat} (h : ¬ seen s i) (hk : (ns.getD i []).length ≤ k) : visitF ns (M + 1 + 1) s i = visA ns M s i k := by
 unfold visA
 rw [List.take_of_length_le hk, visitF, if_neg (show ¬ 0 < s.getD i 0 from h)]
theorem zI_at {ns : List (List Nat)} {i : Nat} {x : List Int} (h : (zI ns)[i]? = some x) : x = (ns.getD i []).map fun k => ((k : Nat) : Int) := by
 rw [← zI_get, List.getD_eq_getElem?_getD, h]; rfl
theorem nat_at {l : List Nat} {x : List Int} {k : Nat} {y : Int} (h : x = l.map fun k => ((k : Nat) : Int)) (hy : x[k]? = some y) : ∃ kk : Nat, l[k]? = some kk ∧ y = ((kk : Nat) : Int) := by
 subst h
 rw [List.getElem?_map] at hy
 cases hl : l[k]? with
 | none => rw [hl] at hy; cases hy
 | some kk => rw [hl] at hy; injection hy with hy; exact ⟨kk, rfl, hy.symm⟩
theorem tk_one {α : Type} {l : List α} {k : Nat} {p : α} (hp : l[k]? = some p) : l.take (k + 1) = l.take k ++ [p] := by
 rw [List.take_add_one, hp]; rfl
theorem nodup_le {l : List Nat} {n m : Nat} (h : l.Nodup) (hl : ∀ z ∈ l, z < n) (hm : n ≤ m) : l.length ≤ m := by
 have hp : ((List.range n).filter fun z => decide (z ∈ l)).Perm l := by
  refine (List.perm_ext_iff_of_nodup (List.nodup_range.sublist List.filter_sublist) h).2 fun z => ?_
  rw [List.mem_filter, List.mem_range, decide_eq_true_eq]
  exact ⟨fun q => q.2, fun q => ⟨hl z q, q⟩⟩
 have h1 := List.length_filter_le (fun z => decide (z ∈ l)) (List.range n)
 rw [hp.length_eq, List.length_range] at h1; omega
end Go.Isl
namespace Go.Proofs
open Go Go.Sl Go.Brd Go.Stp Go.Isl
theorem uz26 : tyB Tryz.prog 25 false 1 = true := by kernel_rfl
theorem uz27 : fldB Tryz.prog 52 0 0 1 false = true := by kernel_rfl
theorem uz28 : Tryz.prog.underlying 46 = some (.slice 3) := by kernel_rfl
theorem uz29 : tyB Tryz.prog 107 false 1 = true := by kernel_rfl
theorem uz30 : cfB Tryz.prog 50 = true := by kernel_rfl
theorem visit_ok (fb : List KB) (ns : List (List Nat)) (s1 f1 g1 v1 : Nat) (sp : Option Addr) (sc : Nat) (N : Nat) : VisitP fb ns s1 f1 g1 v1 sp sc N := by
 induction N using Nat.strongRecOn with
 | _ N ih =>
  intro β w s i hC hin hsl hnl hn hi hN hw
  obtain ⟨fv, hcf, hfs⟩ := hC.cf
  obtain ⟨fa, fc, rfl, fl, fm, fe⟩ := hfs.get
  obtain ⟨gv, hcg, hgs⟩ := hC.cg
  obtain ⟨ga, gc, rfl, gl, gm, ge⟩ := hgs.get
  have hzl := zI_len ns
  obtain ⟨q, hq⟩ : ∃ q, s[i]? = some q := ⟨_, List.getElem?_eq_getElem (by omega)⟩
  refine enter (n := 40) Tryz.func50 rfl Tryz.ntmps50 rfl ?_ hw
  refine c_seq ?_
  refine c_region ?_
  refine l_val (v := .slice none 0 0) rfl rfl rfl (e_assign) ?_
  refine l_nil ?_
  refine f_then ?_
  refine c_seq ?_
  refine c_seq ?_
  refine c_region ?_
  refine l_val (v := .slice sp (fb.length) sc) rfl rfl rfl (e_load1 uz22 (v := .slice sp (fb.length) sc) rfl (Knows.of_base (Cs.mono _ _) hC.cs)) ?_
  refine l_val (v := Nx (i)) rfl rfl rfl (e_move) ?_
  refine l_val (v := .pointer (some ((ba sp).add (i * 1)))) rfl rfl rfl (e_indexFlN 0 (F := IntF) (j := i) (m := fb.length) (xs := s) rfl (by omega) rfl uz23 (by omega) rfl) ?_
  refine l_val (v := Ix (q)) rfl rfl rfl (e_load1 uz11 (v := Ix (q)) rfl (k_flAt 0 (F := IntF) rfl hq)) ?_
  refine l_val (v := .bool (decide ((0 : Int) < (q)))) rfl rfl rfl (e_gtr (a := (q)) (b := (0 : Int)) rfl rfl) ?_
  refine l_nil ?_
  refine f_then ?_
  refine c_if ((0 : Int) < (q)) rfl (fun hc1 => ?_) (fun hc1 => ?_)
  ·
   refine c_seq ?_
   refine c_region ?_
   refine l_val (v := .slice none 0 0) rfl rfl rfl (e_assign) ?_
   refine l_nil ?_
   refine f_then ?_
   refine c_ret ?_
   refine f_then_ret ?_
   refine ret1 Tryz.results50 (v := .slice none 0 0) rfl ?_
   intro w hw
   have he : visitF ns (N + 1) s i = ([], s) := visit_seen (by show 0 < s.getD i 0; rw [seen_at hq]; exact hc1)
   rw [he]
   exact ⟨none, 0, rfl, (st_mask [true] rfl hw).emp (row_nil _ _ _)⟩
  ·
   refine c_skip ?_
   refine f_then ?_
   refine c_seq ?_
   have hns : ¬ Isl.seen s i := by show ¬ 0 < s.getD i 0; rw [seen_at hq]; exact hc1
   have hlp := left_set (by omega) hns
   obtain ⟨M, rfl⟩ : ∃ M, N = M + 1 := ⟨N - 1, by omega⟩
   refine c_region ?_
   refine l_val (v := .slice sp (fb.length) sc) rfl rfl rfl (e_load1 uz22 (v := .slice sp (fb.length) sc) rfl (Knows.of_base (Cs.mono _ _) hC.cs)) ?_
   refine l_val (v := Nx (i)) rfl rfl rfl (e_move) ?_
   refine l_val (v := .pointer (some ((ba sp).add (i * 1)))) rfl rfl rfl (e_indexFlN 0 (F := IntF) (j := i) (m := fb.length) (xs := s) rfl (by omega) rfl uz23 (by omega) rfl) ?_
   refine l_mu rfl rfl (m_storeFl 0 (F := IntF) (p := sp) (k := i) (xs := s) (z := 1) uz11 rfl rfl rfl rfl (by omega)) ?_
   refine l_nil ?_
   refine f_then ?_
   refine c_seq ?_
   refine c_region ?_
   refine l_val (v := .slice fa (fb.length) (fc)) rfl rfl rfl (e_load1 uz26 (v := .slice fa (fb.length) (fc)) rfl (Knows.of_base (Cs.mono _ _) hcf)) ?_
   refine l_val (v := Nx (i)) rfl rfl rfl (e_move) ?_
   obtain ⟨x2, hx3⟩ : ∃ x_, (fb)[i]? = some x_ := ⟨_, List.getElem?_eq_getElem (by omega)⟩
   obtain ⟨ha4, cs5, hc6, rfl⟩ := fe _ _ hx3
   refine l_val (v := .pointer (some ((ba fa).add (i * 9)))) rfl rfl rfl (e_indexAddr (k := i) (len := fb.length) (cap := fc) (a := fa) rfl rfl uz16 (by omega) ha4) ?_
   refine l_val (v := .pointer (some (((ba fa).add (i * 9) : Addr).add 0))) rfl rfl rfl (e_fieldAddr (a := (ba fa).add (i * 9)) rfl uz27) ?_
   refine l_val (v := Ix (x2.id)) rfl rfl rfl (e_load1 uz11 (v := Ix (x2.id)) rfl (Knows.imp (Knows.of_base (Cs.mono _ _) hc6) (fun _ h => Cs.sub (vs := [Ix (x2.id)]) 0 h rfl))) ?_
   refine l_mv rfl rfl rfl (m_slices uz23 uz24 (vs := [(0, Ix (x2.id))]) (cells := #[Ix (x2.id)]) rfl rfl rfl rfl) ?_
   rintro _ _ ⟨b8, rfl, rfl⟩
   refine l_val (v := .slice (some ⟨b8, 0, none⟩) 1 1) rfl rfl rfl (e_assign) ?_
   refine l_nil ?_
   refine f_then ?_
   refine c_seq ?_
   refine c_seq ?_
   refine c_conseq 0 (r' := rowF IntF 3 (some ⟨b8, 0, none⟩) 1 [x2.id]) rfl (pt_rowF (F := IntF) (xs := [x2.id]) rfl (by simp)) ?_
   refine c_re (L' := [rowF IntF 3 (some ⟨b8, 0, none⟩) 1 ([i].map (idAt fb)), rowF IntF 3 sp sc (s.set i 1)]) (by rw [show [i].map (idAt fb) = [x2.id] from congrArg (fun z => [z]) (idAt_eq hx3)]; rfl) ?_
   refine c_region ?_
   refine l_val (v := .slice ga ((zI ns).length) (gc)) rfl rfl rfl (e_load1 uz20 (v := .slice ga ((zI ns).length) (gc)) rfl (Knows.of_base (Cs.mono _ _) hcg)) ?_
   refine l_val (v := Nx (i)) rfl rfl rfl (e_move) ?_
   obtain ⟨x9, hx10⟩ : ∃ x_, ((zI ns))[i]? = some x_ := ⟨_, List.getElem?_eq_getElem (by omega)⟩
   obtain ⟨ha11, cs12, hc13, hr14⟩ := ge _ _ hx10
   obtain ⟨v15, rfl, hv16⟩ := hr14
   obtain ⟨a17, c18, rfl, hl19, hm20, he21⟩ := (hv16).get
   refine l_val (v := .pointer (some ((ba ga).add (i * 1)))) rfl rfl rfl (e_indexAddr (k := i) (len := (zI ns).length) (cap := gc) (a := ga) rfl rfl uz21 (by omega) ha11) ?_
   refine l_val (v := .slice a17 (x9.length) (c18)) rfl rfl rfl (e_load1 uz22 (v := .slice a17 (x9.length) (c18)) rfl (Knows.of_base (Cs.mono _ _) hc13)) ?_
   refine l_val (v := Nx (x9.length)) rfl rfl rfl (e_len (a := a17) (n := x9.length) (c := c18) rfl uz28) ?_
   refine l_val (v := .int .i64 (0)) rfl rfl rfl (e_move) ?_
   refine l_nil ?_
   refine f_then ?_
   refine c_block ?_
   have hxn := zI_at hx10
   refine c_loop (fun (x_ : Nat × (List Nat × List Int) × Option Addr × Nat) (f : Fm) (L : List Res) => match x_ with | (k, A, lp, lc) => (f 4 = .pointer (some (⟨v1, 0, none⟩)) ∧ f 7 = .slice lp ((A.1.map (idAt fb)).length) lc ∧ f 27 = .slice a17 (x9.length) (c18) ∧ f 28 = Nx (x9.length) ∧ f 29 = Nx (k)) ∧ L = [rowF IntF 3 lp lc (A.1.map (idAt fb)), rowF IntF 3 sp sc (A.2)] ∧ (k ≤ x9.length ∧ A = visA ns M s i k ∧ RowP ns s i ((ns.getD i []).take k) A)) (fun (x_ : Nat × (List Nat × List Int) × Option Addr × Nat) => match x_ with | (k, A, lp, lc) => x9.length - k) (0, ([i], s.set i 1), (some ⟨b8, 0, none⟩), 1) ?_ ?_
   ·exact ⟨⟨rfl, rfl, rfl, rfl, rfl⟩, rfl, ⟨by omega, rfl, RowP.start (by omega) hns⟩⟩
   rintro ⟨k, A, lp, lc⟩ f0 L0 ⟨⟨hs4, hs7, hs27, hs28, hs29⟩, hL, ⟨hk, hA, hR⟩⟩
   subst L0
   refine rebase (d := 4) hs4 ?_
   refine rebase (d := 7) hs7 ?_
   refine rebase (d := 27) hs27 ?_
   refine rebase (d := 28) hs28 ?_
   refine rebase (d := 29) hs29 ?_
   clear hs4 hs7 hs27 hs28 hs29
   have hAl := hR.len
   have hAo := left_le A.2
   refine c_seq ?_
   refine c_region ?_
   refine l_val (v := .bool (decide (((k : Nat) : Int) < ((x9.length : Nat) : Int)))) rfl rfl rfl (e_lss (a := ((k : Nat) : Int)) (b := ((x9.length : Nat) : Int)) rfl rfl) ?_
   refine l_nil ?_
   refine f_then ?_
   refine c_seq ?_
   refine c_if (((k : Nat) : Int) < ((x9.length : Nat) : Int)) rfl (fun hc22 => ?_) (fun hc22 => ?_)
   ·
    refine c_skip ?_
    refine f_then ?_
    refine c_seq ?_
    refine c_block ?_
    refine c_seq ?_
    refine c_region ?_
    obtain ⟨x23, hx24⟩ : ∃ x_, (x9)[k]? = some x_ := ⟨_, List.getElem?_eq_getElem (by omega)⟩
    obtain ⟨ha25, cs26, hc27, rfl⟩ := he21 _ _ hx24
    refine l_val (v := .pointer (some ((ba a17).add (k * 1)))) rfl rfl rfl (e_indexAddr (k := k) (len := x9.length) (cap := c18) (a := a17) rfl rfl uz23 (by omega) ha25) ?_
    refine l_val (v := Ix (x23)) rfl rfl rfl (e_load1 uz11 (v := Ix (x23)) rfl (Knows.of_base (Cs.mono _ _) hc27)) ?_
    refine l_val (v := Ix (x23)) rfl rfl rfl (e_assign) ?_
    refine l_nil ?_
    refine f_then ?_
    obtain ⟨kk, hkk, rfl⟩ := nat_at hxn hx24
    have hkm := List.mem_of_getElem? hkk
    have hkr := hin i kk hkm
    have hRn := hR.step hkm (visit_spec M A.2 kk (by rw [hAl, hsl]; exact hin) (by rw [hAl, hsl]; exact hkr) (by have := hR.less; omega))
    rw [← tk_one hkk] at hRn
    have hA1 : A.1.length ≤ 1000 := nodup_le hR.once (fun z hz => by have := (hR.new z hz).2; omega) (by omega)
    have hA2 : (visitF ns (M + 1) A.2 kk).1.length ≤ 1000 := by have h1 := nodup_le hRn.once (fun z hz => by have := (hRn.new z hz).2; omega) (show fb.length ≤ 1000 by omega); rw [List.length_append] at h1; omega
    have hm1 : (A.1.map (idAt fb)).length ≤ 1000 := by rw [List.length_map]; exact hA1
    have hm2 : ((visitF ns (M + 1) A.2 kk).1.map (idAt fb)).length ≤ 1000 := by rw [List.length_map]; exact hA2
    refine c_region ?_
    refine l_val (v := .slice lp ((A.1.map (idAt fb)).length) lc) rfl rfl rfl (e_move) ?_
    refine l_val (v := .func (.func 50) #[] #[.pointer (some ⟨s1, 0, none⟩), .pointer (some ⟨f1, 0, none⟩), .pointer (some ⟨g1, 0, none⟩), .pointer (some ⟨v1, 0, none⟩)]) rfl rfl rfl (e_load1 uz29 (v := .func (.func 50) #[] #[.pointer (some ⟨s1, 0, none⟩), .pointer (some ⟨f1, 0, none⟩), .pointer (some ⟨g1, 0, none⟩), .pointer (some ⟨v1, 0, none⟩)]) rfl (Knows.of_base (Cs.mono _ _) hC.cv)) ?_
    refine l_val (v := Nx (kk)) rfl rfl rfl (e_move) ?_
    refine l_call rfl rfl rfl (cl_value (fst := []) (cap := [.pointer (some ⟨s1, 0, none⟩), .pointer (some ⟨f1, 0, none⟩), .pointer (some ⟨g1, 0, none⟩), .pointer (some ⟨v1, 0, none⟩)]) (vs := [Nx (kk)]) (all := [Nx (kk), .pointer (some ⟨s1, 0, none⟩), .pointer (some ⟨f1, 0, none⟩), .pointer (some ⟨g1, 0, none⟩), .pointer (some ⟨v1, 0, none⟩)]) uz30 rfl rfl rfl) ?_
    intro w hw
    replace hw := hw.perm (L' := _ :: _ :: []) (by exact ((perm_front 0 rfl).trans (perm_front 1 rfl)))
    obtain ⟨β1, sb, kn, hw1, back⟩ := St.frame (L := [_]) (M := _ :: []) hw
    refine (ih M (Nat.lt_succ_self M) β1 w (A.2) kk (hC.mono sb) hin (by omega) hnl hn hkr (by have := hR.less; omega) hw1).mono ?_
    rintro e w' ⟨p29, c30, rfl, hw'⟩
    refine ⟨_, rfl, _, back _ _ hw', ?_⟩
    clear hw hw1 hw' back kn sb
    refine l_mv rfl rfl rfl (m_appendFlN (F := IntF) 2 uz23 uz25 (p := lp) (m := (A.1.map (idAt fb)).length) (xs := (A.1.map (idAt fb))) (ys := ((visitF ns (M + 1) A.2 kk).1.map (idAt fb))) (ao := p29) (k := ((visitF ns (M + 1) A.2 kk).1.map (idAt fb)).length) (c := c30) rfl rfl rfl rfl rfl (Knows.imp (k_flN 0 (F := IntF) (m := ((visitF ns (M + 1) A.2 kk).1.map (idAt fb)).length) rfl rfl) fun _ h => (Sl.parts h).2.2.2) (by first | omega | simp only [List.length_nil, List.length_cons, List.length_append, List.length_set]; omega) (by first | omega | simp only [List.length_nil, List.length_cons, List.length_append, List.length_set]; omega)) ?_
    rintro _ _ ⟨rp31, rc32, rfl, rfl⟩
    refine l_val (v := .slice rp31 (((A.1.map (idAt fb)) ++ ((visitF ns (M + 1) A.2 kk).1.map (idAt fb))).length) rc32) rfl rfl rfl (e_assign) ?_
    refine l_nil ?_
    refine f_block ?_
    refine f_then ?_
    refine c_region ?_
    refine l_val (v := Nx (k + 1)) rfl rfl rfl (e_add (a := ((k : Nat) : Int)) (b := (1 : Int)) rfl rfl (i64n (by omega) (by omega))) ?_
    refine l_val (v := Nx (k + 1)) rfl rfl rfl (e_move) ?_
    refine l_nil ?_
    refine f_perm (L' := [rowF IntF 3 rp31 rc32 ((A.1.map (idAt fb)) ++ ((visitF ns (M + 1) A.2 kk).1.map (idAt fb))), rowF IntF 3 sp sc ((visitF ns (M + 1) A.2 kk).2), rowF IntF 3 p29 c30 ((visitF ns (M + 1) A.2 kk).1.map (idAt fb))]) (perm_ix [2, 1, 0] 3 rfl (by kernel_rfl) (by kernel_rfl)) ?_
    refine f_mask (L' := [rowF IntF 3 rp31 rc32 ((A.1.map (idAt fb)) ++ ((visitF ns (M + 1) A.2 kk).1.map (idAt fb))), rowF IntF 3 sp sc ((visitF ns (M + 1) A.2 kk).2)]) [true, true, false] rfl ?_
    exact f_cut ⟨(k + 1, (A.1 ++ (visitF ns (M + 1) A.2 kk).1, (visitF ns (M + 1) A.2 kk).2), rp31, rc32), ⟨⟨rfl, (by show Value.slice _ _ _ = Value.slice _ _ _; rw [List.map_append]), rfl, rfl, rfl⟩, by rw [List.map_append], ⟨by omega, by rw [hA]; exact visA_next hkk, hRn⟩⟩, (show x9.length - (k + 1) < x9.length - k from by omega)⟩
   ·
    refine c_exit ?_
    refine f_then_exit ?_
    refine f_then_exit ?_
    refine f_exit ?_
    refine f_then ?_
    refine c_seq ?_
    refine c_region ?_
    refine l_val (v := .slice lp ((A.1.map (idAt fb)).length) lc) rfl rfl rfl (e_move) ?_
    refine l_val (v := .slice lp ((A.1.map (idAt fb)).length) lc) rfl rfl rfl (e_assign) ?_
    refine l_nil ?_
    refine f_then ?_
    refine c_ret ?_
    refine ret1 Tryz.results50 (v := .slice lp ((A.1.map (idAt fb)).length) lc) rfl ?_
    intro w hw
    have he : visitF ns (M + 1 + 1) s i = A := by rw [hA, visit_all (k := k) hns (by have := congrArg List.length hxn; rw [List.length_map] at this; omega)]
    rw [he]
    replace hw := hw.perm (L' := [rowF IntF 3 lp lc (A.1.map (idAt fb)), rowF IntF 3 sp sc (A.2)]) (by exact (perm_ix [0, 1] 2 rfl (by kernel_rfl) (by kernel_rfl)))
    exact ⟨lp, lc, rfl, st_mask [true, true] rfl hw⟩
end Go.Proofs
