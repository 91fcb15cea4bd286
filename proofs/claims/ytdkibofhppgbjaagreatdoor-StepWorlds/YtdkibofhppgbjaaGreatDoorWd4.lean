/-
 Components, entities and worlds share no memory: walked. Printed by a program of my own.
-/
import Derived.Test.YtdkibofhppgbjaaGreatDoorWd3
namespace Go.Stp
open Go.Sl Go.Proofs
theorem comp_eq {x y : KComp} : [Bx x.kind, Ix x.v0, Ix x.v1, Ix x.v2, Ix x.v3] = [Bx y.kind, Ix y.v0, Ix y.v1, Ix y.v2, Ix y.v3] ↔ x = y := by
 constructor
 ·intro h
  cases x; cases y
  injection h with h1 h2
  have := bx_inj h1
  simp at h2 this
  simp [h2, this]
 ·rintro rfl; rfl
end Go.Stp
namespace Go.Proofs
open Go Go.Sl Go.Stp
theorem tw78 : Tryz.prog.underlying 133 = some (.slice 57) := by kernel_rfl
theorem tw79 : slB Tryz.prog 133 57 1 = true := by kernel_rfl
theorem tw80 : elB Tryz.prog 57 1 24 = true := by kernel_rfl
theorem tw81 : (Tryz.prog.info? 57).bind (·.zero) = some (.slice none 0 0) := by kernel_rfl
theorem tw82 : lay Tryz.prog 10000 120 = some [.int .u8, .int .i64, .int .i64, .int .i64, .int .i64] := by kernel_rfl
theorem tw83 : isAggT Tryz.prog 120 = true := by kernel_rfl
theorem tw84 : Tryz.prog.eqGuardType Tryz.prog.depth 120 = false := by kernel_rfl
theorem tw85 : Tryz.prog.underlying 134 = some (.slice 22) := by kernel_rfl
theorem tw86 : slB Tryz.prog 134 22 1 = true := by kernel_rfl
theorem tw87 : elB Tryz.prog 22 1 24 = true := by kernel_rfl
theorem tw88 : (Tryz.prog.info? 22).bind (·.zero) = some (.slice none 0 0) := by kernel_rfl
theorem tw89 : cfB Tryz.prog 113 = true := by kernel_rfl
theorem tw90 : Tryz.prog.underlying 69 = some (.slice 68) := by kernel_rfl
theorem tw91 : slB Tryz.prog 69 68 1 = true := by kernel_rfl
theorem tw92 : tyB Tryz.prog 68 false 1 = true := by kernel_rfl
theorem tw93 : Tryz.prog.underlying 68 = some (.slice 24) := by kernel_rfl
theorem tw94 : cfB Tryz.prog 185 = true := by kernel_rfl
theorem tw95 : slB Tryz.prog 68 24 2 = true := by kernel_rfl
theorem tw96 : elB Tryz.prog 68 1 24 = true := by kernel_rfl
theorem tw97 : (Tryz.prog.info? 68).bind (·.zero) = some (.slice none 0 0) := by kernel_rfl
theorem tw98 : elB Tryz.prog 24 2 32 = true := by kernel_rfl
theorem tw99 : cfB Tryz.prog 21 = true := by kernel_rfl
theorem tw100 : Tryz.prog.underlying 130 = some (.slice 243) := by kernel_rfl
theorem tw101 : slB Tryz.prog 130 243 1 = true := by kernel_rfl
theorem tw103 : Tryz.prog.underlying 42 = some (.slice 46) := by kernel_rfl
theorem tw104 : slB Tryz.prog 42 46 1 = true := by kernel_rfl
theorem tw106 : Tryz.prog.underlying 131 = some (.slice 245) := by kernel_rfl
theorem tw107 : slB Tryz.prog 131 245 1 = true := by kernel_rfl
theorem tw109 : Tryz.prog.underlying 132 = some (.slice 35) := by kernel_rfl
theorem tw110 : slB Tryz.prog 132 35 1 = true := by kernel_rfl
theorem tw112 : Tryz.prog.underlying 135 = some (.slice 250) := by kernel_rfl
theorem tw113 : slB Tryz.prog 135 250 1 = true := by kernel_rfl
theorem tw115 : Tryz.prog.underlying 136 = some (.slice 25) := by kernel_rfl
theorem tw116 : slB Tryz.prog 136 25 1 = true := by kernel_rfl
theorem tw118 : Tryz.prog.underlying 137 = some (.slice 252) := by kernel_rfl
theorem tw119 : slB Tryz.prog 137 252 1 = true := by kernel_rfl
theorem tw121 : Tryz.prog.underlying 138 = some (.slice 256) := by kernel_rfl
theorem tw122 : slB Tryz.prog 138 256 1 = true := by kernel_rfl
theorem tw124 : Tryz.prog.underlying 139 = some (.slice 94) := by kernel_rfl
theorem tw125 : slB Tryz.prog 139 94 1 = true := by kernel_rfl
theorem tw127 : Tryz.prog.underlying 140 = some (.slice 99) := by kernel_rfl
theorem tw128 : slB Tryz.prog 140 99 1 = true := by kernel_rfl
theorem tw130 : Tryz.prog.underlying 141 = some (.slice 26) := by kernel_rfl
theorem tw131 : slB Tryz.prog 141 26 1 = true := by kernel_rfl
theorem tw133 : Tryz.prog.underlying 142 = some (.slice 262) := by kernel_rfl
theorem tw134 : slB Tryz.prog 142 262 1 = true := by kernel_rfl
theorem tw136 : Tryz.prog.underlying 143 = some (.slice 267) := by kernel_rfl
theorem tw137 : slB Tryz.prog 143 267 1 = true := by kernel_rfl
theorem tw139 : Tryz.prog.underlying 144 = some (.slice 272) := by kernel_rfl
theorem tw140 : slB Tryz.prog 144 272 1 = true := by kernel_rfl
theorem tw142 : Tryz.prog.underlying 145 = some (.slice 38) := by kernel_rfl
theorem tw143 : slB Tryz.prog 145 38 1 = true := by kernel_rfl
theorem tw145 : Tryz.prog.underlying 146 = some (.slice 275) := by kernel_rfl
theorem tw146 : slB Tryz.prog 146 275 1 = true := by kernel_rfl
theorem tw148 : Tryz.prog.underlying 147 = some (.slice 279) := by kernel_rfl
theorem tw149 : slB Tryz.prog 147 279 1 = true := by kernel_rfl
set_option maxHeartbeats 4000000 in
theorem flatC_ok (β : Base) (w : World) (v : Value) (HL : List H3) (hv : List (HV KComp)) (hhs : HL = hv.map HV.h) (hls : Sl H3F.R β.heap v HL) (hn : HL.length ≤ 1000) (hbd : ∀ v ∈ hv, v.xs.length ≤ 1000000) (hw : St β [Sat (hv.map (ownV CompF 120))] w) : Calls Tryz.prog 124 #[v] w fun r w' => r = .returned (.bool true) ∧ St β [] w' := by
 have hbd0 : ∀ h ∈ HL, h.n ≤ 1000000 := fun h hh => by rw [hhs] at hh; obtain ⟨v, hv_, rfl⟩ := List.mem_map.1 hh; exact hbd v hv_
 obtain ⟨lsa, lsc, rfl, lsl, lsm, lse⟩ := hls.get
 refine enter (n := 193) Tryz.func124 rfl Tryz.ntmps124 rfl ?_ hw
 refine c_seq ?_
 refine c_region ?_
 refine l_val (v := .bool false) rfl rfl rfl (e_assign) ?_
 refine l_nil ?_
 refine f_then ?_
 refine c_seq ?_
 refine c_seq ?_
 refine c_emp (r := Sat (fromK (rowK CompF 120 mkC) 0 [])) trivial ?_
 refine c_region ?_
 refine l_val (v := .int .i64 (0)) rfl rfl rfl (e_assign) ?_
 refine l_nil ?_
 refine f_then ?_
 refine c_block ?_
 refine c_loop (fun (x_ : List H3 × List (HV KComp)) (f : Fm) (L : List Res) => match x_ with | (pre, post) => (f 0 = .slice lsa (HL.length) (lsc) ∧ f 3 = Nx (pre.length)) ∧ L = [Sat (fromK (rowK CompF 120 mkC) 0 pre), Sat (post.map (ownV CompF 120))] ∧ (HL = pre ++ post.map HV.h ∧ ∀ v ∈ post, v.xs.length ≤ 1000000)) (fun (x_ : List H3 × List (HV KComp)) => match x_ with | (pre, post) => post.length) ([], hv) ?_ ?_
 ·exact ⟨⟨rfl, rfl⟩, rfl, ⟨hhs, hbd⟩⟩
 rintro ⟨pre, post⟩ f0 L0 ⟨⟨hs0, hs3⟩, hL, ⟨hpp, hbp⟩⟩
 subst L0
 refine rebase (d := 0) hs0 ?_
 refine rebase (d := 3) hs3 ?_
 clear hs0 hs3
 have hlen : HL.length = pre.length + post.length := by rw [hpp, List.length_append, List.length_map]
 refine c_seq ?_
 refine c_seq ?_
 refine c_region ?_
 refine l_val (v := Nx (pre.length)) rfl rfl rfl (e_move) ?_
 refine l_val (v := .slice lsa (HL.length) (lsc)) rfl rfl rfl (e_move) ?_
 refine l_val (v := Nx (HL.length)) rfl rfl rfl (e_len (a := lsa) (n := HL.length) (c := lsc) rfl tw78) ?_
 refine l_val (v := .bool (decide (((pre.length : Nat) : Int) < ((HL.length : Nat) : Int)))) rfl rfl rfl (e_lss (a := ((pre.length : Nat) : Int)) (b := ((HL.length : Nat) : Int)) rfl rfl) ?_
 refine l_nil ?_
 refine f_then ?_
 refine c_if (((pre.length : Nat) : Int) < ((HL.length : Nat) : Int)) rfl (fun hc1 => ?_) (fun hc1 => ?_)
 ·
  refine c_skip ?_
  refine f_then ?_
  refine c_seq ?_
  refine c_block ?_
  refine c_seq ?_
  obtain ⟨⟨xp, xc, xs⟩, po, hpo⟩ := uncons hlen (by omega)
  have hx : HL[pre.length]? = some (⟨xp, xs.length, xc⟩ : H3) := by rw [hpp, hpo]; exact mid_at rfl
  have hxl : xs.length ≤ 1000000 := hbp ⟨xp, xc, xs⟩ (by rw [hpo]; exact List.mem_cons_self)
  obtain ⟨hxa, cs_, hxc, rfl⟩ := lse _ _ hx
  refine c_perm (L' := [Sat (post.map (ownV CompF 120)), Sat (fromK (rowK CompF 120 mkC) 0 pre)]) (perm_ix [1, 0] 2 rfl (by kernel_rfl) (by kernel_rfl)) ?_
  rw [hpo]
  refine c_headR (r := rowF CompF 120 xp xc xs) (Ls := po.map (ownV CompF 120)) (M := [Sat (fromK (rowK CompF 120 mkC) 0 pre)]) rfl ?_
  refine c_region ?_
  refine l_val (v := .int .i64 (0)) rfl rfl rfl (e_assign) ?_
  refine l_nil ?_
  refine f_then ?_
  refine c_block ?_
  refine c_loop (fun (i : Nat) (f : Fm) (L : List Res) => (f 0 = .slice lsa (HL.length) (lsc) ∧ f 3 = Nx (pre.length) ∧ f 4 = Nx (i)) ∧ L = [Sat (po.map (ownV CompF 120)), rowF CompF 120 xp xc ((mkL mkC pre.length i) ++ xs.drop i), Sat (fromK (rowK CompF 120 mkC) 0 pre)] ∧ (i ≤ xs.length)) (fun (i : Nat) => xs.length - i) 0 ?_ ?_
  ·exact ⟨⟨rfl, rfl, rfl⟩, by rw [mkp_zero], by omega⟩
  rintro i f0 L0 ⟨⟨hs0, hs3, hs4⟩, hL, hi⟩
  subst L0
  refine rebase (d := 0) hs0 ?_
  refine rebase (d := 3) hs3 ?_
  refine rebase (d := 4) hs4 ?_
  clear hs0 hs3 hs4
  refine c_seq ?_
  refine c_seq ?_
  refine c_region ?_
  refine l_val (v := Nx (i)) rfl rfl rfl (e_move) ?_
  refine l_val (v := .slice lsa (HL.length) (lsc)) rfl rfl rfl (e_move) ?_
  refine l_val (v := Nx (pre.length)) rfl rfl rfl (e_move) ?_
  refine l_val (v := .pointer (some ((ba lsa).add (pre.length * 1)))) rfl rfl rfl (e_indexAddr (k := pre.length) (len := HL.length) (cap := lsc) (a := lsa) rfl rfl tw79 (by omega) hxa) ?_
  refine l_val (v := .slice xp (xs.length) xc) rfl rfl rfl (e_load1 tw1 (v := .slice xp (xs.length) xc) rfl (Knows.of_base (Cs.mono _ _) hxc)) ?_
  refine l_val (v := Nx (xs.length)) rfl rfl rfl (e_len (a := xp) (n := xs.length) (c := xc) rfl tw2) ?_
  refine l_val (v := .bool (decide (((i : Nat) : Int) < ((xs.length : Nat) : Int)))) rfl rfl rfl (e_lss (a := ((i : Nat) : Int)) (b := ((xs.length : Nat) : Int)) rfl rfl) ?_
  refine l_nil ?_
  refine f_then ?_
  refine c_if (((i : Nat) : Int) < ((xs.length : Nat) : Int)) rfl (fun hc2 => ?_) (fun hc2 => ?_)
  ·
   refine c_skip ?_
   refine f_then ?_
   refine c_seq ?_
   refine c_block ?_
   refine c_any [⟨[], [], [0], [31], fun f => f 31 = .slice lsa (HL.length) (lsc)⟩, ⟨[], [], [1], [32], fun f => f 32 = Nx (pre.length)⟩, ⟨[0, 1], [0, 1], [], [33], fun f => f 33 = .pointer (some ((ba lsa).add (pre.length * 1)))⟩, ⟨[0, 1, 2], [2], [], [34], fun f => f 34 = .slice xp (xs.length) xc⟩, ⟨[], [], [2], [35], fun f => f 35 = Nx (i)⟩, ⟨[], [], [1], [36], fun f => f 36 = Nx (pre.length)⟩, ⟨[], [], [2], [37], fun f => f 37 = Nx (i)⟩, ⟨[5, 6], [5, 6], [], [38], fun f => f 38 = .agg #[Bx ((mkC pre.length i).kind), Ix ((mkC pre.length i).v0), Ix ((mkC pre.length i).v1), Ix ((mkC pre.length i).v2), Ix ((mkC pre.length i).v3)]⟩, ⟨[0, 1, 2, 3, 4, 5, 6, 7], [3, 4], [], [39], fun f => f 39 = .pointer (some ((ba xp).add (i * 5)))⟩, ⟨[0, 1, 2, 3, 4, 5, 6, 7, 8], [8, 7], [], [], fun _ => True⟩] [⟨none, none, [], [], fun _ => Sat (po.map (ownV CompF 120))⟩, ⟨none, (some 9), [8, 9], [], fun _ => rowF CompF 120 xp xc ((mkL mkC pre.length i) ++ xs.drop i)⟩, ⟨none, none, [], [], fun _ => Sat (fromK (rowK CompF 120 mkC) 0 pre)⟩, ⟨(some 9), none, [], [], fun _ => rowF CompF 120 xp xc (((mkL mkC pre.length i) ++ xs.drop i).set i (mkC pre.length i))⟩] [(0, .slice lsa (HL.length) (lsc)), (3, Nx (pre.length)), (4, Nx (i))] [0, 1, 2] [] (by kernel_rfl) (by kernel_rfl) (by kernel_rfl) (by kernel_rfl) rfl ⟨rfl, rfl, rfl, trivial⟩ ⟨?_, ?_, ?_, ?_, ?_, ?_, ?_, ?_, ?_, ?_, trivial⟩ ?_
   ·rintro f M - ⟨i0, -⟩
    have hs0 : f 0 = .slice lsa (HL.length) (lsc) := i0
    refine ob_start (L' := M) (by rfl) (up_cons rfl hs0) ?_
    refine l_val (v := .slice lsa (HL.length) (lsc)) rfl rfl rfl (e_move) ?_
    refine l_nil ?_
    exact f_owes_d (up_cons rfl hs0) rfl (List.Perm.refl _)
   ·rintro f M - ⟨i0, -⟩
    have hs3 : f 3 = Nx (pre.length) := i0
    refine ob_start (L' := M) (by rfl) (up_cons rfl hs3) ?_
    refine l_val (v := Nx (pre.length)) rfl rfl rfl (e_move) ?_
    refine l_nil ?_
    exact f_owes_d (up_cons rfl hs3) rfl (List.Perm.refl _)
   ·rintro f M ⟨k0, k1, -⟩ -
    have hs31 : f 31 = .slice lsa (HL.length) (lsc) := k0
    have hs32 : f 32 = Nx (pre.length) := k1
    refine ob_start (L' := M) (by rfl) (up_cons (up_cons rfl hs31) hs32) ?_
    refine l_val (v := .pointer (some ((ba lsa).add (pre.length * 1)))) rfl rfl rfl (e_indexAddr (k := pre.length) (len := HL.length) (cap := lsc) (a := lsa) rfl rfl tw79 (by omega) hxa) ?_
    refine l_nil ?_
    exact f_owes_d (up_cons (up_cons rfl hs31) hs32) rfl (List.Perm.refl _)
   ·rintro f M ⟨k0, -⟩ -
    have hs33 : f 33 = .pointer (some ((ba lsa).add (pre.length * 1))) := k0
    refine ob_start (L' := M) (by rfl) (up_cons rfl hs33) ?_
    refine l_val (v := .slice xp (xs.length) xc) rfl rfl rfl (e_load1 tw1 (v := .slice xp (xs.length) xc) rfl (Knows.of_base (Cs.mono _ _) hxc)) ?_
    refine l_nil ?_
    exact f_owes_d (up_cons rfl hs33) rfl (List.Perm.refl _)
   ·rintro f M - ⟨i0, -⟩
    have hs4 : f 4 = Nx (i) := i0
    refine ob_start (L' := M) (by rfl) (up_cons rfl hs4) ?_
    refine l_val (v := Nx (i)) rfl rfl rfl (e_move) ?_
    refine l_nil ?_
    exact f_owes_d (up_cons rfl hs4) rfl (List.Perm.refl _)
   ·rintro f M - ⟨i0, -⟩
    have hs3 : f 3 = Nx (pre.length) := i0
    refine ob_start (L' := M) (by rfl) (up_cons rfl hs3) ?_
    refine l_val (v := Nx (pre.length)) rfl rfl rfl (e_move) ?_
    refine l_nil ?_
    exact f_owes_d (up_cons rfl hs3) rfl (List.Perm.refl _)
   ·rintro f M - ⟨i0, -⟩
    have hs4 : f 4 = Nx (i) := i0
    refine ob_start (L' := M) (by rfl) (up_cons rfl hs4) ?_
    refine l_val (v := Nx (i)) rfl rfl rfl (e_move) ?_
    refine l_nil ?_
    exact f_owes_d (up_cons rfl hs4) rfl (List.Perm.refl _)
   ·rintro f M ⟨k0, k1, -⟩ -
    have hs36 : f 36 = Nx (pre.length) := k0
    have hs37 : f 37 = Nx (i) := k1
    refine ob_start (L' := M) (by rfl) (up_cons (up_cons rfl hs36) hs37) ?_
    refine l_call rfl rfl rfl (cl_value (fst := []) (cap := []) (vs := [Nx (pre.length), Nx (i)]) (all := [Nx (pre.length), Nx (i)]) tw73 rfl rfl rfl) ?_
    intro w hw
    obtain ⟨β1, sb, kn, hw1, back⟩ := St.frame_all hw
    refine (markCk_ok β1 w hw1 pre.length i (by omega) (by omega)).mono ?_
    rintro e w' ⟨rfl, hw'⟩
    refine ⟨_, rfl, _, back _ _ hw', ?_⟩
    clear hw hw1 hw' back kn sb
    refine l_nil ?_
    exact f_owes_d (up_cons (up_cons rfl hs36) hs37) rfl (List.Perm.refl _)
   ·rintro f M ⟨k0, k1, -⟩ -
    have hs34 : f 34 = .slice xp (xs.length) xc := k0
    have hs35 : f 35 = Nx (i) := k1
    refine ob_start (L' := rowF CompF 120 xp xc ((mkL mkC pre.length i) ++ xs.drop i) :: M) (by rfl) (up_cons (up_cons rfl hs34) hs35) ?_
    refine l_val (v := .pointer (some ((ba xp).add (i * 5)))) rfl rfl rfl (e_indexFlN 0 (F := CompF) (j := i) (m := xs.length) (xs := ((mkL mkC pre.length i) ++ xs.drop i)) rfl (mkp_len (by omega)).symm rfl tw3 (by omega) rfl) ?_
    refine l_nil ?_
    exact f_owes_d (up_cons (up_cons rfl hs34) hs35) rfl (perm_front 0 rfl)
   ·rintro f M ⟨k0, k1, -⟩ -
    have hs39 : f 39 = .pointer (some ((ba xp).add (i * 5))) := k0
    have hs38 : f 38 = .agg #[Bx ((mkC pre.length i).kind), Ix ((mkC pre.length i).v0), Ix ((mkC pre.length i).v1), Ix ((mkC pre.length i).v2), Ix ((mkC pre.length i).v3)] := k1
    refine ob_start (L' := rowF CompF 120 xp xc ((mkL mkC pre.length i) ++ xs.drop i) :: M) (by rfl) (up_cons (up_cons rfl hs39) hs38) ?_
    refine l_mu rfl rfl (m_storeFl 0 (F := CompF) (p := xp) (k := i) (xs := ((mkL mkC pre.length i) ++ xs.drop i)) (z := (mkC pre.length i)) tw72 rfl rfl rfl rfl (by rw [mkp_len (by first | omega | (rw [List.length_replicate]; omega))]; (try rw [List.length_replicate]); omega)) ?_
    refine l_nil ?_
    exact f_owes_n (up_cons (up_cons rfl hs39) hs38) trivial (perm_front 0 rfl)
   rintro fa3 ⟨-, -, -, -, -, -, -, -, -, -, -⟩ ⟨j0, j1, j2, -⟩
   refine f_re (L' := [Sat (po.map (ownV CompF 120)), Sat (fromK (rowK CompF 120 mkC) 0 pre), rowF CompF 120 xp xc (((mkL mkC pre.length i) ++ xs.drop i).set i (mkC pre.length i))]) (by rfl) ?_
   refine f_rebase (d := 0) (v := .slice lsa (HL.length) (lsc)) j0 ?_
   refine f_rebase (d := 3) (v := Nx (pre.length)) j1 ?_
   refine f_rebase (d := 4) (v := Nx (i)) j2 ?_
   refine f_block ?_
   refine f_then ?_
   refine c_region ?_
   refine l_val (v := Nx (i)) rfl rfl rfl (e_move) ?_
   refine l_val (v := Nx (i + 1)) rfl rfl rfl (e_add (a := ((i : Nat) : Int)) (b := (1 : Int)) rfl rfl (i64n (by omega) (by omega))) ?_
   refine l_val (v := Nx (i + 1)) rfl rfl rfl (e_assign) ?_
   refine l_nil ?_
   refine f_perm (L' := [Sat (po.map (ownV CompF 120)), rowF CompF 120 xp xc (((mkL mkC pre.length i) ++ xs.drop i).set i (mkC pre.length i)), Sat (fromK (rowK CompF 120 mkC) 0 pre)]) (perm_ix [0, 2, 1] 3 rfl (by kernel_rfl) (by kernel_rfl)) ?_
   exact f_cut ⟨i + 1, ⟨⟨rfl, rfl, rfl⟩, by rw [mkp_step (by omega)], by omega⟩, (show xs.length - (i + 1) < xs.length - i from by omega)⟩
  ·
   refine c_exit ?_
   refine f_then_exit ?_
   refine f_then_exit ?_
   refine f_exit ?_
   refine f_block ?_
   refine f_then ?_
   obtain rfl : i = xs.length := by omega
   rw [mkp_done (Nat.le_refl _)]
   refine c_perm (L' := [Sat (fromK (rowK CompF 120 mkC) 0 pre), rowF CompF 120 xp xc (mkL mkC pre.length xs.length), Sat (po.map (ownV CompF 120))]) (perm_ix [2, 1, 0] 3 rfl (by kernel_rfl) (by kernel_rfl)) ?_
   refine c_snocR (Ls' := fromK (rowK CompF 120 mkC) 0 (pre ++ [(⟨xp, xs.length, xc⟩ : H3)])) (M := [Sat (po.map (ownV CompF 120))]) rfl (snocK (rowK CompF 120 mkC) (⟨xp, xs.length, xc⟩ : H3) pre) ?_
   refine c_region ?_
   refine l_val (v := Nx (pre.length)) rfl rfl rfl (e_move) ?_
   refine l_val (v := Nx (pre.length + 1)) rfl rfl rfl (e_add (a := ((pre.length : Nat) : Int)) (b := (1 : Int)) rfl rfl (i64n (by omega) (by omega))) ?_
   refine l_val (v := Nx (pre.length + 1)) rfl rfl rfl (e_assign) ?_
   refine l_nil ?_
   exact f_cut ⟨((pre ++ [(⟨xp, xs.length, xc⟩ : H3)]), po), ⟨⟨rfl, congrArg (fun z : Nat => Nx z) (by rw [List.length_append]; rfl)⟩, rfl, ⟨by rw [hpp, hpo, List.append_assoc]; rfl, fun v hv => hbp v (by rw [hpo]; exact List.mem_cons_of_mem _ hv)⟩⟩, (Nat.lt_succ_self po.length)⟩
 ·
  refine c_exit ?_
  refine f_then_exit ?_
  refine f_then_exit ?_
  refine f_exit ?_
  refine f_then ?_
  refine c_seq ?_
  have hlen : HL.length = pre.length + post.length := by rw [hpp, List.length_append, List.length_map]
  obtain rfl := unnil hlen (by omega)
  obtain rfl : HL = pre := by rw [hpp, List.map_nil, List.append_nil]
  refine c_mask [true, false] rfl ?_
  refine c_region ?_
  refine l_val (v := .slice lsa (HL.length) (lsc)) rfl rfl rfl (e_move) ?_
  refine l_val (v := Nx (HL.length)) rfl rfl rfl (e_len (a := lsa) (n := HL.length) (c := lsc) rfl tw78) ?_
  refine l_mv rfl rfl rfl (m_makeFl (F := H3F) (x0 := (⟨none, 0, 0⟩ : H3)) (c := HL.length) tw79 tw80 tw81 rfl rfl rfl (by unfold maxLen; omega) (by omega)) ?_
  rintro _ _ ⟨b4, rfl, rfl⟩
  refine l_val (v := .slice (some ⟨b4, 0, none⟩) (HL.length) HL.length) rfl rfl rfl (e_assign) ?_
  refine l_nil ?_
  refine f_then ?_
  refine c_seq ?_
  refine c_seq ?_
  refine c_emp (r := Sat (fromK (famK CompF 120 mkC) 0 [])) trivial ?_
  refine c_perm (L' := [Sat (fromK (famK CompF 120 mkC) 0 []), Sat (fromK (rowK CompF 120 mkC) 0 HL), rowF H3F 57 (some ⟨b4, 0, none⟩) HL.length (List.replicate HL.length (⟨none, 0, 0⟩ : H3))]) (perm_ix [0, 2, 1] 3 rfl (by kernel_rfl) (by kernel_rfl)) ?_
  refine c_region ?_
  refine l_val (v := .int .i64 (0)) rfl rfl rfl (e_assign) ?_
  refine l_nil ?_
  refine f_then ?_
  refine c_block ?_
  refine c_loop (fun (x_ : List Z5 × List H3) (f : Fm) (L : List Res) => match x_ with | (zs, post) => (f 0 = .slice lsa (HL.length) (lsc) ∧ f 5 = .slice (some ⟨b4, 0, none⟩) (HL.length) HL.length ∧ f 6 = Nx (zs.length)) ∧ L = [Sat (fromK (famK CompF 120 mkC) 0 zs), Sat (fromK (rowK CompF 120 mkC) zs.length post), rowF H3F 57 (some ⟨b4, 0, none⟩) HL.length (zs.map gh3 ++ List.replicate post.length (⟨none, 0, 0⟩ : H3))] ∧ (HL = zs.map Z5.h ++ post)) (fun (x_ : List Z5 × List H3) => match x_ with | (zs, post) => post.length) ([], HL) ?_ ?_
  ·exact ⟨⟨rfl, rfl, rfl⟩, rfl, rfl⟩
  rintro ⟨zs, post⟩ f0 L0 ⟨⟨hs0, hs5, hs6⟩, hL, hpp⟩
  subst L0
  refine rebase (d := 0) hs0 ?_
  refine rebase (d := 5) hs5 ?_
  refine rebase (d := 6) hs6 ?_
  clear hs0 hs5 hs6
  have hlen : HL.length = zs.length + post.length := by rw [hpp, List.length_append, List.length_map]
  refine c_seq ?_
  refine c_seq ?_
  refine c_region ?_
  refine l_val (v := Nx (zs.length)) rfl rfl rfl (e_move) ?_
  refine l_val (v := .slice lsa (HL.length) (lsc)) rfl rfl rfl (e_move) ?_
  refine l_val (v := Nx (HL.length)) rfl rfl rfl (e_len (a := lsa) (n := HL.length) (c := lsc) rfl tw78) ?_
  refine l_val (v := .bool (decide (((zs.length : Nat) : Int) < ((HL.length : Nat) : Int)))) rfl rfl rfl (e_lss (a := ((zs.length : Nat) : Int)) (b := ((HL.length : Nat) : Int)) rfl rfl) ?_
  refine l_nil ?_
  refine f_then ?_
  refine c_if (((zs.length : Nat) : Int) < ((HL.length : Nat) : Int)) rfl (fun hc5 => ?_) (fun hc5 => ?_)
  ·
   refine c_skip ?_
   refine f_then ?_
   refine c_seq ?_
   refine c_block ?_
   refine c_seq ?_
   obtain ⟨⟨xp, xn, xc⟩, po, hpo⟩ := uncons hlen (by omega)
   have hx : HL[zs.length]? = some (⟨xp, xn, xc⟩ : H3) := by rw [hpp, hpo]; exact mid_at (List.length_map _).symm
   have hxl : xn ≤ 1000000 := hbd0 _ (List.mem_of_getElem? hx)
   obtain ⟨hxa, cs_, hxc, rfl⟩ := lse _ _ hx
   refine c_perm (L' := [Sat (fromK (rowK CompF 120 mkC) zs.length post), Sat (fromK (famK CompF 120 mkC) 0 zs), rowF H3F 57 (some ⟨b4, 0, none⟩) HL.length (zs.map gh3 ++ List.replicate post.length (⟨none, 0, 0⟩ : H3))]) (perm_ix [1, 0, 2] 3 rfl (by kernel_rfl) (by kernel_rfl)) ?_
   rw [hpo]
   refine c_headR (r := rowF CompF 120 xp xc (mkL mkC zs.length xn)) (Ls := fromK (rowK CompF 120 mkC) (zs.length + 1) po) (M := [Sat (fromK (famK CompF 120 mkC) 0 zs), rowF H3F 57 (some ⟨b4, 0, none⟩) HL.length (zs.map gh3 ++ (⟨none, 0, 0⟩ : H3) :: List.replicate po.length (⟨none, 0, 0⟩ : H3))]) rfl ?_
   have hpl : post.length = po.length + 1 := by rw [hpo]; rfl
   refine c_region ?_
   refine l_val (v := .slice lsa (HL.length) (lsc)) rfl rfl rfl (e_move) ?_
   refine l_val (v := Nx (zs.length)) rfl rfl rfl (e_move) ?_
   refine l_val (v := .pointer (some ((ba lsa).add (zs.length * 1)))) rfl rfl rfl (e_indexAddr (k := zs.length) (len := HL.length) (cap := lsc) (a := lsa) rfl rfl tw79 (by omega) hxa) ?_
   refine l_val (v := .slice xp (xn) xc) rfl rfl rfl (e_load1 tw1 (v := .slice xp (xn) xc) rfl (Knows.of_base (Cs.mono _ _) hxc)) ?_
   refine l_val (v := .slice xp (xn) xc) rfl rfl rfl (e_assign) ?_
   refine l_nil ?_
   refine f_then ?_
   refine c_seq ?_
   refine c_seq ?_
   refine c_conseq 1 (r' := famF CompF 120 xp xc (mkL mkC zs.length xn) xp xc (mkL mkC zs.length xn)) rfl famF_start ?_
   refine c_region ?_
   refine l_val (v := .int .i64 (0)) rfl rfl rfl (e_assign) ?_
   refine l_nil ?_
   refine f_then ?_
   refine c_block ?_
   refine c_loop (fun (x_ : Nat × Option Addr × Nat) (f : Fm) (L : List Res) => match x_ with | (i, q, e) => (f 0 = .slice lsa (HL.length) (lsc) ∧ f 5 = .slice (some ⟨b4, 0, none⟩) (HL.length) HL.length ∧ f 6 = Nx (zs.length) ∧ f 7 = .slice q (xn + i) e ∧ f 8 = Nx (i)) ∧ L = [Sat (fromK (rowK CompF 120 mkC) (zs.length + 1) po), famF CompF 120 xp xc (mkL mkC zs.length xn) q e (mkL mkC zs.length (xn + i)), Sat (fromK (famK CompF 120 mkC) 0 zs), rowF H3F 57 (some ⟨b4, 0, none⟩) HL.length (zs.map gh3 ++ (⟨none, 0, 0⟩ : H3) :: List.replicate po.length (⟨none, 0, 0⟩ : H3))] ∧ (i ≤ 64)) (fun (x_ : Nat × Option Addr × Nat) => match x_ with | (i, q, e) => 64 - i) (0, xp, xc) ?_ ?_
   ·exact ⟨⟨rfl, rfl, rfl, rfl, rfl⟩, rfl, by omega⟩
   rintro ⟨i, q, e⟩ f0 L0 ⟨⟨hs0, hs5, hs6, hs7, hs8⟩, hL, hi⟩
   subst L0
   refine rebase (d := 0) hs0 ?_
   refine rebase (d := 5) hs5 ?_
   refine rebase (d := 6) hs6 ?_
   refine rebase (d := 7) hs7 ?_
   refine rebase (d := 8) hs8 ?_
   clear hs0 hs5 hs6 hs7 hs8
   refine c_seq ?_
   refine c_seq ?_
   refine c_region ?_
   refine l_val (v := Nx (i)) rfl rfl rfl (e_move) ?_
   refine l_val (v := .bool (decide (((i : Nat) : Int) < (64 : Int)))) rfl rfl rfl (e_lss (a := ((i : Nat) : Int)) (b := (64 : Int)) rfl rfl) ?_
   refine l_nil ?_
   refine f_then ?_
   refine c_if (((i : Nat) : Int) < (64 : Int)) rfl (fun hc6 => ?_) (fun hc6 => ?_)
   ·
    refine c_skip ?_
    refine f_then ?_
    refine c_seq ?_
    refine c_block ?_
    refine c_region ?_
    refine l_val (v := .slice q (xn + i) e) rfl rfl rfl (e_move) ?_
    refine l_val (v := Nx (zs.length)) rfl rfl rfl (e_move) ?_
    refine l_val (v := .slice lsa (HL.length) (lsc)) rfl rfl rfl (e_move) ?_
    refine l_val (v := Nx (zs.length)) rfl rfl rfl (e_move) ?_
    refine l_val (v := .pointer (some ((ba lsa).add (zs.length * 1)))) rfl rfl rfl (e_indexAddr (k := zs.length) (len := HL.length) (cap := lsc) (a := lsa) rfl rfl tw79 (by omega) hxa) ?_
    refine l_val (v := .slice xp (xn) xc) rfl rfl rfl (e_load1 tw1 (v := .slice xp (xn) xc) rfl (Knows.of_base (Cs.mono _ _) hxc)) ?_
    refine l_val (v := Nx (xn)) rfl rfl rfl (e_len (a := xp) (n := xn) (c := xc) rfl tw2) ?_
    refine l_val (v := Nx (i)) rfl rfl rfl (e_move) ?_
    refine l_val (v := Nx (xn + i)) rfl rfl rfl (e_add (a := ((xn : Nat) : Int)) (b := ((i : Nat) : Int)) rfl rfl (i64n (by omega) (by omega))) ?_
    refine l_call rfl rfl rfl (cl_value (fst := []) (cap := []) (vs := [Nx (zs.length), Nx (xn + i)]) (all := [Nx (zs.length), Nx (xn + i)]) tw73 rfl rfl rfl) ?_
    intro w hw
    obtain ⟨β1, sb, kn, hw1, back⟩ := St.frame_all hw
    refine (markCk_ok β1 w hw1 zs.length (xn + i) (by omega) (by omega)).mono ?_
    rintro e w' ⟨rfl, hw'⟩
    refine ⟨_, rfl, _, back _ _ hw', ?_⟩
    clear hw hw1 hw' back kn sb
    refine l_mv rfl rfl rfl (m_slices tw3 tw69 (vs := [(0, .agg #[Bx ((mkC zs.length (xn + i)).kind), Ix ((mkC zs.length (xn + i)).v0), Ix ((mkC zs.length (xn + i)).v1), Ix ((mkC zs.length (xn + i)).v2), Ix ((mkC zs.length (xn + i)).v3)])]) (cells := #[Bx ((mkC zs.length (xn + i)).kind), Ix ((mkC zs.length (xn + i)).v0), Ix ((mkC zs.length (xn + i)).v1), Ix ((mkC zs.length (xn + i)).v2), Ix ((mkC zs.length (xn + i)).v3)]) rfl rfl rfl rfl) ?_
    rintro _ _ ⟨b7, rfl, rfl⟩
    refine l_mv rfl rfl rfl (m_append_famF (F := CompF) 2 tw3 tw49 (q := q) (m := xn + i) (e := e) (zs := [(mkC zs.length (xn + i))]) (ad := ⟨b7, 0, none⟩) (k := 1) (cc := 1) rfl rfl (mkL_len _ _).symm rfl rfl (k_pt 0 (cs := #[Bx ((mkC zs.length (xn + i)).kind), Ix ((mkC zs.length (xn + i)).v0), Ix ((mkC zs.length (xn + i)).v1), Ix ((mkC zs.length (xn + i)).v2), Ix ((mkC zs.length (xn + i)).v3)]) (vs := [Bx ((mkC zs.length (xn + i)).kind), Ix ((mkC zs.length (xn + i)).v0), Ix ((mkC zs.length (xn + i)).v1), Ix ((mkC zs.length (xn + i)).v2), Ix ((mkC zs.length (xn + i)).v3)]) rfl rfl) (by omega) (by unfold maxLen; omega) (by omega)) ?_
    rintro _ _ ⟨rp8, rc9, rfl, rfl⟩
    refine l_val (v := .slice rp8 (xn + i + 1) rc9) rfl rfl rfl (e_assign) ?_
    refine l_nil ?_
    refine f_block ?_
    refine f_then ?_
    refine c_region ?_
    refine l_val (v := Nx (i)) rfl rfl rfl (e_move) ?_
    refine l_val (v := Nx (i + 1)) rfl rfl rfl (e_add (a := ((i : Nat) : Int)) (b := (1 : Int)) rfl rfl (i64n (by omega) (by omega))) ?_
    refine l_val (v := Nx (i + 1)) rfl rfl rfl (e_assign) ?_
    refine l_nil ?_
    refine f_mask (L' := [Sat (fromK (rowK CompF 120 mkC) (zs.length + 1) po), famF CompF 120 xp xc (mkL mkC zs.length xn) rp8 rc9 ((mkL mkC zs.length (xn + i)) ++ [(mkC zs.length (xn + i))]), Sat (fromK (famK CompF 120 mkC) 0 zs), rowF H3F 57 (some ⟨b4, 0, none⟩) HL.length (zs.map gh3 ++ (⟨none, 0, 0⟩ : H3) :: List.replicate po.length (⟨none, 0, 0⟩ : H3))]) [false, true, true, true, true] rfl ?_
    exact f_cut ⟨(i + 1, rp8, rc9), ⟨⟨rfl, rfl, rfl, rfl, rfl⟩, by rw [mkL_succ] <;> rfl, by omega⟩, (show 64 - (i + 1) < 64 - i from by omega)⟩
   ·
    refine c_exit ?_
    refine f_then_exit ?_
    refine f_then_exit ?_
    refine f_exit ?_
    refine f_then ?_
    refine c_region ?_
    refine l_val (v := .slice (some ⟨b4, 0, none⟩) (HL.length) HL.length) rfl rfl rfl (e_move) ?_
    refine l_val (v := Nx (zs.length)) rfl rfl rfl (e_move) ?_
    refine l_val (v := .slice q (xn + i) e) rfl rfl rfl (e_move) ?_
    refine l_val (v := .pointer (some ((ba (some ⟨b4, 0, none⟩)).add (zs.length * 1)))) rfl rfl rfl (e_indexFlN 3 (F := H3F) (j := zs.length) (m := HL.length) (xs := (zs.map gh3 ++ (⟨none, 0, 0⟩ : H3) :: List.replicate po.length (⟨none, 0, 0⟩ : H3))) rfl (by simp only [List.length_append, List.length_map, List.length_replicate, List.length_cons, List.length_set]; omega) rfl tw79 (by omega) rfl) ?_
    refine l_mu rfl rfl (m_storeFl 3 (F := H3F) (p := (some ⟨b4, 0, none⟩)) (k := zs.length) (xs := (zs.map gh3 ++ (⟨none, 0, 0⟩ : H3) :: List.replicate po.length (⟨none, 0, 0⟩ : H3))) (z := (⟨q, xn + i, e⟩ : H3)) tw1 rfl rfl rfl rfl (by simp only [List.length_append, List.length_map, List.length_replicate, List.length_cons]; omega)) ?_
    refine l_nil ?_
    refine f_block ?_
    refine f_then ?_
    obtain rfl : i = 64 := by omega
    refine c_perm (L' := [Sat (fromK (famK CompF 120 mkC) 0 zs), famF CompF 120 xp xc (mkL mkC zs.length xn) q e (mkL mkC zs.length (xn + 64)), Sat (fromK (rowK CompF 120 mkC) (zs.length + 1) po), rowF H3F 57 (some ⟨b4, 0, none⟩) HL.length ((zs.map gh3 ++ (⟨none, 0, 0⟩ : H3) :: List.replicate po.length (⟨none, 0, 0⟩ : H3)).set zs.length (⟨q, xn + 64, e⟩ : H3))]) (perm_ix [2, 1, 0, 3] 4 rfl (by kernel_rfl) (by kernel_rfl)) ?_
    refine c_re (L' := [Sat (fromK (famK CompF 120 mkC) 0 zs), famF CompF 120 xp xc (mkL mkC zs.length xn) q e (mkL mkC zs.length (xn + 64)), Sat (fromK (rowK CompF 120 mkC) (zs.length + 1) po), rowF H3F 57 (some ⟨b4, 0, none⟩) HL.length ((zs ++ [(⟨(⟨xp, xn, xc⟩ : H3), q, e⟩ : Z5)]).map gh3 ++ List.replicate po.length (⟨none, 0, 0⟩ : H3))]) (by rw [← gs_set]; rfl) ?_
    refine c_snocR (Ls' := fromK (famK CompF 120 mkC) 0 (zs ++ [(⟨(⟨xp, xn, xc⟩ : H3), q, e⟩ : Z5)])) (M := [Sat (fromK (rowK CompF 120 mkC) (zs.length + 1) po), rowF H3F 57 (some ⟨b4, 0, none⟩) HL.length ((zs ++ [(⟨(⟨xp, xn, xc⟩ : H3), q, e⟩ : Z5)]).map gh3 ++ List.replicate po.length (⟨none, 0, 0⟩ : H3))]) rfl (snocK (famK CompF 120 mkC) (⟨(⟨xp, xn, xc⟩ : H3), q, e⟩ : Z5) zs) ?_
    refine c_region ?_
    refine l_val (v := Nx (zs.length)) rfl rfl rfl (e_move) ?_
    refine l_val (v := Nx (zs.length + 1)) rfl rfl rfl (e_add (a := ((zs.length : Nat) : Int)) (b := (1 : Int)) rfl rfl (i64n (by omega) (by omega))) ?_
    refine l_val (v := Nx (zs.length + 1)) rfl rfl rfl (e_assign) ?_
    refine l_nil ?_
    exact f_cut ⟨((zs ++ [⟨(⟨xp, xn, xc⟩ : H3), q, e⟩]), po), ⟨⟨rfl, rfl, congrArg (fun z : Nat => Nx z) (by rw [List.length_append]; rfl)⟩, by rw [List.length_append] <;> rfl, by rw [hpp, hpo, List.map_append, List.append_assoc]; rfl⟩, (Nat.lt_succ_self po.length)⟩
  ·
   refine c_exit ?_
   refine f_then_exit ?_
   refine f_then_exit ?_
   refine f_exit ?_
   refine f_then ?_
   refine c_seq ?_
   refine c_seq ?_
   have hlen : HL.length = zs.length + post.length := by rw [hpp, List.length_append, List.length_map]
   obtain rfl := unnil hlen (by omega)
   have hz : HL = zs.map Z5.h := by rw [hpp, List.append_nil]
   have hzl : zs.length = HL.length := by rw [hz, List.length_map]
   refine c_re (L' := [Sat (fromK (famK CompF 120 mkC) 0 zs), Sat (fromK (rowK CompF 120 mkC) zs.length ([] : List H3)), rowF H3F 57 (some ⟨b4, 0, none⟩) HL.length (zs.map gh3)]) (by rw [show List.replicate ([] : List H3).length (⟨none, 0, 0⟩ : H3) = [] from rfl, List.append_nil]) ?_
   refine c_mask [true, false, true] rfl ?_
   refine c_region ?_
   refine l_val (v := .int .i64 (0)) rfl rfl rfl (e_assign) ?_
   refine l_nil ?_
   refine f_then ?_
   refine c_block ?_
   refine c_loop (fun (k : Nat) (f : Fm) (L : List Res) => (f 0 = .slice lsa (HL.length) (lsc) ∧ f 5 = .slice (some ⟨b4, 0, none⟩) (HL.length) HL.length ∧ f 9 = Nx (k)) ∧ L = [Sat (fromK (famK CompF 120 mkC) 0 zs), rowF H3F 57 (some ⟨b4, 0, none⟩) HL.length (zs.map gh3)] ∧ (k ≤ HL.length)) (fun (k : Nat) => HL.length - k) 0 ?_ ?_
   ·exact ⟨⟨rfl, rfl, rfl⟩, rfl, by omega⟩
   rintro k f0 L0 ⟨⟨hs0, hs5, hs9⟩, hL, hk⟩
   subst L0
   refine rebase (d := 0) hs0 ?_
   refine rebase (d := 5) hs5 ?_
   refine rebase (d := 9) hs9 ?_
   clear hs0 hs5 hs9
   refine c_seq ?_
   refine c_seq ?_
   refine c_region ?_
   refine l_val (v := Nx (k)) rfl rfl rfl (e_move) ?_
   refine l_val (v := .slice lsa (HL.length) (lsc)) rfl rfl rfl (e_move) ?_
   refine l_val (v := Nx (HL.length)) rfl rfl rfl (e_len (a := lsa) (n := HL.length) (c := lsc) rfl tw78) ?_
   refine l_val (v := .bool (decide (((k : Nat) : Int) < ((HL.length : Nat) : Int)))) rfl rfl rfl (e_lss (a := ((k : Nat) : Int)) (b := ((HL.length : Nat) : Int)) rfl rfl) ?_
   refine l_nil ?_
   refine f_then ?_
   refine c_if (((k : Nat) : Int) < ((HL.length : Nat) : Int)) rfl (fun hc10 => ?_) (fun hc10 => ?_)
   ·
    refine c_skip ?_
    refine f_then ?_
    refine c_seq ?_
    refine c_block ?_
    refine c_seq ?_
    obtain ⟨⟨⟨zp, zn, zc⟩, zq, ze⟩, hzk⟩ : ∃ z_, zs[k]? = some z_ := ⟨_, List.getElem?_eq_getElem (by omega)⟩
    have hx : HL[k]? = some (⟨zp, zn, zc⟩ : H3) := by rw [hz, List.getElem?_map, hzk]; rfl
    have hxl : zn ≤ 1000000 := hbd0 _ (List.mem_of_getElem? hx)
    have hgk : (zs.map gh3)[k]? = some (⟨zq, zn + 64, ze⟩ : H3) := by rw [List.getElem?_map, hzk]; rfl
    obtain ⟨hxa, cs_, hxc, rfl⟩ := lse _ _ hx
    refine c_takeN k (r := famF CompF 120 zp zc (mkL mkC k zn) zq ze (mkL mkC k (zn + 64))) (fromK_at0 _ hzk) rfl ?_
    refine c_region ?_
    refine l_val (v := .int .i64 (0)) rfl rfl rfl (e_assign) ?_
    refine l_nil ?_
    refine f_then ?_
    refine c_block ?_
    refine c_loop (fun (i : Nat) (f : Fm) (L : List Res) => (f 0 = .slice lsa (HL.length) (lsc) ∧ f 5 = .slice (some ⟨b4, 0, none⟩) (HL.length) HL.length ∧ f 9 = Nx (k) ∧ f 10 = Nx (i)) ∧ L = [Sat ((fromK (famK CompF 120 mkC) 0 zs).eraseIdx k), famF CompF 120 zp zc (mkL mkC k zn) zq ze (mkL mkC k (zn + 64)), rowF H3F 57 (some ⟨b4, 0, none⟩) HL.length (zs.map gh3)] ∧ (i ≤ zn + 64)) (fun (i : Nat) => zn + 64 - i) 0 ?_ ?_
    ·exact ⟨⟨rfl, rfl, rfl, rfl⟩, rfl, by omega⟩
    rintro i f0 L0 ⟨⟨hs0, hs5, hs9, hs10⟩, hL, hi⟩
    subst L0
    refine rebase (d := 0) hs0 ?_
    refine rebase (d := 5) hs5 ?_
    refine rebase (d := 9) hs9 ?_
    refine rebase (d := 10) hs10 ?_
    clear hs0 hs5 hs9 hs10
    refine c_seq ?_
    refine c_seq ?_
    refine c_region ?_
    refine l_val (v := Nx (i)) rfl rfl rfl (e_move) ?_
    refine l_val (v := .slice (some ⟨b4, 0, none⟩) (HL.length) HL.length) rfl rfl rfl (e_move) ?_
    refine l_val (v := Nx (k)) rfl rfl rfl (e_move) ?_
    refine l_val (v := .pointer (some ((ba (some ⟨b4, 0, none⟩)).add (k * 1)))) rfl rfl rfl (e_indexFlN 2 (F := H3F) (j := k) (m := HL.length) (xs := (zs.map gh3)) rfl (by simp only [List.length_append, List.length_map, List.length_replicate, List.length_cons, List.length_set]; omega) rfl tw79 (by omega) rfl) ?_
    refine l_val (v := .slice zq (zn + 64) ze) rfl rfl rfl (e_load1 tw1 (v := .slice zq (zn + 64) ze) rfl (k_flAt 2 (F := H3F) rfl hgk)) ?_
    refine l_val (v := Nx (zn + 64)) rfl rfl rfl (e_len (a := zq) (n := zn + 64) (c := ze) rfl tw2) ?_
    refine l_val (v := .bool (decide (((i : Nat) : Int) < ((zn + 64 : Nat) : Int)))) rfl rfl rfl (e_lss (a := ((i : Nat) : Int)) (b := ((zn + 64 : Nat) : Int)) rfl rfl) ?_
    refine l_nil ?_
    refine f_then ?_
    refine c_if (((i : Nat) : Int) < ((zn + 64 : Nat) : Int)) rfl (fun hc11 => ?_) (fun hc11 => ?_)
    ·
     refine c_skip ?_
     refine f_then ?_
     refine c_seq ?_
     refine c_block ?_
     refine c_seq ?_
     refine c_quiet (by kernel_rfl) (by kernel_rfl) ?_
     refine q_val (v := .slice (some ⟨b4, 0, none⟩) (HL.length) HL.length) rfl rfl rfl (e_move) ?_
     refine q_val (v := Nx (k)) rfl rfl rfl (e_move) ?_
     refine q_val (v := .pointer (some ((ba (some ⟨b4, 0, none⟩)).add (k * 1)))) rfl rfl rfl (e_indexFlN 2 (F := H3F) (j := k) (m := HL.length) (xs := (zs.map gh3)) rfl (by simp only [List.length_append, List.length_map, List.length_replicate, List.length_cons, List.length_set]; omega) rfl tw79 (by omega) rfl) ?_
     refine q_val (v := .slice zq (zn + 64) ze) rfl rfl rfl (e_load1 tw1 (v := .slice zq (zn + 64) ze) rfl (k_flAt 2 (F := H3F) rfl hgk)) ?_
     refine q_val (v := Nx (i)) rfl rfl rfl (e_move) ?_
     refine q_val (v := .pointer (some ((ba zq).add (i * 5)))) rfl rfl rfl (e_indexFam2F 1 (F := CompF) (j := i) (m := zn + 64) rfl (by rw [mkL_len]; omega) rfl tw3 (by omega) rfl) ?_
     refine q_val (v := .agg #[Bx ((mkC k i).kind), Ix ((mkC k i).v0), Ix ((mkC k i).v1), Ix ((mkC k i).v2), Ix ((mkC k i).v3)]) rfl rfl rfl (e_load tw72 (cs := [Bx ((mkC k i).kind), Ix ((mkC k i).v0), Ix ((mkC k i).v1), Ix ((mkC k i).v2), Ix ((mkC k i).v3)]) rfl (k_fam2F 1 (F := CompF) (j := i) (x := (mkC k i)) rfl (mkL_at (by omega))) rfl) ?_
     refine q_val (v := Nx (k)) rfl rfl rfl (e_move) ?_
     refine q_val (v := Nx (i)) rfl rfl rfl (e_move) ?_
     refine q_call (v := .agg #[Bx ((mkC k i).kind), Ix ((mkC k i).v0), Ix ((mkC k i).v1), Ix ((mkC k i).v2), Ix ((mkC k i).v3)]) rfl rfl rfl (cl_value (fst := []) (cap := []) (vs := [Nx (k), Nx (i)]) (all := [Nx (k), Nx (i)]) tw73 rfl rfl rfl) (fun w hw => ?_) ?_
     ·obtain ⟨β1, sb, kn, hw1, back⟩ := St.frame_all hw
      exact (markCk_ok β1 w hw1 k i (by omega) (by omega)).mono (fun e w' ⟨he, hw'⟩ => ⟨he, st_mask [true, true, true] rfl (back _ _ hw')⟩)
     refine q_val (v := .bool (decide ((mkC k i) = (mkC k i)))) rfl rfl rfl (e_eql_t (xs := [Bx ((mkC k i).kind), Ix ((mkC k i).v0), Ix ((mkC k i).v1), Ix ((mkC k i).v2), Ix ((mkC k i).v3)]) (ys := [Bx ((mkC k i).kind), Ix ((mkC k i).v0), Ix ((mkC k i).v1), Ix ((mkC k i).v2), Ix ((mkC k i).v3)]) tw82 tw83 tw84 rfl rfl rfl rfl (comp_eq (x := (mkC k i)) (y := (mkC k i)))) ?_
     refine q_val (v := .bool (decide (¬ ((mkC k i) = (mkC k i))))) rfl rfl rfl (e_not_p (p := (mkC k i) = (mkC k i)) rfl) ?_
     refine q_val (v := .bool (decide (¬ ((mkC k i) = (mkC k i))))) rfl rfl rfl (e_move) ?_
     refine q_split (s := 100) (p := ¬ ((mkC k i) = (mkC k i))) rfl (fun h => ?_) (fun h => ?_)
     exact absurd h (fun h => h rfl)
     refine qg_val (v := Nx (i)) rfl rfl rfl rfl rfl (e_move) ?_
     refine qg_val (v := .slice lsa (HL.length) (lsc)) rfl rfl rfl rfl rfl (e_move) ?_
     refine qg_val (v := Nx (k)) rfl rfl rfl rfl rfl (e_move) ?_
     refine qg_val (v := .pointer (some ((ba lsa).add (k * 1)))) rfl rfl rfl rfl rfl (e_indexAddr (k := k) (len := HL.length) (cap := lsc) (a := lsa) rfl rfl tw79 (by omega) hxa) ?_
     refine qg_val (v := .slice zp (zn) zc) rfl rfl rfl rfl rfl (e_load1 tw1 (v := .slice zp (zn) zc) rfl (Knows.of_base (Cs.mono _ _) hxc)) ?_
     refine qg_val (v := Nx (zn)) rfl rfl rfl rfl rfl (e_len (a := zp) (n := zn) (c := zc) rfl tw2) ?_
     refine qg_val (v := .bool (decide (((i : Nat) : Int) < ((zn : Nat) : Int)))) rfl rfl rfl rfl rfl (e_lss (a := ((i : Nat) : Int)) (b := ((zn : Nat) : Int)) rfl rfl) ?_
     refine qg_val (v := .bool (decide (((i : Nat) : Int) < ((zn : Nat) : Int)))) rfl rfl rfl rfl rfl (e_move) ?_
     refine q_split (s := 108) (p := ((i : Nat) : Int) < ((zn : Nat) : Int)) rfl (fun hg12 => ?_) (fun hg12 => ?_)
     ·
      refine qg_val (v := .slice lsa (HL.length) (lsc)) rfl rfl rfl rfl rfl (e_move) ?_
      refine qg_val (v := Nx (k)) rfl rfl rfl rfl rfl (e_move) ?_
      refine qg_val (v := .pointer (some ((ba lsa).add (k * 1)))) rfl rfl rfl rfl rfl (e_indexAddr (k := k) (len := HL.length) (cap := lsc) (a := lsa) rfl rfl tw79 (by omega) hxa) ?_
      refine qg_val (v := .slice zp (zn) zc) rfl rfl rfl rfl rfl (e_load1 tw1 (v := .slice zp (zn) zc) rfl (Knows.of_base (Cs.mono _ _) hxc)) ?_
      refine qg_val (v := Nx (i)) rfl rfl rfl rfl rfl (e_move) ?_
      refine qg_val (v := .pointer (some ((ba zp).add (i * 5)))) rfl rfl rfl rfl rfl (e_indexFam1F 1 (F := CompF) (j := i) (m := zn) rfl (by rw [mkL_len]; omega) rfl tw3 (by omega) rfl) ?_
      refine qg_val (v := .agg #[Bx ((mkC k i).kind), Ix ((mkC k i).v0), Ix ((mkC k i).v1), Ix ((mkC k i).v2), Ix ((mkC k i).v3)]) rfl rfl rfl rfl rfl (e_load tw72 (cs := [Bx ((mkC k i).kind), Ix ((mkC k i).v0), Ix ((mkC k i).v1), Ix ((mkC k i).v2), Ix ((mkC k i).v3)]) rfl (k_fam1F 1 (F := CompF) (j := i) (x := (mkC k i)) rfl (mkL_at (by omega))) rfl) ?_
      refine qg_val (v := Nx (k)) rfl rfl rfl rfl rfl (e_move) ?_
      refine qg_val (v := Nx (i)) rfl rfl rfl rfl rfl (e_move) ?_
      refine qg_call (v := .agg #[Bx ((mkC k i).kind), Ix ((mkC k i).v0), Ix ((mkC k i).v1), Ix ((mkC k i).v2), Ix ((mkC k i).v3)]) rfl rfl rfl rfl rfl (cl_value (fst := []) (cap := []) (vs := [Nx (k), Nx (i)]) (all := [Nx (k), Nx (i)]) tw73 rfl rfl rfl) (fun w hw => ?_) ?_
      ·obtain ⟨β1, sb, kn, hw1, back⟩ := St.frame_all hw
       exact (markCk_ok β1 w hw1 k i (by omega) (by omega)).mono (fun e w' ⟨he, hw'⟩ => ⟨he, st_mask [true, true, true] rfl (back _ _ hw')⟩)
      refine qg_val (v := .bool (decide ((mkC k i) = (mkC k i)))) rfl rfl rfl rfl rfl (e_eql_t (xs := [Bx ((mkC k i).kind), Ix ((mkC k i).v0), Ix ((mkC k i).v1), Ix ((mkC k i).v2), Ix ((mkC k i).v3)]) (ys := [Bx ((mkC k i).kind), Ix ((mkC k i).v0), Ix ((mkC k i).v1), Ix ((mkC k i).v2), Ix ((mkC k i).v3)]) tw82 tw83 tw84 rfl rfl rfl rfl (comp_eq (x := (mkC k i)) (y := (mkC k i)))) ?_
      refine qg_val (v := .bool (decide (¬ ((mkC k i) = (mkC k i))))) rfl rfl rfl rfl rfl (e_not_p (p := (mkC k i) = (mkC k i)) rfl) ?_
      refine qg_val (v := .bool (decide (¬ ((mkC k i) = (mkC k i))))) rfl rfl rfl rfl rfl (e_pick_t rfl) ?_
      refine q_val (v := .bool (decide (¬ ((mkC k i) = (mkC k i))))) rfl rfl rfl (e_pick_f rfl) ?_
      refine q_nil ?_
      refine f_then ?_
      refine c_if (¬ ((mkC k i) = (mkC k i))) rfl (fun hc13 => ?_) (fun hc13 => ?_)
      ·
       exact absurd hc13 (fun h => h rfl)
      ·
       refine c_skip ?_
       refine f_block ?_
       refine f_then ?_
       refine c_region ?_
       refine l_val (v := Nx (i)) rfl rfl rfl (e_move) ?_
       refine l_val (v := Nx (i + 1)) rfl rfl rfl (e_add (a := ((i : Nat) : Int)) (b := (1 : Int)) rfl rfl (i64n (by omega) (by omega))) ?_
       refine l_val (v := Nx (i + 1)) rfl rfl rfl (e_assign) ?_
       refine l_nil ?_
       exact f_cut ⟨i + 1, ⟨⟨rfl, rfl, rfl, rfl⟩, rfl, by omega⟩, (show zn + 64 - (i + 1) < zn + 64 - i from by omega)⟩
     ·
      refine q_skip rfl rfl rfl rfl rfl rfl ?_
      refine q_skip rfl rfl rfl rfl rfl rfl ?_
      refine q_skip rfl rfl rfl rfl rfl rfl ?_
      refine q_skip rfl rfl rfl rfl rfl rfl ?_
      refine q_skip rfl rfl rfl rfl rfl rfl ?_
      refine q_skip rfl rfl rfl rfl rfl rfl ?_
      refine q_skip rfl rfl rfl rfl rfl rfl ?_
      refine q_skip rfl rfl rfl rfl rfl rfl ?_
      refine q_skip rfl rfl rfl rfl rfl rfl ?_
      refine q_skip rfl rfl rfl rfl rfl rfl ?_
      refine q_skip rfl rfl rfl rfl rfl rfl ?_
      refine q_skip rfl rfl rfl rfl rfl rfl ?_
      refine qg_val (v := .bool false) rfl rfl rfl rfl rfl (e_pick_f rfl) ?_
      refine q_val (v := .bool false) rfl rfl rfl (e_pick_f rfl) ?_
      refine q_nil ?_
      refine f_then ?_
      refine c_no rfl ?_
      refine c_skip ?_
      refine f_block ?_
      refine f_then ?_
      refine c_region ?_
      refine l_val (v := Nx (i)) rfl rfl rfl (e_move) ?_
      refine l_val (v := Nx (i + 1)) rfl rfl rfl (e_add (a := ((i : Nat) : Int)) (b := (1 : Int)) rfl rfl (i64n (by omega) (by omega))) ?_
      refine l_val (v := Nx (i + 1)) rfl rfl rfl (e_assign) ?_
      refine l_nil ?_
      exact f_cut ⟨i + 1, ⟨⟨rfl, rfl, rfl, rfl⟩, rfl, by omega⟩, (show zn + 64 - (i + 1) < zn + 64 - i from by omega)⟩
    ·
     refine c_exit ?_
     refine f_then_exit ?_
     refine f_then_exit ?_
     refine f_exit ?_
     refine f_block ?_
     refine f_then ?_
     refine c_putN k (fromK_at0 _ hzk) rfl ?_
     refine c_re (L' := [Sat (fromK (famK CompF 120 mkC) 0 zs), rowF H3F 57 (some ⟨b4, 0, none⟩) HL.length (zs.map gh3)]) rfl ?_
     refine c_region ?_
     refine l_val (v := Nx (k)) rfl rfl rfl (e_move) ?_
     refine l_val (v := Nx (k + 1)) rfl rfl rfl (e_add (a := ((k : Nat) : Int)) (b := (1 : Int)) rfl rfl (i64n (by omega) (by omega))) ?_
     refine l_val (v := Nx (k + 1)) rfl rfl rfl (e_assign) ?_
     refine l_nil ?_
     exact f_cut ⟨k + 1, ⟨⟨rfl, rfl, rfl⟩, rfl, by omega⟩, (show HL.length - (k + 1) < HL.length - k from by omega)⟩
   ·
    refine c_exit ?_
    refine f_then_exit ?_
    refine f_then_exit ?_
    refine f_exit ?_
    refine f_then ?_
    refine c_seq ?_
    refine c_seq ?_
    refine c_emp (r := Sat (fromK (famM CompF 120 mkC HL.length) 0 [])) trivial ?_
    refine c_region ?_
    refine l_val (v := .int .i64 (0)) rfl rfl rfl (e_assign) ?_
    refine l_nil ?_
    refine f_then ?_
    refine c_block ?_
    refine c_loop (fun (x_ : List Z5 × List Z5) (f : Fm) (L : List Res) => match x_ with | (ys, post) => (f 0 = .slice lsa (HL.length) (lsc) ∧ f 5 = .slice (some ⟨b4, 0, none⟩) (HL.length) HL.length ∧ f 11 = Nx (ys.length)) ∧ L = [Sat (fromK (famM CompF 120 mkC HL.length) 0 ys), Sat (fromK (famK CompF 120 mkC) ys.length post), rowF H3F 57 (some ⟨b4, 0, none⟩) HL.length (ys.map gh3 ++ post.map gh3)] ∧ (HL = ys.map Z5.h ++ post.map Z5.h)) (fun (x_ : List Z5 × List Z5) => match x_ with | (ys, post) => post.length) ([], zs) ?_ ?_
    ·exact ⟨⟨rfl, rfl, rfl⟩, rfl, hz⟩
    rintro ⟨ys, post⟩ f0 L0 ⟨⟨hs0, hs5, hs11⟩, hL, hpp⟩
    subst L0
    refine rebase (d := 0) hs0 ?_
    refine rebase (d := 5) hs5 ?_
    refine rebase (d := 11) hs11 ?_
    clear hs0 hs5 hs11
    have hlen : HL.length = ys.length + post.length := by rw [hpp, List.length_append, List.length_map, List.length_map]
    refine c_seq ?_
    refine c_seq ?_
    refine c_region ?_
    refine l_val (v := Nx (ys.length)) rfl rfl rfl (e_move) ?_
    refine l_val (v := .slice lsa (HL.length) (lsc)) rfl rfl rfl (e_move) ?_
    refine l_val (v := Nx (HL.length)) rfl rfl rfl (e_len (a := lsa) (n := HL.length) (c := lsc) rfl tw78) ?_
    refine l_val (v := .bool (decide (((ys.length : Nat) : Int) < ((HL.length : Nat) : Int)))) rfl rfl rfl (e_lss (a := ((ys.length : Nat) : Int)) (b := ((HL.length : Nat) : Int)) rfl rfl) ?_
    refine l_nil ?_
    refine f_then ?_
    refine c_if (((ys.length : Nat) : Int) < ((HL.length : Nat) : Int)) rfl (fun hc14 => ?_) (fun hc14 => ?_)
    ·
     refine c_skip ?_
     refine f_then ?_
     refine c_seq ?_
     refine c_block ?_
     refine c_seq ?_
     obtain ⟨⟨⟨zp, zn, zc⟩, zq, ze⟩, po, hpo⟩ := uncons hlen (by omega)
     have hx : HL[ys.length]? = some (⟨zp, zn, zc⟩ : H3) := by rw [hpp, hpo]; exact mid_at (List.length_map _).symm
     have hxl : zn ≤ 1000000 := hbd0 _ (List.mem_of_getElem? hx)
     obtain ⟨hxa, cs_, hxc, rfl⟩ := lse _ _ hx
     refine c_perm (L' := [Sat (fromK (famK CompF 120 mkC) ys.length post), Sat (fromK (famM CompF 120 mkC HL.length) 0 ys), rowF H3F 57 (some ⟨b4, 0, none⟩) HL.length (ys.map gh3 ++ post.map gh3)]) (perm_ix [1, 0, 2] 3 rfl (by kernel_rfl) (by kernel_rfl)) ?_
     rw [hpo]
     refine c_headR (r := famF CompF 120 zp zc (mkL mkC ys.length zn) zq ze (mkL mkC ys.length (zn + 64))) (Ls := fromK (famK CompF 120 mkC) (ys.length + 1) po) (M := [Sat (fromK (famM CompF 120 mkC HL.length) 0 ys), rowF H3F 57 (some ⟨b4, 0, none⟩) HL.length (ys.map gh3 ++ ((⟨(⟨zp, zn, zc⟩ : H3), zq, ze⟩ : Z5) :: po).map gh3)]) rfl ?_
     have hpl : post.length = po.length + 1 := by rw [hpo]; rfl
     refine c_region ?_
     refine l_mv rfl rfl rfl (m_makeFl (F := CompF) (x0 := (⟨0, 0, 0, 0, 0⟩ : KComp)) (c := 64) tw3 tw49 tw69 rfl rfl rfl (by unfold maxLen; omega) (by omega)) ?_
     rintro _ _ ⟨b15, rfl, rfl⟩
     refine l_val (v := .slice (some ⟨b15, 0, none⟩) (64) 64) rfl rfl rfl (e_assign) ?_
     refine l_nil ?_
     refine f_then ?_
     refine c_seq ?_
     refine c_seq ?_
     refine c_region ?_
     refine l_val (v := .int .i64 (0)) rfl rfl rfl (e_assign) ?_
     refine l_nil ?_
     refine f_then ?_
     refine c_block ?_
     refine c_loop (fun (i : Nat) (f : Fm) (L : List Res) => (f 0 = .slice lsa (HL.length) (lsc) ∧ f 5 = .slice (some ⟨b4, 0, none⟩) (HL.length) HL.length ∧ f 11 = Nx (ys.length) ∧ f 12 = .slice (some ⟨b15, 0, none⟩) (64) 64 ∧ f 13 = Nx (i)) ∧ L = [rowF CompF 120 (some ⟨b15, 0, none⟩) 64 ((mkL mkC (ys.length + HL.length) i) ++ (List.replicate 64 (⟨0, 0, 0, 0, 0⟩ : KComp)).drop i), Sat (fromK (famK CompF 120 mkC) (ys.length + 1) po), famF CompF 120 zp zc (mkL mkC ys.length zn) zq ze (mkL mkC ys.length (zn + 64)), Sat (fromK (famM CompF 120 mkC HL.length) 0 ys), rowF H3F 57 (some ⟨b4, 0, none⟩) HL.length (ys.map gh3 ++ ((⟨(⟨zp, zn, zc⟩ : H3), zq, ze⟩ : Z5) :: po).map gh3)] ∧ (i ≤ 64)) (fun (i : Nat) => 64 - i) 0 ?_ ?_
     ·exact ⟨⟨rfl, rfl, rfl, rfl, rfl⟩, by rw [mkp_zero], by omega⟩
     rintro i f0 L0 ⟨⟨hs0, hs5, hs11, hs12, hs13⟩, hL, hi⟩
     subst L0
     refine rebase (d := 0) hs0 ?_
     refine rebase (d := 5) hs5 ?_
     refine rebase (d := 11) hs11 ?_
     refine rebase (d := 12) hs12 ?_
     refine rebase (d := 13) hs13 ?_
     clear hs0 hs5 hs11 hs12 hs13
     refine c_seq ?_
     refine c_seq ?_
     refine c_region ?_
     refine l_val (v := Nx (i)) rfl rfl rfl (e_move) ?_
     refine l_val (v := .bool (decide (((i : Nat) : Int) < (64 : Int)))) rfl rfl rfl (e_lss (a := ((i : Nat) : Int)) (b := (64 : Int)) rfl rfl) ?_
     refine l_nil ?_
     refine f_then ?_
     refine c_if (((i : Nat) : Int) < (64 : Int)) rfl (fun hc16 => ?_) (fun hc16 => ?_)
     ·
      refine c_skip ?_
      refine f_then ?_
      refine c_seq ?_
      refine c_block ?_
      refine c_region ?_
      refine l_val (v := .slice (some ⟨b15, 0, none⟩) (64) 64) rfl rfl rfl (e_move) ?_
      refine l_val (v := Nx (i)) rfl rfl rfl (e_move) ?_
      refine l_val (v := Nx (ys.length)) rfl rfl rfl (e_move) ?_
      refine l_val (v := .slice lsa (HL.length) (lsc)) rfl rfl rfl (e_move) ?_
      refine l_val (v := Nx (HL.length)) rfl rfl rfl (e_len (a := lsa) (n := HL.length) (c := lsc) rfl tw78) ?_
      refine l_val (v := Nx (ys.length + HL.length)) rfl rfl rfl (e_add (a := ((ys.length : Nat) : Int)) (b := ((HL.length : Nat) : Int)) rfl rfl (i64n (by omega) (by omega))) ?_
      refine l_val (v := Nx (i)) rfl rfl rfl (e_move) ?_
      refine l_call rfl rfl rfl (cl_value (fst := []) (cap := []) (vs := [Nx (ys.length + HL.length), Nx (i)]) (all := [Nx (ys.length + HL.length), Nx (i)]) tw73 rfl rfl rfl) ?_
      intro w hw
      obtain ⟨β1, sb, kn, hw1, back⟩ := St.frame_all hw
      refine (markCk_ok β1 w hw1 (ys.length + HL.length) i (by omega) (by omega)).mono ?_
      rintro e w' ⟨rfl, hw'⟩
      refine ⟨_, rfl, _, back _ _ hw', ?_⟩
      clear hw hw1 hw' back kn sb
      refine l_val (v := .pointer (some ((ba (some ⟨b15, 0, none⟩)).add (i * 5)))) rfl rfl rfl (e_indexFlN 0 (F := CompF) (j := i) (m := 64) (xs := ((mkL mkC (ys.length + HL.length) i) ++ (List.replicate 64 (⟨0, 0, 0, 0, 0⟩ : KComp)).drop i)) rfl (by rw [mkp_len (by rw [List.length_replicate]; omega), List.length_replicate]) rfl tw3 (by omega) rfl) ?_
      refine l_mu rfl rfl (m_storeFl 0 (F := CompF) (p := (some ⟨b15, 0, none⟩)) (k := i) (xs := ((mkL mkC (ys.length + HL.length) i) ++ (List.replicate 64 (⟨0, 0, 0, 0, 0⟩ : KComp)).drop i)) (z := (mkC (ys.length + HL.length) i)) tw72 rfl rfl rfl rfl (by rw [mkp_len (by first | omega | (rw [List.length_replicate]; omega))]; (try rw [List.length_replicate]); omega)) ?_
      refine l_nil ?_
      refine f_block ?_
      refine f_then ?_
      refine c_region ?_
      refine l_val (v := Nx (i)) rfl rfl rfl (e_move) ?_
      refine l_val (v := Nx (i + 1)) rfl rfl rfl (e_add (a := ((i : Nat) : Int)) (b := (1 : Int)) rfl rfl (i64n (by omega) (by omega))) ?_
      refine l_val (v := Nx (i + 1)) rfl rfl rfl (e_assign) ?_
      refine l_nil ?_
      exact f_cut ⟨i + 1, ⟨⟨rfl, rfl, rfl, rfl, rfl⟩, by rw [mkp_step (by rw [List.length_replicate]; omega)] <;> rfl, by omega⟩, (show 64 - (i + 1) < 64 - i from by omega)⟩
     ·
      refine c_exit ?_
      refine f_then_exit ?_
      refine f_then_exit ?_
      refine f_exit ?_
      refine f_then ?_
      obtain rfl : i = 64 := by omega
      rw [mkp_done (by rw [List.length_replicate]; omega)]
      refine c_conseq 2 (r' := famF CompF 120 zp zc (mkL mkC ys.length zn) zp zc (mkL mkC ys.length zn)) rfl (fun a h => famF_start a (famF_first a h)) ?_
      refine c_region ?_
      refine l_val (v := .slice (some ⟨b4, 0, none⟩) (HL.length) HL.length) rfl rfl rfl (e_move) ?_
      refine l_val (v := Nx (ys.length)) rfl rfl rfl (e_move) ?_
      refine l_val (v := .slice lsa (HL.length) (lsc)) rfl rfl rfl (e_move) ?_
      refine l_val (v := Nx (ys.length)) rfl rfl rfl (e_move) ?_
      refine l_val (v := .pointer (some ((ba lsa).add (ys.length * 1)))) rfl rfl rfl (e_indexAddr (k := ys.length) (len := HL.length) (cap := lsc) (a := lsa) rfl rfl tw79 (by omega) hxa) ?_
      refine l_val (v := .slice zp (zn) zc) rfl rfl rfl (e_load1 tw1 (v := .slice zp (zn) zc) rfl (Knows.of_base (Cs.mono _ _) hxc)) ?_
      refine l_val (v := .slice (some ⟨b15, 0, none⟩) (64) 64) rfl rfl rfl (e_move) ?_
      refine l_mv rfl rfl rfl (m_append_famF (F := CompF) 2 tw3 tw49 (q := zp) (m := zn) (e := zc) (zs := (mkL mkC (ys.length + HL.length) 64)) (ad := ⟨b15, 0, none⟩) (k := 64) (cc := 64) rfl rfl (mkL_len _ _).symm rfl (mkL_len _ _) (k_rowF_all (p := (some ⟨b15, 0, none⟩)) 0 rfl (by rw [mkL_len]; omega)) (by omega) (by unfold maxLen; omega) (by omega)) ?_
      rintro _ _ ⟨rp17, rc18, rfl, rfl⟩
      refine l_val (v := .pointer (some ((ba (some ⟨b4, 0, none⟩)).add (ys.length * 1)))) rfl rfl rfl (e_indexFlN 4 (F := H3F) (j := ys.length) (m := HL.length) (xs := (ys.map gh3 ++ ((⟨(⟨zp, zn, zc⟩ : H3), zq, ze⟩ : Z5) :: po).map gh3)) rfl (by simp only [List.length_append, List.length_map, List.length_replicate, List.length_cons, List.length_set]; omega) rfl tw79 (by omega) rfl) ?_
      refine l_mu rfl rfl (m_storeFl 4 (F := H3F) (p := (some ⟨b4, 0, none⟩)) (k := ys.length) (xs := (ys.map gh3 ++ ((⟨(⟨zp, zn, zc⟩ : H3), zq, ze⟩ : Z5) :: po).map gh3)) (z := (⟨rp17, zn + 64, rc18⟩ : H3)) tw1 rfl rfl rfl rfl (by simp only [List.length_append, List.length_map, List.length_replicate, List.length_cons]; omega)) ?_
      refine l_nil ?_
      refine f_block ?_
      refine f_then ?_
      obtain ⟨q, hq_⟩ : ∃ z_, z_ = rp17 := ⟨_, rfl⟩
      obtain ⟨e, he_⟩ : ∃ z_, z_ = rc18 := ⟨_, rfl⟩
      rw [← hq_, ← he_]
      refine c_perm (L' := [Sat (fromK (famM CompF 120 mkC HL.length) 0 ys), famF CompF 120 zp zc (mkL mkC ys.length zn) q e ((mkL mkC ys.length zn) ++ (mkL mkC (ys.length + HL.length) 64)), rowF CompF 120 (some ⟨b15, 0, none⟩) 64 (mkL mkC (ys.length + HL.length) 64), Sat (fromK (famK CompF 120 mkC) (ys.length + 1) po), rowF H3F 57 (some ⟨b4, 0, none⟩) HL.length ((ys.map gh3 ++ ((⟨(⟨zp, zn, zc⟩ : H3), zq, ze⟩ : Z5) :: po).map gh3).set ys.length (⟨q, zn + 64, e⟩ : H3))]) (perm_ix [3, 2, 0, 1, 4] 5 rfl (by kernel_rfl) (by kernel_rfl)) ?_
      refine c_re (L' := [Sat (fromK (famM CompF 120 mkC HL.length) 0 ys), famF CompF 120 zp zc (mkL mkC ys.length zn) q e ((mkL mkC ys.length zn) ++ (mkL mkC (ys.length + HL.length) 64)), rowF CompF 120 (some ⟨b15, 0, none⟩) 64 (mkL mkC (ys.length + HL.length) 64), Sat (fromK (famK CompF 120 mkC) (ys.length + 1) po), rowF H3F 57 (some ⟨b4, 0, none⟩) HL.length ((ys ++ [(⟨(⟨zp, zn, zc⟩ : H3), q, e⟩ : Z5)]).map gh3 ++ po.map gh3)]) (by rw [← gs_set2]; rfl) ?_
      refine c_snocR (Ls' := fromK (famM CompF 120 mkC HL.length) 0 (ys ++ [(⟨(⟨zp, zn, zc⟩ : H3), q, e⟩ : Z5)])) (M := [rowF CompF 120 (some ⟨b15, 0, none⟩) 64 (mkL mkC (ys.length + HL.length) 64), Sat (fromK (famK CompF 120 mkC) (ys.length + 1) po), rowF H3F 57 (some ⟨b4, 0, none⟩) HL.length ((ys ++ [(⟨(⟨zp, zn, zc⟩ : H3), q, e⟩ : Z5)]).map gh3 ++ po.map gh3)]) rfl (snocK (famM CompF 120 mkC HL.length) (⟨(⟨zp, zn, zc⟩ : H3), q, e⟩ : Z5) ys) ?_
      refine c_mask [true, false, true, true] rfl ?_
      refine c_region ?_
      refine l_val (v := Nx (ys.length)) rfl rfl rfl (e_move) ?_
      refine l_val (v := Nx (ys.length + 1)) rfl rfl rfl (e_add (a := ((ys.length : Nat) : Int)) (b := (1 : Int)) rfl rfl (i64n (by omega) (by omega))) ?_
      refine l_val (v := Nx (ys.length + 1)) rfl rfl rfl (e_assign) ?_
      refine l_nil ?_
      exact f_cut ⟨((ys ++ [⟨(⟨zp, zn, zc⟩ : H3), q, e⟩]), po), ⟨⟨rfl, rfl, congrArg (fun z : Nat => Nx z) (by rw [List.length_append]; rfl)⟩, by rw [List.length_append] <;> rfl, by rw [hpp, hpo, List.map_append, List.append_assoc]; rfl⟩, (Nat.lt_succ_self po.length)⟩
    ·
     refine c_exit ?_
     refine f_then_exit ?_
     refine f_then_exit ?_
     refine f_exit ?_
     refine f_then ?_
     refine c_seq ?_
     refine c_seq ?_
     have hlen : HL.length = ys.length + post.length := by rw [hpp, List.length_append, List.length_map, List.length_map]
     obtain rfl := unnil hlen (by omega)
     have hy : HL = ys.map Z5.h := by rw [hpp, List.map_nil, List.append_nil]
     have hyl : ys.length = HL.length := by rw [hy, List.length_map]
     refine c_re (L' := [Sat (fromK (famM CompF 120 mkC HL.length) 0 ys), Sat (fromK (famK CompF 120 mkC) ys.length ([] : List Z5)), rowF H3F 57 (some ⟨b4, 0, none⟩) HL.length (ys.map gh3)]) (by rw [List.map_nil, List.append_nil]) ?_
     refine c_mask [true, false, true] rfl ?_
     refine c_region ?_
     refine l_val (v := .int .i64 (0)) rfl rfl rfl (e_assign) ?_
     refine l_nil ?_
     refine f_then ?_
     refine c_block ?_
     refine c_loop (fun (k : Nat) (f : Fm) (L : List Res) => (f 0 = .slice lsa (HL.length) (lsc) ∧ f 5 = .slice (some ⟨b4, 0, none⟩) (HL.length) HL.length ∧ f 14 = Nx (k)) ∧ L = [Sat (fromK (famM CompF 120 mkC HL.length) 0 ys), rowF H3F 57 (some ⟨b4, 0, none⟩) HL.length (ys.map gh3)] ∧ (k ≤ HL.length)) (fun (k : Nat) => HL.length - k) 0 ?_ ?_
     ·exact ⟨⟨rfl, rfl, rfl⟩, rfl, by omega⟩
     rintro k f0 L0 ⟨⟨hs0, hs5, hs14⟩, hL, hk⟩
     subst L0
     refine rebase (d := 0) hs0 ?_
     refine rebase (d := 5) hs5 ?_
     refine rebase (d := 14) hs14 ?_
     clear hs0 hs5 hs14
     refine c_seq ?_
     refine c_seq ?_
     refine c_region ?_
     refine l_val (v := Nx (k)) rfl rfl rfl (e_move) ?_
     refine l_val (v := .slice lsa (HL.length) (lsc)) rfl rfl rfl (e_move) ?_
     refine l_val (v := Nx (HL.length)) rfl rfl rfl (e_len (a := lsa) (n := HL.length) (c := lsc) rfl tw78) ?_
     refine l_val (v := .bool (decide (((k : Nat) : Int) < ((HL.length : Nat) : Int)))) rfl rfl rfl (e_lss (a := ((k : Nat) : Int)) (b := ((HL.length : Nat) : Int)) rfl rfl) ?_
     refine l_nil ?_
     refine f_then ?_
     refine c_if (((k : Nat) : Int) < ((HL.length : Nat) : Int)) rfl (fun hc19 => ?_) (fun hc19 => ?_)
     ·
      refine c_skip ?_
      refine f_then ?_
      refine c_seq ?_
      refine c_block ?_
      refine c_seq ?_
      obtain ⟨⟨⟨zp, zn, zc⟩, zq, ze⟩, hzk⟩ : ∃ z_, ys[k]? = some z_ := ⟨_, List.getElem?_eq_getElem (by omega)⟩
      have hx : HL[k]? = some (⟨zp, zn, zc⟩ : H3) := by rw [hy, List.getElem?_map, hzk]; rfl
      have hxl : zn ≤ 1000000 := hbd0 _ (List.mem_of_getElem? hx)
      have hgk : (ys.map gh3)[k]? = some (⟨zq, zn + 64, ze⟩ : H3) := by rw [List.getElem?_map, hzk]; rfl
      obtain ⟨hxa, cs_, hxc, rfl⟩ := lse _ _ hx
      refine c_takeN k (r := famF CompF 120 zp zc (mkL mkC k zn) zq ze ((mkL mkC k zn) ++ (mkL mkC (k + HL.length) 64))) (fromK_at0 _ hzk) rfl ?_
      refine c_region ?_
      refine l_val (v := .int .i64 (0)) rfl rfl rfl (e_assign) ?_
      refine l_nil ?_
      refine f_then ?_
      refine c_block ?_
      refine c_loop (fun (i : Nat) (f : Fm) (L : List Res) => (f 0 = .slice lsa (HL.length) (lsc) ∧ f 5 = .slice (some ⟨b4, 0, none⟩) (HL.length) HL.length ∧ f 14 = Nx (k) ∧ f 15 = Nx (i)) ∧ L = [Sat ((fromK (famM CompF 120 mkC HL.length) 0 ys).eraseIdx k), famF CompF 120 zp zc (mkL mkC k zn) zq ze ((mkL mkC k zn) ++ (mkL mkC (k + HL.length) 64)), rowF H3F 57 (some ⟨b4, 0, none⟩) HL.length (ys.map gh3)] ∧ (i ≤ zn)) (fun (i : Nat) => zn - i) 0 ?_ ?_
      ·exact ⟨⟨rfl, rfl, rfl, rfl⟩, rfl, by omega⟩
      rintro i f0 L0 ⟨⟨hs0, hs5, hs14, hs15⟩, hL, hi⟩
      subst L0
      refine rebase (d := 0) hs0 ?_
      refine rebase (d := 5) hs5 ?_
      refine rebase (d := 14) hs14 ?_
      refine rebase (d := 15) hs15 ?_
      clear hs0 hs5 hs14 hs15
      refine c_seq ?_
      refine c_seq ?_
      refine c_region ?_
      refine l_val (v := Nx (i)) rfl rfl rfl (e_move) ?_
      refine l_val (v := .slice lsa (HL.length) (lsc)) rfl rfl rfl (e_move) ?_
      refine l_val (v := Nx (k)) rfl rfl rfl (e_move) ?_
      refine l_val (v := .pointer (some ((ba lsa).add (k * 1)))) rfl rfl rfl (e_indexAddr (k := k) (len := HL.length) (cap := lsc) (a := lsa) rfl rfl tw79 (by omega) hxa) ?_
      refine l_val (v := .slice zp (zn) zc) rfl rfl rfl (e_load1 tw1 (v := .slice zp (zn) zc) rfl (Knows.of_base (Cs.mono _ _) hxc)) ?_
      refine l_val (v := Nx (zn)) rfl rfl rfl (e_len (a := zp) (n := zn) (c := zc) rfl tw2) ?_
      refine l_val (v := .bool (decide (((i : Nat) : Int) < ((zn : Nat) : Int)))) rfl rfl rfl (e_lss (a := ((i : Nat) : Int)) (b := ((zn : Nat) : Int)) rfl rfl) ?_
      refine l_nil ?_
      refine f_then ?_
      refine c_if (((i : Nat) : Int) < ((zn : Nat) : Int)) rfl (fun hc20 => ?_) (fun hc20 => ?_)
      ·
       refine c_skip ?_
       refine f_then ?_
       refine c_seq ?_
       refine c_block ?_
       refine c_seq ?_
       refine c_quiet (by kernel_rfl) (by kernel_rfl) ?_
       refine q_val (v := .slice lsa (HL.length) (lsc)) rfl rfl rfl (e_move) ?_
       refine q_val (v := Nx (k)) rfl rfl rfl (e_move) ?_
       refine q_val (v := .pointer (some ((ba lsa).add (k * 1)))) rfl rfl rfl (e_indexAddr (k := k) (len := HL.length) (cap := lsc) (a := lsa) rfl rfl tw79 (by omega) hxa) ?_
       refine q_val (v := .slice zp (zn) zc) rfl rfl rfl (e_load1 tw1 (v := .slice zp (zn) zc) rfl (Knows.of_base (Cs.mono _ _) hxc)) ?_
       refine q_val (v := Nx (i)) rfl rfl rfl (e_move) ?_
       refine q_val (v := .pointer (some ((ba zp).add (i * 5)))) rfl rfl rfl (e_indexFam1F 1 (F := CompF) (j := i) (m := zn) rfl (by rw [mkL_len]; omega) rfl tw3 (by omega) rfl) ?_
       refine q_val (v := .agg #[Bx ((mkC k i).kind), Ix ((mkC k i).v0), Ix ((mkC k i).v1), Ix ((mkC k i).v2), Ix ((mkC k i).v3)]) rfl rfl rfl (e_load tw72 (cs := [Bx ((mkC k i).kind), Ix ((mkC k i).v0), Ix ((mkC k i).v1), Ix ((mkC k i).v2), Ix ((mkC k i).v3)]) rfl (k_fam1F 1 (F := CompF) (j := i) (x := (mkC k i)) rfl (mkL_at (by omega))) rfl) ?_
       refine q_val (v := Nx (k)) rfl rfl rfl (e_move) ?_
       refine q_val (v := Nx (i)) rfl rfl rfl (e_move) ?_
       refine q_call (v := .agg #[Bx ((mkC k i).kind), Ix ((mkC k i).v0), Ix ((mkC k i).v1), Ix ((mkC k i).v2), Ix ((mkC k i).v3)]) rfl rfl rfl (cl_value (fst := []) (cap := []) (vs := [Nx (k), Nx (i)]) (all := [Nx (k), Nx (i)]) tw73 rfl rfl rfl) (fun w hw => ?_) ?_
       ·obtain ⟨β1, sb, kn, hw1, back⟩ := St.frame_all hw
        exact (markCk_ok β1 w hw1 k i (by omega) (by omega)).mono (fun e w' ⟨he, hw'⟩ => ⟨he, st_mask [true, true, true] rfl (back _ _ hw')⟩)
       refine q_val (v := .bool (decide ((mkC k i) = (mkC k i)))) rfl rfl rfl (e_eql_t (xs := [Bx ((mkC k i).kind), Ix ((mkC k i).v0), Ix ((mkC k i).v1), Ix ((mkC k i).v2), Ix ((mkC k i).v3)]) (ys := [Bx ((mkC k i).kind), Ix ((mkC k i).v0), Ix ((mkC k i).v1), Ix ((mkC k i).v2), Ix ((mkC k i).v3)]) tw82 tw83 tw84 rfl rfl rfl rfl (comp_eq (x := (mkC k i)) (y := (mkC k i)))) ?_
       refine q_val (v := .bool (decide (¬ ((mkC k i) = (mkC k i))))) rfl rfl rfl (e_not_p (p := (mkC k i) = (mkC k i)) rfl) ?_
       refine q_val (v := .bool (decide (¬ ((mkC k i) = (mkC k i))))) rfl rfl rfl (e_move) ?_
       refine q_split (s := 179) (p := ¬ ((mkC k i) = (mkC k i))) rfl (fun h => ?_) (fun h => ?_)
       exact absurd h (fun h => h rfl)
       refine qg_val (v := .slice (some ⟨b4, 0, none⟩) (HL.length) HL.length) rfl rfl rfl rfl rfl (e_move) ?_
       refine qg_val (v := Nx (k)) rfl rfl rfl rfl rfl (e_move) ?_
       refine qg_val (v := .pointer (some ((ba (some ⟨b4, 0, none⟩)).add (k * 1)))) rfl rfl rfl rfl rfl (e_indexFlN 2 (F := H3F) (j := k) (m := HL.length) (xs := (ys.map gh3)) rfl (by simp only [List.length_append, List.length_map, List.length_replicate, List.length_cons, List.length_set]; omega) rfl tw79 (by omega) rfl) ?_
       refine qg_val (v := .slice zq (zn + 64) ze) rfl rfl rfl rfl rfl (e_load1 tw1 (v := .slice zq (zn + 64) ze) rfl (k_flAt 2 (F := H3F) rfl hgk)) ?_
       refine qg_val (v := Nx (i)) rfl rfl rfl rfl rfl (e_move) ?_
       refine qg_val (v := .pointer (some ((ba zq).add (i * 5)))) rfl rfl rfl rfl rfl (e_indexFam2F 1 (F := CompF) (j := i) (m := zn + 64) rfl (by rw [List.length_append, mkL_len, mkL_len]; omega) rfl tw3 (by omega) rfl) ?_
       refine qg_val (v := .agg #[Bx ((mkC k i).kind), Ix ((mkC k i).v0), Ix ((mkC k i).v1), Ix ((mkC k i).v2), Ix ((mkC k i).v3)]) rfl rfl rfl rfl rfl (e_load tw72 (cs := [Bx ((mkC k i).kind), Ix ((mkC k i).v0), Ix ((mkC k i).v1), Ix ((mkC k i).v2), Ix ((mkC k i).v3)]) rfl (k_fam2F 1 (F := CompF) (j := i) (x := (mkC k i)) rfl (mkL_at2 (by omega))) rfl) ?_
       refine qg_val (v := Nx (k)) rfl rfl rfl rfl rfl (e_move) ?_
       refine qg_val (v := Nx (i)) rfl rfl rfl rfl rfl (e_move) ?_
       refine qg_call (v := .agg #[Bx ((mkC k i).kind), Ix ((mkC k i).v0), Ix ((mkC k i).v1), Ix ((mkC k i).v2), Ix ((mkC k i).v3)]) rfl rfl rfl rfl rfl (cl_value (fst := []) (cap := []) (vs := [Nx (k), Nx (i)]) (all := [Nx (k), Nx (i)]) tw73 rfl rfl rfl) (fun w hw => ?_) ?_
       ·obtain ⟨β1, sb, kn, hw1, back⟩ := St.frame_all hw
        exact (markCk_ok β1 w hw1 k i (by omega) (by omega)).mono (fun e w' ⟨he, hw'⟩ => ⟨he, st_mask [true, true, true] rfl (back _ _ hw')⟩)
       refine qg_val (v := .bool (decide ((mkC k i) = (mkC k i)))) rfl rfl rfl rfl rfl (e_eql_t (xs := [Bx ((mkC k i).kind), Ix ((mkC k i).v0), Ix ((mkC k i).v1), Ix ((mkC k i).v2), Ix ((mkC k i).v3)]) (ys := [Bx ((mkC k i).kind), Ix ((mkC k i).v0), Ix ((mkC k i).v1), Ix ((mkC k i).v2), Ix ((mkC k i).v3)]) tw82 tw83 tw84 rfl rfl rfl rfl (comp_eq (x := (mkC k i)) (y := (mkC k i)))) ?_
       refine qg_val (v := .bool (decide (¬ ((mkC k i) = (mkC k i))))) rfl rfl rfl rfl rfl (e_not_p (p := (mkC k i) = (mkC k i)) rfl) ?_
       refine q_val (v := .bool (decide (¬ ((mkC k i) = (mkC k i))))) rfl rfl rfl (e_pick_f rfl) ?_
       refine q_nil ?_
       refine f_then ?_
       refine c_if (¬ ((mkC k i) = (mkC k i))) rfl (fun hc21 => ?_) (fun hc21 => ?_)
       ·
        exact absurd hc21 (fun h => h rfl)
       ·
        refine c_skip ?_
        refine f_block ?_
        refine f_then ?_
        refine c_region ?_
        refine l_val (v := Nx (i)) rfl rfl rfl (e_move) ?_
        refine l_val (v := Nx (i + 1)) rfl rfl rfl (e_add (a := ((i : Nat) : Int)) (b := (1 : Int)) rfl rfl (i64n (by omega) (by omega))) ?_
        refine l_val (v := Nx (i + 1)) rfl rfl rfl (e_assign) ?_
        refine l_nil ?_
        exact f_cut ⟨i + 1, ⟨⟨rfl, rfl, rfl, rfl⟩, rfl, by omega⟩, (show zn - (i + 1) < zn - i from by omega)⟩
      ·
       refine c_exit ?_
       refine f_then_exit ?_
       refine f_then_exit ?_
       refine f_exit ?_
       refine f_block ?_
       refine f_then ?_
       refine c_putN k (fromK_at0 _ hzk) rfl ?_
       refine c_re (L' := [Sat (fromK (famM CompF 120 mkC HL.length) 0 ys), rowF H3F 57 (some ⟨b4, 0, none⟩) HL.length (ys.map gh3)]) rfl ?_
       refine c_region ?_
       refine l_val (v := Nx (k)) rfl rfl rfl (e_move) ?_
       refine l_val (v := Nx (k + 1)) rfl rfl rfl (e_add (a := ((k : Nat) : Int)) (b := (1 : Int)) rfl rfl (i64n (by omega) (by omega))) ?_
       refine l_val (v := Nx (k + 1)) rfl rfl rfl (e_assign) ?_
       refine l_nil ?_
       exact f_cut ⟨k + 1, ⟨⟨rfl, rfl, rfl⟩, rfl, by omega⟩, (show HL.length - (k + 1) < HL.length - k from by omega)⟩
     ·
      refine c_exit ?_
      refine f_then_exit ?_
      refine f_then_exit ?_
      refine f_exit ?_
      refine f_then ?_
      refine c_seq ?_
      refine c_region ?_
      refine l_val (v := .bool true) rfl rfl rfl (e_assign) ?_
      refine l_nil ?_
      refine f_then ?_
      refine c_ret ?_
      refine ret1 Tryz.results124 (v := .bool true) rfl ?_
      intro w hw
      exact ⟨rfl, st_mask [false, false] rfl hw⟩
theorem sameEk_ok (β : Base) (w : World) (hw : St β [] w) (k i : Nat) : Calls Tryz.prog 113 #[.agg #[Ix ((mkHd k i).id), .slice ((mkHd k i).p) ((mkHd k i).n) ((mkHd k i).c)], .agg #[Ix ((mkHd k i).id), .slice ((mkHd k i).p) ((mkHd k i).n) ((mkHd k i).c)]] w fun r w' => r = .returned (.bool true) ∧ St β [] w' := (sameEntity_ok β w hw ⟨markN (k : Nat) (i : Nat), []⟩ ⟨markN (k : Nat) (i : Nat), []⟩ (.slice none 0 0) (.slice none 0 0) (Sl.nil _ _) (Sl.nil _ _)).mono fun r w' ⟨h1, h2⟩ => ⟨by rw [h1, decide_eq_true rfl], h2⟩
theorem sameWk_ok (β : Base) (w : World) (hw : St β [] w) (k i : Nat) : Calls Tryz.prog 21 #[.agg #[Ix ((mkWd k i).tick), .slice ((mkWd k i).p) ((mkWd k i).n) ((mkWd k i).c)], .agg #[Ix ((mkWd k i).tick), .slice ((mkWd k i).p) ((mkWd k i).n) ((mkWd k i).c)]] w fun r w' => r = .returned (.bool true) ∧ St β [] w' := (sameWorld_ok β w hw ⟨markN (k : Nat) (i : Nat), []⟩ ⟨markN (k : Nat) (i : Nat), []⟩ (.slice none 0 0) (.slice none 0 0) (Sl.nil _ _) (Sl.nil _ _)).mono fun r w' ⟨h1, h2⟩ => ⟨by rw [h1, decide_eq_true rfl], h2⟩
set_option maxHeartbeats 4000000 in
theorem flatE_ok (β : Base) (w : World) (v : Value) (HL : List H3) (hv : List (HV KHd)) (hhs : HL = hv.map HV.h) (hls : Sl H3F.R β.heap v HL) (hn : HL.length ≤ 1000) (hbd : ∀ v ∈ hv, v.xs.length ≤ 1000000) (hw : St β [Sat (hv.map (ownV HdF 59))] w) : Calls Tryz.prog 125 #[v] w fun r w' => r = .returned (.bool true) ∧ St β [] w' := by
 have hbd0 : ∀ h ∈ HL, h.n ≤ 1000000 := fun h hh => by rw [hhs] at hh; obtain ⟨v, hv_, rfl⟩ := List.mem_map.1 hh; exact hbd v hv_
 obtain ⟨lsa, lsc, rfl, lsl, lsm, lse⟩ := hls.get
 refine enter (n := 193) Tryz.func125 rfl Tryz.ntmps125 rfl ?_ hw
 refine c_seq ?_
 refine c_region ?_
 refine l_val (v := .bool false) rfl rfl rfl (e_assign) ?_
 refine l_nil ?_
 refine f_then ?_
 refine c_seq ?_
 refine c_seq ?_
 refine c_emp (r := Sat (fromK (rowK HdF 59 mkHd) 0 [])) trivial ?_
 refine c_region ?_
 refine l_val (v := .int .i64 (0)) rfl rfl rfl (e_assign) ?_
 refine l_nil ?_
 refine f_then ?_
 refine c_block ?_
 refine c_loop (fun (x_ : List H3 × List (HV KHd)) (f : Fm) (L : List Res) => match x_ with | (pre, post) => (f 0 = .slice lsa (HL.length) (lsc) ∧ f 3 = Nx (pre.length)) ∧ L = [Sat (fromK (rowK HdF 59 mkHd) 0 pre), Sat (post.map (ownV HdF 59))] ∧ (HL = pre ++ post.map HV.h ∧ ∀ v ∈ post, v.xs.length ≤ 1000000)) (fun (x_ : List H3 × List (HV KHd)) => match x_ with | (pre, post) => post.length) ([], hv) ?_ ?_
 ·exact ⟨⟨rfl, rfl⟩, rfl, ⟨hhs, hbd⟩⟩
 rintro ⟨pre, post⟩ f0 L0 ⟨⟨hs0, hs3⟩, hL, ⟨hpp, hbp⟩⟩
 subst L0
 refine rebase (d := 0) hs0 ?_
 refine rebase (d := 3) hs3 ?_
 clear hs0 hs3
 have hlen : HL.length = pre.length + post.length := by rw [hpp, List.length_append, List.length_map]
 refine c_seq ?_
 refine c_seq ?_
 refine c_region ?_
 refine l_val (v := Nx (pre.length)) rfl rfl rfl (e_move) ?_
 refine l_val (v := .slice lsa (HL.length) (lsc)) rfl rfl rfl (e_move) ?_
 refine l_val (v := Nx (HL.length)) rfl rfl rfl (e_len (a := lsa) (n := HL.length) (c := lsc) rfl tw85) ?_
 refine l_val (v := .bool (decide (((pre.length : Nat) : Int) < ((HL.length : Nat) : Int)))) rfl rfl rfl (e_lss (a := ((pre.length : Nat) : Int)) (b := ((HL.length : Nat) : Int)) rfl rfl) ?_
 refine l_nil ?_
 refine f_then ?_
 refine c_if (((pre.length : Nat) : Int) < ((HL.length : Nat) : Int)) rfl (fun hc1 => ?_) (fun hc1 => ?_)
 ·
  refine c_skip ?_
  refine f_then ?_
  refine c_seq ?_
  refine c_block ?_
  refine c_seq ?_
  obtain ⟨⟨xp, xc, xs⟩, po, hpo⟩ := uncons hlen (by omega)
  have hx : HL[pre.length]? = some (⟨xp, xs.length, xc⟩ : H3) := by rw [hpp, hpo]; exact mid_at rfl
  have hxl : xs.length ≤ 1000000 := hbp ⟨xp, xc, xs⟩ (by rw [hpo]; exact List.mem_cons_self)
  obtain ⟨hxa, cs_, hxc, rfl⟩ := lse _ _ hx
  refine c_perm (L' := [Sat (post.map (ownV HdF 59)), Sat (fromK (rowK HdF 59 mkHd) 0 pre)]) (perm_ix [1, 0] 2 rfl (by kernel_rfl) (by kernel_rfl)) ?_
  rw [hpo]
  refine c_headR (r := rowF HdF 59 xp xc xs) (Ls := po.map (ownV HdF 59)) (M := [Sat (fromK (rowK HdF 59 mkHd) 0 pre)]) rfl ?_
  refine c_region ?_
  refine l_val (v := .int .i64 (0)) rfl rfl rfl (e_assign) ?_
  refine l_nil ?_
  refine f_then ?_
  refine c_block ?_
  refine c_loop (fun (i : Nat) (f : Fm) (L : List Res) => (f 0 = .slice lsa (HL.length) (lsc) ∧ f 3 = Nx (pre.length) ∧ f 4 = Nx (i)) ∧ L = [Sat (po.map (ownV HdF 59)), rowF HdF 59 xp xc ((mkL mkHd pre.length i) ++ xs.drop i), Sat (fromK (rowK HdF 59 mkHd) 0 pre)] ∧ (i ≤ xs.length)) (fun (i : Nat) => xs.length - i) 0 ?_ ?_
  ·exact ⟨⟨rfl, rfl, rfl⟩, by rw [mkp_zero], by omega⟩
  rintro i f0 L0 ⟨⟨hs0, hs3, hs4⟩, hL, hi⟩
  subst L0
  refine rebase (d := 0) hs0 ?_
  refine rebase (d := 3) hs3 ?_
  refine rebase (d := 4) hs4 ?_
  clear hs0 hs3 hs4
  refine c_seq ?_
  refine c_seq ?_
  refine c_region ?_
  refine l_val (v := Nx (i)) rfl rfl rfl (e_move) ?_
  refine l_val (v := .slice lsa (HL.length) (lsc)) rfl rfl rfl (e_move) ?_
  refine l_val (v := Nx (pre.length)) rfl rfl rfl (e_move) ?_
  refine l_val (v := .pointer (some ((ba lsa).add (pre.length * 1)))) rfl rfl rfl (e_indexAddr (k := pre.length) (len := HL.length) (cap := lsc) (a := lsa) rfl rfl tw86 (by omega) hxa) ?_
  refine l_val (v := .slice xp (xs.length) xc) rfl rfl rfl (e_load1 tw27 (v := .slice xp (xs.length) xc) rfl (Knows.of_base (Cs.mono _ _) hxc)) ?_
  refine l_val (v := Nx (xs.length)) rfl rfl rfl (e_len (a := xp) (n := xs.length) (c := xc) rfl tw28) ?_
  refine l_val (v := .bool (decide (((i : Nat) : Int) < ((xs.length : Nat) : Int)))) rfl rfl rfl (e_lss (a := ((i : Nat) : Int)) (b := ((xs.length : Nat) : Int)) rfl rfl) ?_
  refine l_nil ?_
  refine f_then ?_
  refine c_if (((i : Nat) : Int) < ((xs.length : Nat) : Int)) rfl (fun hc2 => ?_) (fun hc2 => ?_)
  ·
   refine c_skip ?_
   refine f_then ?_
   refine c_seq ?_
   refine c_block ?_
   refine c_any [⟨[], [], [0], [31], fun f => f 31 = .slice lsa (HL.length) (lsc)⟩, ⟨[], [], [1], [32], fun f => f 32 = Nx (pre.length)⟩, ⟨[0, 1], [0, 1], [], [33], fun f => f 33 = .pointer (some ((ba lsa).add (pre.length * 1)))⟩, ⟨[0, 1, 2], [2], [], [34], fun f => f 34 = .slice xp (xs.length) xc⟩, ⟨[], [], [2], [35], fun f => f 35 = Nx (i)⟩, ⟨[], [], [1], [36], fun f => f 36 = Nx (pre.length)⟩, ⟨[], [], [2], [37], fun f => f 37 = Nx (i)⟩, ⟨[5, 6], [5, 6], [], [38], fun f => f 38 = .agg #[Ix ((mkHd pre.length i).id), .slice ((mkHd pre.length i).p) ((mkHd pre.length i).n) ((mkHd pre.length i).c)]⟩, ⟨[0, 1, 2, 3, 4, 5, 6, 7], [3, 4], [], [39], fun f => f 39 = .pointer (some ((ba xp).add (i * 2)))⟩, ⟨[0, 1, 2, 3, 4, 5, 6, 7, 8], [8, 7], [], [], fun _ => True⟩] [⟨none, none, [], [], fun _ => Sat (po.map (ownV HdF 59))⟩, ⟨none, (some 9), [8, 9], [], fun _ => rowF HdF 59 xp xc ((mkL mkHd pre.length i) ++ xs.drop i)⟩, ⟨none, none, [], [], fun _ => Sat (fromK (rowK HdF 59 mkHd) 0 pre)⟩, ⟨(some 9), none, [], [], fun _ => rowF HdF 59 xp xc (((mkL mkHd pre.length i) ++ xs.drop i).set i (mkHd pre.length i))⟩] [(0, .slice lsa (HL.length) (lsc)), (3, Nx (pre.length)), (4, Nx (i))] [0, 1, 2] [] (by kernel_rfl) (by kernel_rfl) (by kernel_rfl) (by kernel_rfl) rfl ⟨rfl, rfl, rfl, trivial⟩ ⟨?_, ?_, ?_, ?_, ?_, ?_, ?_, ?_, ?_, ?_, trivial⟩ ?_
   ·rintro f M - ⟨i0, -⟩
    have hs0 : f 0 = .slice lsa (HL.length) (lsc) := i0
    refine ob_start (L' := M) (by rfl) (up_cons rfl hs0) ?_
    refine l_val (v := .slice lsa (HL.length) (lsc)) rfl rfl rfl (e_move) ?_
    refine l_nil ?_
    exact f_owes_d (up_cons rfl hs0) rfl (List.Perm.refl _)
   ·rintro f M - ⟨i0, -⟩
    have hs3 : f 3 = Nx (pre.length) := i0
    refine ob_start (L' := M) (by rfl) (up_cons rfl hs3) ?_
    refine l_val (v := Nx (pre.length)) rfl rfl rfl (e_move) ?_
    refine l_nil ?_
    exact f_owes_d (up_cons rfl hs3) rfl (List.Perm.refl _)
   ·rintro f M ⟨k0, k1, -⟩ -
    have hs31 : f 31 = .slice lsa (HL.length) (lsc) := k0
    have hs32 : f 32 = Nx (pre.length) := k1
    refine ob_start (L' := M) (by rfl) (up_cons (up_cons rfl hs31) hs32) ?_
    refine l_val (v := .pointer (some ((ba lsa).add (pre.length * 1)))) rfl rfl rfl (e_indexAddr (k := pre.length) (len := HL.length) (cap := lsc) (a := lsa) rfl rfl tw86 (by omega) hxa) ?_
    refine l_nil ?_
    exact f_owes_d (up_cons (up_cons rfl hs31) hs32) rfl (List.Perm.refl _)
   ·rintro f M ⟨k0, -⟩ -
    have hs33 : f 33 = .pointer (some ((ba lsa).add (pre.length * 1))) := k0
    refine ob_start (L' := M) (by rfl) (up_cons rfl hs33) ?_
    refine l_val (v := .slice xp (xs.length) xc) rfl rfl rfl (e_load1 tw27 (v := .slice xp (xs.length) xc) rfl (Knows.of_base (Cs.mono _ _) hxc)) ?_
    refine l_nil ?_
    exact f_owes_d (up_cons rfl hs33) rfl (List.Perm.refl _)
   ·rintro f M - ⟨i0, -⟩
    have hs4 : f 4 = Nx (i) := i0
    refine ob_start (L' := M) (by rfl) (up_cons rfl hs4) ?_
    refine l_val (v := Nx (i)) rfl rfl rfl (e_move) ?_
    refine l_nil ?_
    exact f_owes_d (up_cons rfl hs4) rfl (List.Perm.refl _)
   ·rintro f M - ⟨i0, -⟩
    have hs3 : f 3 = Nx (pre.length) := i0
    refine ob_start (L' := M) (by rfl) (up_cons rfl hs3) ?_
    refine l_val (v := Nx (pre.length)) rfl rfl rfl (e_move) ?_
    refine l_nil ?_
    exact f_owes_d (up_cons rfl hs3) rfl (List.Perm.refl _)
   ·rintro f M - ⟨i0, -⟩
    have hs4 : f 4 = Nx (i) := i0
    refine ob_start (L' := M) (by rfl) (up_cons rfl hs4) ?_
    refine l_val (v := Nx (i)) rfl rfl rfl (e_move) ?_
    refine l_nil ?_
    exact f_owes_d (up_cons rfl hs4) rfl (List.Perm.refl _)
   ·rintro f M ⟨k0, k1, -⟩ -
    have hs36 : f 36 = Nx (pre.length) := k0
    have hs37 : f 37 = Nx (i) := k1
    refine ob_start (L' := M) (by rfl) (up_cons (up_cons rfl hs36) hs37) ?_
    refine l_call rfl rfl rfl (cl_value (fst := []) (cap := []) (vs := [Nx (pre.length), Nx (i)]) (all := [Nx (pre.length), Nx (i)]) tw76 rfl rfl rfl) ?_
    intro w hw
    obtain ⟨β1, sb, kn, hw1, back⟩ := St.frame_all hw
    refine (markEk_ok β1 w hw1 pre.length i (by omega) (by omega)).mono ?_
    rintro e w' ⟨rfl, hw'⟩
    refine ⟨_, rfl, _, back _ _ hw', ?_⟩
    clear hw hw1 hw' back kn sb
    refine l_nil ?_
    exact f_owes_d (up_cons (up_cons rfl hs36) hs37) rfl (List.Perm.refl _)
   ·rintro f M ⟨k0, k1, -⟩ -
    have hs34 : f 34 = .slice xp (xs.length) xc := k0
    have hs35 : f 35 = Nx (i) := k1
    refine ob_start (L' := rowF HdF 59 xp xc ((mkL mkHd pre.length i) ++ xs.drop i) :: M) (by rfl) (up_cons (up_cons rfl hs34) hs35) ?_
    refine l_val (v := .pointer (some ((ba xp).add (i * 2)))) rfl rfl rfl (e_indexFlN 0 (F := HdF) (j := i) (m := xs.length) (xs := ((mkL mkHd pre.length i) ++ xs.drop i)) rfl (mkp_len (by omega)).symm rfl tw29 (by omega) rfl) ?_
    refine l_nil ?_
    exact f_owes_d (up_cons (up_cons rfl hs34) hs35) rfl (perm_front 0 rfl)
   ·rintro f M ⟨k0, k1, -⟩ -
    have hs39 : f 39 = .pointer (some ((ba xp).add (i * 2))) := k0
    have hs38 : f 38 = .agg #[Ix ((mkHd pre.length i).id), .slice ((mkHd pre.length i).p) ((mkHd pre.length i).n) ((mkHd pre.length i).c)] := k1
    refine ob_start (L' := rowF HdF 59 xp xc ((mkL mkHd pre.length i) ++ xs.drop i) :: M) (by rfl) (up_cons (up_cons rfl hs39) hs38) ?_
    refine l_mu rfl rfl (m_storeFl 0 (F := HdF) (p := xp) (k := i) (xs := ((mkL mkHd pre.length i) ++ xs.drop i)) (z := (mkHd pre.length i)) tw7 rfl rfl rfl rfl (by rw [mkp_len (by first | omega | (rw [List.length_replicate]; omega))]; (try rw [List.length_replicate]); omega)) ?_
    refine l_nil ?_
    exact f_owes_n (up_cons (up_cons rfl hs39) hs38) trivial (perm_front 0 rfl)
   rintro fa3 ⟨-, -, -, -, -, -, -, -, -, -, -⟩ ⟨j0, j1, j2, -⟩
   refine f_re (L' := [Sat (po.map (ownV HdF 59)), Sat (fromK (rowK HdF 59 mkHd) 0 pre), rowF HdF 59 xp xc (((mkL mkHd pre.length i) ++ xs.drop i).set i (mkHd pre.length i))]) (by rfl) ?_
   refine f_rebase (d := 0) (v := .slice lsa (HL.length) (lsc)) j0 ?_
   refine f_rebase (d := 3) (v := Nx (pre.length)) j1 ?_
   refine f_rebase (d := 4) (v := Nx (i)) j2 ?_
   refine f_block ?_
   refine f_then ?_
   refine c_region ?_
   refine l_val (v := Nx (i)) rfl rfl rfl (e_move) ?_
   refine l_val (v := Nx (i + 1)) rfl rfl rfl (e_add (a := ((i : Nat) : Int)) (b := (1 : Int)) rfl rfl (i64n (by omega) (by omega))) ?_
   refine l_val (v := Nx (i + 1)) rfl rfl rfl (e_assign) ?_
   refine l_nil ?_
   refine f_perm (L' := [Sat (po.map (ownV HdF 59)), rowF HdF 59 xp xc (((mkL mkHd pre.length i) ++ xs.drop i).set i (mkHd pre.length i)), Sat (fromK (rowK HdF 59 mkHd) 0 pre)]) (perm_ix [0, 2, 1] 3 rfl (by kernel_rfl) (by kernel_rfl)) ?_
   exact f_cut ⟨i + 1, ⟨⟨rfl, rfl, rfl⟩, by rw [mkp_step (by omega)], by omega⟩, (show xs.length - (i + 1) < xs.length - i from by omega)⟩
  ·
   refine c_exit ?_
   refine f_then_exit ?_
   refine f_then_exit ?_
   refine f_exit ?_
   refine f_block ?_
   refine f_then ?_
   obtain rfl : i = xs.length := by omega
   rw [mkp_done (Nat.le_refl _)]
   refine c_perm (L' := [Sat (fromK (rowK HdF 59 mkHd) 0 pre), rowF HdF 59 xp xc (mkL mkHd pre.length xs.length), Sat (po.map (ownV HdF 59))]) (perm_ix [2, 1, 0] 3 rfl (by kernel_rfl) (by kernel_rfl)) ?_
   refine c_snocR (Ls' := fromK (rowK HdF 59 mkHd) 0 (pre ++ [(⟨xp, xs.length, xc⟩ : H3)])) (M := [Sat (po.map (ownV HdF 59))]) rfl (snocK (rowK HdF 59 mkHd) (⟨xp, xs.length, xc⟩ : H3) pre) ?_
   refine c_region ?_
   refine l_val (v := Nx (pre.length)) rfl rfl rfl (e_move) ?_
   refine l_val (v := Nx (pre.length + 1)) rfl rfl rfl (e_add (a := ((pre.length : Nat) : Int)) (b := (1 : Int)) rfl rfl (i64n (by omega) (by omega))) ?_
   refine l_val (v := Nx (pre.length + 1)) rfl rfl rfl (e_assign) ?_
   refine l_nil ?_
   exact f_cut ⟨((pre ++ [(⟨xp, xs.length, xc⟩ : H3)]), po), ⟨⟨rfl, congrArg (fun z : Nat => Nx z) (by rw [List.length_append]; rfl)⟩, rfl, ⟨by rw [hpp, hpo, List.append_assoc]; rfl, fun v hv => hbp v (by rw [hpo]; exact List.mem_cons_of_mem _ hv)⟩⟩, (Nat.lt_succ_self po.length)⟩
 ·
  refine c_exit ?_
  refine f_then_exit ?_
  refine f_then_exit ?_
  refine f_exit ?_
  refine f_then ?_
  refine c_seq ?_
  have hlen : HL.length = pre.length + post.length := by rw [hpp, List.length_append, List.length_map]
  obtain rfl := unnil hlen (by omega)
  obtain rfl : HL = pre := by rw [hpp, List.map_nil, List.append_nil]
  refine c_mask [true, false] rfl ?_
  refine c_region ?_
  refine l_val (v := .slice lsa (HL.length) (lsc)) rfl rfl rfl (e_move) ?_
  refine l_val (v := Nx (HL.length)) rfl rfl rfl (e_len (a := lsa) (n := HL.length) (c := lsc) rfl tw85) ?_
  refine l_mv rfl rfl rfl (m_makeFl (F := H3F) (x0 := (⟨none, 0, 0⟩ : H3)) (c := HL.length) tw86 tw87 tw88 rfl rfl rfl (by unfold maxLen; omega) (by omega)) ?_
  rintro _ _ ⟨b4, rfl, rfl⟩
  refine l_val (v := .slice (some ⟨b4, 0, none⟩) (HL.length) HL.length) rfl rfl rfl (e_assign) ?_
  refine l_nil ?_
  refine f_then ?_
  refine c_seq ?_
  refine c_seq ?_
  refine c_emp (r := Sat (fromK (famK HdF 59 mkHd) 0 [])) trivial ?_
  refine c_perm (L' := [Sat (fromK (famK HdF 59 mkHd) 0 []), Sat (fromK (rowK HdF 59 mkHd) 0 HL), rowF H3F 22 (some ⟨b4, 0, none⟩) HL.length (List.replicate HL.length (⟨none, 0, 0⟩ : H3))]) (perm_ix [0, 2, 1] 3 rfl (by kernel_rfl) (by kernel_rfl)) ?_
  refine c_region ?_
  refine l_val (v := .int .i64 (0)) rfl rfl rfl (e_assign) ?_
  refine l_nil ?_
  refine f_then ?_
  refine c_block ?_
  refine c_loop (fun (x_ : List Z5 × List H3) (f : Fm) (L : List Res) => match x_ with | (zs, post) => (f 0 = .slice lsa (HL.length) (lsc) ∧ f 5 = .slice (some ⟨b4, 0, none⟩) (HL.length) HL.length ∧ f 6 = Nx (zs.length)) ∧ L = [Sat (fromK (famK HdF 59 mkHd) 0 zs), Sat (fromK (rowK HdF 59 mkHd) zs.length post), rowF H3F 22 (some ⟨b4, 0, none⟩) HL.length (zs.map gh3 ++ List.replicate post.length (⟨none, 0, 0⟩ : H3))] ∧ (HL = zs.map Z5.h ++ post)) (fun (x_ : List Z5 × List H3) => match x_ with | (zs, post) => post.length) ([], HL) ?_ ?_
  ·exact ⟨⟨rfl, rfl, rfl⟩, rfl, rfl⟩
  rintro ⟨zs, post⟩ f0 L0 ⟨⟨hs0, hs5, hs6⟩, hL, hpp⟩
  subst L0
  refine rebase (d := 0) hs0 ?_
  refine rebase (d := 5) hs5 ?_
  refine rebase (d := 6) hs6 ?_
  clear hs0 hs5 hs6
  have hlen : HL.length = zs.length + post.length := by rw [hpp, List.length_append, List.length_map]
  refine c_seq ?_
  refine c_seq ?_
  refine c_region ?_
  refine l_val (v := Nx (zs.length)) rfl rfl rfl (e_move) ?_
  refine l_val (v := .slice lsa (HL.length) (lsc)) rfl rfl rfl (e_move) ?_
  refine l_val (v := Nx (HL.length)) rfl rfl rfl (e_len (a := lsa) (n := HL.length) (c := lsc) rfl tw85) ?_
  refine l_val (v := .bool (decide (((zs.length : Nat) : Int) < ((HL.length : Nat) : Int)))) rfl rfl rfl (e_lss (a := ((zs.length : Nat) : Int)) (b := ((HL.length : Nat) : Int)) rfl rfl) ?_
  refine l_nil ?_
  refine f_then ?_
  refine c_if (((zs.length : Nat) : Int) < ((HL.length : Nat) : Int)) rfl (fun hc5 => ?_) (fun hc5 => ?_)
  ·
   refine c_skip ?_
   refine f_then ?_
   refine c_seq ?_
   refine c_block ?_
   refine c_seq ?_
   obtain ⟨⟨xp, xn, xc⟩, po, hpo⟩ := uncons hlen (by omega)
   have hx : HL[zs.length]? = some (⟨xp, xn, xc⟩ : H3) := by rw [hpp, hpo]; exact mid_at (List.length_map _).symm
   have hxl : xn ≤ 1000000 := hbd0 _ (List.mem_of_getElem? hx)
   obtain ⟨hxa, cs_, hxc, rfl⟩ := lse _ _ hx
   refine c_perm (L' := [Sat (fromK (rowK HdF 59 mkHd) zs.length post), Sat (fromK (famK HdF 59 mkHd) 0 zs), rowF H3F 22 (some ⟨b4, 0, none⟩) HL.length (zs.map gh3 ++ List.replicate post.length (⟨none, 0, 0⟩ : H3))]) (perm_ix [1, 0, 2] 3 rfl (by kernel_rfl) (by kernel_rfl)) ?_
   rw [hpo]
   refine c_headR (r := rowF HdF 59 xp xc (mkL mkHd zs.length xn)) (Ls := fromK (rowK HdF 59 mkHd) (zs.length + 1) po) (M := [Sat (fromK (famK HdF 59 mkHd) 0 zs), rowF H3F 22 (some ⟨b4, 0, none⟩) HL.length (zs.map gh3 ++ (⟨none, 0, 0⟩ : H3) :: List.replicate po.length (⟨none, 0, 0⟩ : H3))]) rfl ?_
   have hpl : post.length = po.length + 1 := by rw [hpo]; rfl
   refine c_region ?_
   refine l_val (v := .slice lsa (HL.length) (lsc)) rfl rfl rfl (e_move) ?_
   refine l_val (v := Nx (zs.length)) rfl rfl rfl (e_move) ?_
   refine l_val (v := .pointer (some ((ba lsa).add (zs.length * 1)))) rfl rfl rfl (e_indexAddr (k := zs.length) (len := HL.length) (cap := lsc) (a := lsa) rfl rfl tw86 (by omega) hxa) ?_
   refine l_val (v := .slice xp (xn) xc) rfl rfl rfl (e_load1 tw27 (v := .slice xp (xn) xc) rfl (Knows.of_base (Cs.mono _ _) hxc)) ?_
   refine l_val (v := .slice xp (xn) xc) rfl rfl rfl (e_assign) ?_
   refine l_nil ?_
   refine f_then ?_
   refine c_seq ?_
   refine c_seq ?_
   refine c_conseq 1 (r' := famF HdF 59 xp xc (mkL mkHd zs.length xn) xp xc (mkL mkHd zs.length xn)) rfl famF_start ?_
   refine c_region ?_
   refine l_val (v := .int .i64 (0)) rfl rfl rfl (e_assign) ?_
   refine l_nil ?_
   refine f_then ?_
   refine c_block ?_
   refine c_loop (fun (x_ : Nat × Option Addr × Nat) (f : Fm) (L : List Res) => match x_ with | (i, q, e) => (f 0 = .slice lsa (HL.length) (lsc) ∧ f 5 = .slice (some ⟨b4, 0, none⟩) (HL.length) HL.length ∧ f 6 = Nx (zs.length) ∧ f 7 = .slice q (xn + i) e ∧ f 8 = Nx (i)) ∧ L = [Sat (fromK (rowK HdF 59 mkHd) (zs.length + 1) po), famF HdF 59 xp xc (mkL mkHd zs.length xn) q e (mkL mkHd zs.length (xn + i)), Sat (fromK (famK HdF 59 mkHd) 0 zs), rowF H3F 22 (some ⟨b4, 0, none⟩) HL.length (zs.map gh3 ++ (⟨none, 0, 0⟩ : H3) :: List.replicate po.length (⟨none, 0, 0⟩ : H3))] ∧ (i ≤ 64)) (fun (x_ : Nat × Option Addr × Nat) => match x_ with | (i, q, e) => 64 - i) (0, xp, xc) ?_ ?_
   ·exact ⟨⟨rfl, rfl, rfl, rfl, rfl⟩, rfl, by omega⟩
   rintro ⟨i, q, e⟩ f0 L0 ⟨⟨hs0, hs5, hs6, hs7, hs8⟩, hL, hi⟩
   subst L0
   refine rebase (d := 0) hs0 ?_
   refine rebase (d := 5) hs5 ?_
   refine rebase (d := 6) hs6 ?_
   refine rebase (d := 7) hs7 ?_
   refine rebase (d := 8) hs8 ?_
   clear hs0 hs5 hs6 hs7 hs8
   refine c_seq ?_
   refine c_seq ?_
   refine c_region ?_
   refine l_val (v := Nx (i)) rfl rfl rfl (e_move) ?_
   refine l_val (v := .bool (decide (((i : Nat) : Int) < (64 : Int)))) rfl rfl rfl (e_lss (a := ((i : Nat) : Int)) (b := (64 : Int)) rfl rfl) ?_
   refine l_nil ?_
   refine f_then ?_
   refine c_if (((i : Nat) : Int) < (64 : Int)) rfl (fun hc6 => ?_) (fun hc6 => ?_)
   ·
    refine c_skip ?_
    refine f_then ?_
    refine c_seq ?_
    refine c_block ?_
    refine c_region ?_
    refine l_val (v := .slice q (xn + i) e) rfl rfl rfl (e_move) ?_
    refine l_val (v := Nx (zs.length)) rfl rfl rfl (e_move) ?_
    refine l_val (v := .slice lsa (HL.length) (lsc)) rfl rfl rfl (e_move) ?_
    refine l_val (v := Nx (zs.length)) rfl rfl rfl (e_move) ?_
    refine l_val (v := .pointer (some ((ba lsa).add (zs.length * 1)))) rfl rfl rfl (e_indexAddr (k := zs.length) (len := HL.length) (cap := lsc) (a := lsa) rfl rfl tw86 (by omega) hxa) ?_
    refine l_val (v := .slice xp (xn) xc) rfl rfl rfl (e_load1 tw27 (v := .slice xp (xn) xc) rfl (Knows.of_base (Cs.mono _ _) hxc)) ?_
    refine l_val (v := Nx (xn)) rfl rfl rfl (e_len (a := xp) (n := xn) (c := xc) rfl tw28) ?_
    refine l_val (v := Nx (i)) rfl rfl rfl (e_move) ?_
    refine l_val (v := Nx (xn + i)) rfl rfl rfl (e_add (a := ((xn : Nat) : Int)) (b := ((i : Nat) : Int)) rfl rfl (i64n (by omega) (by omega))) ?_
    refine l_call rfl rfl rfl (cl_value (fst := []) (cap := []) (vs := [Nx (zs.length), Nx (xn + i)]) (all := [Nx (zs.length), Nx (xn + i)]) tw76 rfl rfl rfl) ?_
    intro w hw
    obtain ⟨β1, sb, kn, hw1, back⟩ := St.frame_all hw
    refine (markEk_ok β1 w hw1 zs.length (xn + i) (by omega) (by omega)).mono ?_
    rintro e w' ⟨rfl, hw'⟩
    refine ⟨_, rfl, _, back _ _ hw', ?_⟩
    clear hw hw1 hw' back kn sb
    refine l_mv rfl rfl rfl (m_slices tw29 tw51 (vs := [(0, .agg #[Ix ((mkHd zs.length (xn + i)).id), .slice ((mkHd zs.length (xn + i)).p) ((mkHd zs.length (xn + i)).n) ((mkHd zs.length (xn + i)).c)])]) (cells := #[Ix ((mkHd zs.length (xn + i)).id), .slice ((mkHd zs.length (xn + i)).p) ((mkHd zs.length (xn + i)).n) ((mkHd zs.length (xn + i)).c)]) rfl rfl rfl rfl) ?_
    rintro _ _ ⟨b7, rfl, rfl⟩
    refine l_mv rfl rfl rfl (m_append_famF (F := HdF) 2 tw29 tw53 (q := q) (m := xn + i) (e := e) (zs := [(mkHd zs.length (xn + i))]) (ad := ⟨b7, 0, none⟩) (k := 1) (cc := 1) rfl rfl (mkL_len _ _).symm rfl rfl (k_pt 0 (cs := #[Ix ((mkHd zs.length (xn + i)).id), .slice ((mkHd zs.length (xn + i)).p) ((mkHd zs.length (xn + i)).n) ((mkHd zs.length (xn + i)).c)]) (vs := [Ix ((mkHd zs.length (xn + i)).id), .slice ((mkHd zs.length (xn + i)).p) ((mkHd zs.length (xn + i)).n) ((mkHd zs.length (xn + i)).c)]) rfl rfl) (by omega) (by unfold maxLen; omega) (by omega)) ?_
    rintro _ _ ⟨rp8, rc9, rfl, rfl⟩
    refine l_val (v := .slice rp8 (xn + i + 1) rc9) rfl rfl rfl (e_assign) ?_
    refine l_nil ?_
    refine f_block ?_
    refine f_then ?_
    refine c_region ?_
    refine l_val (v := Nx (i)) rfl rfl rfl (e_move) ?_
    refine l_val (v := Nx (i + 1)) rfl rfl rfl (e_add (a := ((i : Nat) : Int)) (b := (1 : Int)) rfl rfl (i64n (by omega) (by omega))) ?_
    refine l_val (v := Nx (i + 1)) rfl rfl rfl (e_assign) ?_
    refine l_nil ?_
    refine f_mask (L' := [Sat (fromK (rowK HdF 59 mkHd) (zs.length + 1) po), famF HdF 59 xp xc (mkL mkHd zs.length xn) rp8 rc9 ((mkL mkHd zs.length (xn + i)) ++ [(mkHd zs.length (xn + i))]), Sat (fromK (famK HdF 59 mkHd) 0 zs), rowF H3F 22 (some ⟨b4, 0, none⟩) HL.length (zs.map gh3 ++ (⟨none, 0, 0⟩ : H3) :: List.replicate po.length (⟨none, 0, 0⟩ : H3))]) [false, true, true, true, true] rfl ?_
    exact f_cut ⟨(i + 1, rp8, rc9), ⟨⟨rfl, rfl, rfl, rfl, rfl⟩, by rw [mkL_succ] <;> rfl, by omega⟩, (show 64 - (i + 1) < 64 - i from by omega)⟩
   ·
    refine c_exit ?_
    refine f_then_exit ?_
    refine f_then_exit ?_
    refine f_exit ?_
    refine f_then ?_
    refine c_region ?_
    refine l_val (v := .slice (some ⟨b4, 0, none⟩) (HL.length) HL.length) rfl rfl rfl (e_move) ?_
    refine l_val (v := Nx (zs.length)) rfl rfl rfl (e_move) ?_
    refine l_val (v := .slice q (xn + i) e) rfl rfl rfl (e_move) ?_
    refine l_val (v := .pointer (some ((ba (some ⟨b4, 0, none⟩)).add (zs.length * 1)))) rfl rfl rfl (e_indexFlN 3 (F := H3F) (j := zs.length) (m := HL.length) (xs := (zs.map gh3 ++ (⟨none, 0, 0⟩ : H3) :: List.replicate po.length (⟨none, 0, 0⟩ : H3))) rfl (by simp only [List.length_append, List.length_map, List.length_replicate, List.length_cons, List.length_set]; omega) rfl tw86 (by omega) rfl) ?_
    refine l_mu rfl rfl (m_storeFl 3 (F := H3F) (p := (some ⟨b4, 0, none⟩)) (k := zs.length) (xs := (zs.map gh3 ++ (⟨none, 0, 0⟩ : H3) :: List.replicate po.length (⟨none, 0, 0⟩ : H3))) (z := (⟨q, xn + i, e⟩ : H3)) tw27 rfl rfl rfl rfl (by simp only [List.length_append, List.length_map, List.length_replicate, List.length_cons]; omega)) ?_
    refine l_nil ?_
    refine f_block ?_
    refine f_then ?_
    obtain rfl : i = 64 := by omega
    refine c_perm (L' := [Sat (fromK (famK HdF 59 mkHd) 0 zs), famF HdF 59 xp xc (mkL mkHd zs.length xn) q e (mkL mkHd zs.length (xn + 64)), Sat (fromK (rowK HdF 59 mkHd) (zs.length + 1) po), rowF H3F 22 (some ⟨b4, 0, none⟩) HL.length ((zs.map gh3 ++ (⟨none, 0, 0⟩ : H3) :: List.replicate po.length (⟨none, 0, 0⟩ : H3)).set zs.length (⟨q, xn + 64, e⟩ : H3))]) (perm_ix [2, 1, 0, 3] 4 rfl (by kernel_rfl) (by kernel_rfl)) ?_
    refine c_re (L' := [Sat (fromK (famK HdF 59 mkHd) 0 zs), famF HdF 59 xp xc (mkL mkHd zs.length xn) q e (mkL mkHd zs.length (xn + 64)), Sat (fromK (rowK HdF 59 mkHd) (zs.length + 1) po), rowF H3F 22 (some ⟨b4, 0, none⟩) HL.length ((zs ++ [(⟨(⟨xp, xn, xc⟩ : H3), q, e⟩ : Z5)]).map gh3 ++ List.replicate po.length (⟨none, 0, 0⟩ : H3))]) (by rw [← gs_set]; rfl) ?_
    refine c_snocR (Ls' := fromK (famK HdF 59 mkHd) 0 (zs ++ [(⟨(⟨xp, xn, xc⟩ : H3), q, e⟩ : Z5)])) (M := [Sat (fromK (rowK HdF 59 mkHd) (zs.length + 1) po), rowF H3F 22 (some ⟨b4, 0, none⟩) HL.length ((zs ++ [(⟨(⟨xp, xn, xc⟩ : H3), q, e⟩ : Z5)]).map gh3 ++ List.replicate po.length (⟨none, 0, 0⟩ : H3))]) rfl (snocK (famK HdF 59 mkHd) (⟨(⟨xp, xn, xc⟩ : H3), q, e⟩ : Z5) zs) ?_
    refine c_region ?_
    refine l_val (v := Nx (zs.length)) rfl rfl rfl (e_move) ?_
    refine l_val (v := Nx (zs.length + 1)) rfl rfl rfl (e_add (a := ((zs.length : Nat) : Int)) (b := (1 : Int)) rfl rfl (i64n (by omega) (by omega))) ?_
    refine l_val (v := Nx (zs.length + 1)) rfl rfl rfl (e_assign) ?_
    refine l_nil ?_
    exact f_cut ⟨((zs ++ [⟨(⟨xp, xn, xc⟩ : H3), q, e⟩]), po), ⟨⟨rfl, rfl, congrArg (fun z : Nat => Nx z) (by rw [List.length_append]; rfl)⟩, by rw [List.length_append] <;> rfl, by rw [hpp, hpo, List.map_append, List.append_assoc]; rfl⟩, (Nat.lt_succ_self po.length)⟩
  ·
   refine c_exit ?_
   refine f_then_exit ?_
   refine f_then_exit ?_
   refine f_exit ?_
   refine f_then ?_
   refine c_seq ?_
   refine c_seq ?_
   have hlen : HL.length = zs.length + post.length := by rw [hpp, List.length_append, List.length_map]
   obtain rfl := unnil hlen (by omega)
   have hz : HL = zs.map Z5.h := by rw [hpp, List.append_nil]
   have hzl : zs.length = HL.length := by rw [hz, List.length_map]
   refine c_re (L' := [Sat (fromK (famK HdF 59 mkHd) 0 zs), Sat (fromK (rowK HdF 59 mkHd) zs.length ([] : List H3)), rowF H3F 22 (some ⟨b4, 0, none⟩) HL.length (zs.map gh3)]) (by rw [show List.replicate ([] : List H3).length (⟨none, 0, 0⟩ : H3) = [] from rfl, List.append_nil]) ?_
   refine c_mask [true, false, true] rfl ?_
   refine c_region ?_
   refine l_val (v := .int .i64 (0)) rfl rfl rfl (e_assign) ?_
   refine l_nil ?_
   refine f_then ?_
   refine c_block ?_
   refine c_loop (fun (k : Nat) (f : Fm) (L : List Res) => (f 0 = .slice lsa (HL.length) (lsc) ∧ f 5 = .slice (some ⟨b4, 0, none⟩) (HL.length) HL.length ∧ f 9 = Nx (k)) ∧ L = [Sat (fromK (famK HdF 59 mkHd) 0 zs), rowF H3F 22 (some ⟨b4, 0, none⟩) HL.length (zs.map gh3)] ∧ (k ≤ HL.length)) (fun (k : Nat) => HL.length - k) 0 ?_ ?_
   ·exact ⟨⟨rfl, rfl, rfl⟩, rfl, by omega⟩
   rintro k f0 L0 ⟨⟨hs0, hs5, hs9⟩, hL, hk⟩
   subst L0
   refine rebase (d := 0) hs0 ?_
   refine rebase (d := 5) hs5 ?_
   refine rebase (d := 9) hs9 ?_
   clear hs0 hs5 hs9
   refine c_seq ?_
   refine c_seq ?_
   refine c_region ?_
   refine l_val (v := Nx (k)) rfl rfl rfl (e_move) ?_
   refine l_val (v := .slice lsa (HL.length) (lsc)) rfl rfl rfl (e_move) ?_
   refine l_val (v := Nx (HL.length)) rfl rfl rfl (e_len (a := lsa) (n := HL.length) (c := lsc) rfl tw85) ?_
   refine l_val (v := .bool (decide (((k : Nat) : Int) < ((HL.length : Nat) : Int)))) rfl rfl rfl (e_lss (a := ((k : Nat) : Int)) (b := ((HL.length : Nat) : Int)) rfl rfl) ?_
   refine l_nil ?_
   refine f_then ?_
   refine c_if (((k : Nat) : Int) < ((HL.length : Nat) : Int)) rfl (fun hc10 => ?_) (fun hc10 => ?_)
   ·
    refine c_skip ?_
    refine f_then ?_
    refine c_seq ?_
    refine c_block ?_
    refine c_seq ?_
    obtain ⟨⟨⟨zp, zn, zc⟩, zq, ze⟩, hzk⟩ : ∃ z_, zs[k]? = some z_ := ⟨_, List.getElem?_eq_getElem (by omega)⟩
    have hx : HL[k]? = some (⟨zp, zn, zc⟩ : H3) := by rw [hz, List.getElem?_map, hzk]; rfl
    have hxl : zn ≤ 1000000 := hbd0 _ (List.mem_of_getElem? hx)
    have hgk : (zs.map gh3)[k]? = some (⟨zq, zn + 64, ze⟩ : H3) := by rw [List.getElem?_map, hzk]; rfl
    obtain ⟨hxa, cs_, hxc, rfl⟩ := lse _ _ hx
    refine c_takeN k (r := famF HdF 59 zp zc (mkL mkHd k zn) zq ze (mkL mkHd k (zn + 64))) (fromK_at0 _ hzk) rfl ?_
    refine c_region ?_
    refine l_val (v := .int .i64 (0)) rfl rfl rfl (e_assign) ?_
    refine l_nil ?_
    refine f_then ?_
    refine c_block ?_
    refine c_loop (fun (i : Nat) (f : Fm) (L : List Res) => (f 0 = .slice lsa (HL.length) (lsc) ∧ f 5 = .slice (some ⟨b4, 0, none⟩) (HL.length) HL.length ∧ f 9 = Nx (k) ∧ f 10 = Nx (i)) ∧ L = [Sat ((fromK (famK HdF 59 mkHd) 0 zs).eraseIdx k), famF HdF 59 zp zc (mkL mkHd k zn) zq ze (mkL mkHd k (zn + 64)), rowF H3F 22 (some ⟨b4, 0, none⟩) HL.length (zs.map gh3)] ∧ (i ≤ zn + 64)) (fun (i : Nat) => zn + 64 - i) 0 ?_ ?_
    ·exact ⟨⟨rfl, rfl, rfl, rfl⟩, rfl, by omega⟩
    rintro i f0 L0 ⟨⟨hs0, hs5, hs9, hs10⟩, hL, hi⟩
    subst L0
    refine rebase (d := 0) hs0 ?_
    refine rebase (d := 5) hs5 ?_
    refine rebase (d := 9) hs9 ?_
    refine rebase (d := 10) hs10 ?_
    clear hs0 hs5 hs9 hs10
    refine c_seq ?_
    refine c_seq ?_
    refine c_region ?_
    refine l_val (v := Nx (i)) rfl rfl rfl (e_move) ?_
    refine l_val (v := .slice (some ⟨b4, 0, none⟩) (HL.length) HL.length) rfl rfl rfl (e_move) ?_
    refine l_val (v := Nx (k)) rfl rfl rfl (e_move) ?_
    refine l_val (v := .pointer (some ((ba (some ⟨b4, 0, none⟩)).add (k * 1)))) rfl rfl rfl (e_indexFlN 2 (F := H3F) (j := k) (m := HL.length) (xs := (zs.map gh3)) rfl (by simp only [List.length_append, List.length_map, List.length_replicate, List.length_cons, List.length_set]; omega) rfl tw86 (by omega) rfl) ?_
    refine l_val (v := .slice zq (zn + 64) ze) rfl rfl rfl (e_load1 tw27 (v := .slice zq (zn + 64) ze) rfl (k_flAt 2 (F := H3F) rfl hgk)) ?_
    refine l_val (v := Nx (zn + 64)) rfl rfl rfl (e_len (a := zq) (n := zn + 64) (c := ze) rfl tw28) ?_
    refine l_val (v := .bool (decide (((i : Nat) : Int) < ((zn + 64 : Nat) : Int)))) rfl rfl rfl (e_lss (a := ((i : Nat) : Int)) (b := ((zn + 64 : Nat) : Int)) rfl rfl) ?_
    refine l_nil ?_
    refine f_then ?_
    refine c_if (((i : Nat) : Int) < ((zn + 64 : Nat) : Int)) rfl (fun hc11 => ?_) (fun hc11 => ?_)
    ·
     refine c_skip ?_
     refine f_then ?_
     refine c_seq ?_
     refine c_block ?_
     refine c_seq ?_
     refine c_quiet (by kernel_rfl) (by kernel_rfl) ?_
     refine q_val (v := .slice (some ⟨b4, 0, none⟩) (HL.length) HL.length) rfl rfl rfl (e_move) ?_
     refine q_val (v := Nx (k)) rfl rfl rfl (e_move) ?_
     refine q_val (v := .pointer (some ((ba (some ⟨b4, 0, none⟩)).add (k * 1)))) rfl rfl rfl (e_indexFlN 2 (F := H3F) (j := k) (m := HL.length) (xs := (zs.map gh3)) rfl (by simp only [List.length_append, List.length_map, List.length_replicate, List.length_cons, List.length_set]; omega) rfl tw86 (by omega) rfl) ?_
     refine q_val (v := .slice zq (zn + 64) ze) rfl rfl rfl (e_load1 tw27 (v := .slice zq (zn + 64) ze) rfl (k_flAt 2 (F := H3F) rfl hgk)) ?_
     refine q_val (v := Nx (i)) rfl rfl rfl (e_move) ?_
     refine q_val (v := .pointer (some ((ba zq).add (i * 2)))) rfl rfl rfl (e_indexFam2F 1 (F := HdF) (j := i) (m := zn + 64) rfl (by rw [mkL_len]; omega) rfl tw29 (by omega) rfl) ?_
     refine q_val (v := .agg #[Ix ((mkHd k i).id), .slice ((mkHd k i).p) ((mkHd k i).n) ((mkHd k i).c)]) rfl rfl rfl (e_load tw7 (cs := [Ix ((mkHd k i).id), .slice ((mkHd k i).p) ((mkHd k i).n) ((mkHd k i).c)]) rfl (k_fam2F 1 (F := HdF) (j := i) (x := (mkHd k i)) rfl (mkL_at (by omega))) rfl) ?_
     refine q_val (v := Nx (k)) rfl rfl rfl (e_move) ?_
     refine q_val (v := Nx (i)) rfl rfl rfl (e_move) ?_
     refine q_call (v := .agg #[Ix ((mkHd k i).id), .slice ((mkHd k i).p) ((mkHd k i).n) ((mkHd k i).c)]) rfl rfl rfl (cl_value (fst := []) (cap := []) (vs := [Nx (k), Nx (i)]) (all := [Nx (k), Nx (i)]) tw76 rfl rfl rfl) (fun w hw => ?_) ?_
     ·obtain ⟨β1, sb, kn, hw1, back⟩ := St.frame_all hw
      exact (markEk_ok β1 w hw1 k i (by omega) (by omega)).mono (fun e w' ⟨he, hw'⟩ => ⟨he, st_mask [true, true, true] rfl (back _ _ hw')⟩)
     refine q_call (v := .bool true) rfl rfl rfl (cl_value (fst := []) (cap := []) (vs := [.agg #[Ix ((mkHd k i).id), .slice ((mkHd k i).p) ((mkHd k i).n) ((mkHd k i).c)], .agg #[Ix ((mkHd k i).id), .slice ((mkHd k i).p) ((mkHd k i).n) ((mkHd k i).c)]]) (all := [.agg #[Ix ((mkHd k i).id), .slice ((mkHd k i).p) ((mkHd k i).n) ((mkHd k i).c)], .agg #[Ix ((mkHd k i).id), .slice ((mkHd k i).p) ((mkHd k i).n) ((mkHd k i).c)]]) tw89 rfl rfl rfl) (fun w hw => ?_) ?_
     ·obtain ⟨β1, sb, kn, hw1, back⟩ := St.frame_all hw
      exact (sameEk_ok β1 w hw1 k i).mono (fun e w' ⟨he, hw'⟩ => ⟨he, st_mask [true, true, true] rfl (back _ _ hw')⟩)
     refine q_val (v := .bool false) rfl rfl rfl (e_not (a := true) rfl) ?_
     refine q_val (v := .bool false) rfl rfl rfl (e_move) ?_
     refine qg_val (v := Nx (i)) rfl rfl rfl rfl rfl (e_move) ?_
     refine qg_val (v := .slice lsa (HL.length) (lsc)) rfl rfl rfl rfl rfl (e_move) ?_
     refine qg_val (v := Nx (k)) rfl rfl rfl rfl rfl (e_move) ?_
     refine qg_val (v := .pointer (some ((ba lsa).add (k * 1)))) rfl rfl rfl rfl rfl (e_indexAddr (k := k) (len := HL.length) (cap := lsc) (a := lsa) rfl rfl tw86 (by omega) hxa) ?_
     refine qg_val (v := .slice zp (zn) zc) rfl rfl rfl rfl rfl (e_load1 tw27 (v := .slice zp (zn) zc) rfl (Knows.of_base (Cs.mono _ _) hxc)) ?_
     refine qg_val (v := Nx (zn)) rfl rfl rfl rfl rfl (e_len (a := zp) (n := zn) (c := zc) rfl tw28) ?_
     refine qg_val (v := .bool (decide (((i : Nat) : Int) < ((zn : Nat) : Int)))) rfl rfl rfl rfl rfl (e_lss (a := ((i : Nat) : Int)) (b := ((zn : Nat) : Int)) rfl rfl) ?_
     refine qg_val (v := .bool (decide (((i : Nat) : Int) < ((zn : Nat) : Int)))) rfl rfl rfl rfl rfl (e_move) ?_
     refine q_split (s := 108) (p := ((i : Nat) : Int) < ((zn : Nat) : Int)) rfl (fun hg12 => ?_) (fun hg12 => ?_)
     ·
      refine qg_val (v := .slice lsa (HL.length) (lsc)) rfl rfl rfl rfl rfl (e_move) ?_
      refine qg_val (v := Nx (k)) rfl rfl rfl rfl rfl (e_move) ?_
      refine qg_val (v := .pointer (some ((ba lsa).add (k * 1)))) rfl rfl rfl rfl rfl (e_indexAddr (k := k) (len := HL.length) (cap := lsc) (a := lsa) rfl rfl tw86 (by omega) hxa) ?_
      refine qg_val (v := .slice zp (zn) zc) rfl rfl rfl rfl rfl (e_load1 tw27 (v := .slice zp (zn) zc) rfl (Knows.of_base (Cs.mono _ _) hxc)) ?_
      refine qg_val (v := Nx (i)) rfl rfl rfl rfl rfl (e_move) ?_
      refine qg_val (v := .pointer (some ((ba zp).add (i * 2)))) rfl rfl rfl rfl rfl (e_indexFam1F 1 (F := HdF) (j := i) (m := zn) rfl (by rw [mkL_len]; omega) rfl tw29 (by omega) rfl) ?_
      refine qg_val (v := .agg #[Ix ((mkHd k i).id), .slice ((mkHd k i).p) ((mkHd k i).n) ((mkHd k i).c)]) rfl rfl rfl rfl rfl (e_load tw7 (cs := [Ix ((mkHd k i).id), .slice ((mkHd k i).p) ((mkHd k i).n) ((mkHd k i).c)]) rfl (k_fam1F 1 (F := HdF) (j := i) (x := (mkHd k i)) rfl (mkL_at (by omega))) rfl) ?_
      refine qg_val (v := Nx (k)) rfl rfl rfl rfl rfl (e_move) ?_
      refine qg_val (v := Nx (i)) rfl rfl rfl rfl rfl (e_move) ?_
      refine qg_call (v := .agg #[Ix ((mkHd k i).id), .slice ((mkHd k i).p) ((mkHd k i).n) ((mkHd k i).c)]) rfl rfl rfl rfl rfl (cl_value (fst := []) (cap := []) (vs := [Nx (k), Nx (i)]) (all := [Nx (k), Nx (i)]) tw76 rfl rfl rfl) (fun w hw => ?_) ?_
      ·obtain ⟨β1, sb, kn, hw1, back⟩ := St.frame_all hw
       exact (markEk_ok β1 w hw1 k i (by omega) (by omega)).mono (fun e w' ⟨he, hw'⟩ => ⟨he, st_mask [true, true, true] rfl (back _ _ hw')⟩)
      refine qg_call (v := .bool true) rfl rfl rfl rfl rfl (cl_value (fst := []) (cap := []) (vs := [.agg #[Ix ((mkHd k i).id), .slice ((mkHd k i).p) ((mkHd k i).n) ((mkHd k i).c)], .agg #[Ix ((mkHd k i).id), .slice ((mkHd k i).p) ((mkHd k i).n) ((mkHd k i).c)]]) (all := [.agg #[Ix ((mkHd k i).id), .slice ((mkHd k i).p) ((mkHd k i).n) ((mkHd k i).c)], .agg #[Ix ((mkHd k i).id), .slice ((mkHd k i).p) ((mkHd k i).n) ((mkHd k i).c)]]) tw89 rfl rfl rfl) (fun w hw => ?_) ?_
      ·obtain ⟨β1, sb, kn, hw1, back⟩ := St.frame_all hw
       exact (sameEk_ok β1 w hw1 k i).mono (fun e w' ⟨he, hw'⟩ => ⟨he, st_mask [true, true, true] rfl (back _ _ hw')⟩)
      refine qg_val (v := .bool false) rfl rfl rfl rfl rfl (e_not (a := true) rfl) ?_
      refine qg_val (v := .bool false) rfl rfl rfl rfl rfl (e_pick_t rfl) ?_
      refine q_val (v := .bool false) rfl rfl rfl (e_pick_f rfl) ?_
      refine q_nil ?_
      refine f_then ?_
      refine c_no rfl ?_
      refine c_skip ?_
      refine f_block ?_
      refine f_then ?_
      refine c_region ?_
      refine l_val (v := Nx (i)) rfl rfl rfl (e_move) ?_
      refine l_val (v := Nx (i + 1)) rfl rfl rfl (e_add (a := ((i : Nat) : Int)) (b := (1 : Int)) rfl rfl (i64n (by omega) (by omega))) ?_
      refine l_val (v := Nx (i + 1)) rfl rfl rfl (e_assign) ?_
      refine l_nil ?_
      exact f_cut ⟨i + 1, ⟨⟨rfl, rfl, rfl, rfl⟩, rfl, by omega⟩, (show zn + 64 - (i + 1) < zn + 64 - i from by omega)⟩
     ·
      refine q_skip rfl rfl rfl rfl rfl rfl ?_
      refine q_skip rfl rfl rfl rfl rfl rfl ?_
      refine q_skip rfl rfl rfl rfl rfl rfl ?_
      refine q_skip rfl rfl rfl rfl rfl rfl ?_
      refine q_skip rfl rfl rfl rfl rfl rfl ?_
      refine q_skip rfl rfl rfl rfl rfl rfl ?_
      refine q_skip rfl rfl rfl rfl rfl rfl ?_
      refine q_skip rfl rfl rfl rfl rfl rfl ?_
      refine q_skip rfl rfl rfl rfl rfl rfl ?_
      refine q_skip rfl rfl rfl rfl rfl rfl ?_
      refine q_skip rfl rfl rfl rfl rfl rfl ?_
      refine q_skip rfl rfl rfl rfl rfl rfl ?_
      refine qg_val (v := .bool false) rfl rfl rfl rfl rfl (e_pick_f rfl) ?_
      refine q_val (v := .bool false) rfl rfl rfl (e_pick_f rfl) ?_
      refine q_nil ?_
      refine f_then ?_
      refine c_no rfl ?_
      refine c_skip ?_
      refine f_block ?_
      refine f_then ?_
      refine c_region ?_
      refine l_val (v := Nx (i)) rfl rfl rfl (e_move) ?_
      refine l_val (v := Nx (i + 1)) rfl rfl rfl (e_add (a := ((i : Nat) : Int)) (b := (1 : Int)) rfl rfl (i64n (by omega) (by omega))) ?_
      refine l_val (v := Nx (i + 1)) rfl rfl rfl (e_assign) ?_
      refine l_nil ?_
      exact f_cut ⟨i + 1, ⟨⟨rfl, rfl, rfl, rfl⟩, rfl, by omega⟩, (show zn + 64 - (i + 1) < zn + 64 - i from by omega)⟩
    ·
     refine c_exit ?_
     refine f_then_exit ?_
     refine f_then_exit ?_
     refine f_exit ?_
     refine f_block ?_
     refine f_then ?_
     refine c_putN k (fromK_at0 _ hzk) rfl ?_
     refine c_re (L' := [Sat (fromK (famK HdF 59 mkHd) 0 zs), rowF H3F 22 (some ⟨b4, 0, none⟩) HL.length (zs.map gh3)]) rfl ?_
     refine c_region ?_
     refine l_val (v := Nx (k)) rfl rfl rfl (e_move) ?_
     refine l_val (v := Nx (k + 1)) rfl rfl rfl (e_add (a := ((k : Nat) : Int)) (b := (1 : Int)) rfl rfl (i64n (by omega) (by omega))) ?_
     refine l_val (v := Nx (k + 1)) rfl rfl rfl (e_assign) ?_
     refine l_nil ?_
     exact f_cut ⟨k + 1, ⟨⟨rfl, rfl, rfl⟩, rfl, by omega⟩, (show HL.length - (k + 1) < HL.length - k from by omega)⟩
   ·
    refine c_exit ?_
    refine f_then_exit ?_
    refine f_then_exit ?_
    refine f_exit ?_
    refine f_then ?_
    refine c_seq ?_
    refine c_seq ?_
    refine c_emp (r := Sat (fromK (famM HdF 59 mkHd HL.length) 0 [])) trivial ?_
    refine c_region ?_
    refine l_val (v := .int .i64 (0)) rfl rfl rfl (e_assign) ?_
    refine l_nil ?_
    refine f_then ?_
    refine c_block ?_
    refine c_loop (fun (x_ : List Z5 × List Z5) (f : Fm) (L : List Res) => match x_ with | (ys, post) => (f 0 = .slice lsa (HL.length) (lsc) ∧ f 5 = .slice (some ⟨b4, 0, none⟩) (HL.length) HL.length ∧ f 11 = Nx (ys.length)) ∧ L = [Sat (fromK (famM HdF 59 mkHd HL.length) 0 ys), Sat (fromK (famK HdF 59 mkHd) ys.length post), rowF H3F 22 (some ⟨b4, 0, none⟩) HL.length (ys.map gh3 ++ post.map gh3)] ∧ (HL = ys.map Z5.h ++ post.map Z5.h)) (fun (x_ : List Z5 × List Z5) => match x_ with | (ys, post) => post.length) ([], zs) ?_ ?_
    ·exact ⟨⟨rfl, rfl, rfl⟩, rfl, hz⟩
    rintro ⟨ys, post⟩ f0 L0 ⟨⟨hs0, hs5, hs11⟩, hL, hpp⟩
    subst L0
    refine rebase (d := 0) hs0 ?_
    refine rebase (d := 5) hs5 ?_
    refine rebase (d := 11) hs11 ?_
    clear hs0 hs5 hs11
    have hlen : HL.length = ys.length + post.length := by rw [hpp, List.length_append, List.length_map, List.length_map]
    refine c_seq ?_
    refine c_seq ?_
    refine c_region ?_
    refine l_val (v := Nx (ys.length)) rfl rfl rfl (e_move) ?_
    refine l_val (v := .slice lsa (HL.length) (lsc)) rfl rfl rfl (e_move) ?_
    refine l_val (v := Nx (HL.length)) rfl rfl rfl (e_len (a := lsa) (n := HL.length) (c := lsc) rfl tw85) ?_
    refine l_val (v := .bool (decide (((ys.length : Nat) : Int) < ((HL.length : Nat) : Int)))) rfl rfl rfl (e_lss (a := ((ys.length : Nat) : Int)) (b := ((HL.length : Nat) : Int)) rfl rfl) ?_
    refine l_nil ?_
    refine f_then ?_
    refine c_if (((ys.length : Nat) : Int) < ((HL.length : Nat) : Int)) rfl (fun hc13 => ?_) (fun hc13 => ?_)
    ·
     refine c_skip ?_
     refine f_then ?_
     refine c_seq ?_
     refine c_block ?_
     refine c_seq ?_
     obtain ⟨⟨⟨zp, zn, zc⟩, zq, ze⟩, po, hpo⟩ := uncons hlen (by omega)
     have hx : HL[ys.length]? = some (⟨zp, zn, zc⟩ : H3) := by rw [hpp, hpo]; exact mid_at (List.length_map _).symm
     have hxl : zn ≤ 1000000 := hbd0 _ (List.mem_of_getElem? hx)
     obtain ⟨hxa, cs_, hxc, rfl⟩ := lse _ _ hx
     refine c_perm (L' := [Sat (fromK (famK HdF 59 mkHd) ys.length post), Sat (fromK (famM HdF 59 mkHd HL.length) 0 ys), rowF H3F 22 (some ⟨b4, 0, none⟩) HL.length (ys.map gh3 ++ post.map gh3)]) (perm_ix [1, 0, 2] 3 rfl (by kernel_rfl) (by kernel_rfl)) ?_
     rw [hpo]
     refine c_headR (r := famF HdF 59 zp zc (mkL mkHd ys.length zn) zq ze (mkL mkHd ys.length (zn + 64))) (Ls := fromK (famK HdF 59 mkHd) (ys.length + 1) po) (M := [Sat (fromK (famM HdF 59 mkHd HL.length) 0 ys), rowF H3F 22 (some ⟨b4, 0, none⟩) HL.length (ys.map gh3 ++ ((⟨(⟨zp, zn, zc⟩ : H3), zq, ze⟩ : Z5) :: po).map gh3)]) rfl ?_
     have hpl : post.length = po.length + 1 := by rw [hpo]; rfl
     refine c_region ?_
     refine l_mv rfl rfl rfl (m_makeFl (F := HdF) (x0 := (⟨0, none, 0, 0⟩ : KHd)) (c := 64) tw29 tw53 tw51 rfl rfl rfl (by unfold maxLen; omega) (by omega)) ?_
     rintro _ _ ⟨b14, rfl, rfl⟩
     refine l_val (v := .slice (some ⟨b14, 0, none⟩) (64) 64) rfl rfl rfl (e_assign) ?_
     refine l_nil ?_
     refine f_then ?_
     refine c_seq ?_
     refine c_seq ?_
     refine c_region ?_
     refine l_val (v := .int .i64 (0)) rfl rfl rfl (e_assign) ?_
     refine l_nil ?_
     refine f_then ?_
     refine c_block ?_
     refine c_loop (fun (i : Nat) (f : Fm) (L : List Res) => (f 0 = .slice lsa (HL.length) (lsc) ∧ f 5 = .slice (some ⟨b4, 0, none⟩) (HL.length) HL.length ∧ f 11 = Nx (ys.length) ∧ f 12 = .slice (some ⟨b14, 0, none⟩) (64) 64 ∧ f 13 = Nx (i)) ∧ L = [rowF HdF 59 (some ⟨b14, 0, none⟩) 64 ((mkL mkHd (ys.length + HL.length) i) ++ (List.replicate 64 (⟨0, none, 0, 0⟩ : KHd)).drop i), Sat (fromK (famK HdF 59 mkHd) (ys.length + 1) po), famF HdF 59 zp zc (mkL mkHd ys.length zn) zq ze (mkL mkHd ys.length (zn + 64)), Sat (fromK (famM HdF 59 mkHd HL.length) 0 ys), rowF H3F 22 (some ⟨b4, 0, none⟩) HL.length (ys.map gh3 ++ ((⟨(⟨zp, zn, zc⟩ : H3), zq, ze⟩ : Z5) :: po).map gh3)] ∧ (i ≤ 64)) (fun (i : Nat) => 64 - i) 0 ?_ ?_
     ·exact ⟨⟨rfl, rfl, rfl, rfl, rfl⟩, by rw [mkp_zero], by omega⟩
     rintro i f0 L0 ⟨⟨hs0, hs5, hs11, hs12, hs13⟩, hL, hi⟩
     subst L0
     refine rebase (d := 0) hs0 ?_
     refine rebase (d := 5) hs5 ?_
     refine rebase (d := 11) hs11 ?_
     refine rebase (d := 12) hs12 ?_
     refine rebase (d := 13) hs13 ?_
     clear hs0 hs5 hs11 hs12 hs13
     refine c_seq ?_
     refine c_seq ?_
     refine c_region ?_
     refine l_val (v := Nx (i)) rfl rfl rfl (e_move) ?_
     refine l_val (v := .bool (decide (((i : Nat) : Int) < (64 : Int)))) rfl rfl rfl (e_lss (a := ((i : Nat) : Int)) (b := (64 : Int)) rfl rfl) ?_
     refine l_nil ?_
     refine f_then ?_
     refine c_if (((i : Nat) : Int) < (64 : Int)) rfl (fun hc15 => ?_) (fun hc15 => ?_)
     ·
      refine c_skip ?_
      refine f_then ?_
      refine c_seq ?_
      refine c_block ?_
      refine c_region ?_
      refine l_val (v := .slice (some ⟨b14, 0, none⟩) (64) 64) rfl rfl rfl (e_move) ?_
      refine l_val (v := Nx (i)) rfl rfl rfl (e_move) ?_
      refine l_val (v := Nx (ys.length)) rfl rfl rfl (e_move) ?_
      refine l_val (v := .slice lsa (HL.length) (lsc)) rfl rfl rfl (e_move) ?_
      refine l_val (v := Nx (HL.length)) rfl rfl rfl (e_len (a := lsa) (n := HL.length) (c := lsc) rfl tw85) ?_
      refine l_val (v := Nx (ys.length + HL.length)) rfl rfl rfl (e_add (a := ((ys.length : Nat) : Int)) (b := ((HL.length : Nat) : Int)) rfl rfl (i64n (by omega) (by omega))) ?_
      refine l_val (v := Nx (i)) rfl rfl rfl (e_move) ?_
      refine l_call rfl rfl rfl (cl_value (fst := []) (cap := []) (vs := [Nx (ys.length + HL.length), Nx (i)]) (all := [Nx (ys.length + HL.length), Nx (i)]) tw76 rfl rfl rfl) ?_
      intro w hw
      obtain ⟨β1, sb, kn, hw1, back⟩ := St.frame_all hw
      refine (markEk_ok β1 w hw1 (ys.length + HL.length) i (by omega) (by omega)).mono ?_
      rintro e w' ⟨rfl, hw'⟩
      refine ⟨_, rfl, _, back _ _ hw', ?_⟩
      clear hw hw1 hw' back kn sb
      refine l_val (v := .pointer (some ((ba (some ⟨b14, 0, none⟩)).add (i * 2)))) rfl rfl rfl (e_indexFlN 0 (F := HdF) (j := i) (m := 64) (xs := ((mkL mkHd (ys.length + HL.length) i) ++ (List.replicate 64 (⟨0, none, 0, 0⟩ : KHd)).drop i)) rfl (by rw [mkp_len (by rw [List.length_replicate]; omega), List.length_replicate]) rfl tw29 (by omega) rfl) ?_
      refine l_mu rfl rfl (m_storeFl 0 (F := HdF) (p := (some ⟨b14, 0, none⟩)) (k := i) (xs := ((mkL mkHd (ys.length + HL.length) i) ++ (List.replicate 64 (⟨0, none, 0, 0⟩ : KHd)).drop i)) (z := (mkHd (ys.length + HL.length) i)) tw7 rfl rfl rfl rfl (by rw [mkp_len (by first | omega | (rw [List.length_replicate]; omega))]; (try rw [List.length_replicate]); omega)) ?_
      refine l_nil ?_
      refine f_block ?_
      refine f_then ?_
      refine c_region ?_
      refine l_val (v := Nx (i)) rfl rfl rfl (e_move) ?_
      refine l_val (v := Nx (i + 1)) rfl rfl rfl (e_add (a := ((i : Nat) : Int)) (b := (1 : Int)) rfl rfl (i64n (by omega) (by omega))) ?_
      refine l_val (v := Nx (i + 1)) rfl rfl rfl (e_assign) ?_
      refine l_nil ?_
      exact f_cut ⟨i + 1, ⟨⟨rfl, rfl, rfl, rfl, rfl⟩, by rw [mkp_step (by rw [List.length_replicate]; omega)] <;> rfl, by omega⟩, (show 64 - (i + 1) < 64 - i from by omega)⟩
     ·
      refine c_exit ?_
      refine f_then_exit ?_
      refine f_then_exit ?_
      refine f_exit ?_
      refine f_then ?_
      obtain rfl : i = 64 := by omega
      rw [mkp_done (by rw [List.length_replicate]; omega)]
      refine c_conseq 2 (r' := famF HdF 59 zp zc (mkL mkHd ys.length zn) zp zc (mkL mkHd ys.length zn)) rfl (fun a h => famF_start a (famF_first a h)) ?_
      refine c_region ?_
      refine l_val (v := .slice (some ⟨b4, 0, none⟩) (HL.length) HL.length) rfl rfl rfl (e_move) ?_
      refine l_val (v := Nx (ys.length)) rfl rfl rfl (e_move) ?_
      refine l_val (v := .slice lsa (HL.length) (lsc)) rfl rfl rfl (e_move) ?_
      refine l_val (v := Nx (ys.length)) rfl rfl rfl (e_move) ?_
      refine l_val (v := .pointer (some ((ba lsa).add (ys.length * 1)))) rfl rfl rfl (e_indexAddr (k := ys.length) (len := HL.length) (cap := lsc) (a := lsa) rfl rfl tw86 (by omega) hxa) ?_
      refine l_val (v := .slice zp (zn) zc) rfl rfl rfl (e_load1 tw27 (v := .slice zp (zn) zc) rfl (Knows.of_base (Cs.mono _ _) hxc)) ?_
      refine l_val (v := .slice (some ⟨b14, 0, none⟩) (64) 64) rfl rfl rfl (e_move) ?_
      refine l_mv rfl rfl rfl (m_append_famF (F := HdF) 2 tw29 tw53 (q := zp) (m := zn) (e := zc) (zs := (mkL mkHd (ys.length + HL.length) 64)) (ad := ⟨b14, 0, none⟩) (k := 64) (cc := 64) rfl rfl (mkL_len _ _).symm rfl (mkL_len _ _) (k_rowF_all (p := (some ⟨b14, 0, none⟩)) 0 rfl (by rw [mkL_len]; omega)) (by omega) (by unfold maxLen; omega) (by omega)) ?_
      rintro _ _ ⟨rp16, rc17, rfl, rfl⟩
      refine l_val (v := .pointer (some ((ba (some ⟨b4, 0, none⟩)).add (ys.length * 1)))) rfl rfl rfl (e_indexFlN 4 (F := H3F) (j := ys.length) (m := HL.length) (xs := (ys.map gh3 ++ ((⟨(⟨zp, zn, zc⟩ : H3), zq, ze⟩ : Z5) :: po).map gh3)) rfl (by simp only [List.length_append, List.length_map, List.length_replicate, List.length_cons, List.length_set]; omega) rfl tw86 (by omega) rfl) ?_
      refine l_mu rfl rfl (m_storeFl 4 (F := H3F) (p := (some ⟨b4, 0, none⟩)) (k := ys.length) (xs := (ys.map gh3 ++ ((⟨(⟨zp, zn, zc⟩ : H3), zq, ze⟩ : Z5) :: po).map gh3)) (z := (⟨rp16, zn + 64, rc17⟩ : H3)) tw27 rfl rfl rfl rfl (by simp only [List.length_append, List.length_map, List.length_replicate, List.length_cons]; omega)) ?_
      refine l_nil ?_
      refine f_block ?_
      refine f_then ?_
      obtain ⟨q, hq_⟩ : ∃ z_, z_ = rp16 := ⟨_, rfl⟩
      obtain ⟨e, he_⟩ : ∃ z_, z_ = rc17 := ⟨_, rfl⟩
      rw [← hq_, ← he_]
      refine c_perm (L' := [Sat (fromK (famM HdF 59 mkHd HL.length) 0 ys), famF HdF 59 zp zc (mkL mkHd ys.length zn) q e ((mkL mkHd ys.length zn) ++ (mkL mkHd (ys.length + HL.length) 64)), rowF HdF 59 (some ⟨b14, 0, none⟩) 64 (mkL mkHd (ys.length + HL.length) 64), Sat (fromK (famK HdF 59 mkHd) (ys.length + 1) po), rowF H3F 22 (some ⟨b4, 0, none⟩) HL.length ((ys.map gh3 ++ ((⟨(⟨zp, zn, zc⟩ : H3), zq, ze⟩ : Z5) :: po).map gh3).set ys.length (⟨q, zn + 64, e⟩ : H3))]) (perm_ix [3, 2, 0, 1, 4] 5 rfl (by kernel_rfl) (by kernel_rfl)) ?_
      refine c_re (L' := [Sat (fromK (famM HdF 59 mkHd HL.length) 0 ys), famF HdF 59 zp zc (mkL mkHd ys.length zn) q e ((mkL mkHd ys.length zn) ++ (mkL mkHd (ys.length + HL.length) 64)), rowF HdF 59 (some ⟨b14, 0, none⟩) 64 (mkL mkHd (ys.length + HL.length) 64), Sat (fromK (famK HdF 59 mkHd) (ys.length + 1) po), rowF H3F 22 (some ⟨b4, 0, none⟩) HL.length ((ys ++ [(⟨(⟨zp, zn, zc⟩ : H3), q, e⟩ : Z5)]).map gh3 ++ po.map gh3)]) (by rw [← gs_set2]; rfl) ?_
      refine c_snocR (Ls' := fromK (famM HdF 59 mkHd HL.length) 0 (ys ++ [(⟨(⟨zp, zn, zc⟩ : H3), q, e⟩ : Z5)])) (M := [rowF HdF 59 (some ⟨b14, 0, none⟩) 64 (mkL mkHd (ys.length + HL.length) 64), Sat (fromK (famK HdF 59 mkHd) (ys.length + 1) po), rowF H3F 22 (some ⟨b4, 0, none⟩) HL.length ((ys ++ [(⟨(⟨zp, zn, zc⟩ : H3), q, e⟩ : Z5)]).map gh3 ++ po.map gh3)]) rfl (snocK (famM HdF 59 mkHd HL.length) (⟨(⟨zp, zn, zc⟩ : H3), q, e⟩ : Z5) ys) ?_
      refine c_mask [true, false, true, true] rfl ?_
      refine c_region ?_
      refine l_val (v := Nx (ys.length)) rfl rfl rfl (e_move) ?_
      refine l_val (v := Nx (ys.length + 1)) rfl rfl rfl (e_add (a := ((ys.length : Nat) : Int)) (b := (1 : Int)) rfl rfl (i64n (by omega) (by omega))) ?_
      refine l_val (v := Nx (ys.length + 1)) rfl rfl rfl (e_assign) ?_
      refine l_nil ?_
      exact f_cut ⟨((ys ++ [⟨(⟨zp, zn, zc⟩ : H3), q, e⟩]), po), ⟨⟨rfl, rfl, congrArg (fun z : Nat => Nx z) (by rw [List.length_append]; rfl)⟩, by rw [List.length_append] <;> rfl, by rw [hpp, hpo, List.map_append, List.append_assoc]; rfl⟩, (Nat.lt_succ_self po.length)⟩
    ·
     refine c_exit ?_
     refine f_then_exit ?_
     refine f_then_exit ?_
     refine f_exit ?_
     refine f_then ?_
     refine c_seq ?_
     refine c_seq ?_
     have hlen : HL.length = ys.length + post.length := by rw [hpp, List.length_append, List.length_map, List.length_map]
     obtain rfl := unnil hlen (by omega)
     have hy : HL = ys.map Z5.h := by rw [hpp, List.map_nil, List.append_nil]
     have hyl : ys.length = HL.length := by rw [hy, List.length_map]
     refine c_re (L' := [Sat (fromK (famM HdF 59 mkHd HL.length) 0 ys), Sat (fromK (famK HdF 59 mkHd) ys.length ([] : List Z5)), rowF H3F 22 (some ⟨b4, 0, none⟩) HL.length (ys.map gh3)]) (by rw [List.map_nil, List.append_nil]) ?_
     refine c_mask [true, false, true] rfl ?_
     refine c_region ?_
     refine l_val (v := .int .i64 (0)) rfl rfl rfl (e_assign) ?_
     refine l_nil ?_
     refine f_then ?_
     refine c_block ?_
     refine c_loop (fun (k : Nat) (f : Fm) (L : List Res) => (f 0 = .slice lsa (HL.length) (lsc) ∧ f 5 = .slice (some ⟨b4, 0, none⟩) (HL.length) HL.length ∧ f 14 = Nx (k)) ∧ L = [Sat (fromK (famM HdF 59 mkHd HL.length) 0 ys), rowF H3F 22 (some ⟨b4, 0, none⟩) HL.length (ys.map gh3)] ∧ (k ≤ HL.length)) (fun (k : Nat) => HL.length - k) 0 ?_ ?_
     ·exact ⟨⟨rfl, rfl, rfl⟩, rfl, by omega⟩
     rintro k f0 L0 ⟨⟨hs0, hs5, hs14⟩, hL, hk⟩
     subst L0
     refine rebase (d := 0) hs0 ?_
     refine rebase (d := 5) hs5 ?_
     refine rebase (d := 14) hs14 ?_
     clear hs0 hs5 hs14
     refine c_seq ?_
     refine c_seq ?_
     refine c_region ?_
     refine l_val (v := Nx (k)) rfl rfl rfl (e_move) ?_
     refine l_val (v := .slice lsa (HL.length) (lsc)) rfl rfl rfl (e_move) ?_
     refine l_val (v := Nx (HL.length)) rfl rfl rfl (e_len (a := lsa) (n := HL.length) (c := lsc) rfl tw85) ?_
     refine l_val (v := .bool (decide (((k : Nat) : Int) < ((HL.length : Nat) : Int)))) rfl rfl rfl (e_lss (a := ((k : Nat) : Int)) (b := ((HL.length : Nat) : Int)) rfl rfl) ?_
     refine l_nil ?_
     refine f_then ?_
     refine c_if (((k : Nat) : Int) < ((HL.length : Nat) : Int)) rfl (fun hc18 => ?_) (fun hc18 => ?_)
     ·
      refine c_skip ?_
      refine f_then ?_
      refine c_seq ?_
      refine c_block ?_
      refine c_seq ?_
      obtain ⟨⟨⟨zp, zn, zc⟩, zq, ze⟩, hzk⟩ : ∃ z_, ys[k]? = some z_ := ⟨_, List.getElem?_eq_getElem (by omega)⟩
      have hx : HL[k]? = some (⟨zp, zn, zc⟩ : H3) := by rw [hy, List.getElem?_map, hzk]; rfl
      have hxl : zn ≤ 1000000 := hbd0 _ (List.mem_of_getElem? hx)
      have hgk : (ys.map gh3)[k]? = some (⟨zq, zn + 64, ze⟩ : H3) := by rw [List.getElem?_map, hzk]; rfl
      obtain ⟨hxa, cs_, hxc, rfl⟩ := lse _ _ hx
      refine c_takeN k (r := famF HdF 59 zp zc (mkL mkHd k zn) zq ze ((mkL mkHd k zn) ++ (mkL mkHd (k + HL.length) 64))) (fromK_at0 _ hzk) rfl ?_
      refine c_region ?_
      refine l_val (v := .int .i64 (0)) rfl rfl rfl (e_assign) ?_
      refine l_nil ?_
      refine f_then ?_
      refine c_block ?_
      refine c_loop (fun (i : Nat) (f : Fm) (L : List Res) => (f 0 = .slice lsa (HL.length) (lsc) ∧ f 5 = .slice (some ⟨b4, 0, none⟩) (HL.length) HL.length ∧ f 14 = Nx (k) ∧ f 15 = Nx (i)) ∧ L = [Sat ((fromK (famM HdF 59 mkHd HL.length) 0 ys).eraseIdx k), famF HdF 59 zp zc (mkL mkHd k zn) zq ze ((mkL mkHd k zn) ++ (mkL mkHd (k + HL.length) 64)), rowF H3F 22 (some ⟨b4, 0, none⟩) HL.length (ys.map gh3)] ∧ (i ≤ zn)) (fun (i : Nat) => zn - i) 0 ?_ ?_
      ·exact ⟨⟨rfl, rfl, rfl, rfl⟩, rfl, by omega⟩
      rintro i f0 L0 ⟨⟨hs0, hs5, hs14, hs15⟩, hL, hi⟩
      subst L0
      refine rebase (d := 0) hs0 ?_
      refine rebase (d := 5) hs5 ?_
      refine rebase (d := 14) hs14 ?_
      refine rebase (d := 15) hs15 ?_
      clear hs0 hs5 hs14 hs15
      refine c_seq ?_
      refine c_seq ?_
      refine c_region ?_
      refine l_val (v := Nx (i)) rfl rfl rfl (e_move) ?_
      refine l_val (v := .slice lsa (HL.length) (lsc)) rfl rfl rfl (e_move) ?_
      refine l_val (v := Nx (k)) rfl rfl rfl (e_move) ?_
      refine l_val (v := .pointer (some ((ba lsa).add (k * 1)))) rfl rfl rfl (e_indexAddr (k := k) (len := HL.length) (cap := lsc) (a := lsa) rfl rfl tw86 (by omega) hxa) ?_
      refine l_val (v := .slice zp (zn) zc) rfl rfl rfl (e_load1 tw27 (v := .slice zp (zn) zc) rfl (Knows.of_base (Cs.mono _ _) hxc)) ?_
      refine l_val (v := Nx (zn)) rfl rfl rfl (e_len (a := zp) (n := zn) (c := zc) rfl tw28) ?_
      refine l_val (v := .bool (decide (((i : Nat) : Int) < ((zn : Nat) : Int)))) rfl rfl rfl (e_lss (a := ((i : Nat) : Int)) (b := ((zn : Nat) : Int)) rfl rfl) ?_
      refine l_nil ?_
      refine f_then ?_
      refine c_if (((i : Nat) : Int) < ((zn : Nat) : Int)) rfl (fun hc19 => ?_) (fun hc19 => ?_)
      ·
       refine c_skip ?_
       refine f_then ?_
       refine c_seq ?_
       refine c_block ?_
       refine c_seq ?_
       refine c_quiet (by kernel_rfl) (by kernel_rfl) ?_
       refine q_val (v := .slice lsa (HL.length) (lsc)) rfl rfl rfl (e_move) ?_
       refine q_val (v := Nx (k)) rfl rfl rfl (e_move) ?_
       refine q_val (v := .pointer (some ((ba lsa).add (k * 1)))) rfl rfl rfl (e_indexAddr (k := k) (len := HL.length) (cap := lsc) (a := lsa) rfl rfl tw86 (by omega) hxa) ?_
       refine q_val (v := .slice zp (zn) zc) rfl rfl rfl (e_load1 tw27 (v := .slice zp (zn) zc) rfl (Knows.of_base (Cs.mono _ _) hxc)) ?_
       refine q_val (v := Nx (i)) rfl rfl rfl (e_move) ?_
       refine q_val (v := .pointer (some ((ba zp).add (i * 2)))) rfl rfl rfl (e_indexFam1F 1 (F := HdF) (j := i) (m := zn) rfl (by rw [mkL_len]; omega) rfl tw29 (by omega) rfl) ?_
       refine q_val (v := .agg #[Ix ((mkHd k i).id), .slice ((mkHd k i).p) ((mkHd k i).n) ((mkHd k i).c)]) rfl rfl rfl (e_load tw7 (cs := [Ix ((mkHd k i).id), .slice ((mkHd k i).p) ((mkHd k i).n) ((mkHd k i).c)]) rfl (k_fam1F 1 (F := HdF) (j := i) (x := (mkHd k i)) rfl (mkL_at (by omega))) rfl) ?_
       refine q_val (v := Nx (k)) rfl rfl rfl (e_move) ?_
       refine q_val (v := Nx (i)) rfl rfl rfl (e_move) ?_
       refine q_call (v := .agg #[Ix ((mkHd k i).id), .slice ((mkHd k i).p) ((mkHd k i).n) ((mkHd k i).c)]) rfl rfl rfl (cl_value (fst := []) (cap := []) (vs := [Nx (k), Nx (i)]) (all := [Nx (k), Nx (i)]) tw76 rfl rfl rfl) (fun w hw => ?_) ?_
       ·obtain ⟨β1, sb, kn, hw1, back⟩ := St.frame_all hw
        exact (markEk_ok β1 w hw1 k i (by omega) (by omega)).mono (fun e w' ⟨he, hw'⟩ => ⟨he, st_mask [true, true, true] rfl (back _ _ hw')⟩)
       refine q_call (v := .bool true) rfl rfl rfl (cl_value (fst := []) (cap := []) (vs := [.agg #[Ix ((mkHd k i).id), .slice ((mkHd k i).p) ((mkHd k i).n) ((mkHd k i).c)], .agg #[Ix ((mkHd k i).id), .slice ((mkHd k i).p) ((mkHd k i).n) ((mkHd k i).c)]]) (all := [.agg #[Ix ((mkHd k i).id), .slice ((mkHd k i).p) ((mkHd k i).n) ((mkHd k i).c)], .agg #[Ix ((mkHd k i).id), .slice ((mkHd k i).p) ((mkHd k i).n) ((mkHd k i).c)]]) tw89 rfl rfl rfl) (fun w hw => ?_) ?_
       ·obtain ⟨β1, sb, kn, hw1, back⟩ := St.frame_all hw
        exact (sameEk_ok β1 w hw1 k i).mono (fun e w' ⟨he, hw'⟩ => ⟨he, st_mask [true, true, true] rfl (back _ _ hw')⟩)
       refine q_val (v := .bool false) rfl rfl rfl (e_not (a := true) rfl) ?_
       refine q_val (v := .bool false) rfl rfl rfl (e_move) ?_
       refine qg_val (v := .slice (some ⟨b4, 0, none⟩) (HL.length) HL.length) rfl rfl rfl rfl rfl (e_move) ?_
       refine qg_val (v := Nx (k)) rfl rfl rfl rfl rfl (e_move) ?_
       refine qg_val (v := .pointer (some ((ba (some ⟨b4, 0, none⟩)).add (k * 1)))) rfl rfl rfl rfl rfl (e_indexFlN 2 (F := H3F) (j := k) (m := HL.length) (xs := (ys.map gh3)) rfl (by simp only [List.length_append, List.length_map, List.length_replicate, List.length_cons, List.length_set]; omega) rfl tw86 (by omega) rfl) ?_
       refine qg_val (v := .slice zq (zn + 64) ze) rfl rfl rfl rfl rfl (e_load1 tw27 (v := .slice zq (zn + 64) ze) rfl (k_flAt 2 (F := H3F) rfl hgk)) ?_
       refine qg_val (v := Nx (i)) rfl rfl rfl rfl rfl (e_move) ?_
       refine qg_val (v := .pointer (some ((ba zq).add (i * 2)))) rfl rfl rfl rfl rfl (e_indexFam2F 1 (F := HdF) (j := i) (m := zn + 64) rfl (by rw [List.length_append, mkL_len, mkL_len]; omega) rfl tw29 (by omega) rfl) ?_
       refine qg_val (v := .agg #[Ix ((mkHd k i).id), .slice ((mkHd k i).p) ((mkHd k i).n) ((mkHd k i).c)]) rfl rfl rfl rfl rfl (e_load tw7 (cs := [Ix ((mkHd k i).id), .slice ((mkHd k i).p) ((mkHd k i).n) ((mkHd k i).c)]) rfl (k_fam2F 1 (F := HdF) (j := i) (x := (mkHd k i)) rfl (mkL_at2 (by omega))) rfl) ?_
       refine qg_val (v := Nx (k)) rfl rfl rfl rfl rfl (e_move) ?_
       refine qg_val (v := Nx (i)) rfl rfl rfl rfl rfl (e_move) ?_
       refine qg_call (v := .agg #[Ix ((mkHd k i).id), .slice ((mkHd k i).p) ((mkHd k i).n) ((mkHd k i).c)]) rfl rfl rfl rfl rfl (cl_value (fst := []) (cap := []) (vs := [Nx (k), Nx (i)]) (all := [Nx (k), Nx (i)]) tw76 rfl rfl rfl) (fun w hw => ?_) ?_
       ·obtain ⟨β1, sb, kn, hw1, back⟩ := St.frame_all hw
        exact (markEk_ok β1 w hw1 k i (by omega) (by omega)).mono (fun e w' ⟨he, hw'⟩ => ⟨he, st_mask [true, true, true] rfl (back _ _ hw')⟩)
       refine qg_call (v := .bool true) rfl rfl rfl rfl rfl (cl_value (fst := []) (cap := []) (vs := [.agg #[Ix ((mkHd k i).id), .slice ((mkHd k i).p) ((mkHd k i).n) ((mkHd k i).c)], .agg #[Ix ((mkHd k i).id), .slice ((mkHd k i).p) ((mkHd k i).n) ((mkHd k i).c)]]) (all := [.agg #[Ix ((mkHd k i).id), .slice ((mkHd k i).p) ((mkHd k i).n) ((mkHd k i).c)], .agg #[Ix ((mkHd k i).id), .slice ((mkHd k i).p) ((mkHd k i).n) ((mkHd k i).c)]]) tw89 rfl rfl rfl) (fun w hw => ?_) ?_
       ·obtain ⟨β1, sb, kn, hw1, back⟩ := St.frame_all hw
        exact (sameEk_ok β1 w hw1 k i).mono (fun e w' ⟨he, hw'⟩ => ⟨he, st_mask [true, true, true] rfl (back _ _ hw')⟩)
       refine qg_val (v := .bool false) rfl rfl rfl rfl rfl (e_not (a := true) rfl) ?_
       refine q_val (v := .bool false) rfl rfl rfl (e_pick_f rfl) ?_
       refine q_nil ?_
       refine f_then ?_
       refine c_no rfl ?_
       refine c_skip ?_
       refine f_block ?_
       refine f_then ?_
       refine c_region ?_
       refine l_val (v := Nx (i)) rfl rfl rfl (e_move) ?_
       refine l_val (v := Nx (i + 1)) rfl rfl rfl (e_add (a := ((i : Nat) : Int)) (b := (1 : Int)) rfl rfl (i64n (by omega) (by omega))) ?_
       refine l_val (v := Nx (i + 1)) rfl rfl rfl (e_assign) ?_
       refine l_nil ?_
       exact f_cut ⟨i + 1, ⟨⟨rfl, rfl, rfl, rfl⟩, rfl, by omega⟩, (show zn - (i + 1) < zn - i from by omega)⟩
      ·
       refine c_exit ?_
       refine f_then_exit ?_
       refine f_then_exit ?_
       refine f_exit ?_
       refine f_block ?_
       refine f_then ?_
       refine c_putN k (fromK_at0 _ hzk) rfl ?_
       refine c_re (L' := [Sat (fromK (famM HdF 59 mkHd HL.length) 0 ys), rowF H3F 22 (some ⟨b4, 0, none⟩) HL.length (ys.map gh3)]) rfl ?_
       refine c_region ?_
       refine l_val (v := Nx (k)) rfl rfl rfl (e_move) ?_
       refine l_val (v := Nx (k + 1)) rfl rfl rfl (e_add (a := ((k : Nat) : Int)) (b := (1 : Int)) rfl rfl (i64n (by omega) (by omega))) ?_
       refine l_val (v := Nx (k + 1)) rfl rfl rfl (e_assign) ?_
       refine l_nil ?_
       exact f_cut ⟨k + 1, ⟨⟨rfl, rfl, rfl⟩, rfl, by omega⟩, (show HL.length - (k + 1) < HL.length - k from by omega)⟩
     ·
      refine c_exit ?_
      refine f_then_exit ?_
      refine f_then_exit ?_
      refine f_exit ?_
      refine f_then ?_
      refine c_seq ?_
      refine c_region ?_
      refine l_val (v := .bool true) rfl rfl rfl (e_assign) ?_
      refine l_nil ?_
      refine f_then ?_
      refine c_ret ?_
      refine ret1 Tryz.results125 (v := .bool true) rfl ?_
      intro w hw
      exact ⟨rfl, st_mask [false, false] rfl hw⟩
set_option maxHeartbeats 4000000 in
theorem flatW_ok (β : Base) (w : World) (v : Value) (HL : List H3) (hv : List (HV KWd)) (hhs : HL = hv.map HV.h) (hls : Sl H3F.R β.heap v HL) (hn : HL.length ≤ 1000) (hbd : ∀ v ∈ hv, v.xs.length ≤ 1000000) (hw : St β [Sat (hv.map (ownV WdF 24))] w) : Calls Tryz.prog 126 #[v] w fun r w' => r = .returned (.bool true) ∧ St β [] w' := by
 have hbd0 : ∀ h ∈ HL, h.n ≤ 1000000 := fun h hh => by rw [hhs] at hh; obtain ⟨v, hv_, rfl⟩ := List.mem_map.1 hh; exact hbd v hv_
 obtain ⟨lsa, lsc, rfl, lsl, lsm, lse⟩ := hls.get
 refine enter (n := 193) Tryz.func126 rfl Tryz.ntmps126 rfl ?_ hw
 refine c_seq ?_
 refine c_region ?_
 refine l_val (v := .bool false) rfl rfl rfl (e_assign) ?_
 refine l_nil ?_
 refine f_then ?_
 refine c_seq ?_
 refine c_seq ?_
 refine c_emp (r := Sat (fromK (rowK WdF 24 mkWd) 0 [])) trivial ?_
 refine c_region ?_
 refine l_val (v := .int .i64 (0)) rfl rfl rfl (e_assign) ?_
 refine l_nil ?_
 refine f_then ?_
 refine c_block ?_
 refine c_loop (fun (x_ : List H3 × List (HV KWd)) (f : Fm) (L : List Res) => match x_ with | (pre, post) => (f 0 = .slice lsa (HL.length) (lsc) ∧ f 3 = Nx (pre.length)) ∧ L = [Sat (fromK (rowK WdF 24 mkWd) 0 pre), Sat (post.map (ownV WdF 24))] ∧ (HL = pre ++ post.map HV.h ∧ ∀ v ∈ post, v.xs.length ≤ 1000000)) (fun (x_ : List H3 × List (HV KWd)) => match x_ with | (pre, post) => post.length) ([], hv) ?_ ?_
 ·exact ⟨⟨rfl, rfl⟩, rfl, ⟨hhs, hbd⟩⟩
 rintro ⟨pre, post⟩ f0 L0 ⟨⟨hs0, hs3⟩, hL, ⟨hpp, hbp⟩⟩
 subst L0
 refine rebase (d := 0) hs0 ?_
 refine rebase (d := 3) hs3 ?_
 clear hs0 hs3
 have hlen : HL.length = pre.length + post.length := by rw [hpp, List.length_append, List.length_map]
 refine c_seq ?_
 refine c_seq ?_
 refine c_region ?_
 refine l_val (v := Nx (pre.length)) rfl rfl rfl (e_move) ?_
 refine l_val (v := .slice lsa (HL.length) (lsc)) rfl rfl rfl (e_move) ?_
 refine l_val (v := Nx (HL.length)) rfl rfl rfl (e_len (a := lsa) (n := HL.length) (c := lsc) rfl tw90) ?_
 refine l_val (v := .bool (decide (((pre.length : Nat) : Int) < ((HL.length : Nat) : Int)))) rfl rfl rfl (e_lss (a := ((pre.length : Nat) : Int)) (b := ((HL.length : Nat) : Int)) rfl rfl) ?_
 refine l_nil ?_
 refine f_then ?_
 refine c_if (((pre.length : Nat) : Int) < ((HL.length : Nat) : Int)) rfl (fun hc1 => ?_) (fun hc1 => ?_)
 ·
  refine c_skip ?_
  refine f_then ?_
  refine c_seq ?_
  refine c_block ?_
  refine c_seq ?_
  obtain ⟨⟨xp, xc, xs⟩, po, hpo⟩ := uncons hlen (by omega)
  have hx : HL[pre.length]? = some (⟨xp, xs.length, xc⟩ : H3) := by rw [hpp, hpo]; exact mid_at rfl
  have hxl : xs.length ≤ 1000000 := hbp ⟨xp, xc, xs⟩ (by rw [hpo]; exact List.mem_cons_self)
  obtain ⟨hxa, cs_, hxc, rfl⟩ := lse _ _ hx
  refine c_perm (L' := [Sat (post.map (ownV WdF 24)), Sat (fromK (rowK WdF 24 mkWd) 0 pre)]) (perm_ix [1, 0] 2 rfl (by kernel_rfl) (by kernel_rfl)) ?_
  rw [hpo]
  refine c_headR (r := rowF WdF 24 xp xc xs) (Ls := po.map (ownV WdF 24)) (M := [Sat (fromK (rowK WdF 24 mkWd) 0 pre)]) rfl ?_
  refine c_region ?_
  refine l_val (v := .int .i64 (0)) rfl rfl rfl (e_assign) ?_
  refine l_nil ?_
  refine f_then ?_
  refine c_block ?_
  refine c_loop (fun (i : Nat) (f : Fm) (L : List Res) => (f 0 = .slice lsa (HL.length) (lsc) ∧ f 3 = Nx (pre.length) ∧ f 4 = Nx (i)) ∧ L = [Sat (po.map (ownV WdF 24)), rowF WdF 24 xp xc ((mkL mkWd pre.length i) ++ xs.drop i), Sat (fromK (rowK WdF 24 mkWd) 0 pre)] ∧ (i ≤ xs.length)) (fun (i : Nat) => xs.length - i) 0 ?_ ?_
  ·exact ⟨⟨rfl, rfl, rfl⟩, by rw [mkp_zero], by omega⟩
  rintro i f0 L0 ⟨⟨hs0, hs3, hs4⟩, hL, hi⟩
  subst L0
  refine rebase (d := 0) hs0 ?_
  refine rebase (d := 3) hs3 ?_
  refine rebase (d := 4) hs4 ?_
  clear hs0 hs3 hs4
  refine c_seq ?_
  refine c_seq ?_
  refine c_region ?_
  refine l_val (v := Nx (i)) rfl rfl rfl (e_move) ?_
  refine l_val (v := .slice lsa (HL.length) (lsc)) rfl rfl rfl (e_move) ?_
  refine l_val (v := Nx (pre.length)) rfl rfl rfl (e_move) ?_
  refine l_val (v := .pointer (some ((ba lsa).add (pre.length * 1)))) rfl rfl rfl (e_indexAddr (k := pre.length) (len := HL.length) (cap := lsc) (a := lsa) rfl rfl tw91 (by omega) hxa) ?_
  refine l_val (v := .slice xp (xs.length) xc) rfl rfl rfl (e_load1 tw92 (v := .slice xp (xs.length) xc) rfl (Knows.of_base (Cs.mono _ _) hxc)) ?_
  refine l_val (v := Nx (xs.length)) rfl rfl rfl (e_len (a := xp) (n := xs.length) (c := xc) rfl tw93) ?_
  refine l_val (v := .bool (decide (((i : Nat) : Int) < ((xs.length : Nat) : Int)))) rfl rfl rfl (e_lss (a := ((i : Nat) : Int)) (b := ((xs.length : Nat) : Int)) rfl rfl) ?_
  refine l_nil ?_
  refine f_then ?_
  refine c_if (((i : Nat) : Int) < ((xs.length : Nat) : Int)) rfl (fun hc2 => ?_) (fun hc2 => ?_)
  ·
   refine c_skip ?_
   refine f_then ?_
   refine c_seq ?_
   refine c_block ?_
   refine c_any [⟨[], [], [0], [31], fun f => f 31 = .slice lsa (HL.length) (lsc)⟩, ⟨[], [], [1], [32], fun f => f 32 = Nx (pre.length)⟩, ⟨[0, 1], [0, 1], [], [33], fun f => f 33 = .pointer (some ((ba lsa).add (pre.length * 1)))⟩, ⟨[0, 1, 2], [2], [], [34], fun f => f 34 = .slice xp (xs.length) xc⟩, ⟨[], [], [2], [35], fun f => f 35 = Nx (i)⟩, ⟨[], [], [1], [36], fun f => f 36 = Nx (pre.length)⟩, ⟨[], [], [2], [37], fun f => f 37 = Nx (i)⟩, ⟨[5, 6], [5, 6], [], [38], fun f => f 38 = .agg #[Ix ((mkWd pre.length i).tick), .slice ((mkWd pre.length i).p) ((mkWd pre.length i).n) ((mkWd pre.length i).c)]⟩, ⟨[0, 1, 2, 3, 4, 5, 6, 7], [3, 4], [], [39], fun f => f 39 = .pointer (some ((ba xp).add (i * 2)))⟩, ⟨[0, 1, 2, 3, 4, 5, 6, 7, 8], [8, 7], [], [], fun _ => True⟩] [⟨none, none, [], [], fun _ => Sat (po.map (ownV WdF 24))⟩, ⟨none, (some 9), [8, 9], [], fun _ => rowF WdF 24 xp xc ((mkL mkWd pre.length i) ++ xs.drop i)⟩, ⟨none, none, [], [], fun _ => Sat (fromK (rowK WdF 24 mkWd) 0 pre)⟩, ⟨(some 9), none, [], [], fun _ => rowF WdF 24 xp xc (((mkL mkWd pre.length i) ++ xs.drop i).set i (mkWd pre.length i))⟩] [(0, .slice lsa (HL.length) (lsc)), (3, Nx (pre.length)), (4, Nx (i))] [0, 1, 2] [] (by kernel_rfl) (by kernel_rfl) (by kernel_rfl) (by kernel_rfl) rfl ⟨rfl, rfl, rfl, trivial⟩ ⟨?_, ?_, ?_, ?_, ?_, ?_, ?_, ?_, ?_, ?_, trivial⟩ ?_
   ·rintro f M - ⟨i0, -⟩
    have hs0 : f 0 = .slice lsa (HL.length) (lsc) := i0
    refine ob_start (L' := M) (by rfl) (up_cons rfl hs0) ?_
    refine l_val (v := .slice lsa (HL.length) (lsc)) rfl rfl rfl (e_move) ?_
    refine l_nil ?_
    exact f_owes_d (up_cons rfl hs0) rfl (List.Perm.refl _)
   ·rintro f M - ⟨i0, -⟩
    have hs3 : f 3 = Nx (pre.length) := i0
    refine ob_start (L' := M) (by rfl) (up_cons rfl hs3) ?_
    refine l_val (v := Nx (pre.length)) rfl rfl rfl (e_move) ?_
    refine l_nil ?_
    exact f_owes_d (up_cons rfl hs3) rfl (List.Perm.refl _)
   ·rintro f M ⟨k0, k1, -⟩ -
    have hs31 : f 31 = .slice lsa (HL.length) (lsc) := k0
    have hs32 : f 32 = Nx (pre.length) := k1
    refine ob_start (L' := M) (by rfl) (up_cons (up_cons rfl hs31) hs32) ?_
    refine l_val (v := .pointer (some ((ba lsa).add (pre.length * 1)))) rfl rfl rfl (e_indexAddr (k := pre.length) (len := HL.length) (cap := lsc) (a := lsa) rfl rfl tw91 (by omega) hxa) ?_
    refine l_nil ?_
    exact f_owes_d (up_cons (up_cons rfl hs31) hs32) rfl (List.Perm.refl _)
   ·rintro f M ⟨k0, -⟩ -
    have hs33 : f 33 = .pointer (some ((ba lsa).add (pre.length * 1))) := k0
    refine ob_start (L' := M) (by rfl) (up_cons rfl hs33) ?_
    refine l_val (v := .slice xp (xs.length) xc) rfl rfl rfl (e_load1 tw92 (v := .slice xp (xs.length) xc) rfl (Knows.of_base (Cs.mono _ _) hxc)) ?_
    refine l_nil ?_
    exact f_owes_d (up_cons rfl hs33) rfl (List.Perm.refl _)
   ·rintro f M - ⟨i0, -⟩
    have hs4 : f 4 = Nx (i) := i0
    refine ob_start (L' := M) (by rfl) (up_cons rfl hs4) ?_
    refine l_val (v := Nx (i)) rfl rfl rfl (e_move) ?_
    refine l_nil ?_
    exact f_owes_d (up_cons rfl hs4) rfl (List.Perm.refl _)
   ·rintro f M - ⟨i0, -⟩
    have hs3 : f 3 = Nx (pre.length) := i0
    refine ob_start (L' := M) (by rfl) (up_cons rfl hs3) ?_
    refine l_val (v := Nx (pre.length)) rfl rfl rfl (e_move) ?_
    refine l_nil ?_
    exact f_owes_d (up_cons rfl hs3) rfl (List.Perm.refl _)
   ·rintro f M - ⟨i0, -⟩
    have hs4 : f 4 = Nx (i) := i0
    refine ob_start (L' := M) (by rfl) (up_cons rfl hs4) ?_
    refine l_val (v := Nx (i)) rfl rfl rfl (e_move) ?_
    refine l_nil ?_
    exact f_owes_d (up_cons rfl hs4) rfl (List.Perm.refl _)
   ·rintro f M ⟨k0, k1, -⟩ -
    have hs36 : f 36 = Nx (pre.length) := k0
    have hs37 : f 37 = Nx (i) := k1
    refine ob_start (L' := M) (by rfl) (up_cons (up_cons rfl hs36) hs37) ?_
    refine l_call rfl rfl rfl (cl_value (fst := []) (cap := []) (vs := [Nx (pre.length), Nx (i)]) (all := [Nx (pre.length), Nx (i)]) tw94 rfl rfl rfl) ?_
    intro w hw
    obtain ⟨β1, sb, kn, hw1, back⟩ := St.frame_all hw
    refine (markWk_ok β1 w hw1 pre.length i (by omega) (by omega)).mono ?_
    rintro e w' ⟨rfl, hw'⟩
    refine ⟨_, rfl, _, back _ _ hw', ?_⟩
    clear hw hw1 hw' back kn sb
    refine l_nil ?_
    exact f_owes_d (up_cons (up_cons rfl hs36) hs37) rfl (List.Perm.refl _)
   ·rintro f M ⟨k0, k1, -⟩ -
    have hs34 : f 34 = .slice xp (xs.length) xc := k0
    have hs35 : f 35 = Nx (i) := k1
    refine ob_start (L' := rowF WdF 24 xp xc ((mkL mkWd pre.length i) ++ xs.drop i) :: M) (by rfl) (up_cons (up_cons rfl hs34) hs35) ?_
    refine l_val (v := .pointer (some ((ba xp).add (i * 2)))) rfl rfl rfl (e_indexFlN 0 (F := WdF) (j := i) (m := xs.length) (xs := ((mkL mkWd pre.length i) ++ xs.drop i)) rfl (mkp_len (by omega)).symm rfl tw95 (by omega) rfl) ?_
    refine l_nil ?_
    exact f_owes_d (up_cons (up_cons rfl hs34) hs35) rfl (perm_front 0 rfl)
   ·rintro f M ⟨k0, k1, -⟩ -
    have hs39 : f 39 = .pointer (some ((ba xp).add (i * 2))) := k0
    have hs38 : f 38 = .agg #[Ix ((mkWd pre.length i).tick), .slice ((mkWd pre.length i).p) ((mkWd pre.length i).n) ((mkWd pre.length i).c)] := k1
    refine ob_start (L' := rowF WdF 24 xp xc ((mkL mkWd pre.length i) ++ xs.drop i) :: M) (by rfl) (up_cons (up_cons rfl hs39) hs38) ?_
    refine l_mu rfl rfl (m_storeFl 0 (F := WdF) (p := xp) (k := i) (xs := ((mkL mkWd pre.length i) ++ xs.drop i)) (z := (mkWd pre.length i)) tw48 rfl rfl rfl rfl (by rw [mkp_len (by first | omega | (rw [List.length_replicate]; omega))]; (try rw [List.length_replicate]); omega)) ?_
    refine l_nil ?_
    exact f_owes_n (up_cons (up_cons rfl hs39) hs38) trivial (perm_front 0 rfl)
   rintro fa3 ⟨-, -, -, -, -, -, -, -, -, -, -⟩ ⟨j0, j1, j2, -⟩
   refine f_re (L' := [Sat (po.map (ownV WdF 24)), Sat (fromK (rowK WdF 24 mkWd) 0 pre), rowF WdF 24 xp xc (((mkL mkWd pre.length i) ++ xs.drop i).set i (mkWd pre.length i))]) (by rfl) ?_
   refine f_rebase (d := 0) (v := .slice lsa (HL.length) (lsc)) j0 ?_
   refine f_rebase (d := 3) (v := Nx (pre.length)) j1 ?_
   refine f_rebase (d := 4) (v := Nx (i)) j2 ?_
   refine f_block ?_
   refine f_then ?_
   refine c_region ?_
   refine l_val (v := Nx (i)) rfl rfl rfl (e_move) ?_
   refine l_val (v := Nx (i + 1)) rfl rfl rfl (e_add (a := ((i : Nat) : Int)) (b := (1 : Int)) rfl rfl (i64n (by omega) (by omega))) ?_
   refine l_val (v := Nx (i + 1)) rfl rfl rfl (e_assign) ?_
   refine l_nil ?_
   refine f_perm (L' := [Sat (po.map (ownV WdF 24)), rowF WdF 24 xp xc (((mkL mkWd pre.length i) ++ xs.drop i).set i (mkWd pre.length i)), Sat (fromK (rowK WdF 24 mkWd) 0 pre)]) (perm_ix [0, 2, 1] 3 rfl (by kernel_rfl) (by kernel_rfl)) ?_
   exact f_cut ⟨i + 1, ⟨⟨rfl, rfl, rfl⟩, by rw [mkp_step (by omega)], by omega⟩, (show xs.length - (i + 1) < xs.length - i from by omega)⟩
  ·
   refine c_exit ?_
   refine f_then_exit ?_
   refine f_then_exit ?_
   refine f_exit ?_
   refine f_block ?_
   refine f_then ?_
   obtain rfl : i = xs.length := by omega
   rw [mkp_done (Nat.le_refl _)]
   refine c_perm (L' := [Sat (fromK (rowK WdF 24 mkWd) 0 pre), rowF WdF 24 xp xc (mkL mkWd pre.length xs.length), Sat (po.map (ownV WdF 24))]) (perm_ix [2, 1, 0] 3 rfl (by kernel_rfl) (by kernel_rfl)) ?_
   refine c_snocR (Ls' := fromK (rowK WdF 24 mkWd) 0 (pre ++ [(⟨xp, xs.length, xc⟩ : H3)])) (M := [Sat (po.map (ownV WdF 24))]) rfl (snocK (rowK WdF 24 mkWd) (⟨xp, xs.length, xc⟩ : H3) pre) ?_
   refine c_region ?_
   refine l_val (v := Nx (pre.length)) rfl rfl rfl (e_move) ?_
   refine l_val (v := Nx (pre.length + 1)) rfl rfl rfl (e_add (a := ((pre.length : Nat) : Int)) (b := (1 : Int)) rfl rfl (i64n (by omega) (by omega))) ?_
   refine l_val (v := Nx (pre.length + 1)) rfl rfl rfl (e_assign) ?_
   refine l_nil ?_
   exact f_cut ⟨((pre ++ [(⟨xp, xs.length, xc⟩ : H3)]), po), ⟨⟨rfl, congrArg (fun z : Nat => Nx z) (by rw [List.length_append]; rfl)⟩, rfl, ⟨by rw [hpp, hpo, List.append_assoc]; rfl, fun v hv => hbp v (by rw [hpo]; exact List.mem_cons_of_mem _ hv)⟩⟩, (Nat.lt_succ_self po.length)⟩
 ·
  refine c_exit ?_
  refine f_then_exit ?_
  refine f_then_exit ?_
  refine f_exit ?_
  refine f_then ?_
  refine c_seq ?_
  have hlen : HL.length = pre.length + post.length := by rw [hpp, List.length_append, List.length_map]
  obtain rfl := unnil hlen (by omega)
  obtain rfl : HL = pre := by rw [hpp, List.map_nil, List.append_nil]
  refine c_mask [true, false] rfl ?_
  refine c_region ?_
  refine l_val (v := .slice lsa (HL.length) (lsc)) rfl rfl rfl (e_move) ?_
  refine l_val (v := Nx (HL.length)) rfl rfl rfl (e_len (a := lsa) (n := HL.length) (c := lsc) rfl tw90) ?_
  refine l_mv rfl rfl rfl (m_makeFl (F := H3F) (x0 := (⟨none, 0, 0⟩ : H3)) (c := HL.length) tw91 tw96 tw97 rfl rfl rfl (by unfold maxLen; omega) (by omega)) ?_
  rintro _ _ ⟨b4, rfl, rfl⟩
  refine l_val (v := .slice (some ⟨b4, 0, none⟩) (HL.length) HL.length) rfl rfl rfl (e_assign) ?_
  refine l_nil ?_
  refine f_then ?_
  refine c_seq ?_
  refine c_seq ?_
  refine c_emp (r := Sat (fromK (famK WdF 24 mkWd) 0 [])) trivial ?_
  refine c_perm (L' := [Sat (fromK (famK WdF 24 mkWd) 0 []), Sat (fromK (rowK WdF 24 mkWd) 0 HL), rowF H3F 68 (some ⟨b4, 0, none⟩) HL.length (List.replicate HL.length (⟨none, 0, 0⟩ : H3))]) (perm_ix [0, 2, 1] 3 rfl (by kernel_rfl) (by kernel_rfl)) ?_
  refine c_region ?_
  refine l_val (v := .int .i64 (0)) rfl rfl rfl (e_assign) ?_
  refine l_nil ?_
  refine f_then ?_
  refine c_block ?_
  refine c_loop (fun (x_ : List Z5 × List H3) (f : Fm) (L : List Res) => match x_ with | (zs, post) => (f 0 = .slice lsa (HL.length) (lsc) ∧ f 5 = .slice (some ⟨b4, 0, none⟩) (HL.length) HL.length ∧ f 6 = Nx (zs.length)) ∧ L = [Sat (fromK (famK WdF 24 mkWd) 0 zs), Sat (fromK (rowK WdF 24 mkWd) zs.length post), rowF H3F 68 (some ⟨b4, 0, none⟩) HL.length (zs.map gh3 ++ List.replicate post.length (⟨none, 0, 0⟩ : H3))] ∧ (HL = zs.map Z5.h ++ post)) (fun (x_ : List Z5 × List H3) => match x_ with | (zs, post) => post.length) ([], HL) ?_ ?_
  ·exact ⟨⟨rfl, rfl, rfl⟩, rfl, rfl⟩
  rintro ⟨zs, post⟩ f0 L0 ⟨⟨hs0, hs5, hs6⟩, hL, hpp⟩
  subst L0
  refine rebase (d := 0) hs0 ?_
  refine rebase (d := 5) hs5 ?_
  refine rebase (d := 6) hs6 ?_
  clear hs0 hs5 hs6
  have hlen : HL.length = zs.length + post.length := by rw [hpp, List.length_append, List.length_map]
  refine c_seq ?_
  refine c_seq ?_
  refine c_region ?_
  refine l_val (v := Nx (zs.length)) rfl rfl rfl (e_move) ?_
  refine l_val (v := .slice lsa (HL.length) (lsc)) rfl rfl rfl (e_move) ?_
  refine l_val (v := Nx (HL.length)) rfl rfl rfl (e_len (a := lsa) (n := HL.length) (c := lsc) rfl tw90) ?_
  refine l_val (v := .bool (decide (((zs.length : Nat) : Int) < ((HL.length : Nat) : Int)))) rfl rfl rfl (e_lss (a := ((zs.length : Nat) : Int)) (b := ((HL.length : Nat) : Int)) rfl rfl) ?_
  refine l_nil ?_
  refine f_then ?_
  refine c_if (((zs.length : Nat) : Int) < ((HL.length : Nat) : Int)) rfl (fun hc5 => ?_) (fun hc5 => ?_)
  ·
   refine c_skip ?_
   refine f_then ?_
   refine c_seq ?_
   refine c_block ?_
   refine c_seq ?_
   obtain ⟨⟨xp, xn, xc⟩, po, hpo⟩ := uncons hlen (by omega)
   have hx : HL[zs.length]? = some (⟨xp, xn, xc⟩ : H3) := by rw [hpp, hpo]; exact mid_at (List.length_map _).symm
   have hxl : xn ≤ 1000000 := hbd0 _ (List.mem_of_getElem? hx)
   obtain ⟨hxa, cs_, hxc, rfl⟩ := lse _ _ hx
   refine c_perm (L' := [Sat (fromK (rowK WdF 24 mkWd) zs.length post), Sat (fromK (famK WdF 24 mkWd) 0 zs), rowF H3F 68 (some ⟨b4, 0, none⟩) HL.length (zs.map gh3 ++ List.replicate post.length (⟨none, 0, 0⟩ : H3))]) (perm_ix [1, 0, 2] 3 rfl (by kernel_rfl) (by kernel_rfl)) ?_
   rw [hpo]
   refine c_headR (r := rowF WdF 24 xp xc (mkL mkWd zs.length xn)) (Ls := fromK (rowK WdF 24 mkWd) (zs.length + 1) po) (M := [Sat (fromK (famK WdF 24 mkWd) 0 zs), rowF H3F 68 (some ⟨b4, 0, none⟩) HL.length (zs.map gh3 ++ (⟨none, 0, 0⟩ : H3) :: List.replicate po.length (⟨none, 0, 0⟩ : H3))]) rfl ?_
   have hpl : post.length = po.length + 1 := by rw [hpo]; rfl
   refine c_region ?_
   refine l_val (v := .slice lsa (HL.length) (lsc)) rfl rfl rfl (e_move) ?_
   refine l_val (v := Nx (zs.length)) rfl rfl rfl (e_move) ?_
   refine l_val (v := .pointer (some ((ba lsa).add (zs.length * 1)))) rfl rfl rfl (e_indexAddr (k := zs.length) (len := HL.length) (cap := lsc) (a := lsa) rfl rfl tw91 (by omega) hxa) ?_
   refine l_val (v := .slice xp (xn) xc) rfl rfl rfl (e_load1 tw92 (v := .slice xp (xn) xc) rfl (Knows.of_base (Cs.mono _ _) hxc)) ?_
   refine l_val (v := .slice xp (xn) xc) rfl rfl rfl (e_assign) ?_
   refine l_nil ?_
   refine f_then ?_
   refine c_seq ?_
   refine c_seq ?_
   refine c_conseq 1 (r' := famF WdF 24 xp xc (mkL mkWd zs.length xn) xp xc (mkL mkWd zs.length xn)) rfl famF_start ?_
   refine c_region ?_
   refine l_val (v := .int .i64 (0)) rfl rfl rfl (e_assign) ?_
   refine l_nil ?_
   refine f_then ?_
   refine c_block ?_
   refine c_loop (fun (x_ : Nat × Option Addr × Nat) (f : Fm) (L : List Res) => match x_ with | (i, q, e) => (f 0 = .slice lsa (HL.length) (lsc) ∧ f 5 = .slice (some ⟨b4, 0, none⟩) (HL.length) HL.length ∧ f 6 = Nx (zs.length) ∧ f 7 = .slice q (xn + i) e ∧ f 8 = Nx (i)) ∧ L = [Sat (fromK (rowK WdF 24 mkWd) (zs.length + 1) po), famF WdF 24 xp xc (mkL mkWd zs.length xn) q e (mkL mkWd zs.length (xn + i)), Sat (fromK (famK WdF 24 mkWd) 0 zs), rowF H3F 68 (some ⟨b4, 0, none⟩) HL.length (zs.map gh3 ++ (⟨none, 0, 0⟩ : H3) :: List.replicate po.length (⟨none, 0, 0⟩ : H3))] ∧ (i ≤ 64)) (fun (x_ : Nat × Option Addr × Nat) => match x_ with | (i, q, e) => 64 - i) (0, xp, xc) ?_ ?_
   ·exact ⟨⟨rfl, rfl, rfl, rfl, rfl⟩, rfl, by omega⟩
   rintro ⟨i, q, e⟩ f0 L0 ⟨⟨hs0, hs5, hs6, hs7, hs8⟩, hL, hi⟩
   subst L0
   refine rebase (d := 0) hs0 ?_
   refine rebase (d := 5) hs5 ?_
   refine rebase (d := 6) hs6 ?_
   refine rebase (d := 7) hs7 ?_
   refine rebase (d := 8) hs8 ?_
   clear hs0 hs5 hs6 hs7 hs8
   refine c_seq ?_
   refine c_seq ?_
   refine c_region ?_
   refine l_val (v := Nx (i)) rfl rfl rfl (e_move) ?_
   refine l_val (v := .bool (decide (((i : Nat) : Int) < (64 : Int)))) rfl rfl rfl (e_lss (a := ((i : Nat) : Int)) (b := (64 : Int)) rfl rfl) ?_
   refine l_nil ?_
   refine f_then ?_
   refine c_if (((i : Nat) : Int) < (64 : Int)) rfl (fun hc6 => ?_) (fun hc6 => ?_)
   ·
    refine c_skip ?_
    refine f_then ?_
    refine c_seq ?_
    refine c_block ?_
    refine c_region ?_
    refine l_val (v := .slice q (xn + i) e) rfl rfl rfl (e_move) ?_
    refine l_val (v := Nx (zs.length)) rfl rfl rfl (e_move) ?_
    refine l_val (v := .slice lsa (HL.length) (lsc)) rfl rfl rfl (e_move) ?_
    refine l_val (v := Nx (zs.length)) rfl rfl rfl (e_move) ?_
    refine l_val (v := .pointer (some ((ba lsa).add (zs.length * 1)))) rfl rfl rfl (e_indexAddr (k := zs.length) (len := HL.length) (cap := lsc) (a := lsa) rfl rfl tw91 (by omega) hxa) ?_
    refine l_val (v := .slice xp (xn) xc) rfl rfl rfl (e_load1 tw92 (v := .slice xp (xn) xc) rfl (Knows.of_base (Cs.mono _ _) hxc)) ?_
    refine l_val (v := Nx (xn)) rfl rfl rfl (e_len (a := xp) (n := xn) (c := xc) rfl tw93) ?_
    refine l_val (v := Nx (i)) rfl rfl rfl (e_move) ?_
    refine l_val (v := Nx (xn + i)) rfl rfl rfl (e_add (a := ((xn : Nat) : Int)) (b := ((i : Nat) : Int)) rfl rfl (i64n (by omega) (by omega))) ?_
    refine l_call rfl rfl rfl (cl_value (fst := []) (cap := []) (vs := [Nx (zs.length), Nx (xn + i)]) (all := [Nx (zs.length), Nx (xn + i)]) tw94 rfl rfl rfl) ?_
    intro w hw
    obtain ⟨β1, sb, kn, hw1, back⟩ := St.frame_all hw
    refine (markWk_ok β1 w hw1 zs.length (xn + i) (by omega) (by omega)).mono ?_
    rintro e w' ⟨rfl, hw'⟩
    refine ⟨_, rfl, _, back _ _ hw', ?_⟩
    clear hw hw1 hw' back kn sb
    refine l_mv rfl rfl rfl (m_slices tw95 tw45 (vs := [(0, .agg #[Ix ((mkWd zs.length (xn + i)).tick), .slice ((mkWd zs.length (xn + i)).p) ((mkWd zs.length (xn + i)).n) ((mkWd zs.length (xn + i)).c)])]) (cells := #[Ix ((mkWd zs.length (xn + i)).tick), .slice ((mkWd zs.length (xn + i)).p) ((mkWd zs.length (xn + i)).n) ((mkWd zs.length (xn + i)).c)]) rfl rfl rfl rfl) ?_
    rintro _ _ ⟨b7, rfl, rfl⟩
    refine l_mv rfl rfl rfl (m_append_famF (F := WdF) 2 tw95 tw98 (q := q) (m := xn + i) (e := e) (zs := [(mkWd zs.length (xn + i))]) (ad := ⟨b7, 0, none⟩) (k := 1) (cc := 1) rfl rfl (mkL_len _ _).symm rfl rfl (k_pt 0 (cs := #[Ix ((mkWd zs.length (xn + i)).tick), .slice ((mkWd zs.length (xn + i)).p) ((mkWd zs.length (xn + i)).n) ((mkWd zs.length (xn + i)).c)]) (vs := [Ix ((mkWd zs.length (xn + i)).tick), .slice ((mkWd zs.length (xn + i)).p) ((mkWd zs.length (xn + i)).n) ((mkWd zs.length (xn + i)).c)]) rfl rfl) (by omega) (by unfold maxLen; omega) (by omega)) ?_
    rintro _ _ ⟨rp8, rc9, rfl, rfl⟩
    refine l_val (v := .slice rp8 (xn + i + 1) rc9) rfl rfl rfl (e_assign) ?_
    refine l_nil ?_
    refine f_block ?_
    refine f_then ?_
    refine c_region ?_
    refine l_val (v := Nx (i)) rfl rfl rfl (e_move) ?_
    refine l_val (v := Nx (i + 1)) rfl rfl rfl (e_add (a := ((i : Nat) : Int)) (b := (1 : Int)) rfl rfl (i64n (by omega) (by omega))) ?_
    refine l_val (v := Nx (i + 1)) rfl rfl rfl (e_assign) ?_
    refine l_nil ?_
    refine f_mask (L' := [Sat (fromK (rowK WdF 24 mkWd) (zs.length + 1) po), famF WdF 24 xp xc (mkL mkWd zs.length xn) rp8 rc9 ((mkL mkWd zs.length (xn + i)) ++ [(mkWd zs.length (xn + i))]), Sat (fromK (famK WdF 24 mkWd) 0 zs), rowF H3F 68 (some ⟨b4, 0, none⟩) HL.length (zs.map gh3 ++ (⟨none, 0, 0⟩ : H3) :: List.replicate po.length (⟨none, 0, 0⟩ : H3))]) [false, true, true, true, true] rfl ?_
    exact f_cut ⟨(i + 1, rp8, rc9), ⟨⟨rfl, rfl, rfl, rfl, rfl⟩, by rw [mkL_succ] <;> rfl, by omega⟩, (show 64 - (i + 1) < 64 - i from by omega)⟩
   ·
    refine c_exit ?_
    refine f_then_exit ?_
    refine f_then_exit ?_
    refine f_exit ?_
    refine f_then ?_
    refine c_region ?_
    refine l_val (v := .slice (some ⟨b4, 0, none⟩) (HL.length) HL.length) rfl rfl rfl (e_move) ?_
    refine l_val (v := Nx (zs.length)) rfl rfl rfl (e_move) ?_
    refine l_val (v := .slice q (xn + i) e) rfl rfl rfl (e_move) ?_
    refine l_val (v := .pointer (some ((ba (some ⟨b4, 0, none⟩)).add (zs.length * 1)))) rfl rfl rfl (e_indexFlN 3 (F := H3F) (j := zs.length) (m := HL.length) (xs := (zs.map gh3 ++ (⟨none, 0, 0⟩ : H3) :: List.replicate po.length (⟨none, 0, 0⟩ : H3))) rfl (by simp only [List.length_append, List.length_map, List.length_replicate, List.length_cons, List.length_set]; omega) rfl tw91 (by omega) rfl) ?_
    refine l_mu rfl rfl (m_storeFl 3 (F := H3F) (p := (some ⟨b4, 0, none⟩)) (k := zs.length) (xs := (zs.map gh3 ++ (⟨none, 0, 0⟩ : H3) :: List.replicate po.length (⟨none, 0, 0⟩ : H3))) (z := (⟨q, xn + i, e⟩ : H3)) tw92 rfl rfl rfl rfl (by simp only [List.length_append, List.length_map, List.length_replicate, List.length_cons]; omega)) ?_
    refine l_nil ?_
    refine f_block ?_
    refine f_then ?_
    obtain rfl : i = 64 := by omega
    refine c_perm (L' := [Sat (fromK (famK WdF 24 mkWd) 0 zs), famF WdF 24 xp xc (mkL mkWd zs.length xn) q e (mkL mkWd zs.length (xn + 64)), Sat (fromK (rowK WdF 24 mkWd) (zs.length + 1) po), rowF H3F 68 (some ⟨b4, 0, none⟩) HL.length ((zs.map gh3 ++ (⟨none, 0, 0⟩ : H3) :: List.replicate po.length (⟨none, 0, 0⟩ : H3)).set zs.length (⟨q, xn + 64, e⟩ : H3))]) (perm_ix [2, 1, 0, 3] 4 rfl (by kernel_rfl) (by kernel_rfl)) ?_
    refine c_re (L' := [Sat (fromK (famK WdF 24 mkWd) 0 zs), famF WdF 24 xp xc (mkL mkWd zs.length xn) q e (mkL mkWd zs.length (xn + 64)), Sat (fromK (rowK WdF 24 mkWd) (zs.length + 1) po), rowF H3F 68 (some ⟨b4, 0, none⟩) HL.length ((zs ++ [(⟨(⟨xp, xn, xc⟩ : H3), q, e⟩ : Z5)]).map gh3 ++ List.replicate po.length (⟨none, 0, 0⟩ : H3))]) (by rw [← gs_set]; rfl) ?_
    refine c_snocR (Ls' := fromK (famK WdF 24 mkWd) 0 (zs ++ [(⟨(⟨xp, xn, xc⟩ : H3), q, e⟩ : Z5)])) (M := [Sat (fromK (rowK WdF 24 mkWd) (zs.length + 1) po), rowF H3F 68 (some ⟨b4, 0, none⟩) HL.length ((zs ++ [(⟨(⟨xp, xn, xc⟩ : H3), q, e⟩ : Z5)]).map gh3 ++ List.replicate po.length (⟨none, 0, 0⟩ : H3))]) rfl (snocK (famK WdF 24 mkWd) (⟨(⟨xp, xn, xc⟩ : H3), q, e⟩ : Z5) zs) ?_
    refine c_region ?_
    refine l_val (v := Nx (zs.length)) rfl rfl rfl (e_move) ?_
    refine l_val (v := Nx (zs.length + 1)) rfl rfl rfl (e_add (a := ((zs.length : Nat) : Int)) (b := (1 : Int)) rfl rfl (i64n (by omega) (by omega))) ?_
    refine l_val (v := Nx (zs.length + 1)) rfl rfl rfl (e_assign) ?_
    refine l_nil ?_
    exact f_cut ⟨((zs ++ [⟨(⟨xp, xn, xc⟩ : H3), q, e⟩]), po), ⟨⟨rfl, rfl, congrArg (fun z : Nat => Nx z) (by rw [List.length_append]; rfl)⟩, by rw [List.length_append] <;> rfl, by rw [hpp, hpo, List.map_append, List.append_assoc]; rfl⟩, (Nat.lt_succ_self po.length)⟩
  ·
   refine c_exit ?_
   refine f_then_exit ?_
   refine f_then_exit ?_
   refine f_exit ?_
   refine f_then ?_
   refine c_seq ?_
   refine c_seq ?_
   have hlen : HL.length = zs.length + post.length := by rw [hpp, List.length_append, List.length_map]
   obtain rfl := unnil hlen (by omega)
   have hz : HL = zs.map Z5.h := by rw [hpp, List.append_nil]
   have hzl : zs.length = HL.length := by rw [hz, List.length_map]
   refine c_re (L' := [Sat (fromK (famK WdF 24 mkWd) 0 zs), Sat (fromK (rowK WdF 24 mkWd) zs.length ([] : List H3)), rowF H3F 68 (some ⟨b4, 0, none⟩) HL.length (zs.map gh3)]) (by rw [show List.replicate ([] : List H3).length (⟨none, 0, 0⟩ : H3) = [] from rfl, List.append_nil]) ?_
   refine c_mask [true, false, true] rfl ?_
   refine c_region ?_
   refine l_val (v := .int .i64 (0)) rfl rfl rfl (e_assign) ?_
   refine l_nil ?_
   refine f_then ?_
   refine c_block ?_
   refine c_loop (fun (k : Nat) (f : Fm) (L : List Res) => (f 0 = .slice lsa (HL.length) (lsc) ∧ f 5 = .slice (some ⟨b4, 0, none⟩) (HL.length) HL.length ∧ f 9 = Nx (k)) ∧ L = [Sat (fromK (famK WdF 24 mkWd) 0 zs), rowF H3F 68 (some ⟨b4, 0, none⟩) HL.length (zs.map gh3)] ∧ (k ≤ HL.length)) (fun (k : Nat) => HL.length - k) 0 ?_ ?_
   ·exact ⟨⟨rfl, rfl, rfl⟩, rfl, by omega⟩
   rintro k f0 L0 ⟨⟨hs0, hs5, hs9⟩, hL, hk⟩
   subst L0
   refine rebase (d := 0) hs0 ?_
   refine rebase (d := 5) hs5 ?_
   refine rebase (d := 9) hs9 ?_
   clear hs0 hs5 hs9
   refine c_seq ?_
   refine c_seq ?_
   refine c_region ?_
   refine l_val (v := Nx (k)) rfl rfl rfl (e_move) ?_
   refine l_val (v := .slice lsa (HL.length) (lsc)) rfl rfl rfl (e_move) ?_
   refine l_val (v := Nx (HL.length)) rfl rfl rfl (e_len (a := lsa) (n := HL.length) (c := lsc) rfl tw90) ?_
   refine l_val (v := .bool (decide (((k : Nat) : Int) < ((HL.length : Nat) : Int)))) rfl rfl rfl (e_lss (a := ((k : Nat) : Int)) (b := ((HL.length : Nat) : Int)) rfl rfl) ?_
   refine l_nil ?_
   refine f_then ?_
   refine c_if (((k : Nat) : Int) < ((HL.length : Nat) : Int)) rfl (fun hc10 => ?_) (fun hc10 => ?_)
   ·
    refine c_skip ?_
    refine f_then ?_
    refine c_seq ?_
    refine c_block ?_
    refine c_seq ?_
    obtain ⟨⟨⟨zp, zn, zc⟩, zq, ze⟩, hzk⟩ : ∃ z_, zs[k]? = some z_ := ⟨_, List.getElem?_eq_getElem (by omega)⟩
    have hx : HL[k]? = some (⟨zp, zn, zc⟩ : H3) := by rw [hz, List.getElem?_map, hzk]; rfl
    have hxl : zn ≤ 1000000 := hbd0 _ (List.mem_of_getElem? hx)
    have hgk : (zs.map gh3)[k]? = some (⟨zq, zn + 64, ze⟩ : H3) := by rw [List.getElem?_map, hzk]; rfl
    obtain ⟨hxa, cs_, hxc, rfl⟩ := lse _ _ hx
    refine c_takeN k (r := famF WdF 24 zp zc (mkL mkWd k zn) zq ze (mkL mkWd k (zn + 64))) (fromK_at0 _ hzk) rfl ?_
    refine c_region ?_
    refine l_val (v := .int .i64 (0)) rfl rfl rfl (e_assign) ?_
    refine l_nil ?_
    refine f_then ?_
    refine c_block ?_
    refine c_loop (fun (i : Nat) (f : Fm) (L : List Res) => (f 0 = .slice lsa (HL.length) (lsc) ∧ f 5 = .slice (some ⟨b4, 0, none⟩) (HL.length) HL.length ∧ f 9 = Nx (k) ∧ f 10 = Nx (i)) ∧ L = [Sat ((fromK (famK WdF 24 mkWd) 0 zs).eraseIdx k), famF WdF 24 zp zc (mkL mkWd k zn) zq ze (mkL mkWd k (zn + 64)), rowF H3F 68 (some ⟨b4, 0, none⟩) HL.length (zs.map gh3)] ∧ (i ≤ zn + 64)) (fun (i : Nat) => zn + 64 - i) 0 ?_ ?_
    ·exact ⟨⟨rfl, rfl, rfl, rfl⟩, rfl, by omega⟩
    rintro i f0 L0 ⟨⟨hs0, hs5, hs9, hs10⟩, hL, hi⟩
    subst L0
    refine rebase (d := 0) hs0 ?_
    refine rebase (d := 5) hs5 ?_
    refine rebase (d := 9) hs9 ?_
    refine rebase (d := 10) hs10 ?_
    clear hs0 hs5 hs9 hs10
    refine c_seq ?_
    refine c_seq ?_
    refine c_region ?_
    refine l_val (v := Nx (i)) rfl rfl rfl (e_move) ?_
    refine l_val (v := .slice (some ⟨b4, 0, none⟩) (HL.length) HL.length) rfl rfl rfl (e_move) ?_
    refine l_val (v := Nx (k)) rfl rfl rfl (e_move) ?_
    refine l_val (v := .pointer (some ((ba (some ⟨b4, 0, none⟩)).add (k * 1)))) rfl rfl rfl (e_indexFlN 2 (F := H3F) (j := k) (m := HL.length) (xs := (zs.map gh3)) rfl (by simp only [List.length_append, List.length_map, List.length_replicate, List.length_cons, List.length_set]; omega) rfl tw91 (by omega) rfl) ?_
    refine l_val (v := .slice zq (zn + 64) ze) rfl rfl rfl (e_load1 tw92 (v := .slice zq (zn + 64) ze) rfl (k_flAt 2 (F := H3F) rfl hgk)) ?_
    refine l_val (v := Nx (zn + 64)) rfl rfl rfl (e_len (a := zq) (n := zn + 64) (c := ze) rfl tw93) ?_
    refine l_val (v := .bool (decide (((i : Nat) : Int) < ((zn + 64 : Nat) : Int)))) rfl rfl rfl (e_lss (a := ((i : Nat) : Int)) (b := ((zn + 64 : Nat) : Int)) rfl rfl) ?_
    refine l_nil ?_
    refine f_then ?_
    refine c_if (((i : Nat) : Int) < ((zn + 64 : Nat) : Int)) rfl (fun hc11 => ?_) (fun hc11 => ?_)
    ·
     refine c_skip ?_
     refine f_then ?_
     refine c_seq ?_
     refine c_block ?_
     refine c_seq ?_
     refine c_quiet (by kernel_rfl) (by kernel_rfl) ?_
     refine q_val (v := .slice (some ⟨b4, 0, none⟩) (HL.length) HL.length) rfl rfl rfl (e_move) ?_
     refine q_val (v := Nx (k)) rfl rfl rfl (e_move) ?_
     refine q_val (v := .pointer (some ((ba (some ⟨b4, 0, none⟩)).add (k * 1)))) rfl rfl rfl (e_indexFlN 2 (F := H3F) (j := k) (m := HL.length) (xs := (zs.map gh3)) rfl (by simp only [List.length_append, List.length_map, List.length_replicate, List.length_cons, List.length_set]; omega) rfl tw91 (by omega) rfl) ?_
     refine q_val (v := .slice zq (zn + 64) ze) rfl rfl rfl (e_load1 tw92 (v := .slice zq (zn + 64) ze) rfl (k_flAt 2 (F := H3F) rfl hgk)) ?_
     refine q_val (v := Nx (i)) rfl rfl rfl (e_move) ?_
     refine q_val (v := .pointer (some ((ba zq).add (i * 2)))) rfl rfl rfl (e_indexFam2F 1 (F := WdF) (j := i) (m := zn + 64) rfl (by rw [mkL_len]; omega) rfl tw95 (by omega) rfl) ?_
     refine q_val (v := .agg #[Ix ((mkWd k i).tick), .slice ((mkWd k i).p) ((mkWd k i).n) ((mkWd k i).c)]) rfl rfl rfl (e_load tw48 (cs := [Ix ((mkWd k i).tick), .slice ((mkWd k i).p) ((mkWd k i).n) ((mkWd k i).c)]) rfl (k_fam2F 1 (F := WdF) (j := i) (x := (mkWd k i)) rfl (mkL_at (by omega))) rfl) ?_
     refine q_val (v := Nx (k)) rfl rfl rfl (e_move) ?_
     refine q_val (v := Nx (i)) rfl rfl rfl (e_move) ?_
     refine q_call (v := .agg #[Ix ((mkWd k i).tick), .slice ((mkWd k i).p) ((mkWd k i).n) ((mkWd k i).c)]) rfl rfl rfl (cl_value (fst := []) (cap := []) (vs := [Nx (k), Nx (i)]) (all := [Nx (k), Nx (i)]) tw94 rfl rfl rfl) (fun w hw => ?_) ?_
     ·obtain ⟨β1, sb, kn, hw1, back⟩ := St.frame_all hw
      exact (markWk_ok β1 w hw1 k i (by omega) (by omega)).mono (fun e w' ⟨he, hw'⟩ => ⟨he, st_mask [true, true, true] rfl (back _ _ hw')⟩)
     refine q_call (v := .bool true) rfl rfl rfl (cl_value (fst := []) (cap := []) (vs := [.agg #[Ix ((mkWd k i).tick), .slice ((mkWd k i).p) ((mkWd k i).n) ((mkWd k i).c)], .agg #[Ix ((mkWd k i).tick), .slice ((mkWd k i).p) ((mkWd k i).n) ((mkWd k i).c)]]) (all := [.agg #[Ix ((mkWd k i).tick), .slice ((mkWd k i).p) ((mkWd k i).n) ((mkWd k i).c)], .agg #[Ix ((mkWd k i).tick), .slice ((mkWd k i).p) ((mkWd k i).n) ((mkWd k i).c)]]) tw99 rfl rfl rfl) (fun w hw => ?_) ?_
     ·obtain ⟨β1, sb, kn, hw1, back⟩ := St.frame_all hw
      exact (sameWk_ok β1 w hw1 k i).mono (fun e w' ⟨he, hw'⟩ => ⟨he, st_mask [true, true, true] rfl (back _ _ hw')⟩)
     refine q_val (v := .bool false) rfl rfl rfl (e_not (a := true) rfl) ?_
     refine q_val (v := .bool false) rfl rfl rfl (e_move) ?_
     refine qg_val (v := Nx (i)) rfl rfl rfl rfl rfl (e_move) ?_
     refine qg_val (v := .slice lsa (HL.length) (lsc)) rfl rfl rfl rfl rfl (e_move) ?_
     refine qg_val (v := Nx (k)) rfl rfl rfl rfl rfl (e_move) ?_
     refine qg_val (v := .pointer (some ((ba lsa).add (k * 1)))) rfl rfl rfl rfl rfl (e_indexAddr (k := k) (len := HL.length) (cap := lsc) (a := lsa) rfl rfl tw91 (by omega) hxa) ?_
     refine qg_val (v := .slice zp (zn) zc) rfl rfl rfl rfl rfl (e_load1 tw92 (v := .slice zp (zn) zc) rfl (Knows.of_base (Cs.mono _ _) hxc)) ?_
     refine qg_val (v := Nx (zn)) rfl rfl rfl rfl rfl (e_len (a := zp) (n := zn) (c := zc) rfl tw93) ?_
     refine qg_val (v := .bool (decide (((i : Nat) : Int) < ((zn : Nat) : Int)))) rfl rfl rfl rfl rfl (e_lss (a := ((i : Nat) : Int)) (b := ((zn : Nat) : Int)) rfl rfl) ?_
     refine qg_val (v := .bool (decide (((i : Nat) : Int) < ((zn : Nat) : Int)))) rfl rfl rfl rfl rfl (e_move) ?_
     refine q_split (s := 108) (p := ((i : Nat) : Int) < ((zn : Nat) : Int)) rfl (fun hg12 => ?_) (fun hg12 => ?_)
     ·
      refine qg_val (v := .slice lsa (HL.length) (lsc)) rfl rfl rfl rfl rfl (e_move) ?_
      refine qg_val (v := Nx (k)) rfl rfl rfl rfl rfl (e_move) ?_
      refine qg_val (v := .pointer (some ((ba lsa).add (k * 1)))) rfl rfl rfl rfl rfl (e_indexAddr (k := k) (len := HL.length) (cap := lsc) (a := lsa) rfl rfl tw91 (by omega) hxa) ?_
      refine qg_val (v := .slice zp (zn) zc) rfl rfl rfl rfl rfl (e_load1 tw92 (v := .slice zp (zn) zc) rfl (Knows.of_base (Cs.mono _ _) hxc)) ?_
      refine qg_val (v := Nx (i)) rfl rfl rfl rfl rfl (e_move) ?_
      refine qg_val (v := .pointer (some ((ba zp).add (i * 2)))) rfl rfl rfl rfl rfl (e_indexFam1F 1 (F := WdF) (j := i) (m := zn) rfl (by rw [mkL_len]; omega) rfl tw95 (by omega) rfl) ?_
      refine qg_val (v := .agg #[Ix ((mkWd k i).tick), .slice ((mkWd k i).p) ((mkWd k i).n) ((mkWd k i).c)]) rfl rfl rfl rfl rfl (e_load tw48 (cs := [Ix ((mkWd k i).tick), .slice ((mkWd k i).p) ((mkWd k i).n) ((mkWd k i).c)]) rfl (k_fam1F 1 (F := WdF) (j := i) (x := (mkWd k i)) rfl (mkL_at (by omega))) rfl) ?_
      refine qg_val (v := Nx (k)) rfl rfl rfl rfl rfl (e_move) ?_
      refine qg_val (v := Nx (i)) rfl rfl rfl rfl rfl (e_move) ?_
      refine qg_call (v := .agg #[Ix ((mkWd k i).tick), .slice ((mkWd k i).p) ((mkWd k i).n) ((mkWd k i).c)]) rfl rfl rfl rfl rfl (cl_value (fst := []) (cap := []) (vs := [Nx (k), Nx (i)]) (all := [Nx (k), Nx (i)]) tw94 rfl rfl rfl) (fun w hw => ?_) ?_
      ·obtain ⟨β1, sb, kn, hw1, back⟩ := St.frame_all hw
       exact (markWk_ok β1 w hw1 k i (by omega) (by omega)).mono (fun e w' ⟨he, hw'⟩ => ⟨he, st_mask [true, true, true] rfl (back _ _ hw')⟩)
      refine qg_call (v := .bool true) rfl rfl rfl rfl rfl (cl_value (fst := []) (cap := []) (vs := [.agg #[Ix ((mkWd k i).tick), .slice ((mkWd k i).p) ((mkWd k i).n) ((mkWd k i).c)], .agg #[Ix ((mkWd k i).tick), .slice ((mkWd k i).p) ((mkWd k i).n) ((mkWd k i).c)]]) (all := [.agg #[Ix ((mkWd k i).tick), .slice ((mkWd k i).p) ((mkWd k i).n) ((mkWd k i).c)], .agg #[Ix ((mkWd k i).tick), .slice ((mkWd k i).p) ((mkWd k i).n) ((mkWd k i).c)]]) tw99 rfl rfl rfl) (fun w hw => ?_) ?_
      ·obtain ⟨β1, sb, kn, hw1, back⟩ := St.frame_all hw
       exact (sameWk_ok β1 w hw1 k i).mono (fun e w' ⟨he, hw'⟩ => ⟨he, st_mask [true, true, true] rfl (back _ _ hw')⟩)
      refine qg_val (v := .bool false) rfl rfl rfl rfl rfl (e_not (a := true) rfl) ?_
      refine qg_val (v := .bool false) rfl rfl rfl rfl rfl (e_pick_t rfl) ?_
      refine q_val (v := .bool false) rfl rfl rfl (e_pick_f rfl) ?_
      refine q_nil ?_
      refine f_then ?_
      refine c_no rfl ?_
      refine c_skip ?_
      refine f_block ?_
      refine f_then ?_
      refine c_region ?_
      refine l_val (v := Nx (i)) rfl rfl rfl (e_move) ?_
      refine l_val (v := Nx (i + 1)) rfl rfl rfl (e_add (a := ((i : Nat) : Int)) (b := (1 : Int)) rfl rfl (i64n (by omega) (by omega))) ?_
      refine l_val (v := Nx (i + 1)) rfl rfl rfl (e_assign) ?_
      refine l_nil ?_
      exact f_cut ⟨i + 1, ⟨⟨rfl, rfl, rfl, rfl⟩, rfl, by omega⟩, (show zn + 64 - (i + 1) < zn + 64 - i from by omega)⟩
     ·
      refine q_skip rfl rfl rfl rfl rfl rfl ?_
      refine q_skip rfl rfl rfl rfl rfl rfl ?_
      refine q_skip rfl rfl rfl rfl rfl rfl ?_
      refine q_skip rfl rfl rfl rfl rfl rfl ?_
      refine q_skip rfl rfl rfl rfl rfl rfl ?_
      refine q_skip rfl rfl rfl rfl rfl rfl ?_
      refine q_skip rfl rfl rfl rfl rfl rfl ?_
      refine q_skip rfl rfl rfl rfl rfl rfl ?_
      refine q_skip rfl rfl rfl rfl rfl rfl ?_
      refine q_skip rfl rfl rfl rfl rfl rfl ?_
      refine q_skip rfl rfl rfl rfl rfl rfl ?_
      refine q_skip rfl rfl rfl rfl rfl rfl ?_
      refine qg_val (v := .bool false) rfl rfl rfl rfl rfl (e_pick_f rfl) ?_
      refine q_val (v := .bool false) rfl rfl rfl (e_pick_f rfl) ?_
      refine q_nil ?_
      refine f_then ?_
      refine c_no rfl ?_
      refine c_skip ?_
      refine f_block ?_
      refine f_then ?_
      refine c_region ?_
      refine l_val (v := Nx (i)) rfl rfl rfl (e_move) ?_
      refine l_val (v := Nx (i + 1)) rfl rfl rfl (e_add (a := ((i : Nat) : Int)) (b := (1 : Int)) rfl rfl (i64n (by omega) (by omega))) ?_
      refine l_val (v := Nx (i + 1)) rfl rfl rfl (e_assign) ?_
      refine l_nil ?_
      exact f_cut ⟨i + 1, ⟨⟨rfl, rfl, rfl, rfl⟩, rfl, by omega⟩, (show zn + 64 - (i + 1) < zn + 64 - i from by omega)⟩
    ·
     refine c_exit ?_
     refine f_then_exit ?_
     refine f_then_exit ?_
     refine f_exit ?_
     refine f_block ?_
     refine f_then ?_
     refine c_putN k (fromK_at0 _ hzk) rfl ?_
     refine c_re (L' := [Sat (fromK (famK WdF 24 mkWd) 0 zs), rowF H3F 68 (some ⟨b4, 0, none⟩) HL.length (zs.map gh3)]) rfl ?_
     refine c_region ?_
     refine l_val (v := Nx (k)) rfl rfl rfl (e_move) ?_
     refine l_val (v := Nx (k + 1)) rfl rfl rfl (e_add (a := ((k : Nat) : Int)) (b := (1 : Int)) rfl rfl (i64n (by omega) (by omega))) ?_
     refine l_val (v := Nx (k + 1)) rfl rfl rfl (e_assign) ?_
     refine l_nil ?_
     exact f_cut ⟨k + 1, ⟨⟨rfl, rfl, rfl⟩, rfl, by omega⟩, (show HL.length - (k + 1) < HL.length - k from by omega)⟩
   ·
    refine c_exit ?_
    refine f_then_exit ?_
    refine f_then_exit ?_
    refine f_exit ?_
    refine f_then ?_
    refine c_seq ?_
    refine c_seq ?_
    refine c_emp (r := Sat (fromK (famM WdF 24 mkWd HL.length) 0 [])) trivial ?_
    refine c_region ?_
    refine l_val (v := .int .i64 (0)) rfl rfl rfl (e_assign) ?_
    refine l_nil ?_
    refine f_then ?_
    refine c_block ?_
    refine c_loop (fun (x_ : List Z5 × List Z5) (f : Fm) (L : List Res) => match x_ with | (ys, post) => (f 0 = .slice lsa (HL.length) (lsc) ∧ f 5 = .slice (some ⟨b4, 0, none⟩) (HL.length) HL.length ∧ f 11 = Nx (ys.length)) ∧ L = [Sat (fromK (famM WdF 24 mkWd HL.length) 0 ys), Sat (fromK (famK WdF 24 mkWd) ys.length post), rowF H3F 68 (some ⟨b4, 0, none⟩) HL.length (ys.map gh3 ++ post.map gh3)] ∧ (HL = ys.map Z5.h ++ post.map Z5.h)) (fun (x_ : List Z5 × List Z5) => match x_ with | (ys, post) => post.length) ([], zs) ?_ ?_
    ·exact ⟨⟨rfl, rfl, rfl⟩, rfl, hz⟩
    rintro ⟨ys, post⟩ f0 L0 ⟨⟨hs0, hs5, hs11⟩, hL, hpp⟩
    subst L0
    refine rebase (d := 0) hs0 ?_
    refine rebase (d := 5) hs5 ?_
    refine rebase (d := 11) hs11 ?_
    clear hs0 hs5 hs11
    have hlen : HL.length = ys.length + post.length := by rw [hpp, List.length_append, List.length_map, List.length_map]
    refine c_seq ?_
    refine c_seq ?_
    refine c_region ?_
    refine l_val (v := Nx (ys.length)) rfl rfl rfl (e_move) ?_
    refine l_val (v := .slice lsa (HL.length) (lsc)) rfl rfl rfl (e_move) ?_
    refine l_val (v := Nx (HL.length)) rfl rfl rfl (e_len (a := lsa) (n := HL.length) (c := lsc) rfl tw90) ?_
    refine l_val (v := .bool (decide (((ys.length : Nat) : Int) < ((HL.length : Nat) : Int)))) rfl rfl rfl (e_lss (a := ((ys.length : Nat) : Int)) (b := ((HL.length : Nat) : Int)) rfl rfl) ?_
    refine l_nil ?_
    refine f_then ?_
    refine c_if (((ys.length : Nat) : Int) < ((HL.length : Nat) : Int)) rfl (fun hc13 => ?_) (fun hc13 => ?_)
    ·
     refine c_skip ?_
     refine f_then ?_
     refine c_seq ?_
     refine c_block ?_
     refine c_seq ?_
     obtain ⟨⟨⟨zp, zn, zc⟩, zq, ze⟩, po, hpo⟩ := uncons hlen (by omega)
     have hx : HL[ys.length]? = some (⟨zp, zn, zc⟩ : H3) := by rw [hpp, hpo]; exact mid_at (List.length_map _).symm
     have hxl : zn ≤ 1000000 := hbd0 _ (List.mem_of_getElem? hx)
     obtain ⟨hxa, cs_, hxc, rfl⟩ := lse _ _ hx
     refine c_perm (L' := [Sat (fromK (famK WdF 24 mkWd) ys.length post), Sat (fromK (famM WdF 24 mkWd HL.length) 0 ys), rowF H3F 68 (some ⟨b4, 0, none⟩) HL.length (ys.map gh3 ++ post.map gh3)]) (perm_ix [1, 0, 2] 3 rfl (by kernel_rfl) (by kernel_rfl)) ?_
     rw [hpo]
     refine c_headR (r := famF WdF 24 zp zc (mkL mkWd ys.length zn) zq ze (mkL mkWd ys.length (zn + 64))) (Ls := fromK (famK WdF 24 mkWd) (ys.length + 1) po) (M := [Sat (fromK (famM WdF 24 mkWd HL.length) 0 ys), rowF H3F 68 (some ⟨b4, 0, none⟩) HL.length (ys.map gh3 ++ ((⟨(⟨zp, zn, zc⟩ : H3), zq, ze⟩ : Z5) :: po).map gh3)]) rfl ?_
     have hpl : post.length = po.length + 1 := by rw [hpo]; rfl
     refine c_region ?_
     refine l_mv rfl rfl rfl (m_makeFl (F := WdF) (x0 := (⟨0, none, 0, 0⟩ : KWd)) (c := 64) tw95 tw98 tw45 rfl rfl rfl (by unfold maxLen; omega) (by omega)) ?_
     rintro _ _ ⟨b14, rfl, rfl⟩
     refine l_val (v := .slice (some ⟨b14, 0, none⟩) (64) 64) rfl rfl rfl (e_assign) ?_
     refine l_nil ?_
     refine f_then ?_
     refine c_seq ?_
     refine c_seq ?_
     refine c_region ?_
     refine l_val (v := .int .i64 (0)) rfl rfl rfl (e_assign) ?_
     refine l_nil ?_
     refine f_then ?_
     refine c_block ?_
     refine c_loop (fun (i : Nat) (f : Fm) (L : List Res) => (f 0 = .slice lsa (HL.length) (lsc) ∧ f 5 = .slice (some ⟨b4, 0, none⟩) (HL.length) HL.length ∧ f 11 = Nx (ys.length) ∧ f 12 = .slice (some ⟨b14, 0, none⟩) (64) 64 ∧ f 13 = Nx (i)) ∧ L = [rowF WdF 24 (some ⟨b14, 0, none⟩) 64 ((mkL mkWd (ys.length + HL.length) i) ++ (List.replicate 64 (⟨0, none, 0, 0⟩ : KWd)).drop i), Sat (fromK (famK WdF 24 mkWd) (ys.length + 1) po), famF WdF 24 zp zc (mkL mkWd ys.length zn) zq ze (mkL mkWd ys.length (zn + 64)), Sat (fromK (famM WdF 24 mkWd HL.length) 0 ys), rowF H3F 68 (some ⟨b4, 0, none⟩) HL.length (ys.map gh3 ++ ((⟨(⟨zp, zn, zc⟩ : H3), zq, ze⟩ : Z5) :: po).map gh3)] ∧ (i ≤ 64)) (fun (i : Nat) => 64 - i) 0 ?_ ?_
     ·exact ⟨⟨rfl, rfl, rfl, rfl, rfl⟩, by rw [mkp_zero], by omega⟩
     rintro i f0 L0 ⟨⟨hs0, hs5, hs11, hs12, hs13⟩, hL, hi⟩
     subst L0
     refine rebase (d := 0) hs0 ?_
     refine rebase (d := 5) hs5 ?_
     refine rebase (d := 11) hs11 ?_
     refine rebase (d := 12) hs12 ?_
     refine rebase (d := 13) hs13 ?_
     clear hs0 hs5 hs11 hs12 hs13
     refine c_seq ?_
     refine c_seq ?_
     refine c_region ?_
     refine l_val (v := Nx (i)) rfl rfl rfl (e_move) ?_
     refine l_val (v := .bool (decide (((i : Nat) : Int) < (64 : Int)))) rfl rfl rfl (e_lss (a := ((i : Nat) : Int)) (b := (64 : Int)) rfl rfl) ?_
     refine l_nil ?_
     refine f_then ?_
     refine c_if (((i : Nat) : Int) < (64 : Int)) rfl (fun hc15 => ?_) (fun hc15 => ?_)
     ·
      refine c_skip ?_
      refine f_then ?_
      refine c_seq ?_
      refine c_block ?_
      refine c_region ?_
      refine l_val (v := .slice (some ⟨b14, 0, none⟩) (64) 64) rfl rfl rfl (e_move) ?_
      refine l_val (v := Nx (i)) rfl rfl rfl (e_move) ?_
      refine l_val (v := Nx (ys.length)) rfl rfl rfl (e_move) ?_
      refine l_val (v := .slice lsa (HL.length) (lsc)) rfl rfl rfl (e_move) ?_
      refine l_val (v := Nx (HL.length)) rfl rfl rfl (e_len (a := lsa) (n := HL.length) (c := lsc) rfl tw90) ?_
      refine l_val (v := Nx (ys.length + HL.length)) rfl rfl rfl (e_add (a := ((ys.length : Nat) : Int)) (b := ((HL.length : Nat) : Int)) rfl rfl (i64n (by omega) (by omega))) ?_
      refine l_val (v := Nx (i)) rfl rfl rfl (e_move) ?_
      refine l_call rfl rfl rfl (cl_value (fst := []) (cap := []) (vs := [Nx (ys.length + HL.length), Nx (i)]) (all := [Nx (ys.length + HL.length), Nx (i)]) tw94 rfl rfl rfl) ?_
      intro w hw
      obtain ⟨β1, sb, kn, hw1, back⟩ := St.frame_all hw
      refine (markWk_ok β1 w hw1 (ys.length + HL.length) i (by omega) (by omega)).mono ?_
      rintro e w' ⟨rfl, hw'⟩
      refine ⟨_, rfl, _, back _ _ hw', ?_⟩
      clear hw hw1 hw' back kn sb
      refine l_val (v := .pointer (some ((ba (some ⟨b14, 0, none⟩)).add (i * 2)))) rfl rfl rfl (e_indexFlN 0 (F := WdF) (j := i) (m := 64) (xs := ((mkL mkWd (ys.length + HL.length) i) ++ (List.replicate 64 (⟨0, none, 0, 0⟩ : KWd)).drop i)) rfl (by rw [mkp_len (by rw [List.length_replicate]; omega), List.length_replicate]) rfl tw95 (by omega) rfl) ?_
      refine l_mu rfl rfl (m_storeFl 0 (F := WdF) (p := (some ⟨b14, 0, none⟩)) (k := i) (xs := ((mkL mkWd (ys.length + HL.length) i) ++ (List.replicate 64 (⟨0, none, 0, 0⟩ : KWd)).drop i)) (z := (mkWd (ys.length + HL.length) i)) tw48 rfl rfl rfl rfl (by rw [mkp_len (by first | omega | (rw [List.length_replicate]; omega))]; (try rw [List.length_replicate]); omega)) ?_
      refine l_nil ?_
      refine f_block ?_
      refine f_then ?_
      refine c_region ?_
      refine l_val (v := Nx (i)) rfl rfl rfl (e_move) ?_
      refine l_val (v := Nx (i + 1)) rfl rfl rfl (e_add (a := ((i : Nat) : Int)) (b := (1 : Int)) rfl rfl (i64n (by omega) (by omega))) ?_
      refine l_val (v := Nx (i + 1)) rfl rfl rfl (e_assign) ?_
      refine l_nil ?_
      exact f_cut ⟨i + 1, ⟨⟨rfl, rfl, rfl, rfl, rfl⟩, by rw [mkp_step (by rw [List.length_replicate]; omega)] <;> rfl, by omega⟩, (show 64 - (i + 1) < 64 - i from by omega)⟩
     ·
      refine c_exit ?_
      refine f_then_exit ?_
      refine f_then_exit ?_
      refine f_exit ?_
      refine f_then ?_
      obtain rfl : i = 64 := by omega
      rw [mkp_done (by rw [List.length_replicate]; omega)]
      refine c_conseq 2 (r' := famF WdF 24 zp zc (mkL mkWd ys.length zn) zp zc (mkL mkWd ys.length zn)) rfl (fun a h => famF_start a (famF_first a h)) ?_
      refine c_region ?_
      refine l_val (v := .slice (some ⟨b4, 0, none⟩) (HL.length) HL.length) rfl rfl rfl (e_move) ?_
      refine l_val (v := Nx (ys.length)) rfl rfl rfl (e_move) ?_
      refine l_val (v := .slice lsa (HL.length) (lsc)) rfl rfl rfl (e_move) ?_
      refine l_val (v := Nx (ys.length)) rfl rfl rfl (e_move) ?_
      refine l_val (v := .pointer (some ((ba lsa).add (ys.length * 1)))) rfl rfl rfl (e_indexAddr (k := ys.length) (len := HL.length) (cap := lsc) (a := lsa) rfl rfl tw91 (by omega) hxa) ?_
      refine l_val (v := .slice zp (zn) zc) rfl rfl rfl (e_load1 tw92 (v := .slice zp (zn) zc) rfl (Knows.of_base (Cs.mono _ _) hxc)) ?_
      refine l_val (v := .slice (some ⟨b14, 0, none⟩) (64) 64) rfl rfl rfl (e_move) ?_
      refine l_mv rfl rfl rfl (m_append_famF (F := WdF) 2 tw95 tw98 (q := zp) (m := zn) (e := zc) (zs := (mkL mkWd (ys.length + HL.length) 64)) (ad := ⟨b14, 0, none⟩) (k := 64) (cc := 64) rfl rfl (mkL_len _ _).symm rfl (mkL_len _ _) (k_rowF_all (p := (some ⟨b14, 0, none⟩)) 0 rfl (by rw [mkL_len]; omega)) (by omega) (by unfold maxLen; omega) (by omega)) ?_
      rintro _ _ ⟨rp16, rc17, rfl, rfl⟩
      refine l_val (v := .pointer (some ((ba (some ⟨b4, 0, none⟩)).add (ys.length * 1)))) rfl rfl rfl (e_indexFlN 4 (F := H3F) (j := ys.length) (m := HL.length) (xs := (ys.map gh3 ++ ((⟨(⟨zp, zn, zc⟩ : H3), zq, ze⟩ : Z5) :: po).map gh3)) rfl (by simp only [List.length_append, List.length_map, List.length_replicate, List.length_cons, List.length_set]; omega) rfl tw91 (by omega) rfl) ?_
      refine l_mu rfl rfl (m_storeFl 4 (F := H3F) (p := (some ⟨b4, 0, none⟩)) (k := ys.length) (xs := (ys.map gh3 ++ ((⟨(⟨zp, zn, zc⟩ : H3), zq, ze⟩ : Z5) :: po).map gh3)) (z := (⟨rp16, zn + 64, rc17⟩ : H3)) tw92 rfl rfl rfl rfl (by simp only [List.length_append, List.length_map, List.length_replicate, List.length_cons]; omega)) ?_
      refine l_nil ?_
      refine f_block ?_
      refine f_then ?_
      obtain ⟨q, hq_⟩ : ∃ z_, z_ = rp16 := ⟨_, rfl⟩
      obtain ⟨e, he_⟩ : ∃ z_, z_ = rc17 := ⟨_, rfl⟩
      rw [← hq_, ← he_]
      refine c_perm (L' := [Sat (fromK (famM WdF 24 mkWd HL.length) 0 ys), famF WdF 24 zp zc (mkL mkWd ys.length zn) q e ((mkL mkWd ys.length zn) ++ (mkL mkWd (ys.length + HL.length) 64)), rowF WdF 24 (some ⟨b14, 0, none⟩) 64 (mkL mkWd (ys.length + HL.length) 64), Sat (fromK (famK WdF 24 mkWd) (ys.length + 1) po), rowF H3F 68 (some ⟨b4, 0, none⟩) HL.length ((ys.map gh3 ++ ((⟨(⟨zp, zn, zc⟩ : H3), zq, ze⟩ : Z5) :: po).map gh3).set ys.length (⟨q, zn + 64, e⟩ : H3))]) (perm_ix [3, 2, 0, 1, 4] 5 rfl (by kernel_rfl) (by kernel_rfl)) ?_
      refine c_re (L' := [Sat (fromK (famM WdF 24 mkWd HL.length) 0 ys), famF WdF 24 zp zc (mkL mkWd ys.length zn) q e ((mkL mkWd ys.length zn) ++ (mkL mkWd (ys.length + HL.length) 64)), rowF WdF 24 (some ⟨b14, 0, none⟩) 64 (mkL mkWd (ys.length + HL.length) 64), Sat (fromK (famK WdF 24 mkWd) (ys.length + 1) po), rowF H3F 68 (some ⟨b4, 0, none⟩) HL.length ((ys ++ [(⟨(⟨zp, zn, zc⟩ : H3), q, e⟩ : Z5)]).map gh3 ++ po.map gh3)]) (by rw [← gs_set2]; rfl) ?_
      refine c_snocR (Ls' := fromK (famM WdF 24 mkWd HL.length) 0 (ys ++ [(⟨(⟨zp, zn, zc⟩ : H3), q, e⟩ : Z5)])) (M := [rowF WdF 24 (some ⟨b14, 0, none⟩) 64 (mkL mkWd (ys.length + HL.length) 64), Sat (fromK (famK WdF 24 mkWd) (ys.length + 1) po), rowF H3F 68 (some ⟨b4, 0, none⟩) HL.length ((ys ++ [(⟨(⟨zp, zn, zc⟩ : H3), q, e⟩ : Z5)]).map gh3 ++ po.map gh3)]) rfl (snocK (famM WdF 24 mkWd HL.length) (⟨(⟨zp, zn, zc⟩ : H3), q, e⟩ : Z5) ys) ?_
      refine c_mask [true, false, true, true] rfl ?_
      refine c_region ?_
      refine l_val (v := Nx (ys.length)) rfl rfl rfl (e_move) ?_
      refine l_val (v := Nx (ys.length + 1)) rfl rfl rfl (e_add (a := ((ys.length : Nat) : Int)) (b := (1 : Int)) rfl rfl (i64n (by omega) (by omega))) ?_
      refine l_val (v := Nx (ys.length + 1)) rfl rfl rfl (e_assign) ?_
      refine l_nil ?_
      exact f_cut ⟨((ys ++ [⟨(⟨zp, zn, zc⟩ : H3), q, e⟩]), po), ⟨⟨rfl, rfl, congrArg (fun z : Nat => Nx z) (by rw [List.length_append]; rfl)⟩, by rw [List.length_append] <;> rfl, by rw [hpp, hpo, List.map_append, List.append_assoc]; rfl⟩, (Nat.lt_succ_self po.length)⟩
    ·
     refine c_exit ?_
     refine f_then_exit ?_
     refine f_then_exit ?_
     refine f_exit ?_
     refine f_then ?_
     refine c_seq ?_
     refine c_seq ?_
     have hlen : HL.length = ys.length + post.length := by rw [hpp, List.length_append, List.length_map, List.length_map]
     obtain rfl := unnil hlen (by omega)
     have hy : HL = ys.map Z5.h := by rw [hpp, List.map_nil, List.append_nil]
     have hyl : ys.length = HL.length := by rw [hy, List.length_map]
     refine c_re (L' := [Sat (fromK (famM WdF 24 mkWd HL.length) 0 ys), Sat (fromK (famK WdF 24 mkWd) ys.length ([] : List Z5)), rowF H3F 68 (some ⟨b4, 0, none⟩) HL.length (ys.map gh3)]) (by rw [List.map_nil, List.append_nil]) ?_
     refine c_mask [true, false, true] rfl ?_
     refine c_region ?_
     refine l_val (v := .int .i64 (0)) rfl rfl rfl (e_assign) ?_
     refine l_nil ?_
     refine f_then ?_
     refine c_block ?_
     refine c_loop (fun (k : Nat) (f : Fm) (L : List Res) => (f 0 = .slice lsa (HL.length) (lsc) ∧ f 5 = .slice (some ⟨b4, 0, none⟩) (HL.length) HL.length ∧ f 14 = Nx (k)) ∧ L = [Sat (fromK (famM WdF 24 mkWd HL.length) 0 ys), rowF H3F 68 (some ⟨b4, 0, none⟩) HL.length (ys.map gh3)] ∧ (k ≤ HL.length)) (fun (k : Nat) => HL.length - k) 0 ?_ ?_
     ·exact ⟨⟨rfl, rfl, rfl⟩, rfl, by omega⟩
     rintro k f0 L0 ⟨⟨hs0, hs5, hs14⟩, hL, hk⟩
     subst L0
     refine rebase (d := 0) hs0 ?_
     refine rebase (d := 5) hs5 ?_
     refine rebase (d := 14) hs14 ?_
     clear hs0 hs5 hs14
     refine c_seq ?_
     refine c_seq ?_
     refine c_region ?_
     refine l_val (v := Nx (k)) rfl rfl rfl (e_move) ?_
     refine l_val (v := .slice lsa (HL.length) (lsc)) rfl rfl rfl (e_move) ?_
     refine l_val (v := Nx (HL.length)) rfl rfl rfl (e_len (a := lsa) (n := HL.length) (c := lsc) rfl tw90) ?_
     refine l_val (v := .bool (decide (((k : Nat) : Int) < ((HL.length : Nat) : Int)))) rfl rfl rfl (e_lss (a := ((k : Nat) : Int)) (b := ((HL.length : Nat) : Int)) rfl rfl) ?_
     refine l_nil ?_
     refine f_then ?_
     refine c_if (((k : Nat) : Int) < ((HL.length : Nat) : Int)) rfl (fun hc18 => ?_) (fun hc18 => ?_)
     ·
      refine c_skip ?_
      refine f_then ?_
      refine c_seq ?_
      refine c_block ?_
      refine c_seq ?_
      obtain ⟨⟨⟨zp, zn, zc⟩, zq, ze⟩, hzk⟩ : ∃ z_, ys[k]? = some z_ := ⟨_, List.getElem?_eq_getElem (by omega)⟩
      have hx : HL[k]? = some (⟨zp, zn, zc⟩ : H3) := by rw [hy, List.getElem?_map, hzk]; rfl
      have hxl : zn ≤ 1000000 := hbd0 _ (List.mem_of_getElem? hx)
      have hgk : (ys.map gh3)[k]? = some (⟨zq, zn + 64, ze⟩ : H3) := by rw [List.getElem?_map, hzk]; rfl
      obtain ⟨hxa, cs_, hxc, rfl⟩ := lse _ _ hx
      refine c_takeN k (r := famF WdF 24 zp zc (mkL mkWd k zn) zq ze ((mkL mkWd k zn) ++ (mkL mkWd (k + HL.length) 64))) (fromK_at0 _ hzk) rfl ?_
      refine c_region ?_
      refine l_val (v := .int .i64 (0)) rfl rfl rfl (e_assign) ?_
      refine l_nil ?_
      refine f_then ?_
      refine c_block ?_
      refine c_loop (fun (i : Nat) (f : Fm) (L : List Res) => (f 0 = .slice lsa (HL.length) (lsc) ∧ f 5 = .slice (some ⟨b4, 0, none⟩) (HL.length) HL.length ∧ f 14 = Nx (k) ∧ f 15 = Nx (i)) ∧ L = [Sat ((fromK (famM WdF 24 mkWd HL.length) 0 ys).eraseIdx k), famF WdF 24 zp zc (mkL mkWd k zn) zq ze ((mkL mkWd k zn) ++ (mkL mkWd (k + HL.length) 64)), rowF H3F 68 (some ⟨b4, 0, none⟩) HL.length (ys.map gh3)] ∧ (i ≤ zn)) (fun (i : Nat) => zn - i) 0 ?_ ?_
      ·exact ⟨⟨rfl, rfl, rfl, rfl⟩, rfl, by omega⟩
      rintro i f0 L0 ⟨⟨hs0, hs5, hs14, hs15⟩, hL, hi⟩
      subst L0
      refine rebase (d := 0) hs0 ?_
      refine rebase (d := 5) hs5 ?_
      refine rebase (d := 14) hs14 ?_
      refine rebase (d := 15) hs15 ?_
      clear hs0 hs5 hs14 hs15
      refine c_seq ?_
      refine c_seq ?_
      refine c_region ?_
      refine l_val (v := Nx (i)) rfl rfl rfl (e_move) ?_
      refine l_val (v := .slice lsa (HL.length) (lsc)) rfl rfl rfl (e_move) ?_
      refine l_val (v := Nx (k)) rfl rfl rfl (e_move) ?_
      refine l_val (v := .pointer (some ((ba lsa).add (k * 1)))) rfl rfl rfl (e_indexAddr (k := k) (len := HL.length) (cap := lsc) (a := lsa) rfl rfl tw91 (by omega) hxa) ?_
      refine l_val (v := .slice zp (zn) zc) rfl rfl rfl (e_load1 tw92 (v := .slice zp (zn) zc) rfl (Knows.of_base (Cs.mono _ _) hxc)) ?_
      refine l_val (v := Nx (zn)) rfl rfl rfl (e_len (a := zp) (n := zn) (c := zc) rfl tw93) ?_
      refine l_val (v := .bool (decide (((i : Nat) : Int) < ((zn : Nat) : Int)))) rfl rfl rfl (e_lss (a := ((i : Nat) : Int)) (b := ((zn : Nat) : Int)) rfl rfl) ?_
      refine l_nil ?_
      refine f_then ?_
      refine c_if (((i : Nat) : Int) < ((zn : Nat) : Int)) rfl (fun hc19 => ?_) (fun hc19 => ?_)
      ·
       refine c_skip ?_
       refine f_then ?_
       refine c_seq ?_
       refine c_block ?_
       refine c_seq ?_
       refine c_quiet (by kernel_rfl) (by kernel_rfl) ?_
       refine q_val (v := .slice lsa (HL.length) (lsc)) rfl rfl rfl (e_move) ?_
       refine q_val (v := Nx (k)) rfl rfl rfl (e_move) ?_
       refine q_val (v := .pointer (some ((ba lsa).add (k * 1)))) rfl rfl rfl (e_indexAddr (k := k) (len := HL.length) (cap := lsc) (a := lsa) rfl rfl tw91 (by omega) hxa) ?_
       refine q_val (v := .slice zp (zn) zc) rfl rfl rfl (e_load1 tw92 (v := .slice zp (zn) zc) rfl (Knows.of_base (Cs.mono _ _) hxc)) ?_
       refine q_val (v := Nx (i)) rfl rfl rfl (e_move) ?_
       refine q_val (v := .pointer (some ((ba zp).add (i * 2)))) rfl rfl rfl (e_indexFam1F 1 (F := WdF) (j := i) (m := zn) rfl (by rw [mkL_len]; omega) rfl tw95 (by omega) rfl) ?_
       refine q_val (v := .agg #[Ix ((mkWd k i).tick), .slice ((mkWd k i).p) ((mkWd k i).n) ((mkWd k i).c)]) rfl rfl rfl (e_load tw48 (cs := [Ix ((mkWd k i).tick), .slice ((mkWd k i).p) ((mkWd k i).n) ((mkWd k i).c)]) rfl (k_fam1F 1 (F := WdF) (j := i) (x := (mkWd k i)) rfl (mkL_at (by omega))) rfl) ?_
       refine q_val (v := Nx (k)) rfl rfl rfl (e_move) ?_
       refine q_val (v := Nx (i)) rfl rfl rfl (e_move) ?_
       refine q_call (v := .agg #[Ix ((mkWd k i).tick), .slice ((mkWd k i).p) ((mkWd k i).n) ((mkWd k i).c)]) rfl rfl rfl (cl_value (fst := []) (cap := []) (vs := [Nx (k), Nx (i)]) (all := [Nx (k), Nx (i)]) tw94 rfl rfl rfl) (fun w hw => ?_) ?_
       ·obtain ⟨β1, sb, kn, hw1, back⟩ := St.frame_all hw
        exact (markWk_ok β1 w hw1 k i (by omega) (by omega)).mono (fun e w' ⟨he, hw'⟩ => ⟨he, st_mask [true, true, true] rfl (back _ _ hw')⟩)
       refine q_call (v := .bool true) rfl rfl rfl (cl_value (fst := []) (cap := []) (vs := [.agg #[Ix ((mkWd k i).tick), .slice ((mkWd k i).p) ((mkWd k i).n) ((mkWd k i).c)], .agg #[Ix ((mkWd k i).tick), .slice ((mkWd k i).p) ((mkWd k i).n) ((mkWd k i).c)]]) (all := [.agg #[Ix ((mkWd k i).tick), .slice ((mkWd k i).p) ((mkWd k i).n) ((mkWd k i).c)], .agg #[Ix ((mkWd k i).tick), .slice ((mkWd k i).p) ((mkWd k i).n) ((mkWd k i).c)]]) tw99 rfl rfl rfl) (fun w hw => ?_) ?_
       ·obtain ⟨β1, sb, kn, hw1, back⟩ := St.frame_all hw
        exact (sameWk_ok β1 w hw1 k i).mono (fun e w' ⟨he, hw'⟩ => ⟨he, st_mask [true, true, true] rfl (back _ _ hw')⟩)
       refine q_val (v := .bool false) rfl rfl rfl (e_not (a := true) rfl) ?_
       refine q_val (v := .bool false) rfl rfl rfl (e_move) ?_
       refine qg_val (v := .slice (some ⟨b4, 0, none⟩) (HL.length) HL.length) rfl rfl rfl rfl rfl (e_move) ?_
       refine qg_val (v := Nx (k)) rfl rfl rfl rfl rfl (e_move) ?_
       refine qg_val (v := .pointer (some ((ba (some ⟨b4, 0, none⟩)).add (k * 1)))) rfl rfl rfl rfl rfl (e_indexFlN 2 (F := H3F) (j := k) (m := HL.length) (xs := (ys.map gh3)) rfl (by simp only [List.length_append, List.length_map, List.length_replicate, List.length_cons, List.length_set]; omega) rfl tw91 (by omega) rfl) ?_
       refine qg_val (v := .slice zq (zn + 64) ze) rfl rfl rfl rfl rfl (e_load1 tw92 (v := .slice zq (zn + 64) ze) rfl (k_flAt 2 (F := H3F) rfl hgk)) ?_
       refine qg_val (v := Nx (i)) rfl rfl rfl rfl rfl (e_move) ?_
       refine qg_val (v := .pointer (some ((ba zq).add (i * 2)))) rfl rfl rfl rfl rfl (e_indexFam2F 1 (F := WdF) (j := i) (m := zn + 64) rfl (by rw [List.length_append, mkL_len, mkL_len]; omega) rfl tw95 (by omega) rfl) ?_
       refine qg_val (v := .agg #[Ix ((mkWd k i).tick), .slice ((mkWd k i).p) ((mkWd k i).n) ((mkWd k i).c)]) rfl rfl rfl rfl rfl (e_load tw48 (cs := [Ix ((mkWd k i).tick), .slice ((mkWd k i).p) ((mkWd k i).n) ((mkWd k i).c)]) rfl (k_fam2F 1 (F := WdF) (j := i) (x := (mkWd k i)) rfl (mkL_at2 (by omega))) rfl) ?_
       refine qg_val (v := Nx (k)) rfl rfl rfl rfl rfl (e_move) ?_
       refine qg_val (v := Nx (i)) rfl rfl rfl rfl rfl (e_move) ?_
       refine qg_call (v := .agg #[Ix ((mkWd k i).tick), .slice ((mkWd k i).p) ((mkWd k i).n) ((mkWd k i).c)]) rfl rfl rfl rfl rfl (cl_value (fst := []) (cap := []) (vs := [Nx (k), Nx (i)]) (all := [Nx (k), Nx (i)]) tw94 rfl rfl rfl) (fun w hw => ?_) ?_
       ·obtain ⟨β1, sb, kn, hw1, back⟩ := St.frame_all hw
        exact (markWk_ok β1 w hw1 k i (by omega) (by omega)).mono (fun e w' ⟨he, hw'⟩ => ⟨he, st_mask [true, true, true] rfl (back _ _ hw')⟩)
       refine qg_call (v := .bool true) rfl rfl rfl rfl rfl (cl_value (fst := []) (cap := []) (vs := [.agg #[Ix ((mkWd k i).tick), .slice ((mkWd k i).p) ((mkWd k i).n) ((mkWd k i).c)], .agg #[Ix ((mkWd k i).tick), .slice ((mkWd k i).p) ((mkWd k i).n) ((mkWd k i).c)]]) (all := [.agg #[Ix ((mkWd k i).tick), .slice ((mkWd k i).p) ((mkWd k i).n) ((mkWd k i).c)], .agg #[Ix ((mkWd k i).tick), .slice ((mkWd k i).p) ((mkWd k i).n) ((mkWd k i).c)]]) tw99 rfl rfl rfl) (fun w hw => ?_) ?_
       ·obtain ⟨β1, sb, kn, hw1, back⟩ := St.frame_all hw
        exact (sameWk_ok β1 w hw1 k i).mono (fun e w' ⟨he, hw'⟩ => ⟨he, st_mask [true, true, true] rfl (back _ _ hw')⟩)
       refine qg_val (v := .bool false) rfl rfl rfl rfl rfl (e_not (a := true) rfl) ?_
       refine q_val (v := .bool false) rfl rfl rfl (e_pick_f rfl) ?_
       refine q_nil ?_
       refine f_then ?_
       refine c_no rfl ?_
       refine c_skip ?_
       refine f_block ?_
       refine f_then ?_
       refine c_region ?_
       refine l_val (v := Nx (i)) rfl rfl rfl (e_move) ?_
       refine l_val (v := Nx (i + 1)) rfl rfl rfl (e_add (a := ((i : Nat) : Int)) (b := (1 : Int)) rfl rfl (i64n (by omega) (by omega))) ?_
       refine l_val (v := Nx (i + 1)) rfl rfl rfl (e_assign) ?_
       refine l_nil ?_
       exact f_cut ⟨i + 1, ⟨⟨rfl, rfl, rfl, rfl⟩, rfl, by omega⟩, (show zn - (i + 1) < zn - i from by omega)⟩
      ·
       refine c_exit ?_
       refine f_then_exit ?_
       refine f_then_exit ?_
       refine f_exit ?_
       refine f_block ?_
       refine f_then ?_
       refine c_putN k (fromK_at0 _ hzk) rfl ?_
       refine c_re (L' := [Sat (fromK (famM WdF 24 mkWd HL.length) 0 ys), rowF H3F 68 (some ⟨b4, 0, none⟩) HL.length (ys.map gh3)]) rfl ?_
       refine c_region ?_
       refine l_val (v := Nx (k)) rfl rfl rfl (e_move) ?_
       refine l_val (v := Nx (k + 1)) rfl rfl rfl (e_add (a := ((k : Nat) : Int)) (b := (1 : Int)) rfl rfl (i64n (by omega) (by omega))) ?_
       refine l_val (v := Nx (k + 1)) rfl rfl rfl (e_assign) ?_
       refine l_nil ?_
       exact f_cut ⟨k + 1, ⟨⟨rfl, rfl, rfl⟩, rfl, by omega⟩, (show HL.length - (k + 1) < HL.length - k from by omega)⟩
     ·
      refine c_exit ?_
      refine f_then_exit ?_
      refine f_then_exit ?_
      refine f_exit ?_
      refine f_then ?_
      refine c_seq ?_
      refine c_region ?_
      refine l_val (v := .bool true) rfl rfl rfl (e_assign) ?_
      refine l_nil ?_
      refine f_then ?_
      refine c_ret ?_
      refine ret1 Tryz.results126 (v := .bool true) rfl ?_
      intro w hw
      exact ⟨rfl, st_mask [false, false] rfl hw⟩
set_option maxHeartbeats 4000000 in
theorem flatLimbs_nil (β : Base) (w : World) (hw : St β [] w) : Calls Tryz.prog 120 #[.slice none 0 0] w fun r w' => r = .returned (.bool true) ∧ St β [] w' := by
 refine enter (n := 200) Tryz.func120 rfl Tryz.ntmps120 rfl ?_ hw
 refine c_seq ?_
 refine c_region ?_
 refine l_val (v := .bool false) rfl rfl rfl (e_assign) ?_
 refine l_nil ?_
 refine f_then ?_
 refine c_seq ?_
 refine c_seq ?_
 refine c_region ?_
 refine l_val (v := .int .i64 (0)) rfl rfl rfl (e_assign) ?_
 refine l_nil ?_
 refine f_then ?_
 refine c_block ?_
 refine c_loop (fun (x_ : Unit) (f : Fm) (L : List Res) => match x_ with | () => (f 0 = .slice none 0 0 ∧ f 3 = .int .i64 (0)) ∧ L = [] ∧ (True)) (fun (x_ : Unit) => match x_ with | () => 0) () ?_ ?_
 ·exact ⟨⟨rfl, rfl⟩, rfl, trivial⟩
 rintro ⟨⟩ f0 L0 ⟨⟨hs0, hs3⟩, hL, -⟩
 subst L0
 refine rebase (d := 0) hs0 ?_
 refine rebase (d := 3) hs3 ?_
 clear hs0 hs3
 refine c_seq ?_
 refine c_seq ?_
 refine c_region ?_
 refine l_val (v := .int .i64 (0)) rfl rfl rfl (e_move) ?_
 refine l_val (v := .slice none 0 0) rfl rfl rfl (e_move) ?_
 refine l_val (v := .int .i64 (0)) rfl rfl rfl (e_len (n := 0) rfl tw100) ?_
 refine l_val (v := .bool false) rfl rfl rfl (e_lss (a := (0 : Int)) (b := (0 : Int)) rfl rfl) ?_
 refine l_nil ?_
 refine f_then ?_
 refine c_no rfl ?_
 refine c_exit ?_
 refine f_then_exit ?_
 refine f_then_exit ?_
 refine f_exit ?_
 refine f_then ?_
 refine c_seq ?_
 refine c_region ?_
 refine l_val (v := .slice none 0 0) rfl rfl rfl (e_move) ?_
 refine l_val (v := .int .i64 (0)) rfl rfl rfl (e_len (n := 0) rfl tw100) ?_
 refine l_mv rfl rfl rfl (m_make00 tw101 rfl rfl) ?_
 rintro _ _ ⟨b1, rfl, rfl⟩
 refine l_val (v := .slice (some ⟨b1, 0, none⟩) 0 0) rfl rfl rfl (e_assign) ?_
 refine l_nil ?_
 refine f_then ?_
 refine c_seq ?_
 refine c_seq ?_
 refine c_region ?_
 refine l_val (v := .int .i64 (0)) rfl rfl rfl (e_assign) ?_
 refine l_nil ?_
 refine f_then ?_
 refine c_block ?_
 refine c_loop (fun (x_ : Unit) (f : Fm) (L : List Res) => match x_ with | () => (f 0 = .slice none 0 0 ∧ f 5 = .slice (some ⟨b1, 0, none⟩) 0 0 ∧ f 6 = .int .i64 (0)) ∧ L = [pt b1 (.cells #[] 243)] ∧ (True)) (fun (x_ : Unit) => match x_ with | () => 0) () ?_ ?_
 ·exact ⟨⟨rfl, rfl, rfl⟩, rfl, trivial⟩
 rintro ⟨⟩ f0 L0 ⟨⟨hs0, hs5, hs6⟩, hL, -⟩
 subst L0
 refine rebase (d := 0) hs0 ?_
 refine rebase (d := 5) hs5 ?_
 refine rebase (d := 6) hs6 ?_
 clear hs0 hs5 hs6
 refine c_seq ?_
 refine c_seq ?_
 refine c_region ?_
 refine l_val (v := .int .i64 (0)) rfl rfl rfl (e_move) ?_
 refine l_val (v := .slice none 0 0) rfl rfl rfl (e_move) ?_
 refine l_val (v := .int .i64 (0)) rfl rfl rfl (e_len (n := 0) rfl tw100) ?_
 refine l_val (v := .bool false) rfl rfl rfl (e_lss (a := (0 : Int)) (b := (0 : Int)) rfl rfl) ?_
 refine l_nil ?_
 refine f_then ?_
 refine c_no rfl ?_
 refine c_exit ?_
 refine f_then_exit ?_
 refine f_then_exit ?_
 refine f_exit ?_
 refine f_then ?_
 refine c_seq ?_
 refine c_seq ?_
 refine c_region ?_
 refine l_val (v := .int .i64 (0)) rfl rfl rfl (e_assign) ?_
 refine l_nil ?_
 refine f_then ?_
 refine c_block ?_
 refine c_loop (fun (x_ : Unit) (f : Fm) (L : List Res) => match x_ with | () => (f 0 = .slice none 0 0 ∧ f 5 = .slice (some ⟨b1, 0, none⟩) 0 0 ∧ f 9 = .int .i64 (0)) ∧ L = [pt b1 (.cells #[] 243)] ∧ (True)) (fun (x_ : Unit) => match x_ with | () => 0) () ?_ ?_
 ·exact ⟨⟨rfl, rfl, rfl⟩, rfl, trivial⟩
 rintro ⟨⟩ f0 L0 ⟨⟨hs0, hs5, hs9⟩, hL, -⟩
 subst L0
 refine rebase (d := 0) hs0 ?_
 refine rebase (d := 5) hs5 ?_
 refine rebase (d := 9) hs9 ?_
 clear hs0 hs5 hs9
 refine c_seq ?_
 refine c_seq ?_
 refine c_region ?_
 refine l_val (v := .int .i64 (0)) rfl rfl rfl (e_move) ?_
 refine l_val (v := .slice none 0 0) rfl rfl rfl (e_move) ?_
 refine l_val (v := .int .i64 (0)) rfl rfl rfl (e_len (n := 0) rfl tw100) ?_
 refine l_val (v := .bool false) rfl rfl rfl (e_lss (a := (0 : Int)) (b := (0 : Int)) rfl rfl) ?_
 refine l_nil ?_
 refine f_then ?_
 refine c_no rfl ?_
 refine c_exit ?_
 refine f_then_exit ?_
 refine f_then_exit ?_
 refine f_exit ?_
 refine f_then ?_
 refine c_seq ?_
 refine c_seq ?_
 refine c_region ?_
 refine l_val (v := .int .i64 (0)) rfl rfl rfl (e_assign) ?_
 refine l_nil ?_
 refine f_then ?_
 refine c_block ?_
 refine c_loop (fun (x_ : Unit) (f : Fm) (L : List Res) => match x_ with | () => (f 0 = .slice none 0 0 ∧ f 5 = .slice (some ⟨b1, 0, none⟩) 0 0 ∧ f 11 = .int .i64 (0)) ∧ L = [pt b1 (.cells #[] 243)] ∧ (True)) (fun (x_ : Unit) => match x_ with | () => 0) () ?_ ?_
 ·exact ⟨⟨rfl, rfl, rfl⟩, rfl, trivial⟩
 rintro ⟨⟩ f0 L0 ⟨⟨hs0, hs5, hs11⟩, hL, -⟩
 subst L0
 refine rebase (d := 0) hs0 ?_
 refine rebase (d := 5) hs5 ?_
 refine rebase (d := 11) hs11 ?_
 clear hs0 hs5 hs11
 refine c_seq ?_
 refine c_seq ?_
 refine c_region ?_
 refine l_val (v := .int .i64 (0)) rfl rfl rfl (e_move) ?_
 refine l_val (v := .slice none 0 0) rfl rfl rfl (e_move) ?_
 refine l_val (v := .int .i64 (0)) rfl rfl rfl (e_len (n := 0) rfl tw100) ?_
 refine l_val (v := .bool false) rfl rfl rfl (e_lss (a := (0 : Int)) (b := (0 : Int)) rfl rfl) ?_
 refine l_nil ?_
 refine f_then ?_
 refine c_no rfl ?_
 refine c_exit ?_
 refine f_then_exit ?_
 refine f_then_exit ?_
 refine f_exit ?_
 refine f_then ?_
 refine c_seq ?_
 refine c_seq ?_
 refine c_region ?_
 refine l_val (v := .int .i64 (0)) rfl rfl rfl (e_assign) ?_
 refine l_nil ?_
 refine f_then ?_
 refine c_block ?_
 refine c_loop (fun (x_ : Unit) (f : Fm) (L : List Res) => match x_ with | () => (f 0 = .slice none 0 0 ∧ f 5 = .slice (some ⟨b1, 0, none⟩) 0 0 ∧ f 14 = .int .i64 (0)) ∧ L = [pt b1 (.cells #[] 243)] ∧ (True)) (fun (x_ : Unit) => match x_ with | () => 0) () ?_ ?_
 ·exact ⟨⟨rfl, rfl, rfl⟩, rfl, trivial⟩
 rintro ⟨⟩ f0 L0 ⟨⟨hs0, hs5, hs14⟩, hL, -⟩
 subst L0
 refine rebase (d := 0) hs0 ?_
 refine rebase (d := 5) hs5 ?_
 refine rebase (d := 14) hs14 ?_
 clear hs0 hs5 hs14
 refine c_seq ?_
 refine c_seq ?_
 refine c_region ?_
 refine l_val (v := .int .i64 (0)) rfl rfl rfl (e_move) ?_
 refine l_val (v := .slice none 0 0) rfl rfl rfl (e_move) ?_
 refine l_val (v := .int .i64 (0)) rfl rfl rfl (e_len (n := 0) rfl tw100) ?_
 refine l_val (v := .bool false) rfl rfl rfl (e_lss (a := (0 : Int)) (b := (0 : Int)) rfl rfl) ?_
 refine l_nil ?_
 refine f_then ?_
 refine c_no rfl ?_
 refine c_exit ?_
 refine f_then_exit ?_
 refine f_then_exit ?_
 refine f_exit ?_
 refine f_then ?_
 refine c_seq ?_
 refine c_region ?_
 refine l_val (v := .bool true) rfl rfl rfl (e_assign) ?_
 refine l_nil ?_
 refine f_then ?_
 refine c_ret ?_
 refine ret1 Tryz.results120 (v := .bool true) rfl ?_
 intro w hw
 exact ⟨rfl, st_mask [false] rfl hw⟩
set_option maxHeartbeats 4000000 in
theorem flatInts_nil (β : Base) (w : World) (hw : St β [] w) : Calls Tryz.prog 121 #[.slice none 0 0] w fun r w' => r = .returned (.bool true) ∧ St β [] w' := by
 refine enter (n := 193) Tryz.func121 rfl Tryz.ntmps121 rfl ?_ hw
 refine c_seq ?_
 refine c_region ?_
 refine l_val (v := .bool false) rfl rfl rfl (e_assign) ?_
 refine l_nil ?_
 refine f_then ?_
 refine c_seq ?_
 refine c_seq ?_
 refine c_region ?_
 refine l_val (v := .int .i64 (0)) rfl rfl rfl (e_assign) ?_
 refine l_nil ?_
 refine f_then ?_
 refine c_block ?_
 refine c_loop (fun (x_ : Unit) (f : Fm) (L : List Res) => match x_ with | () => (f 0 = .slice none 0 0 ∧ f 3 = .int .i64 (0)) ∧ L = [] ∧ (True)) (fun (x_ : Unit) => match x_ with | () => 0) () ?_ ?_
 ·exact ⟨⟨rfl, rfl⟩, rfl, trivial⟩
 rintro ⟨⟩ f0 L0 ⟨⟨hs0, hs3⟩, hL, -⟩
 subst L0
 refine rebase (d := 0) hs0 ?_
 refine rebase (d := 3) hs3 ?_
 clear hs0 hs3
 refine c_seq ?_
 refine c_seq ?_
 refine c_region ?_
 refine l_val (v := .int .i64 (0)) rfl rfl rfl (e_move) ?_
 refine l_val (v := .slice none 0 0) rfl rfl rfl (e_move) ?_
 refine l_val (v := .int .i64 (0)) rfl rfl rfl (e_len (n := 0) rfl tw103) ?_
 refine l_val (v := .bool false) rfl rfl rfl (e_lss (a := (0 : Int)) (b := (0 : Int)) rfl rfl) ?_
 refine l_nil ?_
 refine f_then ?_
 refine c_no rfl ?_
 refine c_exit ?_
 refine f_then_exit ?_
 refine f_then_exit ?_
 refine f_exit ?_
 refine f_then ?_
 refine c_seq ?_
 refine c_region ?_
 refine l_val (v := .slice none 0 0) rfl rfl rfl (e_move) ?_
 refine l_val (v := .int .i64 (0)) rfl rfl rfl (e_len (n := 0) rfl tw103) ?_
 refine l_mv rfl rfl rfl (m_make00 tw104 rfl rfl) ?_
 rintro _ _ ⟨b1, rfl, rfl⟩
 refine l_val (v := .slice (some ⟨b1, 0, none⟩) 0 0) rfl rfl rfl (e_assign) ?_
 refine l_nil ?_
 refine f_then ?_
 refine c_seq ?_
 refine c_seq ?_
 refine c_region ?_
 refine l_val (v := .int .i64 (0)) rfl rfl rfl (e_assign) ?_
 refine l_nil ?_
 refine f_then ?_
 refine c_block ?_
 refine c_loop (fun (x_ : Unit) (f : Fm) (L : List Res) => match x_ with | () => (f 0 = .slice none 0 0 ∧ f 5 = .slice (some ⟨b1, 0, none⟩) 0 0 ∧ f 6 = .int .i64 (0)) ∧ L = [pt b1 (.cells #[] 46)] ∧ (True)) (fun (x_ : Unit) => match x_ with | () => 0) () ?_ ?_
 ·exact ⟨⟨rfl, rfl, rfl⟩, rfl, trivial⟩
 rintro ⟨⟩ f0 L0 ⟨⟨hs0, hs5, hs6⟩, hL, -⟩
 subst L0
 refine rebase (d := 0) hs0 ?_
 refine rebase (d := 5) hs5 ?_
 refine rebase (d := 6) hs6 ?_
 clear hs0 hs5 hs6
 refine c_seq ?_
 refine c_seq ?_
 refine c_region ?_
 refine l_val (v := .int .i64 (0)) rfl rfl rfl (e_move) ?_
 refine l_val (v := .slice none 0 0) rfl rfl rfl (e_move) ?_
 refine l_val (v := .int .i64 (0)) rfl rfl rfl (e_len (n := 0) rfl tw103) ?_
 refine l_val (v := .bool false) rfl rfl rfl (e_lss (a := (0 : Int)) (b := (0 : Int)) rfl rfl) ?_
 refine l_nil ?_
 refine f_then ?_
 refine c_no rfl ?_
 refine c_exit ?_
 refine f_then_exit ?_
 refine f_then_exit ?_
 refine f_exit ?_
 refine f_then ?_
 refine c_seq ?_
 refine c_seq ?_
 refine c_region ?_
 refine l_val (v := .int .i64 (0)) rfl rfl rfl (e_assign) ?_
 refine l_nil ?_
 refine f_then ?_
 refine c_block ?_
 refine c_loop (fun (x_ : Unit) (f : Fm) (L : List Res) => match x_ with | () => (f 0 = .slice none 0 0 ∧ f 5 = .slice (some ⟨b1, 0, none⟩) 0 0 ∧ f 9 = .int .i64 (0)) ∧ L = [pt b1 (.cells #[] 46)] ∧ (True)) (fun (x_ : Unit) => match x_ with | () => 0) () ?_ ?_
 ·exact ⟨⟨rfl, rfl, rfl⟩, rfl, trivial⟩
 rintro ⟨⟩ f0 L0 ⟨⟨hs0, hs5, hs9⟩, hL, -⟩
 subst L0
 refine rebase (d := 0) hs0 ?_
 refine rebase (d := 5) hs5 ?_
 refine rebase (d := 9) hs9 ?_
 clear hs0 hs5 hs9
 refine c_seq ?_
 refine c_seq ?_
 refine c_region ?_
 refine l_val (v := .int .i64 (0)) rfl rfl rfl (e_move) ?_
 refine l_val (v := .slice none 0 0) rfl rfl rfl (e_move) ?_
 refine l_val (v := .int .i64 (0)) rfl rfl rfl (e_len (n := 0) rfl tw103) ?_
 refine l_val (v := .bool false) rfl rfl rfl (e_lss (a := (0 : Int)) (b := (0 : Int)) rfl rfl) ?_
 refine l_nil ?_
 refine f_then ?_
 refine c_no rfl ?_
 refine c_exit ?_
 refine f_then_exit ?_
 refine f_then_exit ?_
 refine f_exit ?_
 refine f_then ?_
 refine c_seq ?_
 refine c_seq ?_
 refine c_region ?_
 refine l_val (v := .int .i64 (0)) rfl rfl rfl (e_assign) ?_
 refine l_nil ?_
 refine f_then ?_
 refine c_block ?_
 refine c_loop (fun (x_ : Unit) (f : Fm) (L : List Res) => match x_ with | () => (f 0 = .slice none 0 0 ∧ f 5 = .slice (some ⟨b1, 0, none⟩) 0 0 ∧ f 11 = .int .i64 (0)) ∧ L = [pt b1 (.cells #[] 46)] ∧ (True)) (fun (x_ : Unit) => match x_ with | () => 0) () ?_ ?_
 ·exact ⟨⟨rfl, rfl, rfl⟩, rfl, trivial⟩
 rintro ⟨⟩ f0 L0 ⟨⟨hs0, hs5, hs11⟩, hL, -⟩
 subst L0
 refine rebase (d := 0) hs0 ?_
 refine rebase (d := 5) hs5 ?_
 refine rebase (d := 11) hs11 ?_
 clear hs0 hs5 hs11
 refine c_seq ?_
 refine c_seq ?_
 refine c_region ?_
 refine l_val (v := .int .i64 (0)) rfl rfl rfl (e_move) ?_
 refine l_val (v := .slice none 0 0) rfl rfl rfl (e_move) ?_
 refine l_val (v := .int .i64 (0)) rfl rfl rfl (e_len (n := 0) rfl tw103) ?_
 refine l_val (v := .bool false) rfl rfl rfl (e_lss (a := (0 : Int)) (b := (0 : Int)) rfl rfl) ?_
 refine l_nil ?_
 refine f_then ?_
 refine c_no rfl ?_
 refine c_exit ?_
 refine f_then_exit ?_
 refine f_then_exit ?_
 refine f_exit ?_
 refine f_then ?_
 refine c_seq ?_
 refine c_seq ?_
 refine c_region ?_
 refine l_val (v := .int .i64 (0)) rfl rfl rfl (e_assign) ?_
 refine l_nil ?_
 refine f_then ?_
 refine c_block ?_
 refine c_loop (fun (x_ : Unit) (f : Fm) (L : List Res) => match x_ with | () => (f 0 = .slice none 0 0 ∧ f 5 = .slice (some ⟨b1, 0, none⟩) 0 0 ∧ f 14 = .int .i64 (0)) ∧ L = [pt b1 (.cells #[] 46)] ∧ (True)) (fun (x_ : Unit) => match x_ with | () => 0) () ?_ ?_
 ·exact ⟨⟨rfl, rfl, rfl⟩, rfl, trivial⟩
 rintro ⟨⟩ f0 L0 ⟨⟨hs0, hs5, hs14⟩, hL, -⟩
 subst L0
 refine rebase (d := 0) hs0 ?_
 refine rebase (d := 5) hs5 ?_
 refine rebase (d := 14) hs14 ?_
 clear hs0 hs5 hs14
 refine c_seq ?_
 refine c_seq ?_
 refine c_region ?_
 refine l_val (v := .int .i64 (0)) rfl rfl rfl (e_move) ?_
 refine l_val (v := .slice none 0 0) rfl rfl rfl (e_move) ?_
 refine l_val (v := .int .i64 (0)) rfl rfl rfl (e_len (n := 0) rfl tw103) ?_
 refine l_val (v := .bool false) rfl rfl rfl (e_lss (a := (0 : Int)) (b := (0 : Int)) rfl rfl) ?_
 refine l_nil ?_
 refine f_then ?_
 refine c_no rfl ?_
 refine c_exit ?_
 refine f_then_exit ?_
 refine f_then_exit ?_
 refine f_exit ?_
 refine f_then ?_
 refine c_seq ?_
 refine c_region ?_
 refine l_val (v := .bool true) rfl rfl rfl (e_assign) ?_
 refine l_nil ?_
 refine f_then ?_
 refine c_ret ?_
 refine ret1 Tryz.results121 (v := .bool true) rfl ?_
 intro w hw
 exact ⟨rfl, st_mask [false] rfl hw⟩
set_option maxHeartbeats 4000000 in
theorem flatTexts_nil (β : Base) (w : World) (hw : St β [] w) : Calls Tryz.prog 122 #[.slice none 0 0] w fun r w' => r = .returned (.bool true) ∧ St β [] w' := by
 refine enter (n := 193) Tryz.func122 rfl Tryz.ntmps122 rfl ?_ hw
 refine c_seq ?_
 refine c_region ?_
 refine l_val (v := .bool false) rfl rfl rfl (e_assign) ?_
 refine l_nil ?_
 refine f_then ?_
 refine c_seq ?_
 refine c_seq ?_
 refine c_region ?_
 refine l_val (v := .int .i64 (0)) rfl rfl rfl (e_assign) ?_
 refine l_nil ?_
 refine f_then ?_
 refine c_block ?_
 refine c_loop (fun (x_ : Unit) (f : Fm) (L : List Res) => match x_ with | () => (f 0 = .slice none 0 0 ∧ f 3 = .int .i64 (0)) ∧ L = [] ∧ (True)) (fun (x_ : Unit) => match x_ with | () => 0) () ?_ ?_
 ·exact ⟨⟨rfl, rfl⟩, rfl, trivial⟩
 rintro ⟨⟩ f0 L0 ⟨⟨hs0, hs3⟩, hL, -⟩
 subst L0
 refine rebase (d := 0) hs0 ?_
 refine rebase (d := 3) hs3 ?_
 clear hs0 hs3
 refine c_seq ?_
 refine c_seq ?_
 refine c_region ?_
 refine l_val (v := .int .i64 (0)) rfl rfl rfl (e_move) ?_
 refine l_val (v := .slice none 0 0) rfl rfl rfl (e_move) ?_
 refine l_val (v := .int .i64 (0)) rfl rfl rfl (e_len (n := 0) rfl tw106) ?_
 refine l_val (v := .bool false) rfl rfl rfl (e_lss (a := (0 : Int)) (b := (0 : Int)) rfl rfl) ?_
 refine l_nil ?_
 refine f_then ?_
 refine c_no rfl ?_
 refine c_exit ?_
 refine f_then_exit ?_
 refine f_then_exit ?_
 refine f_exit ?_
 refine f_then ?_
 refine c_seq ?_
 refine c_region ?_
 refine l_val (v := .slice none 0 0) rfl rfl rfl (e_move) ?_
 refine l_val (v := .int .i64 (0)) rfl rfl rfl (e_len (n := 0) rfl tw106) ?_
 refine l_mv rfl rfl rfl (m_make00 tw107 rfl rfl) ?_
 rintro _ _ ⟨b1, rfl, rfl⟩
 refine l_val (v := .slice (some ⟨b1, 0, none⟩) 0 0) rfl rfl rfl (e_assign) ?_
 refine l_nil ?_
 refine f_then ?_
 refine c_seq ?_
 refine c_seq ?_
 refine c_region ?_
 refine l_val (v := .int .i64 (0)) rfl rfl rfl (e_assign) ?_
 refine l_nil ?_
 refine f_then ?_
 refine c_block ?_
 refine c_loop (fun (x_ : Unit) (f : Fm) (L : List Res) => match x_ with | () => (f 0 = .slice none 0 0 ∧ f 5 = .slice (some ⟨b1, 0, none⟩) 0 0 ∧ f 6 = .int .i64 (0)) ∧ L = [pt b1 (.cells #[] 245)] ∧ (True)) (fun (x_ : Unit) => match x_ with | () => 0) () ?_ ?_
 ·exact ⟨⟨rfl, rfl, rfl⟩, rfl, trivial⟩
 rintro ⟨⟩ f0 L0 ⟨⟨hs0, hs5, hs6⟩, hL, -⟩
 subst L0
 refine rebase (d := 0) hs0 ?_
 refine rebase (d := 5) hs5 ?_
 refine rebase (d := 6) hs6 ?_
 clear hs0 hs5 hs6
 refine c_seq ?_
 refine c_seq ?_
 refine c_region ?_
 refine l_val (v := .int .i64 (0)) rfl rfl rfl (e_move) ?_
 refine l_val (v := .slice none 0 0) rfl rfl rfl (e_move) ?_
 refine l_val (v := .int .i64 (0)) rfl rfl rfl (e_len (n := 0) rfl tw106) ?_
 refine l_val (v := .bool false) rfl rfl rfl (e_lss (a := (0 : Int)) (b := (0 : Int)) rfl rfl) ?_
 refine l_nil ?_
 refine f_then ?_
 refine c_no rfl ?_
 refine c_exit ?_
 refine f_then_exit ?_
 refine f_then_exit ?_
 refine f_exit ?_
 refine f_then ?_
 refine c_seq ?_
 refine c_seq ?_
 refine c_region ?_
 refine l_val (v := .int .i64 (0)) rfl rfl rfl (e_assign) ?_
 refine l_nil ?_
 refine f_then ?_
 refine c_block ?_
 refine c_loop (fun (x_ : Unit) (f : Fm) (L : List Res) => match x_ with | () => (f 0 = .slice none 0 0 ∧ f 5 = .slice (some ⟨b1, 0, none⟩) 0 0 ∧ f 9 = .int .i64 (0)) ∧ L = [pt b1 (.cells #[] 245)] ∧ (True)) (fun (x_ : Unit) => match x_ with | () => 0) () ?_ ?_
 ·exact ⟨⟨rfl, rfl, rfl⟩, rfl, trivial⟩
 rintro ⟨⟩ f0 L0 ⟨⟨hs0, hs5, hs9⟩, hL, -⟩
 subst L0
 refine rebase (d := 0) hs0 ?_
 refine rebase (d := 5) hs5 ?_
 refine rebase (d := 9) hs9 ?_
 clear hs0 hs5 hs9
 refine c_seq ?_
 refine c_seq ?_
 refine c_region ?_
 refine l_val (v := .int .i64 (0)) rfl rfl rfl (e_move) ?_
 refine l_val (v := .slice none 0 0) rfl rfl rfl (e_move) ?_
 refine l_val (v := .int .i64 (0)) rfl rfl rfl (e_len (n := 0) rfl tw106) ?_
 refine l_val (v := .bool false) rfl rfl rfl (e_lss (a := (0 : Int)) (b := (0 : Int)) rfl rfl) ?_
 refine l_nil ?_
 refine f_then ?_
 refine c_no rfl ?_
 refine c_exit ?_
 refine f_then_exit ?_
 refine f_then_exit ?_
 refine f_exit ?_
 refine f_then ?_
 refine c_seq ?_
 refine c_seq ?_
 refine c_region ?_
 refine l_val (v := .int .i64 (0)) rfl rfl rfl (e_assign) ?_
 refine l_nil ?_
 refine f_then ?_
 refine c_block ?_
 refine c_loop (fun (x_ : Unit) (f : Fm) (L : List Res) => match x_ with | () => (f 0 = .slice none 0 0 ∧ f 5 = .slice (some ⟨b1, 0, none⟩) 0 0 ∧ f 11 = .int .i64 (0)) ∧ L = [pt b1 (.cells #[] 245)] ∧ (True)) (fun (x_ : Unit) => match x_ with | () => 0) () ?_ ?_
 ·exact ⟨⟨rfl, rfl, rfl⟩, rfl, trivial⟩
 rintro ⟨⟩ f0 L0 ⟨⟨hs0, hs5, hs11⟩, hL, -⟩
 subst L0
 refine rebase (d := 0) hs0 ?_
 refine rebase (d := 5) hs5 ?_
 refine rebase (d := 11) hs11 ?_
 clear hs0 hs5 hs11
 refine c_seq ?_
 refine c_seq ?_
 refine c_region ?_
 refine l_val (v := .int .i64 (0)) rfl rfl rfl (e_move) ?_
 refine l_val (v := .slice none 0 0) rfl rfl rfl (e_move) ?_
 refine l_val (v := .int .i64 (0)) rfl rfl rfl (e_len (n := 0) rfl tw106) ?_
 refine l_val (v := .bool false) rfl rfl rfl (e_lss (a := (0 : Int)) (b := (0 : Int)) rfl rfl) ?_
 refine l_nil ?_
 refine f_then ?_
 refine c_no rfl ?_
 refine c_exit ?_
 refine f_then_exit ?_
 refine f_then_exit ?_
 refine f_exit ?_
 refine f_then ?_
 refine c_seq ?_
 refine c_seq ?_
 refine c_region ?_
 refine l_val (v := .int .i64 (0)) rfl rfl rfl (e_assign) ?_
 refine l_nil ?_
 refine f_then ?_
 refine c_block ?_
 refine c_loop (fun (x_ : Unit) (f : Fm) (L : List Res) => match x_ with | () => (f 0 = .slice none 0 0 ∧ f 5 = .slice (some ⟨b1, 0, none⟩) 0 0 ∧ f 14 = .int .i64 (0)) ∧ L = [pt b1 (.cells #[] 245)] ∧ (True)) (fun (x_ : Unit) => match x_ with | () => 0) () ?_ ?_
 ·exact ⟨⟨rfl, rfl, rfl⟩, rfl, trivial⟩
 rintro ⟨⟩ f0 L0 ⟨⟨hs0, hs5, hs14⟩, hL, -⟩
 subst L0
 refine rebase (d := 0) hs0 ?_
 refine rebase (d := 5) hs5 ?_
 refine rebase (d := 14) hs14 ?_
 clear hs0 hs5 hs14
 refine c_seq ?_
 refine c_seq ?_
 refine c_region ?_
 refine l_val (v := .int .i64 (0)) rfl rfl rfl (e_move) ?_
 refine l_val (v := .slice none 0 0) rfl rfl rfl (e_move) ?_
 refine l_val (v := .int .i64 (0)) rfl rfl rfl (e_len (n := 0) rfl tw106) ?_
 refine l_val (v := .bool false) rfl rfl rfl (e_lss (a := (0 : Int)) (b := (0 : Int)) rfl rfl) ?_
 refine l_nil ?_
 refine f_then ?_
 refine c_no rfl ?_
 refine c_exit ?_
 refine f_then_exit ?_
 refine f_then_exit ?_
 refine f_exit ?_
 refine f_then ?_
 refine c_seq ?_
 refine c_region ?_
 refine l_val (v := .bool true) rfl rfl rfl (e_assign) ?_
 refine l_nil ?_
 refine f_then ?_
 refine c_ret ?_
 refine ret1 Tryz.results122 (v := .bool true) rfl ?_
 intro w hw
 exact ⟨rfl, st_mask [false] rfl hw⟩
set_option maxHeartbeats 4000000 in
theorem flatBytes_nil (β : Base) (w : World) (hw : St β [] w) : Calls Tryz.prog 123 #[.slice none 0 0] w fun r w' => r = .returned (.bool true) ∧ St β [] w' := by
 refine enter (n := 193) Tryz.func123 rfl Tryz.ntmps123 rfl ?_ hw
 refine c_seq ?_
 refine c_region ?_
 refine l_val (v := .bool false) rfl rfl rfl (e_assign) ?_
 refine l_nil ?_
 refine f_then ?_
 refine c_seq ?_
 refine c_seq ?_
 refine c_region ?_
 refine l_val (v := .int .i64 (0)) rfl rfl rfl (e_assign) ?_
 refine l_nil ?_
 refine f_then ?_
 refine c_block ?_
 refine c_loop (fun (x_ : Unit) (f : Fm) (L : List Res) => match x_ with | () => (f 0 = .slice none 0 0 ∧ f 3 = .int .i64 (0)) ∧ L = [] ∧ (True)) (fun (x_ : Unit) => match x_ with | () => 0) () ?_ ?_
 ·exact ⟨⟨rfl, rfl⟩, rfl, trivial⟩
 rintro ⟨⟩ f0 L0 ⟨⟨hs0, hs3⟩, hL, -⟩
 subst L0
 refine rebase (d := 0) hs0 ?_
 refine rebase (d := 3) hs3 ?_
 clear hs0 hs3
 refine c_seq ?_
 refine c_seq ?_
 refine c_region ?_
 refine l_val (v := .int .i64 (0)) rfl rfl rfl (e_move) ?_
 refine l_val (v := .slice none 0 0) rfl rfl rfl (e_move) ?_
 refine l_val (v := .int .i64 (0)) rfl rfl rfl (e_len (n := 0) rfl tw109) ?_
 refine l_val (v := .bool false) rfl rfl rfl (e_lss (a := (0 : Int)) (b := (0 : Int)) rfl rfl) ?_
 refine l_nil ?_
 refine f_then ?_
 refine c_no rfl ?_
 refine c_exit ?_
 refine f_then_exit ?_
 refine f_then_exit ?_
 refine f_exit ?_
 refine f_then ?_
 refine c_seq ?_
 refine c_region ?_
 refine l_val (v := .slice none 0 0) rfl rfl rfl (e_move) ?_
 refine l_val (v := .int .i64 (0)) rfl rfl rfl (e_len (n := 0) rfl tw109) ?_
 refine l_mv rfl rfl rfl (m_make00 tw110 rfl rfl) ?_
 rintro _ _ ⟨b1, rfl, rfl⟩
 refine l_val (v := .slice (some ⟨b1, 0, none⟩) 0 0) rfl rfl rfl (e_assign) ?_
 refine l_nil ?_
 refine f_then ?_
 refine c_seq ?_
 refine c_seq ?_
 refine c_region ?_
 refine l_val (v := .int .i64 (0)) rfl rfl rfl (e_assign) ?_
 refine l_nil ?_
 refine f_then ?_
 refine c_block ?_
 refine c_loop (fun (x_ : Unit) (f : Fm) (L : List Res) => match x_ with | () => (f 0 = .slice none 0 0 ∧ f 5 = .slice (some ⟨b1, 0, none⟩) 0 0 ∧ f 6 = .int .i64 (0)) ∧ L = [pt b1 (.cells #[] 35)] ∧ (True)) (fun (x_ : Unit) => match x_ with | () => 0) () ?_ ?_
 ·exact ⟨⟨rfl, rfl, rfl⟩, rfl, trivial⟩
 rintro ⟨⟩ f0 L0 ⟨⟨hs0, hs5, hs6⟩, hL, -⟩
 subst L0
 refine rebase (d := 0) hs0 ?_
 refine rebase (d := 5) hs5 ?_
 refine rebase (d := 6) hs6 ?_
 clear hs0 hs5 hs6
 refine c_seq ?_
 refine c_seq ?_
 refine c_region ?_
 refine l_val (v := .int .i64 (0)) rfl rfl rfl (e_move) ?_
 refine l_val (v := .slice none 0 0) rfl rfl rfl (e_move) ?_
 refine l_val (v := .int .i64 (0)) rfl rfl rfl (e_len (n := 0) rfl tw109) ?_
 refine l_val (v := .bool false) rfl rfl rfl (e_lss (a := (0 : Int)) (b := (0 : Int)) rfl rfl) ?_
 refine l_nil ?_
 refine f_then ?_
 refine c_no rfl ?_
 refine c_exit ?_
 refine f_then_exit ?_
 refine f_then_exit ?_
 refine f_exit ?_
 refine f_then ?_
 refine c_seq ?_
 refine c_seq ?_
 refine c_region ?_
 refine l_val (v := .int .i64 (0)) rfl rfl rfl (e_assign) ?_
 refine l_nil ?_
 refine f_then ?_
 refine c_block ?_
 refine c_loop (fun (x_ : Unit) (f : Fm) (L : List Res) => match x_ with | () => (f 0 = .slice none 0 0 ∧ f 5 = .slice (some ⟨b1, 0, none⟩) 0 0 ∧ f 9 = .int .i64 (0)) ∧ L = [pt b1 (.cells #[] 35)] ∧ (True)) (fun (x_ : Unit) => match x_ with | () => 0) () ?_ ?_
 ·exact ⟨⟨rfl, rfl, rfl⟩, rfl, trivial⟩
 rintro ⟨⟩ f0 L0 ⟨⟨hs0, hs5, hs9⟩, hL, -⟩
 subst L0
 refine rebase (d := 0) hs0 ?_
 refine rebase (d := 5) hs5 ?_
 refine rebase (d := 9) hs9 ?_
 clear hs0 hs5 hs9
 refine c_seq ?_
 refine c_seq ?_
 refine c_region ?_
 refine l_val (v := .int .i64 (0)) rfl rfl rfl (e_move) ?_
 refine l_val (v := .slice none 0 0) rfl rfl rfl (e_move) ?_
 refine l_val (v := .int .i64 (0)) rfl rfl rfl (e_len (n := 0) rfl tw109) ?_
 refine l_val (v := .bool false) rfl rfl rfl (e_lss (a := (0 : Int)) (b := (0 : Int)) rfl rfl) ?_
 refine l_nil ?_
 refine f_then ?_
 refine c_no rfl ?_
 refine c_exit ?_
 refine f_then_exit ?_
 refine f_then_exit ?_
 refine f_exit ?_
 refine f_then ?_
 refine c_seq ?_
 refine c_seq ?_
 refine c_region ?_
 refine l_val (v := .int .i64 (0)) rfl rfl rfl (e_assign) ?_
 refine l_nil ?_
 refine f_then ?_
 refine c_block ?_
 refine c_loop (fun (x_ : Unit) (f : Fm) (L : List Res) => match x_ with | () => (f 0 = .slice none 0 0 ∧ f 5 = .slice (some ⟨b1, 0, none⟩) 0 0 ∧ f 11 = .int .i64 (0)) ∧ L = [pt b1 (.cells #[] 35)] ∧ (True)) (fun (x_ : Unit) => match x_ with | () => 0) () ?_ ?_
 ·exact ⟨⟨rfl, rfl, rfl⟩, rfl, trivial⟩
 rintro ⟨⟩ f0 L0 ⟨⟨hs0, hs5, hs11⟩, hL, -⟩
 subst L0
 refine rebase (d := 0) hs0 ?_
 refine rebase (d := 5) hs5 ?_
 refine rebase (d := 11) hs11 ?_
 clear hs0 hs5 hs11
 refine c_seq ?_
 refine c_seq ?_
 refine c_region ?_
 refine l_val (v := .int .i64 (0)) rfl rfl rfl (e_move) ?_
 refine l_val (v := .slice none 0 0) rfl rfl rfl (e_move) ?_
 refine l_val (v := .int .i64 (0)) rfl rfl rfl (e_len (n := 0) rfl tw109) ?_
 refine l_val (v := .bool false) rfl rfl rfl (e_lss (a := (0 : Int)) (b := (0 : Int)) rfl rfl) ?_
 refine l_nil ?_
 refine f_then ?_
 refine c_no rfl ?_
 refine c_exit ?_
 refine f_then_exit ?_
 refine f_then_exit ?_
 refine f_exit ?_
 refine f_then ?_
 refine c_seq ?_
 refine c_seq ?_
 refine c_region ?_
 refine l_val (v := .int .i64 (0)) rfl rfl rfl (e_assign) ?_
 refine l_nil ?_
 refine f_then ?_
 refine c_block ?_
 refine c_loop (fun (x_ : Unit) (f : Fm) (L : List Res) => match x_ with | () => (f 0 = .slice none 0 0 ∧ f 5 = .slice (some ⟨b1, 0, none⟩) 0 0 ∧ f 14 = .int .i64 (0)) ∧ L = [pt b1 (.cells #[] 35)] ∧ (True)) (fun (x_ : Unit) => match x_ with | () => 0) () ?_ ?_
 ·exact ⟨⟨rfl, rfl, rfl⟩, rfl, trivial⟩
 rintro ⟨⟩ f0 L0 ⟨⟨hs0, hs5, hs14⟩, hL, -⟩
 subst L0
 refine rebase (d := 0) hs0 ?_
 refine rebase (d := 5) hs5 ?_
 refine rebase (d := 14) hs14 ?_
 clear hs0 hs5 hs14
 refine c_seq ?_
 refine c_seq ?_
 refine c_region ?_
 refine l_val (v := .int .i64 (0)) rfl rfl rfl (e_move) ?_
 refine l_val (v := .slice none 0 0) rfl rfl rfl (e_move) ?_
 refine l_val (v := .int .i64 (0)) rfl rfl rfl (e_len (n := 0) rfl tw109) ?_
 refine l_val (v := .bool false) rfl rfl rfl (e_lss (a := (0 : Int)) (b := (0 : Int)) rfl rfl) ?_
 refine l_nil ?_
 refine f_then ?_
 refine c_no rfl ?_
 refine c_exit ?_
 refine f_then_exit ?_
 refine f_then_exit ?_
 refine f_exit ?_
 refine f_then ?_
 refine c_seq ?_
 refine c_region ?_
 refine l_val (v := .bool true) rfl rfl rfl (e_assign) ?_
 refine l_nil ?_
 refine f_then ?_
 refine c_ret ?_
 refine ret1 Tryz.results123 (v := .bool true) rfl ?_
 intro w hw
 exact ⟨rfl, st_mask [false] rfl hw⟩
set_option maxHeartbeats 4000000 in
theorem flatVecs_nil (β : Base) (w : World) (hw : St β [] w) : Calls Tryz.prog 127 #[.slice none 0 0] w fun r w' => r = .returned (.bool true) ∧ St β [] w' := by
 refine enter (n := 193) Tryz.func127 rfl Tryz.ntmps127 rfl ?_ hw
 refine c_seq ?_
 refine c_region ?_
 refine l_val (v := .bool false) rfl rfl rfl (e_assign) ?_
 refine l_nil ?_
 refine f_then ?_
 refine c_seq ?_
 refine c_seq ?_
 refine c_region ?_
 refine l_val (v := .int .i64 (0)) rfl rfl rfl (e_assign) ?_
 refine l_nil ?_
 refine f_then ?_
 refine c_block ?_
 refine c_loop (fun (x_ : Unit) (f : Fm) (L : List Res) => match x_ with | () => (f 0 = .slice none 0 0 ∧ f 3 = .int .i64 (0)) ∧ L = [] ∧ (True)) (fun (x_ : Unit) => match x_ with | () => 0) () ?_ ?_
 ·exact ⟨⟨rfl, rfl⟩, rfl, trivial⟩
 rintro ⟨⟩ f0 L0 ⟨⟨hs0, hs3⟩, hL, -⟩
 subst L0
 refine rebase (d := 0) hs0 ?_
 refine rebase (d := 3) hs3 ?_
 clear hs0 hs3
 refine c_seq ?_
 refine c_seq ?_
 refine c_region ?_
 refine l_val (v := .int .i64 (0)) rfl rfl rfl (e_move) ?_
 refine l_val (v := .slice none 0 0) rfl rfl rfl (e_move) ?_
 refine l_val (v := .int .i64 (0)) rfl rfl rfl (e_len (n := 0) rfl tw112) ?_
 refine l_val (v := .bool false) rfl rfl rfl (e_lss (a := (0 : Int)) (b := (0 : Int)) rfl rfl) ?_
 refine l_nil ?_
 refine f_then ?_
 refine c_no rfl ?_
 refine c_exit ?_
 refine f_then_exit ?_
 refine f_then_exit ?_
 refine f_exit ?_
 refine f_then ?_
 refine c_seq ?_
 refine c_region ?_
 refine l_val (v := .slice none 0 0) rfl rfl rfl (e_move) ?_
 refine l_val (v := .int .i64 (0)) rfl rfl rfl (e_len (n := 0) rfl tw112) ?_
 refine l_mv rfl rfl rfl (m_make00 tw113 rfl rfl) ?_
 rintro _ _ ⟨b1, rfl, rfl⟩
 refine l_val (v := .slice (some ⟨b1, 0, none⟩) 0 0) rfl rfl rfl (e_assign) ?_
 refine l_nil ?_
 refine f_then ?_
 refine c_seq ?_
 refine c_seq ?_
 refine c_region ?_
 refine l_val (v := .int .i64 (0)) rfl rfl rfl (e_assign) ?_
 refine l_nil ?_
 refine f_then ?_
 refine c_block ?_
 refine c_loop (fun (x_ : Unit) (f : Fm) (L : List Res) => match x_ with | () => (f 0 = .slice none 0 0 ∧ f 5 = .slice (some ⟨b1, 0, none⟩) 0 0 ∧ f 6 = .int .i64 (0)) ∧ L = [pt b1 (.cells #[] 250)] ∧ (True)) (fun (x_ : Unit) => match x_ with | () => 0) () ?_ ?_
 ·exact ⟨⟨rfl, rfl, rfl⟩, rfl, trivial⟩
 rintro ⟨⟩ f0 L0 ⟨⟨hs0, hs5, hs6⟩, hL, -⟩
 subst L0
 refine rebase (d := 0) hs0 ?_
 refine rebase (d := 5) hs5 ?_
 refine rebase (d := 6) hs6 ?_
 clear hs0 hs5 hs6
 refine c_seq ?_
 refine c_seq ?_
 refine c_region ?_
 refine l_val (v := .int .i64 (0)) rfl rfl rfl (e_move) ?_
 refine l_val (v := .slice none 0 0) rfl rfl rfl (e_move) ?_
 refine l_val (v := .int .i64 (0)) rfl rfl rfl (e_len (n := 0) rfl tw112) ?_
 refine l_val (v := .bool false) rfl rfl rfl (e_lss (a := (0 : Int)) (b := (0 : Int)) rfl rfl) ?_
 refine l_nil ?_
 refine f_then ?_
 refine c_no rfl ?_
 refine c_exit ?_
 refine f_then_exit ?_
 refine f_then_exit ?_
 refine f_exit ?_
 refine f_then ?_
 refine c_seq ?_
 refine c_seq ?_
 refine c_region ?_
 refine l_val (v := .int .i64 (0)) rfl rfl rfl (e_assign) ?_
 refine l_nil ?_
 refine f_then ?_
 refine c_block ?_
 refine c_loop (fun (x_ : Unit) (f : Fm) (L : List Res) => match x_ with | () => (f 0 = .slice none 0 0 ∧ f 5 = .slice (some ⟨b1, 0, none⟩) 0 0 ∧ f 9 = .int .i64 (0)) ∧ L = [pt b1 (.cells #[] 250)] ∧ (True)) (fun (x_ : Unit) => match x_ with | () => 0) () ?_ ?_
 ·exact ⟨⟨rfl, rfl, rfl⟩, rfl, trivial⟩
 rintro ⟨⟩ f0 L0 ⟨⟨hs0, hs5, hs9⟩, hL, -⟩
 subst L0
 refine rebase (d := 0) hs0 ?_
 refine rebase (d := 5) hs5 ?_
 refine rebase (d := 9) hs9 ?_
 clear hs0 hs5 hs9
 refine c_seq ?_
 refine c_seq ?_
 refine c_region ?_
 refine l_val (v := .int .i64 (0)) rfl rfl rfl (e_move) ?_
 refine l_val (v := .slice none 0 0) rfl rfl rfl (e_move) ?_
 refine l_val (v := .int .i64 (0)) rfl rfl rfl (e_len (n := 0) rfl tw112) ?_
 refine l_val (v := .bool false) rfl rfl rfl (e_lss (a := (0 : Int)) (b := (0 : Int)) rfl rfl) ?_
 refine l_nil ?_
 refine f_then ?_
 refine c_no rfl ?_
 refine c_exit ?_
 refine f_then_exit ?_
 refine f_then_exit ?_
 refine f_exit ?_
 refine f_then ?_
 refine c_seq ?_
 refine c_seq ?_
 refine c_region ?_
 refine l_val (v := .int .i64 (0)) rfl rfl rfl (e_assign) ?_
 refine l_nil ?_
 refine f_then ?_
 refine c_block ?_
 refine c_loop (fun (x_ : Unit) (f : Fm) (L : List Res) => match x_ with | () => (f 0 = .slice none 0 0 ∧ f 5 = .slice (some ⟨b1, 0, none⟩) 0 0 ∧ f 11 = .int .i64 (0)) ∧ L = [pt b1 (.cells #[] 250)] ∧ (True)) (fun (x_ : Unit) => match x_ with | () => 0) () ?_ ?_
 ·exact ⟨⟨rfl, rfl, rfl⟩, rfl, trivial⟩
 rintro ⟨⟩ f0 L0 ⟨⟨hs0, hs5, hs11⟩, hL, -⟩
 subst L0
 refine rebase (d := 0) hs0 ?_
 refine rebase (d := 5) hs5 ?_
 refine rebase (d := 11) hs11 ?_
 clear hs0 hs5 hs11
 refine c_seq ?_
 refine c_seq ?_
 refine c_region ?_
 refine l_val (v := .int .i64 (0)) rfl rfl rfl (e_move) ?_
 refine l_val (v := .slice none 0 0) rfl rfl rfl (e_move) ?_
 refine l_val (v := .int .i64 (0)) rfl rfl rfl (e_len (n := 0) rfl tw112) ?_
 refine l_val (v := .bool false) rfl rfl rfl (e_lss (a := (0 : Int)) (b := (0 : Int)) rfl rfl) ?_
 refine l_nil ?_
 refine f_then ?_
 refine c_no rfl ?_
 refine c_exit ?_
 refine f_then_exit ?_
 refine f_then_exit ?_
 refine f_exit ?_
 refine f_then ?_
 refine c_seq ?_
 refine c_seq ?_
 refine c_region ?_
 refine l_val (v := .int .i64 (0)) rfl rfl rfl (e_assign) ?_
 refine l_nil ?_
 refine f_then ?_
 refine c_block ?_
 refine c_loop (fun (x_ : Unit) (f : Fm) (L : List Res) => match x_ with | () => (f 0 = .slice none 0 0 ∧ f 5 = .slice (some ⟨b1, 0, none⟩) 0 0 ∧ f 14 = .int .i64 (0)) ∧ L = [pt b1 (.cells #[] 250)] ∧ (True)) (fun (x_ : Unit) => match x_ with | () => 0) () ?_ ?_
 ·exact ⟨⟨rfl, rfl, rfl⟩, rfl, trivial⟩
 rintro ⟨⟩ f0 L0 ⟨⟨hs0, hs5, hs14⟩, hL, -⟩
 subst L0
 refine rebase (d := 0) hs0 ?_
 refine rebase (d := 5) hs5 ?_
 refine rebase (d := 14) hs14 ?_
 clear hs0 hs5 hs14
 refine c_seq ?_
 refine c_seq ?_
 refine c_region ?_
 refine l_val (v := .int .i64 (0)) rfl rfl rfl (e_move) ?_
 refine l_val (v := .slice none 0 0) rfl rfl rfl (e_move) ?_
 refine l_val (v := .int .i64 (0)) rfl rfl rfl (e_len (n := 0) rfl tw112) ?_
 refine l_val (v := .bool false) rfl rfl rfl (e_lss (a := (0 : Int)) (b := (0 : Int)) rfl rfl) ?_
 refine l_nil ?_
 refine f_then ?_
 refine c_no rfl ?_
 refine c_exit ?_
 refine f_then_exit ?_
 refine f_then_exit ?_
 refine f_exit ?_
 refine f_then ?_
 refine c_seq ?_
 refine c_region ?_
 refine l_val (v := .bool true) rfl rfl rfl (e_assign) ?_
 refine l_nil ?_
 refine f_then ?_
 refine c_ret ?_
 refine ret1 Tryz.results127 (v := .bool true) rfl ?_
 intro w hw
 exact ⟨rfl, st_mask [false] rfl hw⟩
set_option maxHeartbeats 4000000 in
theorem flatBodies_nil (β : Base) (w : World) (hw : St β [] w) : Calls Tryz.prog 128 #[.slice none 0 0] w fun r w' => r = .returned (.bool true) ∧ St β [] w' := by
 refine enter (n := 193) Tryz.func128 rfl Tryz.ntmps128 rfl ?_ hw
 refine c_seq ?_
 refine c_region ?_
 refine l_val (v := .bool false) rfl rfl rfl (e_assign) ?_
 refine l_nil ?_
 refine f_then ?_
 refine c_seq ?_
 refine c_seq ?_
 refine c_region ?_
 refine l_val (v := .int .i64 (0)) rfl rfl rfl (e_assign) ?_
 refine l_nil ?_
 refine f_then ?_
 refine c_block ?_
 refine c_loop (fun (x_ : Unit) (f : Fm) (L : List Res) => match x_ with | () => (f 0 = .slice none 0 0 ∧ f 3 = .int .i64 (0)) ∧ L = [] ∧ (True)) (fun (x_ : Unit) => match x_ with | () => 0) () ?_ ?_
 ·exact ⟨⟨rfl, rfl⟩, rfl, trivial⟩
 rintro ⟨⟩ f0 L0 ⟨⟨hs0, hs3⟩, hL, -⟩
 subst L0
 refine rebase (d := 0) hs0 ?_
 refine rebase (d := 3) hs3 ?_
 clear hs0 hs3
 refine c_seq ?_
 refine c_seq ?_
 refine c_region ?_
 refine l_val (v := .int .i64 (0)) rfl rfl rfl (e_move) ?_
 refine l_val (v := .slice none 0 0) rfl rfl rfl (e_move) ?_
 refine l_val (v := .int .i64 (0)) rfl rfl rfl (e_len (n := 0) rfl tw115) ?_
 refine l_val (v := .bool false) rfl rfl rfl (e_lss (a := (0 : Int)) (b := (0 : Int)) rfl rfl) ?_
 refine l_nil ?_
 refine f_then ?_
 refine c_no rfl ?_
 refine c_exit ?_
 refine f_then_exit ?_
 refine f_then_exit ?_
 refine f_exit ?_
 refine f_then ?_
 refine c_seq ?_
 refine c_region ?_
 refine l_val (v := .slice none 0 0) rfl rfl rfl (e_move) ?_
 refine l_val (v := .int .i64 (0)) rfl rfl rfl (e_len (n := 0) rfl tw115) ?_
 refine l_mv rfl rfl rfl (m_make00 tw116 rfl rfl) ?_
 rintro _ _ ⟨b1, rfl, rfl⟩
 refine l_val (v := .slice (some ⟨b1, 0, none⟩) 0 0) rfl rfl rfl (e_assign) ?_
 refine l_nil ?_
 refine f_then ?_
 refine c_seq ?_
 refine c_seq ?_
 refine c_region ?_
 refine l_val (v := .int .i64 (0)) rfl rfl rfl (e_assign) ?_
 refine l_nil ?_
 refine f_then ?_
 refine c_block ?_
 refine c_loop (fun (x_ : Unit) (f : Fm) (L : List Res) => match x_ with | () => (f 0 = .slice none 0 0 ∧ f 5 = .slice (some ⟨b1, 0, none⟩) 0 0 ∧ f 6 = .int .i64 (0)) ∧ L = [pt b1 (.cells #[] 25)] ∧ (True)) (fun (x_ : Unit) => match x_ with | () => 0) () ?_ ?_
 ·exact ⟨⟨rfl, rfl, rfl⟩, rfl, trivial⟩
 rintro ⟨⟩ f0 L0 ⟨⟨hs0, hs5, hs6⟩, hL, -⟩
 subst L0
 refine rebase (d := 0) hs0 ?_
 refine rebase (d := 5) hs5 ?_
 refine rebase (d := 6) hs6 ?_
 clear hs0 hs5 hs6
 refine c_seq ?_
 refine c_seq ?_
 refine c_region ?_
 refine l_val (v := .int .i64 (0)) rfl rfl rfl (e_move) ?_
 refine l_val (v := .slice none 0 0) rfl rfl rfl (e_move) ?_
 refine l_val (v := .int .i64 (0)) rfl rfl rfl (e_len (n := 0) rfl tw115) ?_
 refine l_val (v := .bool false) rfl rfl rfl (e_lss (a := (0 : Int)) (b := (0 : Int)) rfl rfl) ?_
 refine l_nil ?_
 refine f_then ?_
 refine c_no rfl ?_
 refine c_exit ?_
 refine f_then_exit ?_
 refine f_then_exit ?_
 refine f_exit ?_
 refine f_then ?_
 refine c_seq ?_
 refine c_seq ?_
 refine c_region ?_
 refine l_val (v := .int .i64 (0)) rfl rfl rfl (e_assign) ?_
 refine l_nil ?_
 refine f_then ?_
 refine c_block ?_
 refine c_loop (fun (x_ : Unit) (f : Fm) (L : List Res) => match x_ with | () => (f 0 = .slice none 0 0 ∧ f 5 = .slice (some ⟨b1, 0, none⟩) 0 0 ∧ f 9 = .int .i64 (0)) ∧ L = [pt b1 (.cells #[] 25)] ∧ (True)) (fun (x_ : Unit) => match x_ with | () => 0) () ?_ ?_
 ·exact ⟨⟨rfl, rfl, rfl⟩, rfl, trivial⟩
 rintro ⟨⟩ f0 L0 ⟨⟨hs0, hs5, hs9⟩, hL, -⟩
 subst L0
 refine rebase (d := 0) hs0 ?_
 refine rebase (d := 5) hs5 ?_
 refine rebase (d := 9) hs9 ?_
 clear hs0 hs5 hs9
 refine c_seq ?_
 refine c_seq ?_
 refine c_region ?_
 refine l_val (v := .int .i64 (0)) rfl rfl rfl (e_move) ?_
 refine l_val (v := .slice none 0 0) rfl rfl rfl (e_move) ?_
 refine l_val (v := .int .i64 (0)) rfl rfl rfl (e_len (n := 0) rfl tw115) ?_
 refine l_val (v := .bool false) rfl rfl rfl (e_lss (a := (0 : Int)) (b := (0 : Int)) rfl rfl) ?_
 refine l_nil ?_
 refine f_then ?_
 refine c_no rfl ?_
 refine c_exit ?_
 refine f_then_exit ?_
 refine f_then_exit ?_
 refine f_exit ?_
 refine f_then ?_
 refine c_seq ?_
 refine c_seq ?_
 refine c_region ?_
 refine l_val (v := .int .i64 (0)) rfl rfl rfl (e_assign) ?_
 refine l_nil ?_
 refine f_then ?_
 refine c_block ?_
 refine c_loop (fun (x_ : Unit) (f : Fm) (L : List Res) => match x_ with | () => (f 0 = .slice none 0 0 ∧ f 5 = .slice (some ⟨b1, 0, none⟩) 0 0 ∧ f 11 = .int .i64 (0)) ∧ L = [pt b1 (.cells #[] 25)] ∧ (True)) (fun (x_ : Unit) => match x_ with | () => 0) () ?_ ?_
 ·exact ⟨⟨rfl, rfl, rfl⟩, rfl, trivial⟩
 rintro ⟨⟩ f0 L0 ⟨⟨hs0, hs5, hs11⟩, hL, -⟩
 subst L0
 refine rebase (d := 0) hs0 ?_
 refine rebase (d := 5) hs5 ?_
 refine rebase (d := 11) hs11 ?_
 clear hs0 hs5 hs11
 refine c_seq ?_
 refine c_seq ?_
 refine c_region ?_
 refine l_val (v := .int .i64 (0)) rfl rfl rfl (e_move) ?_
 refine l_val (v := .slice none 0 0) rfl rfl rfl (e_move) ?_
 refine l_val (v := .int .i64 (0)) rfl rfl rfl (e_len (n := 0) rfl tw115) ?_
 refine l_val (v := .bool false) rfl rfl rfl (e_lss (a := (0 : Int)) (b := (0 : Int)) rfl rfl) ?_
 refine l_nil ?_
 refine f_then ?_
 refine c_no rfl ?_
 refine c_exit ?_
 refine f_then_exit ?_
 refine f_then_exit ?_
 refine f_exit ?_
 refine f_then ?_
 refine c_seq ?_
 refine c_seq ?_
 refine c_region ?_
 refine l_val (v := .int .i64 (0)) rfl rfl rfl (e_assign) ?_
 refine l_nil ?_
 refine f_then ?_
 refine c_block ?_
 refine c_loop (fun (x_ : Unit) (f : Fm) (L : List Res) => match x_ with | () => (f 0 = .slice none 0 0 ∧ f 5 = .slice (some ⟨b1, 0, none⟩) 0 0 ∧ f 14 = .int .i64 (0)) ∧ L = [pt b1 (.cells #[] 25)] ∧ (True)) (fun (x_ : Unit) => match x_ with | () => 0) () ?_ ?_
 ·exact ⟨⟨rfl, rfl, rfl⟩, rfl, trivial⟩
 rintro ⟨⟩ f0 L0 ⟨⟨hs0, hs5, hs14⟩, hL, -⟩
 subst L0
 refine rebase (d := 0) hs0 ?_
 refine rebase (d := 5) hs5 ?_
 refine rebase (d := 14) hs14 ?_
 clear hs0 hs5 hs14
 refine c_seq ?_
 refine c_seq ?_
 refine c_region ?_
 refine l_val (v := .int .i64 (0)) rfl rfl rfl (e_move) ?_
 refine l_val (v := .slice none 0 0) rfl rfl rfl (e_move) ?_
 refine l_val (v := .int .i64 (0)) rfl rfl rfl (e_len (n := 0) rfl tw115) ?_
 refine l_val (v := .bool false) rfl rfl rfl (e_lss (a := (0 : Int)) (b := (0 : Int)) rfl rfl) ?_
 refine l_nil ?_
 refine f_then ?_
 refine c_no rfl ?_
 refine c_exit ?_
 refine f_then_exit ?_
 refine f_then_exit ?_
 refine f_exit ?_
 refine f_then ?_
 refine c_seq ?_
 refine c_region ?_
 refine l_val (v := .bool true) rfl rfl rfl (e_assign) ?_
 refine l_nil ?_
 refine f_then ?_
 refine c_ret ?_
 refine ret1 Tryz.results128 (v := .bool true) rfl ?_
 intro w hw
 exact ⟨rfl, st_mask [false] rfl hw⟩
set_option maxHeartbeats 4000000 in
theorem flatSystems_nil (β : Base) (w : World) (hw : St β [] w) : Calls Tryz.prog 129 #[.slice none 0 0] w fun r w' => r = .returned (.bool true) ∧ St β [] w' := by
 refine enter (n := 193) Tryz.func129 rfl Tryz.ntmps129 rfl ?_ hw
 refine c_seq ?_
 refine c_region ?_
 refine l_val (v := .bool false) rfl rfl rfl (e_assign) ?_
 refine l_nil ?_
 refine f_then ?_
 refine c_seq ?_
 refine c_seq ?_
 refine c_region ?_
 refine l_val (v := .int .i64 (0)) rfl rfl rfl (e_assign) ?_
 refine l_nil ?_
 refine f_then ?_
 refine c_block ?_
 refine c_loop (fun (x_ : Unit) (f : Fm) (L : List Res) => match x_ with | () => (f 0 = .slice none 0 0 ∧ f 3 = .int .i64 (0)) ∧ L = [] ∧ (True)) (fun (x_ : Unit) => match x_ with | () => 0) () ?_ ?_
 ·exact ⟨⟨rfl, rfl⟩, rfl, trivial⟩
 rintro ⟨⟩ f0 L0 ⟨⟨hs0, hs3⟩, hL, -⟩
 subst L0
 refine rebase (d := 0) hs0 ?_
 refine rebase (d := 3) hs3 ?_
 clear hs0 hs3
 refine c_seq ?_
 refine c_seq ?_
 refine c_region ?_
 refine l_val (v := .int .i64 (0)) rfl rfl rfl (e_move) ?_
 refine l_val (v := .slice none 0 0) rfl rfl rfl (e_move) ?_
 refine l_val (v := .int .i64 (0)) rfl rfl rfl (e_len (n := 0) rfl tw118) ?_
 refine l_val (v := .bool false) rfl rfl rfl (e_lss (a := (0 : Int)) (b := (0 : Int)) rfl rfl) ?_
 refine l_nil ?_
 refine f_then ?_
 refine c_no rfl ?_
 refine c_exit ?_
 refine f_then_exit ?_
 refine f_then_exit ?_
 refine f_exit ?_
 refine f_then ?_
 refine c_seq ?_
 refine c_region ?_
 refine l_val (v := .slice none 0 0) rfl rfl rfl (e_move) ?_
 refine l_val (v := .int .i64 (0)) rfl rfl rfl (e_len (n := 0) rfl tw118) ?_
 refine l_mv rfl rfl rfl (m_make00 tw119 rfl rfl) ?_
 rintro _ _ ⟨b1, rfl, rfl⟩
 refine l_val (v := .slice (some ⟨b1, 0, none⟩) 0 0) rfl rfl rfl (e_assign) ?_
 refine l_nil ?_
 refine f_then ?_
 refine c_seq ?_
 refine c_seq ?_
 refine c_region ?_
 refine l_val (v := .int .i64 (0)) rfl rfl rfl (e_assign) ?_
 refine l_nil ?_
 refine f_then ?_
 refine c_block ?_
 refine c_loop (fun (x_ : Unit) (f : Fm) (L : List Res) => match x_ with | () => (f 0 = .slice none 0 0 ∧ f 5 = .slice (some ⟨b1, 0, none⟩) 0 0 ∧ f 6 = .int .i64 (0)) ∧ L = [pt b1 (.cells #[] 252)] ∧ (True)) (fun (x_ : Unit) => match x_ with | () => 0) () ?_ ?_
 ·exact ⟨⟨rfl, rfl, rfl⟩, rfl, trivial⟩
 rintro ⟨⟩ f0 L0 ⟨⟨hs0, hs5, hs6⟩, hL, -⟩
 subst L0
 refine rebase (d := 0) hs0 ?_
 refine rebase (d := 5) hs5 ?_
 refine rebase (d := 6) hs6 ?_
 clear hs0 hs5 hs6
 refine c_seq ?_
 refine c_seq ?_
 refine c_region ?_
 refine l_val (v := .int .i64 (0)) rfl rfl rfl (e_move) ?_
 refine l_val (v := .slice none 0 0) rfl rfl rfl (e_move) ?_
 refine l_val (v := .int .i64 (0)) rfl rfl rfl (e_len (n := 0) rfl tw118) ?_
 refine l_val (v := .bool false) rfl rfl rfl (e_lss (a := (0 : Int)) (b := (0 : Int)) rfl rfl) ?_
 refine l_nil ?_
 refine f_then ?_
 refine c_no rfl ?_
 refine c_exit ?_
 refine f_then_exit ?_
 refine f_then_exit ?_
 refine f_exit ?_
 refine f_then ?_
 refine c_seq ?_
 refine c_seq ?_
 refine c_region ?_
 refine l_val (v := .int .i64 (0)) rfl rfl rfl (e_assign) ?_
 refine l_nil ?_
 refine f_then ?_
 refine c_block ?_
 refine c_loop (fun (x_ : Unit) (f : Fm) (L : List Res) => match x_ with | () => (f 0 = .slice none 0 0 ∧ f 5 = .slice (some ⟨b1, 0, none⟩) 0 0 ∧ f 9 = .int .i64 (0)) ∧ L = [pt b1 (.cells #[] 252)] ∧ (True)) (fun (x_ : Unit) => match x_ with | () => 0) () ?_ ?_
 ·exact ⟨⟨rfl, rfl, rfl⟩, rfl, trivial⟩
 rintro ⟨⟩ f0 L0 ⟨⟨hs0, hs5, hs9⟩, hL, -⟩
 subst L0
 refine rebase (d := 0) hs0 ?_
 refine rebase (d := 5) hs5 ?_
 refine rebase (d := 9) hs9 ?_
 clear hs0 hs5 hs9
 refine c_seq ?_
 refine c_seq ?_
 refine c_region ?_
 refine l_val (v := .int .i64 (0)) rfl rfl rfl (e_move) ?_
 refine l_val (v := .slice none 0 0) rfl rfl rfl (e_move) ?_
 refine l_val (v := .int .i64 (0)) rfl rfl rfl (e_len (n := 0) rfl tw118) ?_
 refine l_val (v := .bool false) rfl rfl rfl (e_lss (a := (0 : Int)) (b := (0 : Int)) rfl rfl) ?_
 refine l_nil ?_
 refine f_then ?_
 refine c_no rfl ?_
 refine c_exit ?_
 refine f_then_exit ?_
 refine f_then_exit ?_
 refine f_exit ?_
 refine f_then ?_
 refine c_seq ?_
 refine c_seq ?_
 refine c_region ?_
 refine l_val (v := .int .i64 (0)) rfl rfl rfl (e_assign) ?_
 refine l_nil ?_
 refine f_then ?_
 refine c_block ?_
 refine c_loop (fun (x_ : Unit) (f : Fm) (L : List Res) => match x_ with | () => (f 0 = .slice none 0 0 ∧ f 5 = .slice (some ⟨b1, 0, none⟩) 0 0 ∧ f 11 = .int .i64 (0)) ∧ L = [pt b1 (.cells #[] 252)] ∧ (True)) (fun (x_ : Unit) => match x_ with | () => 0) () ?_ ?_
 ·exact ⟨⟨rfl, rfl, rfl⟩, rfl, trivial⟩
 rintro ⟨⟩ f0 L0 ⟨⟨hs0, hs5, hs11⟩, hL, -⟩
 subst L0
 refine rebase (d := 0) hs0 ?_
 refine rebase (d := 5) hs5 ?_
 refine rebase (d := 11) hs11 ?_
 clear hs0 hs5 hs11
 refine c_seq ?_
 refine c_seq ?_
 refine c_region ?_
 refine l_val (v := .int .i64 (0)) rfl rfl rfl (e_move) ?_
 refine l_val (v := .slice none 0 0) rfl rfl rfl (e_move) ?_
 refine l_val (v := .int .i64 (0)) rfl rfl rfl (e_len (n := 0) rfl tw118) ?_
 refine l_val (v := .bool false) rfl rfl rfl (e_lss (a := (0 : Int)) (b := (0 : Int)) rfl rfl) ?_
 refine l_nil ?_
 refine f_then ?_
 refine c_no rfl ?_
 refine c_exit ?_
 refine f_then_exit ?_
 refine f_then_exit ?_
 refine f_exit ?_
 refine f_then ?_
 refine c_seq ?_
 refine c_seq ?_
 refine c_region ?_
 refine l_val (v := .int .i64 (0)) rfl rfl rfl (e_assign) ?_
 refine l_nil ?_
 refine f_then ?_
 refine c_block ?_
 refine c_loop (fun (x_ : Unit) (f : Fm) (L : List Res) => match x_ with | () => (f 0 = .slice none 0 0 ∧ f 5 = .slice (some ⟨b1, 0, none⟩) 0 0 ∧ f 14 = .int .i64 (0)) ∧ L = [pt b1 (.cells #[] 252)] ∧ (True)) (fun (x_ : Unit) => match x_ with | () => 0) () ?_ ?_
 ·exact ⟨⟨rfl, rfl, rfl⟩, rfl, trivial⟩
 rintro ⟨⟩ f0 L0 ⟨⟨hs0, hs5, hs14⟩, hL, -⟩
 subst L0
 refine rebase (d := 0) hs0 ?_
 refine rebase (d := 5) hs5 ?_
 refine rebase (d := 14) hs14 ?_
 clear hs0 hs5 hs14
 refine c_seq ?_
 refine c_seq ?_
 refine c_region ?_
 refine l_val (v := .int .i64 (0)) rfl rfl rfl (e_move) ?_
 refine l_val (v := .slice none 0 0) rfl rfl rfl (e_move) ?_
 refine l_val (v := .int .i64 (0)) rfl rfl rfl (e_len (n := 0) rfl tw118) ?_
 refine l_val (v := .bool false) rfl rfl rfl (e_lss (a := (0 : Int)) (b := (0 : Int)) rfl rfl) ?_
 refine l_nil ?_
 refine f_then ?_
 refine c_no rfl ?_
 refine c_exit ?_
 refine f_then_exit ?_
 refine f_then_exit ?_
 refine f_exit ?_
 refine f_then ?_
 refine c_seq ?_
 refine c_region ?_
 refine l_val (v := .bool true) rfl rfl rfl (e_assign) ?_
 refine l_nil ?_
 refine f_then ?_
 refine c_ret ?_
 refine ret1 Tryz.results129 (v := .bool true) rfl ?_
 intro w hw
 exact ⟨rfl, st_mask [false] rfl hw⟩
set_option maxHeartbeats 4000000 in
theorem flatInputs_nil (β : Base) (w : World) (hw : St β [] w) : Calls Tryz.prog 130 #[.slice none 0 0] w fun r w' => r = .returned (.bool true) ∧ St β [] w' := by
 refine enter (n := 193) Tryz.func130 rfl Tryz.ntmps130 rfl ?_ hw
 refine c_seq ?_
 refine c_region ?_
 refine l_val (v := .bool false) rfl rfl rfl (e_assign) ?_
 refine l_nil ?_
 refine f_then ?_
 refine c_seq ?_
 refine c_seq ?_
 refine c_region ?_
 refine l_val (v := .int .i64 (0)) rfl rfl rfl (e_assign) ?_
 refine l_nil ?_
 refine f_then ?_
 refine c_block ?_
 refine c_loop (fun (x_ : Unit) (f : Fm) (L : List Res) => match x_ with | () => (f 0 = .slice none 0 0 ∧ f 3 = .int .i64 (0)) ∧ L = [] ∧ (True)) (fun (x_ : Unit) => match x_ with | () => 0) () ?_ ?_
 ·exact ⟨⟨rfl, rfl⟩, rfl, trivial⟩
 rintro ⟨⟩ f0 L0 ⟨⟨hs0, hs3⟩, hL, -⟩
 subst L0
 refine rebase (d := 0) hs0 ?_
 refine rebase (d := 3) hs3 ?_
 clear hs0 hs3
 refine c_seq ?_
 refine c_seq ?_
 refine c_region ?_
 refine l_val (v := .int .i64 (0)) rfl rfl rfl (e_move) ?_
 refine l_val (v := .slice none 0 0) rfl rfl rfl (e_move) ?_
 refine l_val (v := .int .i64 (0)) rfl rfl rfl (e_len (n := 0) rfl tw121) ?_
 refine l_val (v := .bool false) rfl rfl rfl (e_lss (a := (0 : Int)) (b := (0 : Int)) rfl rfl) ?_
 refine l_nil ?_
 refine f_then ?_
 refine c_no rfl ?_
 refine c_exit ?_
 refine f_then_exit ?_
 refine f_then_exit ?_
 refine f_exit ?_
 refine f_then ?_
 refine c_seq ?_
 refine c_region ?_
 refine l_val (v := .slice none 0 0) rfl rfl rfl (e_move) ?_
 refine l_val (v := .int .i64 (0)) rfl rfl rfl (e_len (n := 0) rfl tw121) ?_
 refine l_mv rfl rfl rfl (m_make00 tw122 rfl rfl) ?_
 rintro _ _ ⟨b1, rfl, rfl⟩
 refine l_val (v := .slice (some ⟨b1, 0, none⟩) 0 0) rfl rfl rfl (e_assign) ?_
 refine l_nil ?_
 refine f_then ?_
 refine c_seq ?_
 refine c_seq ?_
 refine c_region ?_
 refine l_val (v := .int .i64 (0)) rfl rfl rfl (e_assign) ?_
 refine l_nil ?_
 refine f_then ?_
 refine c_block ?_
 refine c_loop (fun (x_ : Unit) (f : Fm) (L : List Res) => match x_ with | () => (f 0 = .slice none 0 0 ∧ f 5 = .slice (some ⟨b1, 0, none⟩) 0 0 ∧ f 6 = .int .i64 (0)) ∧ L = [pt b1 (.cells #[] 256)] ∧ (True)) (fun (x_ : Unit) => match x_ with | () => 0) () ?_ ?_
 ·exact ⟨⟨rfl, rfl, rfl⟩, rfl, trivial⟩
 rintro ⟨⟩ f0 L0 ⟨⟨hs0, hs5, hs6⟩, hL, -⟩
 subst L0
 refine rebase (d := 0) hs0 ?_
 refine rebase (d := 5) hs5 ?_
 refine rebase (d := 6) hs6 ?_
 clear hs0 hs5 hs6
 refine c_seq ?_
 refine c_seq ?_
 refine c_region ?_
 refine l_val (v := .int .i64 (0)) rfl rfl rfl (e_move) ?_
 refine l_val (v := .slice none 0 0) rfl rfl rfl (e_move) ?_
 refine l_val (v := .int .i64 (0)) rfl rfl rfl (e_len (n := 0) rfl tw121) ?_
 refine l_val (v := .bool false) rfl rfl rfl (e_lss (a := (0 : Int)) (b := (0 : Int)) rfl rfl) ?_
 refine l_nil ?_
 refine f_then ?_
 refine c_no rfl ?_
 refine c_exit ?_
 refine f_then_exit ?_
 refine f_then_exit ?_
 refine f_exit ?_
 refine f_then ?_
 refine c_seq ?_
 refine c_seq ?_
 refine c_region ?_
 refine l_val (v := .int .i64 (0)) rfl rfl rfl (e_assign) ?_
 refine l_nil ?_
 refine f_then ?_
 refine c_block ?_
 refine c_loop (fun (x_ : Unit) (f : Fm) (L : List Res) => match x_ with | () => (f 0 = .slice none 0 0 ∧ f 5 = .slice (some ⟨b1, 0, none⟩) 0 0 ∧ f 9 = .int .i64 (0)) ∧ L = [pt b1 (.cells #[] 256)] ∧ (True)) (fun (x_ : Unit) => match x_ with | () => 0) () ?_ ?_
 ·exact ⟨⟨rfl, rfl, rfl⟩, rfl, trivial⟩
 rintro ⟨⟩ f0 L0 ⟨⟨hs0, hs5, hs9⟩, hL, -⟩
 subst L0
 refine rebase (d := 0) hs0 ?_
 refine rebase (d := 5) hs5 ?_
 refine rebase (d := 9) hs9 ?_
 clear hs0 hs5 hs9
 refine c_seq ?_
 refine c_seq ?_
 refine c_region ?_
 refine l_val (v := .int .i64 (0)) rfl rfl rfl (e_move) ?_
 refine l_val (v := .slice none 0 0) rfl rfl rfl (e_move) ?_
 refine l_val (v := .int .i64 (0)) rfl rfl rfl (e_len (n := 0) rfl tw121) ?_
 refine l_val (v := .bool false) rfl rfl rfl (e_lss (a := (0 : Int)) (b := (0 : Int)) rfl rfl) ?_
 refine l_nil ?_
 refine f_then ?_
 refine c_no rfl ?_
 refine c_exit ?_
 refine f_then_exit ?_
 refine f_then_exit ?_
 refine f_exit ?_
 refine f_then ?_
 refine c_seq ?_
 refine c_seq ?_
 refine c_region ?_
 refine l_val (v := .int .i64 (0)) rfl rfl rfl (e_assign) ?_
 refine l_nil ?_
 refine f_then ?_
 refine c_block ?_
 refine c_loop (fun (x_ : Unit) (f : Fm) (L : List Res) => match x_ with | () => (f 0 = .slice none 0 0 ∧ f 5 = .slice (some ⟨b1, 0, none⟩) 0 0 ∧ f 11 = .int .i64 (0)) ∧ L = [pt b1 (.cells #[] 256)] ∧ (True)) (fun (x_ : Unit) => match x_ with | () => 0) () ?_ ?_
 ·exact ⟨⟨rfl, rfl, rfl⟩, rfl, trivial⟩
 rintro ⟨⟩ f0 L0 ⟨⟨hs0, hs5, hs11⟩, hL, -⟩
 subst L0
 refine rebase (d := 0) hs0 ?_
 refine rebase (d := 5) hs5 ?_
 refine rebase (d := 11) hs11 ?_
 clear hs0 hs5 hs11
 refine c_seq ?_
 refine c_seq ?_
 refine c_region ?_
 refine l_val (v := .int .i64 (0)) rfl rfl rfl (e_move) ?_
 refine l_val (v := .slice none 0 0) rfl rfl rfl (e_move) ?_
 refine l_val (v := .int .i64 (0)) rfl rfl rfl (e_len (n := 0) rfl tw121) ?_
 refine l_val (v := .bool false) rfl rfl rfl (e_lss (a := (0 : Int)) (b := (0 : Int)) rfl rfl) ?_
 refine l_nil ?_
 refine f_then ?_
 refine c_no rfl ?_
 refine c_exit ?_
 refine f_then_exit ?_
 refine f_then_exit ?_
 refine f_exit ?_
 refine f_then ?_
 refine c_seq ?_
 refine c_seq ?_
 refine c_region ?_
 refine l_val (v := .int .i64 (0)) rfl rfl rfl (e_assign) ?_
 refine l_nil ?_
 refine f_then ?_
 refine c_block ?_
 refine c_loop (fun (x_ : Unit) (f : Fm) (L : List Res) => match x_ with | () => (f 0 = .slice none 0 0 ∧ f 5 = .slice (some ⟨b1, 0, none⟩) 0 0 ∧ f 14 = .int .i64 (0)) ∧ L = [pt b1 (.cells #[] 256)] ∧ (True)) (fun (x_ : Unit) => match x_ with | () => 0) () ?_ ?_
 ·exact ⟨⟨rfl, rfl, rfl⟩, rfl, trivial⟩
 rintro ⟨⟩ f0 L0 ⟨⟨hs0, hs5, hs14⟩, hL, -⟩
 subst L0
 refine rebase (d := 0) hs0 ?_
 refine rebase (d := 5) hs5 ?_
 refine rebase (d := 14) hs14 ?_
 clear hs0 hs5 hs14
 refine c_seq ?_
 refine c_seq ?_
 refine c_region ?_
 refine l_val (v := .int .i64 (0)) rfl rfl rfl (e_move) ?_
 refine l_val (v := .slice none 0 0) rfl rfl rfl (e_move) ?_
 refine l_val (v := .int .i64 (0)) rfl rfl rfl (e_len (n := 0) rfl tw121) ?_
 refine l_val (v := .bool false) rfl rfl rfl (e_lss (a := (0 : Int)) (b := (0 : Int)) rfl rfl) ?_
 refine l_nil ?_
 refine f_then ?_
 refine c_no rfl ?_
 refine c_exit ?_
 refine f_then_exit ?_
 refine f_then_exit ?_
 refine f_exit ?_
 refine f_then ?_
 refine c_seq ?_
 refine c_region ?_
 refine l_val (v := .bool true) rfl rfl rfl (e_assign) ?_
 refine l_nil ?_
 refine f_then ?_
 refine c_ret ?_
 refine ret1 Tryz.results130 (v := .bool true) rfl ?_
 intro w hw
 exact ⟨rfl, st_mask [false] rfl hw⟩
set_option maxHeartbeats 4000000 in
theorem flatAreas_nil (β : Base) (w : World) (hw : St β [] w) : Calls Tryz.prog 131 #[.slice none 0 0] w fun r w' => r = .returned (.bool true) ∧ St β [] w' := by
 refine enter (n := 193) Tryz.func131 rfl Tryz.ntmps131 rfl ?_ hw
 refine c_seq ?_
 refine c_region ?_
 refine l_val (v := .bool false) rfl rfl rfl (e_assign) ?_
 refine l_nil ?_
 refine f_then ?_
 refine c_seq ?_
 refine c_seq ?_
 refine c_region ?_
 refine l_val (v := .int .i64 (0)) rfl rfl rfl (e_assign) ?_
 refine l_nil ?_
 refine f_then ?_
 refine c_block ?_
 refine c_loop (fun (x_ : Unit) (f : Fm) (L : List Res) => match x_ with | () => (f 0 = .slice none 0 0 ∧ f 3 = .int .i64 (0)) ∧ L = [] ∧ (True)) (fun (x_ : Unit) => match x_ with | () => 0) () ?_ ?_
 ·exact ⟨⟨rfl, rfl⟩, rfl, trivial⟩
 rintro ⟨⟩ f0 L0 ⟨⟨hs0, hs3⟩, hL, -⟩
 subst L0
 refine rebase (d := 0) hs0 ?_
 refine rebase (d := 3) hs3 ?_
 clear hs0 hs3
 refine c_seq ?_
 refine c_seq ?_
 refine c_region ?_
 refine l_val (v := .int .i64 (0)) rfl rfl rfl (e_move) ?_
 refine l_val (v := .slice none 0 0) rfl rfl rfl (e_move) ?_
 refine l_val (v := .int .i64 (0)) rfl rfl rfl (e_len (n := 0) rfl tw124) ?_
 refine l_val (v := .bool false) rfl rfl rfl (e_lss (a := (0 : Int)) (b := (0 : Int)) rfl rfl) ?_
 refine l_nil ?_
 refine f_then ?_
 refine c_no rfl ?_
 refine c_exit ?_
 refine f_then_exit ?_
 refine f_then_exit ?_
 refine f_exit ?_
 refine f_then ?_
 refine c_seq ?_
 refine c_region ?_
 refine l_val (v := .slice none 0 0) rfl rfl rfl (e_move) ?_
 refine l_val (v := .int .i64 (0)) rfl rfl rfl (e_len (n := 0) rfl tw124) ?_
 refine l_mv rfl rfl rfl (m_make00 tw125 rfl rfl) ?_
 rintro _ _ ⟨b1, rfl, rfl⟩
 refine l_val (v := .slice (some ⟨b1, 0, none⟩) 0 0) rfl rfl rfl (e_assign) ?_
 refine l_nil ?_
 refine f_then ?_
 refine c_seq ?_
 refine c_seq ?_
 refine c_region ?_
 refine l_val (v := .int .i64 (0)) rfl rfl rfl (e_assign) ?_
 refine l_nil ?_
 refine f_then ?_
 refine c_block ?_
 refine c_loop (fun (x_ : Unit) (f : Fm) (L : List Res) => match x_ with | () => (f 0 = .slice none 0 0 ∧ f 5 = .slice (some ⟨b1, 0, none⟩) 0 0 ∧ f 6 = .int .i64 (0)) ∧ L = [pt b1 (.cells #[] 94)] ∧ (True)) (fun (x_ : Unit) => match x_ with | () => 0) () ?_ ?_
 ·exact ⟨⟨rfl, rfl, rfl⟩, rfl, trivial⟩
 rintro ⟨⟩ f0 L0 ⟨⟨hs0, hs5, hs6⟩, hL, -⟩
 subst L0
 refine rebase (d := 0) hs0 ?_
 refine rebase (d := 5) hs5 ?_
 refine rebase (d := 6) hs6 ?_
 clear hs0 hs5 hs6
 refine c_seq ?_
 refine c_seq ?_
 refine c_region ?_
 refine l_val (v := .int .i64 (0)) rfl rfl rfl (e_move) ?_
 refine l_val (v := .slice none 0 0) rfl rfl rfl (e_move) ?_
 refine l_val (v := .int .i64 (0)) rfl rfl rfl (e_len (n := 0) rfl tw124) ?_
 refine l_val (v := .bool false) rfl rfl rfl (e_lss (a := (0 : Int)) (b := (0 : Int)) rfl rfl) ?_
 refine l_nil ?_
 refine f_then ?_
 refine c_no rfl ?_
 refine c_exit ?_
 refine f_then_exit ?_
 refine f_then_exit ?_
 refine f_exit ?_
 refine f_then ?_
 refine c_seq ?_
 refine c_seq ?_
 refine c_region ?_
 refine l_val (v := .int .i64 (0)) rfl rfl rfl (e_assign) ?_
 refine l_nil ?_
 refine f_then ?_
 refine c_block ?_
 refine c_loop (fun (x_ : Unit) (f : Fm) (L : List Res) => match x_ with | () => (f 0 = .slice none 0 0 ∧ f 5 = .slice (some ⟨b1, 0, none⟩) 0 0 ∧ f 9 = .int .i64 (0)) ∧ L = [pt b1 (.cells #[] 94)] ∧ (True)) (fun (x_ : Unit) => match x_ with | () => 0) () ?_ ?_
 ·exact ⟨⟨rfl, rfl, rfl⟩, rfl, trivial⟩
 rintro ⟨⟩ f0 L0 ⟨⟨hs0, hs5, hs9⟩, hL, -⟩
 subst L0
 refine rebase (d := 0) hs0 ?_
 refine rebase (d := 5) hs5 ?_
 refine rebase (d := 9) hs9 ?_
 clear hs0 hs5 hs9
 refine c_seq ?_
 refine c_seq ?_
 refine c_region ?_
 refine l_val (v := .int .i64 (0)) rfl rfl rfl (e_move) ?_
 refine l_val (v := .slice none 0 0) rfl rfl rfl (e_move) ?_
 refine l_val (v := .int .i64 (0)) rfl rfl rfl (e_len (n := 0) rfl tw124) ?_
 refine l_val (v := .bool false) rfl rfl rfl (e_lss (a := (0 : Int)) (b := (0 : Int)) rfl rfl) ?_
 refine l_nil ?_
 refine f_then ?_
 refine c_no rfl ?_
 refine c_exit ?_
 refine f_then_exit ?_
 refine f_then_exit ?_
 refine f_exit ?_
 refine f_then ?_
 refine c_seq ?_
 refine c_seq ?_
 refine c_region ?_
 refine l_val (v := .int .i64 (0)) rfl rfl rfl (e_assign) ?_
 refine l_nil ?_
 refine f_then ?_
 refine c_block ?_
 refine c_loop (fun (x_ : Unit) (f : Fm) (L : List Res) => match x_ with | () => (f 0 = .slice none 0 0 ∧ f 5 = .slice (some ⟨b1, 0, none⟩) 0 0 ∧ f 11 = .int .i64 (0)) ∧ L = [pt b1 (.cells #[] 94)] ∧ (True)) (fun (x_ : Unit) => match x_ with | () => 0) () ?_ ?_
 ·exact ⟨⟨rfl, rfl, rfl⟩, rfl, trivial⟩
 rintro ⟨⟩ f0 L0 ⟨⟨hs0, hs5, hs11⟩, hL, -⟩
 subst L0
 refine rebase (d := 0) hs0 ?_
 refine rebase (d := 5) hs5 ?_
 refine rebase (d := 11) hs11 ?_
 clear hs0 hs5 hs11
 refine c_seq ?_
 refine c_seq ?_
 refine c_region ?_
 refine l_val (v := .int .i64 (0)) rfl rfl rfl (e_move) ?_
 refine l_val (v := .slice none 0 0) rfl rfl rfl (e_move) ?_
 refine l_val (v := .int .i64 (0)) rfl rfl rfl (e_len (n := 0) rfl tw124) ?_
 refine l_val (v := .bool false) rfl rfl rfl (e_lss (a := (0 : Int)) (b := (0 : Int)) rfl rfl) ?_
 refine l_nil ?_
 refine f_then ?_
 refine c_no rfl ?_
 refine c_exit ?_
 refine f_then_exit ?_
 refine f_then_exit ?_
 refine f_exit ?_
 refine f_then ?_
 refine c_seq ?_
 refine c_seq ?_
 refine c_region ?_
 refine l_val (v := .int .i64 (0)) rfl rfl rfl (e_assign) ?_
 refine l_nil ?_
 refine f_then ?_
 refine c_block ?_
 refine c_loop (fun (x_ : Unit) (f : Fm) (L : List Res) => match x_ with | () => (f 0 = .slice none 0 0 ∧ f 5 = .slice (some ⟨b1, 0, none⟩) 0 0 ∧ f 14 = .int .i64 (0)) ∧ L = [pt b1 (.cells #[] 94)] ∧ (True)) (fun (x_ : Unit) => match x_ with | () => 0) () ?_ ?_
 ·exact ⟨⟨rfl, rfl, rfl⟩, rfl, trivial⟩
 rintro ⟨⟩ f0 L0 ⟨⟨hs0, hs5, hs14⟩, hL, -⟩
 subst L0
 refine rebase (d := 0) hs0 ?_
 refine rebase (d := 5) hs5 ?_
 refine rebase (d := 14) hs14 ?_
 clear hs0 hs5 hs14
 refine c_seq ?_
 refine c_seq ?_
 refine c_region ?_
 refine l_val (v := .int .i64 (0)) rfl rfl rfl (e_move) ?_
 refine l_val (v := .slice none 0 0) rfl rfl rfl (e_move) ?_
 refine l_val (v := .int .i64 (0)) rfl rfl rfl (e_len (n := 0) rfl tw124) ?_
 refine l_val (v := .bool false) rfl rfl rfl (e_lss (a := (0 : Int)) (b := (0 : Int)) rfl rfl) ?_
 refine l_nil ?_
 refine f_then ?_
 refine c_no rfl ?_
 refine c_exit ?_
 refine f_then_exit ?_
 refine f_then_exit ?_
 refine f_exit ?_
 refine f_then ?_
 refine c_seq ?_
 refine c_region ?_
 refine l_val (v := .bool true) rfl rfl rfl (e_assign) ?_
 refine l_nil ?_
 refine f_then ?_
 refine c_ret ?_
 refine ret1 Tryz.results131 (v := .bool true) rfl ?_
 intro w hw
 exact ⟨rfl, st_mask [false] rfl hw⟩
set_option maxHeartbeats 4000000 in
theorem flatPairs_nil (β : Base) (w : World) (hw : St β [] w) : Calls Tryz.prog 132 #[.slice none 0 0] w fun r w' => r = .returned (.bool true) ∧ St β [] w' := by
 refine enter (n := 193) Tryz.func132 rfl Tryz.ntmps132 rfl ?_ hw
 refine c_seq ?_
 refine c_region ?_
 refine l_val (v := .bool false) rfl rfl rfl (e_assign) ?_
 refine l_nil ?_
 refine f_then ?_
 refine c_seq ?_
 refine c_seq ?_
 refine c_region ?_
 refine l_val (v := .int .i64 (0)) rfl rfl rfl (e_assign) ?_
 refine l_nil ?_
 refine f_then ?_
 refine c_block ?_
 refine c_loop (fun (x_ : Unit) (f : Fm) (L : List Res) => match x_ with | () => (f 0 = .slice none 0 0 ∧ f 3 = .int .i64 (0)) ∧ L = [] ∧ (True)) (fun (x_ : Unit) => match x_ with | () => 0) () ?_ ?_
 ·exact ⟨⟨rfl, rfl⟩, rfl, trivial⟩
 rintro ⟨⟩ f0 L0 ⟨⟨hs0, hs3⟩, hL, -⟩
 subst L0
 refine rebase (d := 0) hs0 ?_
 refine rebase (d := 3) hs3 ?_
 clear hs0 hs3
 refine c_seq ?_
 refine c_seq ?_
 refine c_region ?_
 refine l_val (v := .int .i64 (0)) rfl rfl rfl (e_move) ?_
 refine l_val (v := .slice none 0 0) rfl rfl rfl (e_move) ?_
 refine l_val (v := .int .i64 (0)) rfl rfl rfl (e_len (n := 0) rfl tw127) ?_
 refine l_val (v := .bool false) rfl rfl rfl (e_lss (a := (0 : Int)) (b := (0 : Int)) rfl rfl) ?_
 refine l_nil ?_
 refine f_then ?_
 refine c_no rfl ?_
 refine c_exit ?_
 refine f_then_exit ?_
 refine f_then_exit ?_
 refine f_exit ?_
 refine f_then ?_
 refine c_seq ?_
 refine c_region ?_
 refine l_val (v := .slice none 0 0) rfl rfl rfl (e_move) ?_
 refine l_val (v := .int .i64 (0)) rfl rfl rfl (e_len (n := 0) rfl tw127) ?_
 refine l_mv rfl rfl rfl (m_make00 tw128 rfl rfl) ?_
 rintro _ _ ⟨b1, rfl, rfl⟩
 refine l_val (v := .slice (some ⟨b1, 0, none⟩) 0 0) rfl rfl rfl (e_assign) ?_
 refine l_nil ?_
 refine f_then ?_
 refine c_seq ?_
 refine c_seq ?_
 refine c_region ?_
 refine l_val (v := .int .i64 (0)) rfl rfl rfl (e_assign) ?_
 refine l_nil ?_
 refine f_then ?_
 refine c_block ?_
 refine c_loop (fun (x_ : Unit) (f : Fm) (L : List Res) => match x_ with | () => (f 0 = .slice none 0 0 ∧ f 5 = .slice (some ⟨b1, 0, none⟩) 0 0 ∧ f 6 = .int .i64 (0)) ∧ L = [pt b1 (.cells #[] 99)] ∧ (True)) (fun (x_ : Unit) => match x_ with | () => 0) () ?_ ?_
 ·exact ⟨⟨rfl, rfl, rfl⟩, rfl, trivial⟩
 rintro ⟨⟩ f0 L0 ⟨⟨hs0, hs5, hs6⟩, hL, -⟩
 subst L0
 refine rebase (d := 0) hs0 ?_
 refine rebase (d := 5) hs5 ?_
 refine rebase (d := 6) hs6 ?_
 clear hs0 hs5 hs6
 refine c_seq ?_
 refine c_seq ?_
 refine c_region ?_
 refine l_val (v := .int .i64 (0)) rfl rfl rfl (e_move) ?_
 refine l_val (v := .slice none 0 0) rfl rfl rfl (e_move) ?_
 refine l_val (v := .int .i64 (0)) rfl rfl rfl (e_len (n := 0) rfl tw127) ?_
 refine l_val (v := .bool false) rfl rfl rfl (e_lss (a := (0 : Int)) (b := (0 : Int)) rfl rfl) ?_
 refine l_nil ?_
 refine f_then ?_
 refine c_no rfl ?_
 refine c_exit ?_
 refine f_then_exit ?_
 refine f_then_exit ?_
 refine f_exit ?_
 refine f_then ?_
 refine c_seq ?_
 refine c_seq ?_
 refine c_region ?_
 refine l_val (v := .int .i64 (0)) rfl rfl rfl (e_assign) ?_
 refine l_nil ?_
 refine f_then ?_
 refine c_block ?_
 refine c_loop (fun (x_ : Unit) (f : Fm) (L : List Res) => match x_ with | () => (f 0 = .slice none 0 0 ∧ f 5 = .slice (some ⟨b1, 0, none⟩) 0 0 ∧ f 9 = .int .i64 (0)) ∧ L = [pt b1 (.cells #[] 99)] ∧ (True)) (fun (x_ : Unit) => match x_ with | () => 0) () ?_ ?_
 ·exact ⟨⟨rfl, rfl, rfl⟩, rfl, trivial⟩
 rintro ⟨⟩ f0 L0 ⟨⟨hs0, hs5, hs9⟩, hL, -⟩
 subst L0
 refine rebase (d := 0) hs0 ?_
 refine rebase (d := 5) hs5 ?_
 refine rebase (d := 9) hs9 ?_
 clear hs0 hs5 hs9
 refine c_seq ?_
 refine c_seq ?_
 refine c_region ?_
 refine l_val (v := .int .i64 (0)) rfl rfl rfl (e_move) ?_
 refine l_val (v := .slice none 0 0) rfl rfl rfl (e_move) ?_
 refine l_val (v := .int .i64 (0)) rfl rfl rfl (e_len (n := 0) rfl tw127) ?_
 refine l_val (v := .bool false) rfl rfl rfl (e_lss (a := (0 : Int)) (b := (0 : Int)) rfl rfl) ?_
 refine l_nil ?_
 refine f_then ?_
 refine c_no rfl ?_
 refine c_exit ?_
 refine f_then_exit ?_
 refine f_then_exit ?_
 refine f_exit ?_
 refine f_then ?_
 refine c_seq ?_
 refine c_seq ?_
 refine c_region ?_
 refine l_val (v := .int .i64 (0)) rfl rfl rfl (e_assign) ?_
 refine l_nil ?_
 refine f_then ?_
 refine c_block ?_
 refine c_loop (fun (x_ : Unit) (f : Fm) (L : List Res) => match x_ with | () => (f 0 = .slice none 0 0 ∧ f 5 = .slice (some ⟨b1, 0, none⟩) 0 0 ∧ f 11 = .int .i64 (0)) ∧ L = [pt b1 (.cells #[] 99)] ∧ (True)) (fun (x_ : Unit) => match x_ with | () => 0) () ?_ ?_
 ·exact ⟨⟨rfl, rfl, rfl⟩, rfl, trivial⟩
 rintro ⟨⟩ f0 L0 ⟨⟨hs0, hs5, hs11⟩, hL, -⟩
 subst L0
 refine rebase (d := 0) hs0 ?_
 refine rebase (d := 5) hs5 ?_
 refine rebase (d := 11) hs11 ?_
 clear hs0 hs5 hs11
 refine c_seq ?_
 refine c_seq ?_
 refine c_region ?_
 refine l_val (v := .int .i64 (0)) rfl rfl rfl (e_move) ?_
 refine l_val (v := .slice none 0 0) rfl rfl rfl (e_move) ?_
 refine l_val (v := .int .i64 (0)) rfl rfl rfl (e_len (n := 0) rfl tw127) ?_
 refine l_val (v := .bool false) rfl rfl rfl (e_lss (a := (0 : Int)) (b := (0 : Int)) rfl rfl) ?_
 refine l_nil ?_
 refine f_then ?_
 refine c_no rfl ?_
 refine c_exit ?_
 refine f_then_exit ?_
 refine f_then_exit ?_
 refine f_exit ?_
 refine f_then ?_
 refine c_seq ?_
 refine c_seq ?_
 refine c_region ?_
 refine l_val (v := .int .i64 (0)) rfl rfl rfl (e_assign) ?_
 refine l_nil ?_
 refine f_then ?_
 refine c_block ?_
 refine c_loop (fun (x_ : Unit) (f : Fm) (L : List Res) => match x_ with | () => (f 0 = .slice none 0 0 ∧ f 5 = .slice (some ⟨b1, 0, none⟩) 0 0 ∧ f 14 = .int .i64 (0)) ∧ L = [pt b1 (.cells #[] 99)] ∧ (True)) (fun (x_ : Unit) => match x_ with | () => 0) () ?_ ?_
 ·exact ⟨⟨rfl, rfl, rfl⟩, rfl, trivial⟩
 rintro ⟨⟩ f0 L0 ⟨⟨hs0, hs5, hs14⟩, hL, -⟩
 subst L0
 refine rebase (d := 0) hs0 ?_
 refine rebase (d := 5) hs5 ?_
 refine rebase (d := 14) hs14 ?_
 clear hs0 hs5 hs14
 refine c_seq ?_
 refine c_seq ?_
 refine c_region ?_
 refine l_val (v := .int .i64 (0)) rfl rfl rfl (e_move) ?_
 refine l_val (v := .slice none 0 0) rfl rfl rfl (e_move) ?_
 refine l_val (v := .int .i64 (0)) rfl rfl rfl (e_len (n := 0) rfl tw127) ?_
 refine l_val (v := .bool false) rfl rfl rfl (e_lss (a := (0 : Int)) (b := (0 : Int)) rfl rfl) ?_
 refine l_nil ?_
 refine f_then ?_
 refine c_no rfl ?_
 refine c_exit ?_
 refine f_then_exit ?_
 refine f_then_exit ?_
 refine f_exit ?_
 refine f_then ?_
 refine c_seq ?_
 refine c_region ?_
 refine l_val (v := .bool true) rfl rfl rfl (e_assign) ?_
 refine l_nil ?_
 refine f_then ?_
 refine c_ret ?_
 refine ret1 Tryz.results132 (v := .bool true) rfl ?_
 intro w hw
 exact ⟨rfl, st_mask [false] rfl hw⟩
set_option maxHeartbeats 4000000 in
theorem flatRopes_nil (β : Base) (w : World) (hw : St β [] w) : Calls Tryz.prog 133 #[.slice none 0 0] w fun r w' => r = .returned (.bool true) ∧ St β [] w' := by
 refine enter (n := 193) Tryz.func133 rfl Tryz.ntmps133 rfl ?_ hw
 refine c_seq ?_
 refine c_region ?_
 refine l_val (v := .bool false) rfl rfl rfl (e_assign) ?_
 refine l_nil ?_
 refine f_then ?_
 refine c_seq ?_
 refine c_seq ?_
 refine c_region ?_
 refine l_val (v := .int .i64 (0)) rfl rfl rfl (e_assign) ?_
 refine l_nil ?_
 refine f_then ?_
 refine c_block ?_
 refine c_loop (fun (x_ : Unit) (f : Fm) (L : List Res) => match x_ with | () => (f 0 = .slice none 0 0 ∧ f 3 = .int .i64 (0)) ∧ L = [] ∧ (True)) (fun (x_ : Unit) => match x_ with | () => 0) () ?_ ?_
 ·exact ⟨⟨rfl, rfl⟩, rfl, trivial⟩
 rintro ⟨⟩ f0 L0 ⟨⟨hs0, hs3⟩, hL, -⟩
 subst L0
 refine rebase (d := 0) hs0 ?_
 refine rebase (d := 3) hs3 ?_
 clear hs0 hs3
 refine c_seq ?_
 refine c_seq ?_
 refine c_region ?_
 refine l_val (v := .int .i64 (0)) rfl rfl rfl (e_move) ?_
 refine l_val (v := .slice none 0 0) rfl rfl rfl (e_move) ?_
 refine l_val (v := .int .i64 (0)) rfl rfl rfl (e_len (n := 0) rfl tw130) ?_
 refine l_val (v := .bool false) rfl rfl rfl (e_lss (a := (0 : Int)) (b := (0 : Int)) rfl rfl) ?_
 refine l_nil ?_
 refine f_then ?_
 refine c_no rfl ?_
 refine c_exit ?_
 refine f_then_exit ?_
 refine f_then_exit ?_
 refine f_exit ?_
 refine f_then ?_
 refine c_seq ?_
 refine c_region ?_
 refine l_val (v := .slice none 0 0) rfl rfl rfl (e_move) ?_
 refine l_val (v := .int .i64 (0)) rfl rfl rfl (e_len (n := 0) rfl tw130) ?_
 refine l_mv rfl rfl rfl (m_make00 tw131 rfl rfl) ?_
 rintro _ _ ⟨b1, rfl, rfl⟩
 refine l_val (v := .slice (some ⟨b1, 0, none⟩) 0 0) rfl rfl rfl (e_assign) ?_
 refine l_nil ?_
 refine f_then ?_
 refine c_seq ?_
 refine c_seq ?_
 refine c_region ?_
 refine l_val (v := .int .i64 (0)) rfl rfl rfl (e_assign) ?_
 refine l_nil ?_
 refine f_then ?_
 refine c_block ?_
 refine c_loop (fun (x_ : Unit) (f : Fm) (L : List Res) => match x_ with | () => (f 0 = .slice none 0 0 ∧ f 5 = .slice (some ⟨b1, 0, none⟩) 0 0 ∧ f 6 = .int .i64 (0)) ∧ L = [pt b1 (.cells #[] 26)] ∧ (True)) (fun (x_ : Unit) => match x_ with | () => 0) () ?_ ?_
 ·exact ⟨⟨rfl, rfl, rfl⟩, rfl, trivial⟩
 rintro ⟨⟩ f0 L0 ⟨⟨hs0, hs5, hs6⟩, hL, -⟩
 subst L0
 refine rebase (d := 0) hs0 ?_
 refine rebase (d := 5) hs5 ?_
 refine rebase (d := 6) hs6 ?_
 clear hs0 hs5 hs6
 refine c_seq ?_
 refine c_seq ?_
 refine c_region ?_
 refine l_val (v := .int .i64 (0)) rfl rfl rfl (e_move) ?_
 refine l_val (v := .slice none 0 0) rfl rfl rfl (e_move) ?_
 refine l_val (v := .int .i64 (0)) rfl rfl rfl (e_len (n := 0) rfl tw130) ?_
 refine l_val (v := .bool false) rfl rfl rfl (e_lss (a := (0 : Int)) (b := (0 : Int)) rfl rfl) ?_
 refine l_nil ?_
 refine f_then ?_
 refine c_no rfl ?_
 refine c_exit ?_
 refine f_then_exit ?_
 refine f_then_exit ?_
 refine f_exit ?_
 refine f_then ?_
 refine c_seq ?_
 refine c_seq ?_
 refine c_region ?_
 refine l_val (v := .int .i64 (0)) rfl rfl rfl (e_assign) ?_
 refine l_nil ?_
 refine f_then ?_
 refine c_block ?_
 refine c_loop (fun (x_ : Unit) (f : Fm) (L : List Res) => match x_ with | () => (f 0 = .slice none 0 0 ∧ f 5 = .slice (some ⟨b1, 0, none⟩) 0 0 ∧ f 9 = .int .i64 (0)) ∧ L = [pt b1 (.cells #[] 26)] ∧ (True)) (fun (x_ : Unit) => match x_ with | () => 0) () ?_ ?_
 ·exact ⟨⟨rfl, rfl, rfl⟩, rfl, trivial⟩
 rintro ⟨⟩ f0 L0 ⟨⟨hs0, hs5, hs9⟩, hL, -⟩
 subst L0
 refine rebase (d := 0) hs0 ?_
 refine rebase (d := 5) hs5 ?_
 refine rebase (d := 9) hs9 ?_
 clear hs0 hs5 hs9
 refine c_seq ?_
 refine c_seq ?_
 refine c_region ?_
 refine l_val (v := .int .i64 (0)) rfl rfl rfl (e_move) ?_
 refine l_val (v := .slice none 0 0) rfl rfl rfl (e_move) ?_
 refine l_val (v := .int .i64 (0)) rfl rfl rfl (e_len (n := 0) rfl tw130) ?_
 refine l_val (v := .bool false) rfl rfl rfl (e_lss (a := (0 : Int)) (b := (0 : Int)) rfl rfl) ?_
 refine l_nil ?_
 refine f_then ?_
 refine c_no rfl ?_
 refine c_exit ?_
 refine f_then_exit ?_
 refine f_then_exit ?_
 refine f_exit ?_
 refine f_then ?_
 refine c_seq ?_
 refine c_seq ?_
 refine c_region ?_
 refine l_val (v := .int .i64 (0)) rfl rfl rfl (e_assign) ?_
 refine l_nil ?_
 refine f_then ?_
 refine c_block ?_
 refine c_loop (fun (x_ : Unit) (f : Fm) (L : List Res) => match x_ with | () => (f 0 = .slice none 0 0 ∧ f 5 = .slice (some ⟨b1, 0, none⟩) 0 0 ∧ f 11 = .int .i64 (0)) ∧ L = [pt b1 (.cells #[] 26)] ∧ (True)) (fun (x_ : Unit) => match x_ with | () => 0) () ?_ ?_
 ·exact ⟨⟨rfl, rfl, rfl⟩, rfl, trivial⟩
 rintro ⟨⟩ f0 L0 ⟨⟨hs0, hs5, hs11⟩, hL, -⟩
 subst L0
 refine rebase (d := 0) hs0 ?_
 refine rebase (d := 5) hs5 ?_
 refine rebase (d := 11) hs11 ?_
 clear hs0 hs5 hs11
 refine c_seq ?_
 refine c_seq ?_
 refine c_region ?_
 refine l_val (v := .int .i64 (0)) rfl rfl rfl (e_move) ?_
 refine l_val (v := .slice none 0 0) rfl rfl rfl (e_move) ?_
 refine l_val (v := .int .i64 (0)) rfl rfl rfl (e_len (n := 0) rfl tw130) ?_
 refine l_val (v := .bool false) rfl rfl rfl (e_lss (a := (0 : Int)) (b := (0 : Int)) rfl rfl) ?_
 refine l_nil ?_
 refine f_then ?_
 refine c_no rfl ?_
 refine c_exit ?_
 refine f_then_exit ?_
 refine f_then_exit ?_
 refine f_exit ?_
 refine f_then ?_
 refine c_seq ?_
 refine c_seq ?_
 refine c_region ?_
 refine l_val (v := .int .i64 (0)) rfl rfl rfl (e_assign) ?_
 refine l_nil ?_
 refine f_then ?_
 refine c_block ?_
 refine c_loop (fun (x_ : Unit) (f : Fm) (L : List Res) => match x_ with | () => (f 0 = .slice none 0 0 ∧ f 5 = .slice (some ⟨b1, 0, none⟩) 0 0 ∧ f 14 = .int .i64 (0)) ∧ L = [pt b1 (.cells #[] 26)] ∧ (True)) (fun (x_ : Unit) => match x_ with | () => 0) () ?_ ?_
 ·exact ⟨⟨rfl, rfl, rfl⟩, rfl, trivial⟩
 rintro ⟨⟩ f0 L0 ⟨⟨hs0, hs5, hs14⟩, hL, -⟩
 subst L0
 refine rebase (d := 0) hs0 ?_
 refine rebase (d := 5) hs5 ?_
 refine rebase (d := 14) hs14 ?_
 clear hs0 hs5 hs14
 refine c_seq ?_
 refine c_seq ?_
 refine c_region ?_
 refine l_val (v := .int .i64 (0)) rfl rfl rfl (e_move) ?_
 refine l_val (v := .slice none 0 0) rfl rfl rfl (e_move) ?_
 refine l_val (v := .int .i64 (0)) rfl rfl rfl (e_len (n := 0) rfl tw130) ?_
 refine l_val (v := .bool false) rfl rfl rfl (e_lss (a := (0 : Int)) (b := (0 : Int)) rfl rfl) ?_
 refine l_nil ?_
 refine f_then ?_
 refine c_no rfl ?_
 refine c_exit ?_
 refine f_then_exit ?_
 refine f_then_exit ?_
 refine f_exit ?_
 refine f_then ?_
 refine c_seq ?_
 refine c_region ?_
 refine l_val (v := .bool true) rfl rfl rfl (e_assign) ?_
 refine l_nil ?_
 refine f_then ?_
 refine c_ret ?_
 refine ret1 Tryz.results133 (v := .bool true) rfl ?_
 intro w hw
 exact ⟨rfl, st_mask [false] rfl hw⟩
set_option maxHeartbeats 4000000 in
theorem flatExprs_nil (β : Base) (w : World) (hw : St β [] w) : Calls Tryz.prog 134 #[.slice none 0 0] w fun r w' => r = .returned (.bool true) ∧ St β [] w' := by
 refine enter (n := 193) Tryz.func134 rfl Tryz.ntmps134 rfl ?_ hw
 refine c_seq ?_
 refine c_region ?_
 refine l_val (v := .bool false) rfl rfl rfl (e_assign) ?_
 refine l_nil ?_
 refine f_then ?_
 refine c_seq ?_
 refine c_seq ?_
 refine c_region ?_
 refine l_val (v := .int .i64 (0)) rfl rfl rfl (e_assign) ?_
 refine l_nil ?_
 refine f_then ?_
 refine c_block ?_
 refine c_loop (fun (x_ : Unit) (f : Fm) (L : List Res) => match x_ with | () => (f 0 = .slice none 0 0 ∧ f 3 = .int .i64 (0)) ∧ L = [] ∧ (True)) (fun (x_ : Unit) => match x_ with | () => 0) () ?_ ?_
 ·exact ⟨⟨rfl, rfl⟩, rfl, trivial⟩
 rintro ⟨⟩ f0 L0 ⟨⟨hs0, hs3⟩, hL, -⟩
 subst L0
 refine rebase (d := 0) hs0 ?_
 refine rebase (d := 3) hs3 ?_
 clear hs0 hs3
 refine c_seq ?_
 refine c_seq ?_
 refine c_region ?_
 refine l_val (v := .int .i64 (0)) rfl rfl rfl (e_move) ?_
 refine l_val (v := .slice none 0 0) rfl rfl rfl (e_move) ?_
 refine l_val (v := .int .i64 (0)) rfl rfl rfl (e_len (n := 0) rfl tw133) ?_
 refine l_val (v := .bool false) rfl rfl rfl (e_lss (a := (0 : Int)) (b := (0 : Int)) rfl rfl) ?_
 refine l_nil ?_
 refine f_then ?_
 refine c_no rfl ?_
 refine c_exit ?_
 refine f_then_exit ?_
 refine f_then_exit ?_
 refine f_exit ?_
 refine f_then ?_
 refine c_seq ?_
 refine c_region ?_
 refine l_val (v := .slice none 0 0) rfl rfl rfl (e_move) ?_
 refine l_val (v := .int .i64 (0)) rfl rfl rfl (e_len (n := 0) rfl tw133) ?_
 refine l_mv rfl rfl rfl (m_make00 tw134 rfl rfl) ?_
 rintro _ _ ⟨b1, rfl, rfl⟩
 refine l_val (v := .slice (some ⟨b1, 0, none⟩) 0 0) rfl rfl rfl (e_assign) ?_
 refine l_nil ?_
 refine f_then ?_
 refine c_seq ?_
 refine c_seq ?_
 refine c_region ?_
 refine l_val (v := .int .i64 (0)) rfl rfl rfl (e_assign) ?_
 refine l_nil ?_
 refine f_then ?_
 refine c_block ?_
 refine c_loop (fun (x_ : Unit) (f : Fm) (L : List Res) => match x_ with | () => (f 0 = .slice none 0 0 ∧ f 5 = .slice (some ⟨b1, 0, none⟩) 0 0 ∧ f 6 = .int .i64 (0)) ∧ L = [pt b1 (.cells #[] 262)] ∧ (True)) (fun (x_ : Unit) => match x_ with | () => 0) () ?_ ?_
 ·exact ⟨⟨rfl, rfl, rfl⟩, rfl, trivial⟩
 rintro ⟨⟩ f0 L0 ⟨⟨hs0, hs5, hs6⟩, hL, -⟩
 subst L0
 refine rebase (d := 0) hs0 ?_
 refine rebase (d := 5) hs5 ?_
 refine rebase (d := 6) hs6 ?_
 clear hs0 hs5 hs6
 refine c_seq ?_
 refine c_seq ?_
 refine c_region ?_
 refine l_val (v := .int .i64 (0)) rfl rfl rfl (e_move) ?_
 refine l_val (v := .slice none 0 0) rfl rfl rfl (e_move) ?_
 refine l_val (v := .int .i64 (0)) rfl rfl rfl (e_len (n := 0) rfl tw133) ?_
 refine l_val (v := .bool false) rfl rfl rfl (e_lss (a := (0 : Int)) (b := (0 : Int)) rfl rfl) ?_
 refine l_nil ?_
 refine f_then ?_
 refine c_no rfl ?_
 refine c_exit ?_
 refine f_then_exit ?_
 refine f_then_exit ?_
 refine f_exit ?_
 refine f_then ?_
 refine c_seq ?_
 refine c_seq ?_
 refine c_region ?_
 refine l_val (v := .int .i64 (0)) rfl rfl rfl (e_assign) ?_
 refine l_nil ?_
 refine f_then ?_
 refine c_block ?_
 refine c_loop (fun (x_ : Unit) (f : Fm) (L : List Res) => match x_ with | () => (f 0 = .slice none 0 0 ∧ f 5 = .slice (some ⟨b1, 0, none⟩) 0 0 ∧ f 9 = .int .i64 (0)) ∧ L = [pt b1 (.cells #[] 262)] ∧ (True)) (fun (x_ : Unit) => match x_ with | () => 0) () ?_ ?_
 ·exact ⟨⟨rfl, rfl, rfl⟩, rfl, trivial⟩
 rintro ⟨⟩ f0 L0 ⟨⟨hs0, hs5, hs9⟩, hL, -⟩
 subst L0
 refine rebase (d := 0) hs0 ?_
 refine rebase (d := 5) hs5 ?_
 refine rebase (d := 9) hs9 ?_
 clear hs0 hs5 hs9
 refine c_seq ?_
 refine c_seq ?_
 refine c_region ?_
 refine l_val (v := .int .i64 (0)) rfl rfl rfl (e_move) ?_
 refine l_val (v := .slice none 0 0) rfl rfl rfl (e_move) ?_
 refine l_val (v := .int .i64 (0)) rfl rfl rfl (e_len (n := 0) rfl tw133) ?_
 refine l_val (v := .bool false) rfl rfl rfl (e_lss (a := (0 : Int)) (b := (0 : Int)) rfl rfl) ?_
 refine l_nil ?_
 refine f_then ?_
 refine c_no rfl ?_
 refine c_exit ?_
 refine f_then_exit ?_
 refine f_then_exit ?_
 refine f_exit ?_
 refine f_then ?_
 refine c_seq ?_
 refine c_seq ?_
 refine c_region ?_
 refine l_val (v := .int .i64 (0)) rfl rfl rfl (e_assign) ?_
 refine l_nil ?_
 refine f_then ?_
 refine c_block ?_
 refine c_loop (fun (x_ : Unit) (f : Fm) (L : List Res) => match x_ with | () => (f 0 = .slice none 0 0 ∧ f 5 = .slice (some ⟨b1, 0, none⟩) 0 0 ∧ f 11 = .int .i64 (0)) ∧ L = [pt b1 (.cells #[] 262)] ∧ (True)) (fun (x_ : Unit) => match x_ with | () => 0) () ?_ ?_
 ·exact ⟨⟨rfl, rfl, rfl⟩, rfl, trivial⟩
 rintro ⟨⟩ f0 L0 ⟨⟨hs0, hs5, hs11⟩, hL, -⟩
 subst L0
 refine rebase (d := 0) hs0 ?_
 refine rebase (d := 5) hs5 ?_
 refine rebase (d := 11) hs11 ?_
 clear hs0 hs5 hs11
 refine c_seq ?_
 refine c_seq ?_
 refine c_region ?_
 refine l_val (v := .int .i64 (0)) rfl rfl rfl (e_move) ?_
 refine l_val (v := .slice none 0 0) rfl rfl rfl (e_move) ?_
 refine l_val (v := .int .i64 (0)) rfl rfl rfl (e_len (n := 0) rfl tw133) ?_
 refine l_val (v := .bool false) rfl rfl rfl (e_lss (a := (0 : Int)) (b := (0 : Int)) rfl rfl) ?_
 refine l_nil ?_
 refine f_then ?_
 refine c_no rfl ?_
 refine c_exit ?_
 refine f_then_exit ?_
 refine f_then_exit ?_
 refine f_exit ?_
 refine f_then ?_
 refine c_seq ?_
 refine c_seq ?_
 refine c_region ?_
 refine l_val (v := .int .i64 (0)) rfl rfl rfl (e_assign) ?_
 refine l_nil ?_
 refine f_then ?_
 refine c_block ?_
 refine c_loop (fun (x_ : Unit) (f : Fm) (L : List Res) => match x_ with | () => (f 0 = .slice none 0 0 ∧ f 5 = .slice (some ⟨b1, 0, none⟩) 0 0 ∧ f 14 = .int .i64 (0)) ∧ L = [pt b1 (.cells #[] 262)] ∧ (True)) (fun (x_ : Unit) => match x_ with | () => 0) () ?_ ?_
 ·exact ⟨⟨rfl, rfl, rfl⟩, rfl, trivial⟩
 rintro ⟨⟩ f0 L0 ⟨⟨hs0, hs5, hs14⟩, hL, -⟩
 subst L0
 refine rebase (d := 0) hs0 ?_
 refine rebase (d := 5) hs5 ?_
 refine rebase (d := 14) hs14 ?_
 clear hs0 hs5 hs14
 refine c_seq ?_
 refine c_seq ?_
 refine c_region ?_
 refine l_val (v := .int .i64 (0)) rfl rfl rfl (e_move) ?_
 refine l_val (v := .slice none 0 0) rfl rfl rfl (e_move) ?_
 refine l_val (v := .int .i64 (0)) rfl rfl rfl (e_len (n := 0) rfl tw133) ?_
 refine l_val (v := .bool false) rfl rfl rfl (e_lss (a := (0 : Int)) (b := (0 : Int)) rfl rfl) ?_
 refine l_nil ?_
 refine f_then ?_
 refine c_no rfl ?_
 refine c_exit ?_
 refine f_then_exit ?_
 refine f_then_exit ?_
 refine f_exit ?_
 refine f_then ?_
 refine c_seq ?_
 refine c_region ?_
 refine l_val (v := .bool true) rfl rfl rfl (e_assign) ?_
 refine l_nil ?_
 refine f_then ?_
 refine c_ret ?_
 refine ret1 Tryz.results134 (v := .bool true) rfl ?_
 intro w hw
 exact ⟨rfl, st_mask [false] rfl hw⟩
set_option maxHeartbeats 4000000 in
theorem flatStmts_nil (β : Base) (w : World) (hw : St β [] w) : Calls Tryz.prog 135 #[.slice none 0 0] w fun r w' => r = .returned (.bool true) ∧ St β [] w' := by
 refine enter (n := 193) Tryz.func135 rfl Tryz.ntmps135 rfl ?_ hw
 refine c_seq ?_
 refine c_region ?_
 refine l_val (v := .bool false) rfl rfl rfl (e_assign) ?_
 refine l_nil ?_
 refine f_then ?_
 refine c_seq ?_
 refine c_seq ?_
 refine c_region ?_
 refine l_val (v := .int .i64 (0)) rfl rfl rfl (e_assign) ?_
 refine l_nil ?_
 refine f_then ?_
 refine c_block ?_
 refine c_loop (fun (x_ : Unit) (f : Fm) (L : List Res) => match x_ with | () => (f 0 = .slice none 0 0 ∧ f 3 = .int .i64 (0)) ∧ L = [] ∧ (True)) (fun (x_ : Unit) => match x_ with | () => 0) () ?_ ?_
 ·exact ⟨⟨rfl, rfl⟩, rfl, trivial⟩
 rintro ⟨⟩ f0 L0 ⟨⟨hs0, hs3⟩, hL, -⟩
 subst L0
 refine rebase (d := 0) hs0 ?_
 refine rebase (d := 3) hs3 ?_
 clear hs0 hs3
 refine c_seq ?_
 refine c_seq ?_
 refine c_region ?_
 refine l_val (v := .int .i64 (0)) rfl rfl rfl (e_move) ?_
 refine l_val (v := .slice none 0 0) rfl rfl rfl (e_move) ?_
 refine l_val (v := .int .i64 (0)) rfl rfl rfl (e_len (n := 0) rfl tw136) ?_
 refine l_val (v := .bool false) rfl rfl rfl (e_lss (a := (0 : Int)) (b := (0 : Int)) rfl rfl) ?_
 refine l_nil ?_
 refine f_then ?_
 refine c_no rfl ?_
 refine c_exit ?_
 refine f_then_exit ?_
 refine f_then_exit ?_
 refine f_exit ?_
 refine f_then ?_
 refine c_seq ?_
 refine c_region ?_
 refine l_val (v := .slice none 0 0) rfl rfl rfl (e_move) ?_
 refine l_val (v := .int .i64 (0)) rfl rfl rfl (e_len (n := 0) rfl tw136) ?_
 refine l_mv rfl rfl rfl (m_make00 tw137 rfl rfl) ?_
 rintro _ _ ⟨b1, rfl, rfl⟩
 refine l_val (v := .slice (some ⟨b1, 0, none⟩) 0 0) rfl rfl rfl (e_assign) ?_
 refine l_nil ?_
 refine f_then ?_
 refine c_seq ?_
 refine c_seq ?_
 refine c_region ?_
 refine l_val (v := .int .i64 (0)) rfl rfl rfl (e_assign) ?_
 refine l_nil ?_
 refine f_then ?_
 refine c_block ?_
 refine c_loop (fun (x_ : Unit) (f : Fm) (L : List Res) => match x_ with | () => (f 0 = .slice none 0 0 ∧ f 5 = .slice (some ⟨b1, 0, none⟩) 0 0 ∧ f 6 = .int .i64 (0)) ∧ L = [pt b1 (.cells #[] 267)] ∧ (True)) (fun (x_ : Unit) => match x_ with | () => 0) () ?_ ?_
 ·exact ⟨⟨rfl, rfl, rfl⟩, rfl, trivial⟩
 rintro ⟨⟩ f0 L0 ⟨⟨hs0, hs5, hs6⟩, hL, -⟩
 subst L0
 refine rebase (d := 0) hs0 ?_
 refine rebase (d := 5) hs5 ?_
 refine rebase (d := 6) hs6 ?_
 clear hs0 hs5 hs6
 refine c_seq ?_
 refine c_seq ?_
 refine c_region ?_
 refine l_val (v := .int .i64 (0)) rfl rfl rfl (e_move) ?_
 refine l_val (v := .slice none 0 0) rfl rfl rfl (e_move) ?_
 refine l_val (v := .int .i64 (0)) rfl rfl rfl (e_len (n := 0) rfl tw136) ?_
 refine l_val (v := .bool false) rfl rfl rfl (e_lss (a := (0 : Int)) (b := (0 : Int)) rfl rfl) ?_
 refine l_nil ?_
 refine f_then ?_
 refine c_no rfl ?_
 refine c_exit ?_
 refine f_then_exit ?_
 refine f_then_exit ?_
 refine f_exit ?_
 refine f_then ?_
 refine c_seq ?_
 refine c_seq ?_
 refine c_region ?_
 refine l_val (v := .int .i64 (0)) rfl rfl rfl (e_assign) ?_
 refine l_nil ?_
 refine f_then ?_
 refine c_block ?_
 refine c_loop (fun (x_ : Unit) (f : Fm) (L : List Res) => match x_ with | () => (f 0 = .slice none 0 0 ∧ f 5 = .slice (some ⟨b1, 0, none⟩) 0 0 ∧ f 9 = .int .i64 (0)) ∧ L = [pt b1 (.cells #[] 267)] ∧ (True)) (fun (x_ : Unit) => match x_ with | () => 0) () ?_ ?_
 ·exact ⟨⟨rfl, rfl, rfl⟩, rfl, trivial⟩
 rintro ⟨⟩ f0 L0 ⟨⟨hs0, hs5, hs9⟩, hL, -⟩
 subst L0
 refine rebase (d := 0) hs0 ?_
 refine rebase (d := 5) hs5 ?_
 refine rebase (d := 9) hs9 ?_
 clear hs0 hs5 hs9
 refine c_seq ?_
 refine c_seq ?_
 refine c_region ?_
 refine l_val (v := .int .i64 (0)) rfl rfl rfl (e_move) ?_
 refine l_val (v := .slice none 0 0) rfl rfl rfl (e_move) ?_
 refine l_val (v := .int .i64 (0)) rfl rfl rfl (e_len (n := 0) rfl tw136) ?_
 refine l_val (v := .bool false) rfl rfl rfl (e_lss (a := (0 : Int)) (b := (0 : Int)) rfl rfl) ?_
 refine l_nil ?_
 refine f_then ?_
 refine c_no rfl ?_
 refine c_exit ?_
 refine f_then_exit ?_
 refine f_then_exit ?_
 refine f_exit ?_
 refine f_then ?_
 refine c_seq ?_
 refine c_seq ?_
 refine c_region ?_
 refine l_val (v := .int .i64 (0)) rfl rfl rfl (e_assign) ?_
 refine l_nil ?_
 refine f_then ?_
 refine c_block ?_
 refine c_loop (fun (x_ : Unit) (f : Fm) (L : List Res) => match x_ with | () => (f 0 = .slice none 0 0 ∧ f 5 = .slice (some ⟨b1, 0, none⟩) 0 0 ∧ f 11 = .int .i64 (0)) ∧ L = [pt b1 (.cells #[] 267)] ∧ (True)) (fun (x_ : Unit) => match x_ with | () => 0) () ?_ ?_
 ·exact ⟨⟨rfl, rfl, rfl⟩, rfl, trivial⟩
 rintro ⟨⟩ f0 L0 ⟨⟨hs0, hs5, hs11⟩, hL, -⟩
 subst L0
 refine rebase (d := 0) hs0 ?_
 refine rebase (d := 5) hs5 ?_
 refine rebase (d := 11) hs11 ?_
 clear hs0 hs5 hs11
 refine c_seq ?_
 refine c_seq ?_
 refine c_region ?_
 refine l_val (v := .int .i64 (0)) rfl rfl rfl (e_move) ?_
 refine l_val (v := .slice none 0 0) rfl rfl rfl (e_move) ?_
 refine l_val (v := .int .i64 (0)) rfl rfl rfl (e_len (n := 0) rfl tw136) ?_
 refine l_val (v := .bool false) rfl rfl rfl (e_lss (a := (0 : Int)) (b := (0 : Int)) rfl rfl) ?_
 refine l_nil ?_
 refine f_then ?_
 refine c_no rfl ?_
 refine c_exit ?_
 refine f_then_exit ?_
 refine f_then_exit ?_
 refine f_exit ?_
 refine f_then ?_
 refine c_seq ?_
 refine c_seq ?_
 refine c_region ?_
 refine l_val (v := .int .i64 (0)) rfl rfl rfl (e_assign) ?_
 refine l_nil ?_
 refine f_then ?_
 refine c_block ?_
 refine c_loop (fun (x_ : Unit) (f : Fm) (L : List Res) => match x_ with | () => (f 0 = .slice none 0 0 ∧ f 5 = .slice (some ⟨b1, 0, none⟩) 0 0 ∧ f 14 = .int .i64 (0)) ∧ L = [pt b1 (.cells #[] 267)] ∧ (True)) (fun (x_ : Unit) => match x_ with | () => 0) () ?_ ?_
 ·exact ⟨⟨rfl, rfl, rfl⟩, rfl, trivial⟩
 rintro ⟨⟩ f0 L0 ⟨⟨hs0, hs5, hs14⟩, hL, -⟩
 subst L0
 refine rebase (d := 0) hs0 ?_
 refine rebase (d := 5) hs5 ?_
 refine rebase (d := 14) hs14 ?_
 clear hs0 hs5 hs14
 refine c_seq ?_
 refine c_seq ?_
 refine c_region ?_
 refine l_val (v := .int .i64 (0)) rfl rfl rfl (e_move) ?_
 refine l_val (v := .slice none 0 0) rfl rfl rfl (e_move) ?_
 refine l_val (v := .int .i64 (0)) rfl rfl rfl (e_len (n := 0) rfl tw136) ?_
 refine l_val (v := .bool false) rfl rfl rfl (e_lss (a := (0 : Int)) (b := (0 : Int)) rfl rfl) ?_
 refine l_nil ?_
 refine f_then ?_
 refine c_no rfl ?_
 refine c_exit ?_
 refine f_then_exit ?_
 refine f_then_exit ?_
 refine f_exit ?_
 refine f_then ?_
 refine c_seq ?_
 refine c_region ?_
 refine l_val (v := .bool true) rfl rfl rfl (e_assign) ?_
 refine l_nil ?_
 refine f_then ?_
 refine c_ret ?_
 refine ret1 Tryz.results135 (v := .bool true) rfl ?_
 intro w hw
 exact ⟨rfl, st_mask [false] rfl hw⟩
set_option maxHeartbeats 4000000 in
theorem flatScenes_nil (β : Base) (w : World) (hw : St β [] w) : Calls Tryz.prog 136 #[.slice none 0 0] w fun r w' => r = .returned (.bool true) ∧ St β [] w' := by
 refine enter (n := 193) Tryz.func136 rfl Tryz.ntmps136 rfl ?_ hw
 refine c_seq ?_
 refine c_region ?_
 refine l_val (v := .bool false) rfl rfl rfl (e_assign) ?_
 refine l_nil ?_
 refine f_then ?_
 refine c_seq ?_
 refine c_seq ?_
 refine c_region ?_
 refine l_val (v := .int .i64 (0)) rfl rfl rfl (e_assign) ?_
 refine l_nil ?_
 refine f_then ?_
 refine c_block ?_
 refine c_loop (fun (x_ : Unit) (f : Fm) (L : List Res) => match x_ with | () => (f 0 = .slice none 0 0 ∧ f 3 = .int .i64 (0)) ∧ L = [] ∧ (True)) (fun (x_ : Unit) => match x_ with | () => 0) () ?_ ?_
 ·exact ⟨⟨rfl, rfl⟩, rfl, trivial⟩
 rintro ⟨⟩ f0 L0 ⟨⟨hs0, hs3⟩, hL, -⟩
 subst L0
 refine rebase (d := 0) hs0 ?_
 refine rebase (d := 3) hs3 ?_
 clear hs0 hs3
 refine c_seq ?_
 refine c_seq ?_
 refine c_region ?_
 refine l_val (v := .int .i64 (0)) rfl rfl rfl (e_move) ?_
 refine l_val (v := .slice none 0 0) rfl rfl rfl (e_move) ?_
 refine l_val (v := .int .i64 (0)) rfl rfl rfl (e_len (n := 0) rfl tw139) ?_
 refine l_val (v := .bool false) rfl rfl rfl (e_lss (a := (0 : Int)) (b := (0 : Int)) rfl rfl) ?_
 refine l_nil ?_
 refine f_then ?_
 refine c_no rfl ?_
 refine c_exit ?_
 refine f_then_exit ?_
 refine f_then_exit ?_
 refine f_exit ?_
 refine f_then ?_
 refine c_seq ?_
 refine c_region ?_
 refine l_val (v := .slice none 0 0) rfl rfl rfl (e_move) ?_
 refine l_val (v := .int .i64 (0)) rfl rfl rfl (e_len (n := 0) rfl tw139) ?_
 refine l_mv rfl rfl rfl (m_make00 tw140 rfl rfl) ?_
 rintro _ _ ⟨b1, rfl, rfl⟩
 refine l_val (v := .slice (some ⟨b1, 0, none⟩) 0 0) rfl rfl rfl (e_assign) ?_
 refine l_nil ?_
 refine f_then ?_
 refine c_seq ?_
 refine c_seq ?_
 refine c_region ?_
 refine l_val (v := .int .i64 (0)) rfl rfl rfl (e_assign) ?_
 refine l_nil ?_
 refine f_then ?_
 refine c_block ?_
 refine c_loop (fun (x_ : Unit) (f : Fm) (L : List Res) => match x_ with | () => (f 0 = .slice none 0 0 ∧ f 5 = .slice (some ⟨b1, 0, none⟩) 0 0 ∧ f 6 = .int .i64 (0)) ∧ L = [pt b1 (.cells #[] 272)] ∧ (True)) (fun (x_ : Unit) => match x_ with | () => 0) () ?_ ?_
 ·exact ⟨⟨rfl, rfl, rfl⟩, rfl, trivial⟩
 rintro ⟨⟩ f0 L0 ⟨⟨hs0, hs5, hs6⟩, hL, -⟩
 subst L0
 refine rebase (d := 0) hs0 ?_
 refine rebase (d := 5) hs5 ?_
 refine rebase (d := 6) hs6 ?_
 clear hs0 hs5 hs6
 refine c_seq ?_
 refine c_seq ?_
 refine c_region ?_
 refine l_val (v := .int .i64 (0)) rfl rfl rfl (e_move) ?_
 refine l_val (v := .slice none 0 0) rfl rfl rfl (e_move) ?_
 refine l_val (v := .int .i64 (0)) rfl rfl rfl (e_len (n := 0) rfl tw139) ?_
 refine l_val (v := .bool false) rfl rfl rfl (e_lss (a := (0 : Int)) (b := (0 : Int)) rfl rfl) ?_
 refine l_nil ?_
 refine f_then ?_
 refine c_no rfl ?_
 refine c_exit ?_
 refine f_then_exit ?_
 refine f_then_exit ?_
 refine f_exit ?_
 refine f_then ?_
 refine c_seq ?_
 refine c_seq ?_
 refine c_region ?_
 refine l_val (v := .int .i64 (0)) rfl rfl rfl (e_assign) ?_
 refine l_nil ?_
 refine f_then ?_
 refine c_block ?_
 refine c_loop (fun (x_ : Unit) (f : Fm) (L : List Res) => match x_ with | () => (f 0 = .slice none 0 0 ∧ f 5 = .slice (some ⟨b1, 0, none⟩) 0 0 ∧ f 9 = .int .i64 (0)) ∧ L = [pt b1 (.cells #[] 272)] ∧ (True)) (fun (x_ : Unit) => match x_ with | () => 0) () ?_ ?_
 ·exact ⟨⟨rfl, rfl, rfl⟩, rfl, trivial⟩
 rintro ⟨⟩ f0 L0 ⟨⟨hs0, hs5, hs9⟩, hL, -⟩
 subst L0
 refine rebase (d := 0) hs0 ?_
 refine rebase (d := 5) hs5 ?_
 refine rebase (d := 9) hs9 ?_
 clear hs0 hs5 hs9
 refine c_seq ?_
 refine c_seq ?_
 refine c_region ?_
 refine l_val (v := .int .i64 (0)) rfl rfl rfl (e_move) ?_
 refine l_val (v := .slice none 0 0) rfl rfl rfl (e_move) ?_
 refine l_val (v := .int .i64 (0)) rfl rfl rfl (e_len (n := 0) rfl tw139) ?_
 refine l_val (v := .bool false) rfl rfl rfl (e_lss (a := (0 : Int)) (b := (0 : Int)) rfl rfl) ?_
 refine l_nil ?_
 refine f_then ?_
 refine c_no rfl ?_
 refine c_exit ?_
 refine f_then_exit ?_
 refine f_then_exit ?_
 refine f_exit ?_
 refine f_then ?_
 refine c_seq ?_
 refine c_seq ?_
 refine c_region ?_
 refine l_val (v := .int .i64 (0)) rfl rfl rfl (e_assign) ?_
 refine l_nil ?_
 refine f_then ?_
 refine c_block ?_
 refine c_loop (fun (x_ : Unit) (f : Fm) (L : List Res) => match x_ with | () => (f 0 = .slice none 0 0 ∧ f 5 = .slice (some ⟨b1, 0, none⟩) 0 0 ∧ f 11 = .int .i64 (0)) ∧ L = [pt b1 (.cells #[] 272)] ∧ (True)) (fun (x_ : Unit) => match x_ with | () => 0) () ?_ ?_
 ·exact ⟨⟨rfl, rfl, rfl⟩, rfl, trivial⟩
 rintro ⟨⟩ f0 L0 ⟨⟨hs0, hs5, hs11⟩, hL, -⟩
 subst L0
 refine rebase (d := 0) hs0 ?_
 refine rebase (d := 5) hs5 ?_
 refine rebase (d := 11) hs11 ?_
 clear hs0 hs5 hs11
 refine c_seq ?_
 refine c_seq ?_
 refine c_region ?_
 refine l_val (v := .int .i64 (0)) rfl rfl rfl (e_move) ?_
 refine l_val (v := .slice none 0 0) rfl rfl rfl (e_move) ?_
 refine l_val (v := .int .i64 (0)) rfl rfl rfl (e_len (n := 0) rfl tw139) ?_
 refine l_val (v := .bool false) rfl rfl rfl (e_lss (a := (0 : Int)) (b := (0 : Int)) rfl rfl) ?_
 refine l_nil ?_
 refine f_then ?_
 refine c_no rfl ?_
 refine c_exit ?_
 refine f_then_exit ?_
 refine f_then_exit ?_
 refine f_exit ?_
 refine f_then ?_
 refine c_seq ?_
 refine c_seq ?_
 refine c_region ?_
 refine l_val (v := .int .i64 (0)) rfl rfl rfl (e_assign) ?_
 refine l_nil ?_
 refine f_then ?_
 refine c_block ?_
 refine c_loop (fun (x_ : Unit) (f : Fm) (L : List Res) => match x_ with | () => (f 0 = .slice none 0 0 ∧ f 5 = .slice (some ⟨b1, 0, none⟩) 0 0 ∧ f 14 = .int .i64 (0)) ∧ L = [pt b1 (.cells #[] 272)] ∧ (True)) (fun (x_ : Unit) => match x_ with | () => 0) () ?_ ?_
 ·exact ⟨⟨rfl, rfl, rfl⟩, rfl, trivial⟩
 rintro ⟨⟩ f0 L0 ⟨⟨hs0, hs5, hs14⟩, hL, -⟩
 subst L0
 refine rebase (d := 0) hs0 ?_
 refine rebase (d := 5) hs5 ?_
 refine rebase (d := 14) hs14 ?_
 clear hs0 hs5 hs14
 refine c_seq ?_
 refine c_seq ?_
 refine c_region ?_
 refine l_val (v := .int .i64 (0)) rfl rfl rfl (e_move) ?_
 refine l_val (v := .slice none 0 0) rfl rfl rfl (e_move) ?_
 refine l_val (v := .int .i64 (0)) rfl rfl rfl (e_len (n := 0) rfl tw139) ?_
 refine l_val (v := .bool false) rfl rfl rfl (e_lss (a := (0 : Int)) (b := (0 : Int)) rfl rfl) ?_
 refine l_nil ?_
 refine f_then ?_
 refine c_no rfl ?_
 refine c_exit ?_
 refine f_then_exit ?_
 refine f_then_exit ?_
 refine f_exit ?_
 refine f_then ?_
 refine c_seq ?_
 refine c_region ?_
 refine l_val (v := .bool true) rfl rfl rfl (e_assign) ?_
 refine l_nil ?_
 refine f_then ?_
 refine c_ret ?_
 refine ret1 Tryz.results136 (v := .bool true) rfl ?_
 intro w hw
 exact ⟨rfl, st_mask [false] rfl hw⟩
set_option maxHeartbeats 4000000 in
theorem flatStops_nil (β : Base) (w : World) (hw : St β [] w) : Calls Tryz.prog 137 #[.slice none 0 0] w fun r w' => r = .returned (.bool true) ∧ St β [] w' := by
 refine enter (n := 193) Tryz.func137 rfl Tryz.ntmps137 rfl ?_ hw
 refine c_seq ?_
 refine c_region ?_
 refine l_val (v := .bool false) rfl rfl rfl (e_assign) ?_
 refine l_nil ?_
 refine f_then ?_
 refine c_seq ?_
 refine c_seq ?_
 refine c_region ?_
 refine l_val (v := .int .i64 (0)) rfl rfl rfl (e_assign) ?_
 refine l_nil ?_
 refine f_then ?_
 refine c_block ?_
 refine c_loop (fun (x_ : Unit) (f : Fm) (L : List Res) => match x_ with | () => (f 0 = .slice none 0 0 ∧ f 3 = .int .i64 (0)) ∧ L = [] ∧ (True)) (fun (x_ : Unit) => match x_ with | () => 0) () ?_ ?_
 ·exact ⟨⟨rfl, rfl⟩, rfl, trivial⟩
 rintro ⟨⟩ f0 L0 ⟨⟨hs0, hs3⟩, hL, -⟩
 subst L0
 refine rebase (d := 0) hs0 ?_
 refine rebase (d := 3) hs3 ?_
 clear hs0 hs3
 refine c_seq ?_
 refine c_seq ?_
 refine c_region ?_
 refine l_val (v := .int .i64 (0)) rfl rfl rfl (e_move) ?_
 refine l_val (v := .slice none 0 0) rfl rfl rfl (e_move) ?_
 refine l_val (v := .int .i64 (0)) rfl rfl rfl (e_len (n := 0) rfl tw142) ?_
 refine l_val (v := .bool false) rfl rfl rfl (e_lss (a := (0 : Int)) (b := (0 : Int)) rfl rfl) ?_
 refine l_nil ?_
 refine f_then ?_
 refine c_no rfl ?_
 refine c_exit ?_
 refine f_then_exit ?_
 refine f_then_exit ?_
 refine f_exit ?_
 refine f_then ?_
 refine c_seq ?_
 refine c_region ?_
 refine l_val (v := .slice none 0 0) rfl rfl rfl (e_move) ?_
 refine l_val (v := .int .i64 (0)) rfl rfl rfl (e_len (n := 0) rfl tw142) ?_
 refine l_mv rfl rfl rfl (m_make00 tw143 rfl rfl) ?_
 rintro _ _ ⟨b1, rfl, rfl⟩
 refine l_val (v := .slice (some ⟨b1, 0, none⟩) 0 0) rfl rfl rfl (e_assign) ?_
 refine l_nil ?_
 refine f_then ?_
 refine c_seq ?_
 refine c_seq ?_
 refine c_region ?_
 refine l_val (v := .int .i64 (0)) rfl rfl rfl (e_assign) ?_
 refine l_nil ?_
 refine f_then ?_
 refine c_block ?_
 refine c_loop (fun (x_ : Unit) (f : Fm) (L : List Res) => match x_ with | () => (f 0 = .slice none 0 0 ∧ f 5 = .slice (some ⟨b1, 0, none⟩) 0 0 ∧ f 6 = .int .i64 (0)) ∧ L = [pt b1 (.cells #[] 38)] ∧ (True)) (fun (x_ : Unit) => match x_ with | () => 0) () ?_ ?_
 ·exact ⟨⟨rfl, rfl, rfl⟩, rfl, trivial⟩
 rintro ⟨⟩ f0 L0 ⟨⟨hs0, hs5, hs6⟩, hL, -⟩
 subst L0
 refine rebase (d := 0) hs0 ?_
 refine rebase (d := 5) hs5 ?_
 refine rebase (d := 6) hs6 ?_
 clear hs0 hs5 hs6
 refine c_seq ?_
 refine c_seq ?_
 refine c_region ?_
 refine l_val (v := .int .i64 (0)) rfl rfl rfl (e_move) ?_
 refine l_val (v := .slice none 0 0) rfl rfl rfl (e_move) ?_
 refine l_val (v := .int .i64 (0)) rfl rfl rfl (e_len (n := 0) rfl tw142) ?_
 refine l_val (v := .bool false) rfl rfl rfl (e_lss (a := (0 : Int)) (b := (0 : Int)) rfl rfl) ?_
 refine l_nil ?_
 refine f_then ?_
 refine c_no rfl ?_
 refine c_exit ?_
 refine f_then_exit ?_
 refine f_then_exit ?_
 refine f_exit ?_
 refine f_then ?_
 refine c_seq ?_
 refine c_seq ?_
 refine c_region ?_
 refine l_val (v := .int .i64 (0)) rfl rfl rfl (e_assign) ?_
 refine l_nil ?_
 refine f_then ?_
 refine c_block ?_
 refine c_loop (fun (x_ : Unit) (f : Fm) (L : List Res) => match x_ with | () => (f 0 = .slice none 0 0 ∧ f 5 = .slice (some ⟨b1, 0, none⟩) 0 0 ∧ f 9 = .int .i64 (0)) ∧ L = [pt b1 (.cells #[] 38)] ∧ (True)) (fun (x_ : Unit) => match x_ with | () => 0) () ?_ ?_
 ·exact ⟨⟨rfl, rfl, rfl⟩, rfl, trivial⟩
 rintro ⟨⟩ f0 L0 ⟨⟨hs0, hs5, hs9⟩, hL, -⟩
 subst L0
 refine rebase (d := 0) hs0 ?_
 refine rebase (d := 5) hs5 ?_
 refine rebase (d := 9) hs9 ?_
 clear hs0 hs5 hs9
 refine c_seq ?_
 refine c_seq ?_
 refine c_region ?_
 refine l_val (v := .int .i64 (0)) rfl rfl rfl (e_move) ?_
 refine l_val (v := .slice none 0 0) rfl rfl rfl (e_move) ?_
 refine l_val (v := .int .i64 (0)) rfl rfl rfl (e_len (n := 0) rfl tw142) ?_
 refine l_val (v := .bool false) rfl rfl rfl (e_lss (a := (0 : Int)) (b := (0 : Int)) rfl rfl) ?_
 refine l_nil ?_
 refine f_then ?_
 refine c_no rfl ?_
 refine c_exit ?_
 refine f_then_exit ?_
 refine f_then_exit ?_
 refine f_exit ?_
 refine f_then ?_
 refine c_seq ?_
 refine c_seq ?_
 refine c_region ?_
 refine l_val (v := .int .i64 (0)) rfl rfl rfl (e_assign) ?_
 refine l_nil ?_
 refine f_then ?_
 refine c_block ?_
 refine c_loop (fun (x_ : Unit) (f : Fm) (L : List Res) => match x_ with | () => (f 0 = .slice none 0 0 ∧ f 5 = .slice (some ⟨b1, 0, none⟩) 0 0 ∧ f 11 = .int .i64 (0)) ∧ L = [pt b1 (.cells #[] 38)] ∧ (True)) (fun (x_ : Unit) => match x_ with | () => 0) () ?_ ?_
 ·exact ⟨⟨rfl, rfl, rfl⟩, rfl, trivial⟩
 rintro ⟨⟩ f0 L0 ⟨⟨hs0, hs5, hs11⟩, hL, -⟩
 subst L0
 refine rebase (d := 0) hs0 ?_
 refine rebase (d := 5) hs5 ?_
 refine rebase (d := 11) hs11 ?_
 clear hs0 hs5 hs11
 refine c_seq ?_
 refine c_seq ?_
 refine c_region ?_
 refine l_val (v := .int .i64 (0)) rfl rfl rfl (e_move) ?_
 refine l_val (v := .slice none 0 0) rfl rfl rfl (e_move) ?_
 refine l_val (v := .int .i64 (0)) rfl rfl rfl (e_len (n := 0) rfl tw142) ?_
 refine l_val (v := .bool false) rfl rfl rfl (e_lss (a := (0 : Int)) (b := (0 : Int)) rfl rfl) ?_
 refine l_nil ?_
 refine f_then ?_
 refine c_no rfl ?_
 refine c_exit ?_
 refine f_then_exit ?_
 refine f_then_exit ?_
 refine f_exit ?_
 refine f_then ?_
 refine c_seq ?_
 refine c_seq ?_
 refine c_region ?_
 refine l_val (v := .int .i64 (0)) rfl rfl rfl (e_assign) ?_
 refine l_nil ?_
 refine f_then ?_
 refine c_block ?_
 refine c_loop (fun (x_ : Unit) (f : Fm) (L : List Res) => match x_ with | () => (f 0 = .slice none 0 0 ∧ f 5 = .slice (some ⟨b1, 0, none⟩) 0 0 ∧ f 14 = .int .i64 (0)) ∧ L = [pt b1 (.cells #[] 38)] ∧ (True)) (fun (x_ : Unit) => match x_ with | () => 0) () ?_ ?_
 ·exact ⟨⟨rfl, rfl, rfl⟩, rfl, trivial⟩
 rintro ⟨⟩ f0 L0 ⟨⟨hs0, hs5, hs14⟩, hL, -⟩
 subst L0
 refine rebase (d := 0) hs0 ?_
 refine rebase (d := 5) hs5 ?_
 refine rebase (d := 14) hs14 ?_
 clear hs0 hs5 hs14
 refine c_seq ?_
 refine c_seq ?_
 refine c_region ?_
 refine l_val (v := .int .i64 (0)) rfl rfl rfl (e_move) ?_
 refine l_val (v := .slice none 0 0) rfl rfl rfl (e_move) ?_
 refine l_val (v := .int .i64 (0)) rfl rfl rfl (e_len (n := 0) rfl tw142) ?_
 refine l_val (v := .bool false) rfl rfl rfl (e_lss (a := (0 : Int)) (b := (0 : Int)) rfl rfl) ?_
 refine l_nil ?_
 refine f_then ?_
 refine c_no rfl ?_
 refine c_exit ?_
 refine f_then_exit ?_
 refine f_then_exit ?_
 refine f_exit ?_
 refine f_then ?_
 refine c_seq ?_
 refine c_region ?_
 refine l_val (v := .bool true) rfl rfl rfl (e_assign) ?_
 refine l_nil ?_
 refine f_then ?_
 refine c_ret ?_
 refine ret1 Tryz.results137 (v := .bool true) rfl ?_
 intro w hw
 exact ⟨rfl, st_mask [false] rfl hw⟩
set_option maxHeartbeats 4000000 in
theorem flatPortals_nil (β : Base) (w : World) (hw : St β [] w) : Calls Tryz.prog 138 #[.slice none 0 0] w fun r w' => r = .returned (.bool true) ∧ St β [] w' := by
 refine enter (n := 193) Tryz.func138 rfl Tryz.ntmps138 rfl ?_ hw
 refine c_seq ?_
 refine c_region ?_
 refine l_val (v := .bool false) rfl rfl rfl (e_assign) ?_
 refine l_nil ?_
 refine f_then ?_
 refine c_seq ?_
 refine c_seq ?_
 refine c_region ?_
 refine l_val (v := .int .i64 (0)) rfl rfl rfl (e_assign) ?_
 refine l_nil ?_
 refine f_then ?_
 refine c_block ?_
 refine c_loop (fun (x_ : Unit) (f : Fm) (L : List Res) => match x_ with | () => (f 0 = .slice none 0 0 ∧ f 3 = .int .i64 (0)) ∧ L = [] ∧ (True)) (fun (x_ : Unit) => match x_ with | () => 0) () ?_ ?_
 ·exact ⟨⟨rfl, rfl⟩, rfl, trivial⟩
 rintro ⟨⟩ f0 L0 ⟨⟨hs0, hs3⟩, hL, -⟩
 subst L0
 refine rebase (d := 0) hs0 ?_
 refine rebase (d := 3) hs3 ?_
 clear hs0 hs3
 refine c_seq ?_
 refine c_seq ?_
 refine c_region ?_
 refine l_val (v := .int .i64 (0)) rfl rfl rfl (e_move) ?_
 refine l_val (v := .slice none 0 0) rfl rfl rfl (e_move) ?_
 refine l_val (v := .int .i64 (0)) rfl rfl rfl (e_len (n := 0) rfl tw145) ?_
 refine l_val (v := .bool false) rfl rfl rfl (e_lss (a := (0 : Int)) (b := (0 : Int)) rfl rfl) ?_
 refine l_nil ?_
 refine f_then ?_
 refine c_no rfl ?_
 refine c_exit ?_
 refine f_then_exit ?_
 refine f_then_exit ?_
 refine f_exit ?_
 refine f_then ?_
 refine c_seq ?_
 refine c_region ?_
 refine l_val (v := .slice none 0 0) rfl rfl rfl (e_move) ?_
 refine l_val (v := .int .i64 (0)) rfl rfl rfl (e_len (n := 0) rfl tw145) ?_
 refine l_mv rfl rfl rfl (m_make00 tw146 rfl rfl) ?_
 rintro _ _ ⟨b1, rfl, rfl⟩
 refine l_val (v := .slice (some ⟨b1, 0, none⟩) 0 0) rfl rfl rfl (e_assign) ?_
 refine l_nil ?_
 refine f_then ?_
 refine c_seq ?_
 refine c_seq ?_
 refine c_region ?_
 refine l_val (v := .int .i64 (0)) rfl rfl rfl (e_assign) ?_
 refine l_nil ?_
 refine f_then ?_
 refine c_block ?_
 refine c_loop (fun (x_ : Unit) (f : Fm) (L : List Res) => match x_ with | () => (f 0 = .slice none 0 0 ∧ f 5 = .slice (some ⟨b1, 0, none⟩) 0 0 ∧ f 6 = .int .i64 (0)) ∧ L = [pt b1 (.cells #[] 275)] ∧ (True)) (fun (x_ : Unit) => match x_ with | () => 0) () ?_ ?_
 ·exact ⟨⟨rfl, rfl, rfl⟩, rfl, trivial⟩
 rintro ⟨⟩ f0 L0 ⟨⟨hs0, hs5, hs6⟩, hL, -⟩
 subst L0
 refine rebase (d := 0) hs0 ?_
 refine rebase (d := 5) hs5 ?_
 refine rebase (d := 6) hs6 ?_
 clear hs0 hs5 hs6
 refine c_seq ?_
 refine c_seq ?_
 refine c_region ?_
 refine l_val (v := .int .i64 (0)) rfl rfl rfl (e_move) ?_
 refine l_val (v := .slice none 0 0) rfl rfl rfl (e_move) ?_
 refine l_val (v := .int .i64 (0)) rfl rfl rfl (e_len (n := 0) rfl tw145) ?_
 refine l_val (v := .bool false) rfl rfl rfl (e_lss (a := (0 : Int)) (b := (0 : Int)) rfl rfl) ?_
 refine l_nil ?_
 refine f_then ?_
 refine c_no rfl ?_
 refine c_exit ?_
 refine f_then_exit ?_
 refine f_then_exit ?_
 refine f_exit ?_
 refine f_then ?_
 refine c_seq ?_
 refine c_seq ?_
 refine c_region ?_
 refine l_val (v := .int .i64 (0)) rfl rfl rfl (e_assign) ?_
 refine l_nil ?_
 refine f_then ?_
 refine c_block ?_
 refine c_loop (fun (x_ : Unit) (f : Fm) (L : List Res) => match x_ with | () => (f 0 = .slice none 0 0 ∧ f 5 = .slice (some ⟨b1, 0, none⟩) 0 0 ∧ f 9 = .int .i64 (0)) ∧ L = [pt b1 (.cells #[] 275)] ∧ (True)) (fun (x_ : Unit) => match x_ with | () => 0) () ?_ ?_
 ·exact ⟨⟨rfl, rfl, rfl⟩, rfl, trivial⟩
 rintro ⟨⟩ f0 L0 ⟨⟨hs0, hs5, hs9⟩, hL, -⟩
 subst L0
 refine rebase (d := 0) hs0 ?_
 refine rebase (d := 5) hs5 ?_
 refine rebase (d := 9) hs9 ?_
 clear hs0 hs5 hs9
 refine c_seq ?_
 refine c_seq ?_
 refine c_region ?_
 refine l_val (v := .int .i64 (0)) rfl rfl rfl (e_move) ?_
 refine l_val (v := .slice none 0 0) rfl rfl rfl (e_move) ?_
 refine l_val (v := .int .i64 (0)) rfl rfl rfl (e_len (n := 0) rfl tw145) ?_
 refine l_val (v := .bool false) rfl rfl rfl (e_lss (a := (0 : Int)) (b := (0 : Int)) rfl rfl) ?_
 refine l_nil ?_
 refine f_then ?_
 refine c_no rfl ?_
 refine c_exit ?_
 refine f_then_exit ?_
 refine f_then_exit ?_
 refine f_exit ?_
 refine f_then ?_
 refine c_seq ?_
 refine c_seq ?_
 refine c_region ?_
 refine l_val (v := .int .i64 (0)) rfl rfl rfl (e_assign) ?_
 refine l_nil ?_
 refine f_then ?_
 refine c_block ?_
 refine c_loop (fun (x_ : Unit) (f : Fm) (L : List Res) => match x_ with | () => (f 0 = .slice none 0 0 ∧ f 5 = .slice (some ⟨b1, 0, none⟩) 0 0 ∧ f 11 = .int .i64 (0)) ∧ L = [pt b1 (.cells #[] 275)] ∧ (True)) (fun (x_ : Unit) => match x_ with | () => 0) () ?_ ?_
 ·exact ⟨⟨rfl, rfl, rfl⟩, rfl, trivial⟩
 rintro ⟨⟩ f0 L0 ⟨⟨hs0, hs5, hs11⟩, hL, -⟩
 subst L0
 refine rebase (d := 0) hs0 ?_
 refine rebase (d := 5) hs5 ?_
 refine rebase (d := 11) hs11 ?_
 clear hs0 hs5 hs11
 refine c_seq ?_
 refine c_seq ?_
 refine c_region ?_
 refine l_val (v := .int .i64 (0)) rfl rfl rfl (e_move) ?_
 refine l_val (v := .slice none 0 0) rfl rfl rfl (e_move) ?_
 refine l_val (v := .int .i64 (0)) rfl rfl rfl (e_len (n := 0) rfl tw145) ?_
 refine l_val (v := .bool false) rfl rfl rfl (e_lss (a := (0 : Int)) (b := (0 : Int)) rfl rfl) ?_
 refine l_nil ?_
 refine f_then ?_
 refine c_no rfl ?_
 refine c_exit ?_
 refine f_then_exit ?_
 refine f_then_exit ?_
 refine f_exit ?_
 refine f_then ?_
 refine c_seq ?_
 refine c_seq ?_
 refine c_region ?_
 refine l_val (v := .int .i64 (0)) rfl rfl rfl (e_assign) ?_
 refine l_nil ?_
 refine f_then ?_
 refine c_block ?_
 refine c_loop (fun (x_ : Unit) (f : Fm) (L : List Res) => match x_ with | () => (f 0 = .slice none 0 0 ∧ f 5 = .slice (some ⟨b1, 0, none⟩) 0 0 ∧ f 14 = .int .i64 (0)) ∧ L = [pt b1 (.cells #[] 275)] ∧ (True)) (fun (x_ : Unit) => match x_ with | () => 0) () ?_ ?_
 ·exact ⟨⟨rfl, rfl, rfl⟩, rfl, trivial⟩
 rintro ⟨⟩ f0 L0 ⟨⟨hs0, hs5, hs14⟩, hL, -⟩
 subst L0
 refine rebase (d := 0) hs0 ?_
 refine rebase (d := 5) hs5 ?_
 refine rebase (d := 14) hs14 ?_
 clear hs0 hs5 hs14
 refine c_seq ?_
 refine c_seq ?_
 refine c_region ?_
 refine l_val (v := .int .i64 (0)) rfl rfl rfl (e_move) ?_
 refine l_val (v := .slice none 0 0) rfl rfl rfl (e_move) ?_
 refine l_val (v := .int .i64 (0)) rfl rfl rfl (e_len (n := 0) rfl tw145) ?_
 refine l_val (v := .bool false) rfl rfl rfl (e_lss (a := (0 : Int)) (b := (0 : Int)) rfl rfl) ?_
 refine l_nil ?_
 refine f_then ?_
 refine c_no rfl ?_
 refine c_exit ?_
 refine f_then_exit ?_
 refine f_then_exit ?_
 refine f_exit ?_
 refine f_then ?_
 refine c_seq ?_
 refine c_region ?_
 refine l_val (v := .bool true) rfl rfl rfl (e_assign) ?_
 refine l_nil ?_
 refine f_then ?_
 refine c_ret ?_
 refine ret1 Tryz.results138 (v := .bool true) rfl ?_
 intro w hw
 exact ⟨rfl, st_mask [false] rfl hw⟩
set_option maxHeartbeats 4000000 in
theorem flatStores_nil (β : Base) (w : World) (hw : St β [] w) : Calls Tryz.prog 139 #[.slice none 0 0] w fun r w' => r = .returned (.bool true) ∧ St β [] w' := by
 refine enter (n := 193) Tryz.func139 rfl Tryz.ntmps139 rfl ?_ hw
 refine c_seq ?_
 refine c_region ?_
 refine l_val (v := .bool false) rfl rfl rfl (e_assign) ?_
 refine l_nil ?_
 refine f_then ?_
 refine c_seq ?_
 refine c_seq ?_
 refine c_region ?_
 refine l_val (v := .int .i64 (0)) rfl rfl rfl (e_assign) ?_
 refine l_nil ?_
 refine f_then ?_
 refine c_block ?_
 refine c_loop (fun (x_ : Unit) (f : Fm) (L : List Res) => match x_ with | () => (f 0 = .slice none 0 0 ∧ f 3 = .int .i64 (0)) ∧ L = [] ∧ (True)) (fun (x_ : Unit) => match x_ with | () => 0) () ?_ ?_
 ·exact ⟨⟨rfl, rfl⟩, rfl, trivial⟩
 rintro ⟨⟩ f0 L0 ⟨⟨hs0, hs3⟩, hL, -⟩
 subst L0
 refine rebase (d := 0) hs0 ?_
 refine rebase (d := 3) hs3 ?_
 clear hs0 hs3
 refine c_seq ?_
 refine c_seq ?_
 refine c_region ?_
 refine l_val (v := .int .i64 (0)) rfl rfl rfl (e_move) ?_
 refine l_val (v := .slice none 0 0) rfl rfl rfl (e_move) ?_
 refine l_val (v := .int .i64 (0)) rfl rfl rfl (e_len (n := 0) rfl tw148) ?_
 refine l_val (v := .bool false) rfl rfl rfl (e_lss (a := (0 : Int)) (b := (0 : Int)) rfl rfl) ?_
 refine l_nil ?_
 refine f_then ?_
 refine c_no rfl ?_
 refine c_exit ?_
 refine f_then_exit ?_
 refine f_then_exit ?_
 refine f_exit ?_
 refine f_then ?_
 refine c_seq ?_
 refine c_region ?_
 refine l_val (v := .slice none 0 0) rfl rfl rfl (e_move) ?_
 refine l_val (v := .int .i64 (0)) rfl rfl rfl (e_len (n := 0) rfl tw148) ?_
 refine l_mv rfl rfl rfl (m_make00 tw149 rfl rfl) ?_
 rintro _ _ ⟨b1, rfl, rfl⟩
 refine l_val (v := .slice (some ⟨b1, 0, none⟩) 0 0) rfl rfl rfl (e_assign) ?_
 refine l_nil ?_
 refine f_then ?_
 refine c_seq ?_
 refine c_seq ?_
 refine c_region ?_
 refine l_val (v := .int .i64 (0)) rfl rfl rfl (e_assign) ?_
 refine l_nil ?_
 refine f_then ?_
 refine c_block ?_
 refine c_loop (fun (x_ : Unit) (f : Fm) (L : List Res) => match x_ with | () => (f 0 = .slice none 0 0 ∧ f 5 = .slice (some ⟨b1, 0, none⟩) 0 0 ∧ f 6 = .int .i64 (0)) ∧ L = [pt b1 (.cells #[] 279)] ∧ (True)) (fun (x_ : Unit) => match x_ with | () => 0) () ?_ ?_
 ·exact ⟨⟨rfl, rfl, rfl⟩, rfl, trivial⟩
 rintro ⟨⟩ f0 L0 ⟨⟨hs0, hs5, hs6⟩, hL, -⟩
 subst L0
 refine rebase (d := 0) hs0 ?_
 refine rebase (d := 5) hs5 ?_
 refine rebase (d := 6) hs6 ?_
 clear hs0 hs5 hs6
 refine c_seq ?_
 refine c_seq ?_
 refine c_region ?_
 refine l_val (v := .int .i64 (0)) rfl rfl rfl (e_move) ?_
 refine l_val (v := .slice none 0 0) rfl rfl rfl (e_move) ?_
 refine l_val (v := .int .i64 (0)) rfl rfl rfl (e_len (n := 0) rfl tw148) ?_
 refine l_val (v := .bool false) rfl rfl rfl (e_lss (a := (0 : Int)) (b := (0 : Int)) rfl rfl) ?_
 refine l_nil ?_
 refine f_then ?_
 refine c_no rfl ?_
 refine c_exit ?_
 refine f_then_exit ?_
 refine f_then_exit ?_
 refine f_exit ?_
 refine f_then ?_
 refine c_seq ?_
 refine c_seq ?_
 refine c_region ?_
 refine l_val (v := .int .i64 (0)) rfl rfl rfl (e_assign) ?_
 refine l_nil ?_
 refine f_then ?_
 refine c_block ?_
 refine c_loop (fun (x_ : Unit) (f : Fm) (L : List Res) => match x_ with | () => (f 0 = .slice none 0 0 ∧ f 5 = .slice (some ⟨b1, 0, none⟩) 0 0 ∧ f 9 = .int .i64 (0)) ∧ L = [pt b1 (.cells #[] 279)] ∧ (True)) (fun (x_ : Unit) => match x_ with | () => 0) () ?_ ?_
 ·exact ⟨⟨rfl, rfl, rfl⟩, rfl, trivial⟩
 rintro ⟨⟩ f0 L0 ⟨⟨hs0, hs5, hs9⟩, hL, -⟩
 subst L0
 refine rebase (d := 0) hs0 ?_
 refine rebase (d := 5) hs5 ?_
 refine rebase (d := 9) hs9 ?_
 clear hs0 hs5 hs9
 refine c_seq ?_
 refine c_seq ?_
 refine c_region ?_
 refine l_val (v := .int .i64 (0)) rfl rfl rfl (e_move) ?_
 refine l_val (v := .slice none 0 0) rfl rfl rfl (e_move) ?_
 refine l_val (v := .int .i64 (0)) rfl rfl rfl (e_len (n := 0) rfl tw148) ?_
 refine l_val (v := .bool false) rfl rfl rfl (e_lss (a := (0 : Int)) (b := (0 : Int)) rfl rfl) ?_
 refine l_nil ?_
 refine f_then ?_
 refine c_no rfl ?_
 refine c_exit ?_
 refine f_then_exit ?_
 refine f_then_exit ?_
 refine f_exit ?_
 refine f_then ?_
 refine c_seq ?_
 refine c_seq ?_
 refine c_region ?_
 refine l_val (v := .int .i64 (0)) rfl rfl rfl (e_assign) ?_
 refine l_nil ?_
 refine f_then ?_
 refine c_block ?_
 refine c_loop (fun (x_ : Unit) (f : Fm) (L : List Res) => match x_ with | () => (f 0 = .slice none 0 0 ∧ f 5 = .slice (some ⟨b1, 0, none⟩) 0 0 ∧ f 11 = .int .i64 (0)) ∧ L = [pt b1 (.cells #[] 279)] ∧ (True)) (fun (x_ : Unit) => match x_ with | () => 0) () ?_ ?_
 ·exact ⟨⟨rfl, rfl, rfl⟩, rfl, trivial⟩
 rintro ⟨⟩ f0 L0 ⟨⟨hs0, hs5, hs11⟩, hL, -⟩
 subst L0
 refine rebase (d := 0) hs0 ?_
 refine rebase (d := 5) hs5 ?_
 refine rebase (d := 11) hs11 ?_
 clear hs0 hs5 hs11
 refine c_seq ?_
 refine c_seq ?_
 refine c_region ?_
 refine l_val (v := .int .i64 (0)) rfl rfl rfl (e_move) ?_
 refine l_val (v := .slice none 0 0) rfl rfl rfl (e_move) ?_
 refine l_val (v := .int .i64 (0)) rfl rfl rfl (e_len (n := 0) rfl tw148) ?_
 refine l_val (v := .bool false) rfl rfl rfl (e_lss (a := (0 : Int)) (b := (0 : Int)) rfl rfl) ?_
 refine l_nil ?_
 refine f_then ?_
 refine c_no rfl ?_
 refine c_exit ?_
 refine f_then_exit ?_
 refine f_then_exit ?_
 refine f_exit ?_
 refine f_then ?_
 refine c_seq ?_
 refine c_seq ?_
 refine c_region ?_
 refine l_val (v := .int .i64 (0)) rfl rfl rfl (e_assign) ?_
 refine l_nil ?_
 refine f_then ?_
 refine c_block ?_
 refine c_loop (fun (x_ : Unit) (f : Fm) (L : List Res) => match x_ with | () => (f 0 = .slice none 0 0 ∧ f 5 = .slice (some ⟨b1, 0, none⟩) 0 0 ∧ f 14 = .int .i64 (0)) ∧ L = [pt b1 (.cells #[] 279)] ∧ (True)) (fun (x_ : Unit) => match x_ with | () => 0) () ?_ ?_
 ·exact ⟨⟨rfl, rfl, rfl⟩, rfl, trivial⟩
 rintro ⟨⟩ f0 L0 ⟨⟨hs0, hs5, hs14⟩, hL, -⟩
 subst L0
 refine rebase (d := 0) hs0 ?_
 refine rebase (d := 5) hs5 ?_
 refine rebase (d := 14) hs14 ?_
 clear hs0 hs5 hs14
 refine c_seq ?_
 refine c_seq ?_
 refine c_region ?_
 refine l_val (v := .int .i64 (0)) rfl rfl rfl (e_move) ?_
 refine l_val (v := .slice none 0 0) rfl rfl rfl (e_move) ?_
 refine l_val (v := .int .i64 (0)) rfl rfl rfl (e_len (n := 0) rfl tw148) ?_
 refine l_val (v := .bool false) rfl rfl rfl (e_lss (a := (0 : Int)) (b := (0 : Int)) rfl rfl) ?_
 refine l_nil ?_
 refine f_then ?_
 refine c_no rfl ?_
 refine c_exit ?_
 refine f_then_exit ?_
 refine f_then_exit ?_
 refine f_exit ?_
 refine f_then ?_
 refine c_seq ?_
 refine c_region ?_
 refine l_val (v := .bool true) rfl rfl rfl (e_assign) ?_
 refine l_nil ?_
 refine f_then ?_
 refine c_ret ?_
 refine ret1 Tryz.results139 (v := .bool true) rfl ?_
 intro w hw
 exact ⟨rfl, st_mask [false] rfl hw⟩
end Go.Proofs
