/-
 IslandSmall: walked. Printed by a program of my own.
-/
import Derived.Test.YtoijanalppaplaaGreatIs22
import Derived.Test.YtoijanalppaplaaGreatIsRow
import Derived.Test.YtoijanalppaplaaGreatIsIx
import Derived.Test.YtoijanalppaplaaGreatSlC
namespace Go.Isl
open Go.Sl Go.Brd Go.Stp Go.Proofs
def numsL : List Int := [-9223372036854775808, -4097, -4096, -1, 0, 1, 2, 3, 4, 5, 4096, 4097, 2097152, 2097153, 9223372036854775807]
def rp2 : List KR := [⟨1, 2, 5⟩, ⟨1, 4, 0⟩]
theorem nums_bd : ∀ x ∈ numsL, -9223372036854775808 ≤ x ∧ x ≤ 9223372036854775807 := by decide
theorem row_okI {i : Nat} (h : i = 64) : okS (rowL i) [] 0 0 := by subst h; exact row_ok
theorem row_islI {i : Nat} (h : i = 64) : ∃ r : List Int, islR (rowL i) [] 0 0 = [r] ∧ r.length = 64 := by subst h; exact row_isl
theorem one_row {hs : List HI} {r : List Int} (h : hs.map (·.xs) = [r]) (hl : r.length = 64) : ∃ y : HI, hs = [y] ∧ y.xs.length = 64 := by
 cases hs with
 | nil => cases h
 | cons y l =>
  cases l with
  | nil => injection h with h _; exact ⟨y, rfl, by rw [show y.xs = r from h]; exact hl⟩
  | cons z l => injection h with _ h; cases h
section
variable {P : Program} {ro : Option Nat} {n : Nat} {ds : List Deferred} {β : Base} {Q : Exit → Act → World → Prop} {f : Fm} {L : List Res}
theorem c_split {c : Code} {K M : List Res} (hL : L = Sat K :: M) (k : RunC P ro n ds β c Q f (K ++ M)) : RunC P ro n ds β c Q f L := fun a w ha hw => by
 subst hL; exact k a w ha hw.unbun
end
end Go.Isl
namespace Go.Proofs
open Go Go.Sl Go.Brd Go.Stp Go.Isl
theorem tf241 : arB Tryz.prog 40 3 3 1 = true := by kernel_rfl
theorem tf242 : (Tryz.prog.info? 40).bind (·.zero) = some (.agg #[.int .i64 (0), .int .i64 (0), .int .i64 (0)]) := by kernel_rfl
theorem tf243 : fldB Tryz.prog 33 2 3 2 true = true := by kernel_rfl
theorem tf244 : fldB Tryz.prog 42 2 2 1 false = true := by kernel_rfl
theorem tf245 : cfB Tryz.prog 4 = true := by kernel_rfl
set_option maxHeartbeats 4000000 in
theorem islandSmall_ok (β : Base) (w : World) (hw : St β [] w) : Calls Tryz.prog 5 #[] w fun r w' => r = .returned (.bool true) ∧ St β [] w' := by
 refine enter (n := 243) Tryz.func5 rfl Tryz.ntmps5 rfl ?_ hw
 refine csr ?_
 refine l_val (v := .bool false) rfl rfl rfl e_assign ?_
 refine lnf ?_
 refine cs2 ?_
 refine c_region ?_
 refine l_val (v := .int .i64 (0)) rfl rfl rfl e_assign ?_
 refine lnf ?_
 refine c_block ?_
 refine c_mask [] rfl ?_
 refine c_loop (fun (n : Nat) (f : Fm) (L : List Res) => (f 1 = Nx (n)) ∧ L = [] ∧ (n ≤ 1728)) (fun (n : Nat) => 1728 - n) 0 ?_ ?_
 ·exact ⟨rfl, rfl, by omega⟩
 rintro n f0 L0 ⟨hs1, hL, hn⟩
 subst L0
 refine rebase (d := 1) hs1 ?_
 clear hs1
 refine cs2 ?_
 refine c_region ?_
 refine lv (v := Nx (n)) e_move ?_
 refine lv (e_lss (a := ((n : Nat) : Int)) (b := (1728 : Int)) rfl rfl) ?_
 refine lnf ?_
 refine c_if (((n : Nat) : Int) < (1728 : Int)) rfl (fun hc1 => ?_) (fun hc1 => ?_)
 ·refine csk ?_
  refine c_seq ?_
  refine c_block ?_
  refine csr ?_
  refine l_mv rfl rfl rfl (m_alloc tf67) ?_
  rintro _ _ ⟨b2, rfl, rfl⟩
  refine lnf ?_
  refine cs2 ?_
  refine c_emp (r := rowF BodyF 33 none 0 []) (row_nil _ _ _) ?_
  refine c_region ?_
  refine lv (v := Nx (n)) e_move ?_
  refine lv (v := .int .i64 (0)) e_assign ?_
  refine lv (v := Nx (n)) e_assign ?_
  refine lnf ?_
  refine c_block ?_
  refine c_loop (fun (x_ : Nat × Nat × List KB × Option Addr × Nat) (f : Fm) (L : List Res) => match x_ with | (k, x, bs, p, c) => (f 1 = Nx (n) ∧ f 2 = pp b2 0 ∧ f 3 = Nx (k) ∧ f 4 = Nx (x)) ∧ L = [rowF BodyF 33 p c bs, pt b2 (.cells #[sB p bs c, .slice none 0 0, .int .i64 (0), .int .i64 (0)] 27)] ∧ (k ≤ 3 ∧ x ≤ 1728 ∧ bs.length = k)) (fun (x_ : Nat × Nat × List KB × Option Addr × Nat) => match x_ with | (k, x, bs, p, c) => 3 - k) (0, n, [], none, 0) ?_ ?_
  ·exact ⟨⟨rfl, rfl, rfl, rfl⟩, rfl, ⟨by omega, by omega, rfl⟩⟩
  rintro ⟨k, x, bs, p, c⟩ f0 L0 ⟨⟨hs1, hs2, hs3, hs4⟩, hL, ⟨hk, hx, hbl⟩⟩
  subst L0
  refine rebase (d := 1) hs1 ?_
  refine rebase (d := 2) hs2 ?_
  refine rebase (d := 3) hs3 ?_
  refine rebase (d := 4) hs4 ?_
  clear hs1 hs2 hs3 hs4
  refine cs2 ?_
  refine c_region ?_
  refine lv (v := Nx (k)) e_move ?_
  refine lv (e_lss (a := ((k : Nat) : Int)) (b := (3 : Int)) rfl rfl) ?_
  refine lnf ?_
  refine c_if (((k : Nat) : Int) < (3 : Int)) rfl (fun hc3 => ?_) (fun hc3 => ?_)
  ·refine csk ?_
   refine c_seq ?_
   refine c_block ?_
   refine csr ?_
   refine lv (v := Nx (k)) e_move ?_
   refine lv (v := Nx (k * 2)) (e_mul (a := ((k : Nat) : Int)) (b := (2 : Int)) rfl rfl (i64n (by omega) (by omega))) ?_
   refine lv (v := Nx (1 + (k * 2))) (e_add (a := (1 : Int)) (b := ((k * 2 : Nat) : Int)) rfl rfl (i64n (by omega) (by omega))) ?_
   refine lv (v := Nx (k)) e_move ?_
   refine lv (v := Nx (k * 21)) (e_mul (a := ((k : Nat) : Int)) (b := (21 : Int)) rfl rfl (i64n (by omega) (by omega))) ?_
   refine lv (v := Nx (x)) e_move ?_
   refine lv (v := Nx (x % 2)) (e_rem (a := ((x : Nat) : Int)) (b := (2 : Int)) rfl rfl (by decide) (nat_tmod _ 2)) ?_
   refine lv (v := Nx ((x % 2) * 3)) (e_mul (a := ((x % 2 : Nat) : Int)) (b := (3 : Int)) rfl rfl (i64n (by omega) (by omega))) ?_
   refine lv (v := Nx ((k * 21) + ((x % 2) * 3))) (e_add (a := ((k * 21 : Nat) : Int)) (b := (((x % 2) * 3 : Nat) : Int)) rfl rfl (i64n (by omega) (by omega))) ?_
   refine lv (v := Nx (x)) e_move ?_
   refine lv (v := Nx (x / 2)) (e_quo (a := ((x : Nat) : Int)) (b := (2 : Int)) rfl rfl (by decide) (i64n (nat_tdiv _ 2) (by omega))) ?_
   refine lv (v := Nx ((x / 2) % 2)) (e_rem (a := ((x / 2 : Nat) : Int)) (b := (2 : Int)) rfl rfl (by decide) (nat_tmod _ 2)) ?_
   refine lv (v := Nx (((x / 2) % 2) * 21)) (e_mul (a := (((x / 2) % 2 : Nat) : Int)) (b := (21 : Int)) rfl rfl (i64n (by omega) (by omega))) ?_
   refine lv (v := .agg #[.int .i64 (0), .int .i64 (4), .int .i64 (-4)]) (e_build_a tf242 tf241 (vs := [(0, .int .i64 (0)), (1, .int .i64 (4)), (2, .int .i64 (-4))]) (cells := #[.int .i64 (0), .int .i64 (4), .int .i64 (-4)]) rfl rfl) ?_
   refine lv (v := Nx (x)) e_move ?_
   refine lv (v := Nx (x / 4)) (e_quo (a := ((x : Nat) : Int)) (b := (4 : Int)) rfl rfl (by decide) (i64n (nat_tdiv _ 4) (by omega))) ?_
   refine lv (v := Nx ((x / 4) % 3)) (e_rem (a := ((x / 4 : Nat) : Int)) (b := (3 : Int)) rfl rfl (by decide) (nat_tmod _ 3)) ?_
   refine lv (v := Ix ((if ((x / 4) % 3) = 0 then 0 else if ((x / 4) % 3) = 1 then 4 else (-4)))) (e_index_1 (k := (x / 4) % 3) rfl rfl tf241 (by omega) tf11 (arr3_ix _ (by omega) _ _ _)) ?_
   refine lcf (cl0 (vs := [Nx (1 + (k * 2)), Nx ((k * 21) + ((x % 2) * 3)), Nx (((x / 2) % 2) * 21), Ix ((if ((x / 4) % 3) = 0 then 0 else if ((x / 4) % 3) = 1 then 4 else (-4))), .int .i64 (0)]) tf68 rfl rfl) rfl fun w β1 sb kn hw1 back => (box_ok β1 w hw1 ((1 + (k * 2) : Nat) : Int) (((k * 21) + ((x % 2) * 3) : Nat) : Int) ((((x / 2) % 2) * 21 : Nat) : Int) (if ((x / 4) % 3) = 0 then 0 else if ((x / 4) % 3) = 1 then 4 else (-4)) 0).mono ?_
   rintro e w' ⟨rfl, hw'⟩
   refine ⟨_, rfl, _, back _ _ hw', ?_⟩
   clear hw1 hw' back kn sb
   refine l_mv rfl rfl rfl (m_alloc tf17) ?_
   rintro _ _ ⟨b4, rfl, rfl⟩
   refine lu (m_store 0 tf1 (cs' := #[Nx (1 + (k * 2)), Nx ((k * 21) + ((x % 2) * 3)), Nx (((x / 2) % 2) * 21), Ix ((if ((x / 4) % 3) = 0 then 0 else if ((x / 4) % 3) = 1 then 4 else (-4))), .int .i64 (0), .int .i64 (10), .int .i64 (10), .bool false, .bool false]) rfl rfl rfl rfl rfl rfl rfl) ?_
   refine lnf ?_
   refine cs2 ?_
   refine c_region ?_
   refine lv (v := Nx (x)) e_move ?_
   refine lv (v := Nx (n)) e_move ?_
   refine lv (v := Nx (x + n)) (e_add (a := ((x : Nat) : Int)) (b := ((n : Nat) : Int)) rfl rfl (i64n (by omega) (by omega))) ?_
   refine lv (v := Nx ((x + n) % 7)) (e_rem (a := ((x + n : Nat) : Int)) (b := (7 : Int)) rfl rfl (by decide) (nat_tmod _ 7)) ?_
   refine lv (e_eql (a := (((x + n) % 7 : Nat) : Int)) (b := (0 : Int)) rfl rfl) ?_
   refine lnf ?_
   refine c_if ((((x + n) % 7 : Nat) : Int) = (0 : Int)) rfl (fun hc5 => ?_) (fun hc5 => ?_)
   ·refine c_region ?_
    refine lv (v := .agg #[.int .i64 (0), .int .i64 (0)]) (e_build tf8 tf13 (vs := []) (cells := #[.int .i64 (0), .int .i64 (0)]) rfl rfl) ?_
    refine lv (v := pp b4 8) (e_fieldPt rfl tf18) ?_
    refine lu (m_store 0 tf19 (cs' := #[Nx (1 + (k * 2)), Nx ((k * 21) + ((x % 2) * 3)), Nx (((x / 2) % 2) * 21), Ix ((if ((x / 4) % 3) = 0 then 0 else if ((x / 4) % 3) = 1 then 4 else (-4))), .int .i64 (0), .int .i64 (10), .int .i64 (10), .bool false, .bool true]) rfl rfl rfl rfl rfl rfl rfl) ?_
    refine lv (v := pp b4 3) (e_fieldPt rfl tf243) ?_
    refine lu (m_store 0 tf5 (cs' := #[Nx (1 + (k * 2)), Nx ((k * 21) + ((x % 2) * 3)), Nx (((x / 2) % 2) * 21), .int .i64 (0), .int .i64 (0), .int .i64 (10), .int .i64 (10), .bool false, .bool true]) rfl rfl rfl rfl rfl rfl rfl) ?_
    refine lnr ?_
    refine lv (v := pp b2 0) (e_fieldPt rfl tf33) ?_
    refine lv (v := sB p bs c) (e_load1 tf26 rfl (k_pt 2 rfl rfl)) ?_
    refine lv (v := .agg #[Nx (1 + (k * 2)), Nx ((k * 21) + ((x % 2) * 3)), Nx (((x / 2) % 2) * 21), .int .i64 (0), .int .i64 (0), .int .i64 (10), .int .i64 (10), .bool false, .bool true]) (e_load tf1 rfl (k_pt 0 rfl rfl) rfl) ?_
    refine l_mv rfl rfl rfl (m_slices tf16 tf17 (cells := #[Nx (1 + (k * 2)), Nx ((k * 21) + ((x % 2) * 3)), Nx (((x / 2) % 2) * 21), .int .i64 (0), .int .i64 (0), .int .i64 (10), .int .i64 (10), .bool false, .bool true]) rfl rfl rfl (by kernel_rfl)) ?_
    rintro _ _ ⟨b6, rfl, rfl⟩
    refine l_mv rfl rfl rfl (m_appendFlN (F := BodyF) 2 tf16 tf70 (p := p) (m := bs.length) (xs := bs) (ys := [(⟨((1 + (k * 2) : Nat) : Int), (((k * 21) + ((x % 2) * 3) : Nat) : Int), ((((x / 2) % 2) * 21 : Nat) : Int), 0, 0, 10, 10, false, true⟩ : KB)]) (ao := (some ⟨b6, 0, none⟩)) (k := 1) (c := 1) rfl rfl rfl rfl rfl (k_ptFl (z := (⟨((1 + (k * 2) : Nat) : Int), (((k * 21) + ((x % 2) * 3) : Nat) : Int), ((((x / 2) % 2) * 21 : Nat) : Int), 0, 0, 10, 10, false, true⟩ : KB)) 0 rfl rfl) (by first | omega | simp only [List.length_nil, List.length_cons, List.length_append, List.length_set]; omega) (by first | omega | simp only [List.length_nil, List.length_cons, List.length_append, List.length_set]; omega)) ?_
    rintro _ _ ⟨rp7, rc8, rfl, rfl⟩
    refine lv (v := pp b2 0) (e_fieldPt rfl tf33) ?_
    refine lu (m_store 3 tf26 (cs' := #[sB rp7 (bs ++ [(⟨((1 + (k * 2) : Nat) : Int), (((k * 21) + ((x % 2) * 3) : Nat) : Int), ((((x / 2) % 2) * 21 : Nat) : Int), 0, 0, 10, 10, false, true⟩ : KB)]) rc8, .slice none 0 0, .int .i64 (0), .int .i64 (0)]) rfl rfl rfl rfl rfl rfl rfl) ?_
    refine l_nil ?_
    refine f_block ?_
    refine f_then ?_
    refine c_region ?_
    refine lv (v := Nx (k)) e_move ?_
    refine lv (v := Nx (k + 1)) (e_add (a := ((k : Nat) : Int)) (b := (1 : Int)) rfl rfl (i64n (by omega) (by omega))) ?_
    refine lv (v := Nx (x)) e_move ?_
    refine lv (v := Nx (x / 12)) (e_quo (a := ((x : Nat) : Int)) (b := (12 : Int)) rfl rfl (by decide) (i64n (nat_tdiv _ 12) (by omega))) ?_
    refine lv (v := Nx (k + 1)) e_assign ?_
    refine lv (v := Nx (x / 12)) e_assign ?_
    refine l_nil ?_
    refine f_mask (L' := [rowF BodyF 33 rp7 rc8 (bs ++ [(⟨((1 + (k * 2) : Nat) : Int), (((k * 21) + ((x % 2) * 3) : Nat) : Int), ((((x / 2) % 2) * 21 : Nat) : Int), 0, 0, 10, 10, false, true⟩ : KB)]), pt b2 (.cells #[sB rp7 (bs ++ [(⟨((1 + (k * 2) : Nat) : Int), (((k * 21) + ((x % 2) * 3) : Nat) : Int), ((((x / 2) % 2) * 21 : Nat) : Int), 0, 0, 10, 10, false, true⟩ : KB)]) rc8, .slice none 0 0, .int .i64 (0), .int .i64 (0)] 27)]) [false, false, true, true] rfl ?_
    exact f_cut ⟨(k + 1, x / 12, (bs ++ [(⟨((1 + (k * 2) : Nat) : Int), (((k * 21) + ((x % 2) * 3) : Nat) : Int), ((((x / 2) % 2) * 21 : Nat) : Int), 0, 0, 10, 10, false, true⟩ : KB)]), rp7, rc8), ⟨⟨rfl, rfl, rfl, rfl⟩, rfl, ⟨by omega, by omega, by rw [List.length_append, List.length_singleton]; omega⟩⟩, (show 3 - (k + 1) < 3 - k from by omega)⟩
   refine csk ?_
   refine c_region ?_
   refine lv (v := pp b2 0) (e_fieldPt rfl tf33) ?_
   refine lv (v := sB p bs c) (e_load1 tf26 rfl (k_pt 2 rfl rfl)) ?_
   refine lv (v := .agg #[Nx (1 + (k * 2)), Nx ((k * 21) + ((x % 2) * 3)), Nx (((x / 2) % 2) * 21), Ix ((if ((x / 4) % 3) = 0 then 0 else if ((x / 4) % 3) = 1 then 4 else (-4))), .int .i64 (0), .int .i64 (10), .int .i64 (10), .bool false, .bool false]) (e_load tf1 rfl (k_pt 0 rfl rfl) rfl) ?_
   refine l_mv rfl rfl rfl (m_slices tf16 tf17 (cells := #[Nx (1 + (k * 2)), Nx ((k * 21) + ((x % 2) * 3)), Nx (((x / 2) % 2) * 21), Ix ((if ((x / 4) % 3) = 0 then 0 else if ((x / 4) % 3) = 1 then 4 else (-4))), .int .i64 (0), .int .i64 (10), .int .i64 (10), .bool false, .bool false]) rfl rfl rfl (by kernel_rfl)) ?_
   rintro _ _ ⟨b9, rfl, rfl⟩
   refine l_mv rfl rfl rfl (m_appendFlN (F := BodyF) 2 tf16 tf70 (p := p) (m := bs.length) (xs := bs) (ys := [(⟨((1 + (k * 2) : Nat) : Int), (((k * 21) + ((x % 2) * 3) : Nat) : Int), ((((x / 2) % 2) * 21 : Nat) : Int), (if ((x / 4) % 3) = 0 then 0 else if ((x / 4) % 3) = 1 then 4 else (-4)), 0, 10, 10, false, false⟩ : KB)]) (ao := (some ⟨b9, 0, none⟩)) (k := 1) (c := 1) rfl rfl rfl rfl rfl (k_ptFl (z := (⟨((1 + (k * 2) : Nat) : Int), (((k * 21) + ((x % 2) * 3) : Nat) : Int), ((((x / 2) % 2) * 21 : Nat) : Int), (if ((x / 4) % 3) = 0 then 0 else if ((x / 4) % 3) = 1 then 4 else (-4)), 0, 10, 10, false, false⟩ : KB)) 0 rfl rfl) (by first | omega | simp only [List.length_nil, List.length_cons, List.length_append, List.length_set]; omega) (by first | omega | simp only [List.length_nil, List.length_cons, List.length_append, List.length_set]; omega)) ?_
   rintro _ _ ⟨rp10, rc11, rfl, rfl⟩
   refine lv (v := pp b2 0) (e_fieldPt rfl tf33) ?_
   refine lu (m_store 3 tf26 (cs' := #[sB rp10 (bs ++ [(⟨((1 + (k * 2) : Nat) : Int), (((k * 21) + ((x % 2) * 3) : Nat) : Int), ((((x / 2) % 2) * 21 : Nat) : Int), (if ((x / 4) % 3) = 0 then 0 else if ((x / 4) % 3) = 1 then 4 else (-4)), 0, 10, 10, false, false⟩ : KB)]) rc11, .slice none 0 0, .int .i64 (0), .int .i64 (0)]) rfl rfl rfl rfl rfl rfl rfl) ?_
   refine l_nil ?_
   refine f_block ?_
   refine f_then ?_
   refine c_region ?_
   refine lv (v := Nx (k)) e_move ?_
   refine lv (v := Nx (k + 1)) (e_add (a := ((k : Nat) : Int)) (b := (1 : Int)) rfl rfl (i64n (by omega) (by omega))) ?_
   refine lv (v := Nx (x)) e_move ?_
   refine lv (v := Nx (x / 12)) (e_quo (a := ((x : Nat) : Int)) (b := (12 : Int)) rfl rfl (by decide) (i64n (nat_tdiv _ 12) (by omega))) ?_
   refine lv (v := Nx (k + 1)) e_assign ?_
   refine lv (v := Nx (x / 12)) e_assign ?_
   refine l_nil ?_
   refine f_mask (L' := [rowF BodyF 33 rp10 rc11 (bs ++ [(⟨((1 + (k * 2) : Nat) : Int), (((k * 21) + ((x % 2) * 3) : Nat) : Int), ((((x / 2) % 2) * 21 : Nat) : Int), (if ((x / 4) % 3) = 0 then 0 else if ((x / 4) % 3) = 1 then 4 else (-4)), 0, 10, 10, false, false⟩ : KB)]), pt b2 (.cells #[sB rp10 (bs ++ [(⟨((1 + (k * 2) : Nat) : Int), (((k * 21) + ((x % 2) * 3) : Nat) : Int), ((((x / 2) % 2) * 21 : Nat) : Int), (if ((x / 4) % 3) = 0 then 0 else if ((x / 4) % 3) = 1 then 4 else (-4)), 0, 10, 10, false, false⟩ : KB)]) rc11, .slice none 0 0, .int .i64 (0), .int .i64 (0)] 27)]) [false, false, true, true] rfl ?_
   exact f_cut ⟨(k + 1, x / 12, (bs ++ [(⟨((1 + (k * 2) : Nat) : Int), (((k * 21) + ((x % 2) * 3) : Nat) : Int), ((((x / 2) % 2) * 21 : Nat) : Int), (if ((x / 4) % 3) = 0 then 0 else if ((x / 4) % 3) = 1 then 4 else (-4)), 0, 10, 10, false, false⟩ : KB)]), rp10, rc11), ⟨⟨rfl, rfl, rfl, rfl⟩, rfl, ⟨by omega, by omega, by rw [List.length_append, List.length_singleton]; omega⟩⟩, (show 3 - (k + 1) < 3 - k from by omega)⟩
  refine c_exit ?_
  refine f_then_exit ?_
  refine f_then_exit ?_
  refine f_exit ?_
  refine ftc ?_
  refine lv (v := Nx (n)) e_move ?_
  refine lv (v := Nx (n % 3)) (e_rem (a := ((n : Nat) : Int)) (b := (3 : Int)) rfl rfl (by decide) (nat_tmod _ 3)) ?_
  refine lv (v := Nx (n)) e_move ?_
  refine lv (v := Nx (n % 2)) (e_rem (a := ((n : Nat) : Int)) (b := (2 : Int)) rfl rfl (by decide) (nat_tmod _ 2)) ?_
  refine lv (v := Ix (((n % 2 : Nat) : Int) - (1 : Int))) (e_sub (a := ((n % 2 : Nat) : Int)) (b := (1 : Int)) rfl rfl (i64w (by omega))) ?_
  refine lv (v := .agg #[Nx (n % 3), Ix (((n % 2 : Nat) : Int) - (1 : Int))]) (e_build tf8 tf13 (vs := [(0, Nx (n % 3)), (1, Ix (((n % 2 : Nat) : Int) - (1 : Int)))]) (cells := #[Nx (n % 3), Ix (((n % 2 : Nat) : Int) - (1 : Int))]) rfl rfl) ?_
  refine lv (v := pp b2 2) (e_fieldPt rfl tf40) ?_
  refine lu (m_store 1 tf5 (cs' := #[sB p bs c, .slice none 0 0, Nx (n % 3), Ix (((n % 2 : Nat) : Int) - (1 : Int))]) rfl rfl rfl rfl rfl rfl rfl) ?_
  refine lnf ?_
  refine cs2 ?_
  refine c_region ?_
  refine lv (v := Nx (n)) e_move ?_
  refine lv (v := Nx (n % 4)) (e_rem (a := ((n : Nat) : Int)) (b := (4 : Int)) rfl rfl (by decide) (nat_tmod _ 4)) ?_
  refine lv (e_eql (a := ((n % 4 : Nat) : Int)) (b := (1 : Int)) rfl rfl) ?_
  refine lnf ?_
  refine c_if (((n % 4 : Nat) : Int) = (1 : Int)) rfl (fun hc12 => ?_) (fun hc12 => ?_)
  ·refine c_region ?_
   refine lv (v := Nx (n)) e_move ?_
   refine lv (v := .agg #[.int .i64 (1), .int .i64 (5), Nx (n)]) (e_build tf57 tf74 (vs := [(0, .int .i64 (1)), (1, .int .i64 (5)), (2, Nx (n))]) (cells := #[.int .i64 (1), .int .i64 (5), Nx (n)]) rfl rfl) ?_
   refine l_mv rfl rfl rfl (m_slices tf55 tf57 (cells := #[.int .i64 (1), .int .i64 (5), Nx (n)]) rfl rfl rfl rfl) ?_
   rintro _ _ ⟨b13, rfl, rfl⟩
   refine lv (v := pp b2 1) (e_fieldPt rfl tf52) ?_
   refine lu (m_store 2 tf53 (cs' := #[sB p bs c, .slice (some ⟨b13, 0, none⟩) 1 1, Nx (n % 3), Ix (((n % 2 : Nat) : Int) - (1 : Int))]) rfl rfl rfl rfl rfl rfl rfl) ?_
   refine lnc ?_
   refine lv (v := .agg #[sB p bs c, .slice (some ⟨b13, 0, none⟩) 1 1, Nx (n % 3), Ix (((n % 2 : Nat) : Int) - (1 : Int))]) (e_load tf31 rfl (k_pt 2 rfl rfl) rfl) ?_
   refine lv (v := Nx (n)) e_move ?_
   refine lv (v := Nx (n % 3)) (e_rem (a := ((n : Nat) : Int)) (b := (3 : Int)) rfl rfl (by decide) (nat_tmod _ 3)) ?_
   refine lv (v := Nx ((n % 3) * 2)) (e_mul (a := ((n % 3 : Nat) : Int)) (b := (2 : Int)) rfl rfl (i64n (by omega) (by omega))) ?_
   refine lv (v := Nx (1 + ((n % 3) * 2))) (e_add (a := (1 : Int)) (b := (((n % 3) * 2 : Nat) : Int)) rfl rfl (i64n (by omega) (by omega))) ?_
   refine l_mv rfl rfl rfl (m_slices tf23 tf24 (cells := #[Nx (1 + ((n % 3) * 2))]) rfl rfl rfl rfl) ?_
   rintro _ _ ⟨b14, rfl, rfl⟩
   refine lcf (cl0 (vs := [.agg #[sB p bs c, .slice (some ⟨b13, 0, none⟩) 1 1, Nx (n % 3), Ix (((n % 2 : Nat) : Int) - (1 : Int))], .slice (some ⟨b14, 0, none⟩) 1 1]) tf240 rfl rfl) rfl fun w β1 sb kn hw1 back => (tells_ok β1 w hw1 _ _ _ ((n % 3 : Nat) : Int) (((n % 2 : Nat) : Int) - (1 : Int)) bs [(⟨1, 5, ((n : Nat) : Int)⟩ : KR)] [((1 + ((n % 3) * 2) : Nat) : Int)] (kn _ (k_flN 2 (F := BodyF) (m := bs.length) rfl rfl)) (kn _ (k_ptFls (F := RopeF) 1 (m := 1) (xs := [(⟨1, 5, ((n : Nat) : Int)⟩ : KR)]) rfl rfl rfl (Nat.le_of_ble_eq_true rfl))) (kn _ (k_ptFls (F := IntF) 0 (m := 1) (xs := [((1 + ((n % 3) * 2) : Nat) : Int)]) rfl rfl rfl (Nat.le_of_ble_eq_true rfl))) (by omega) (by omega) (by omega) (Nat.le_of_ble_eq_true rfl) (Nat.le_of_ble_eq_true rfl)).mono ?_
   rintro e w' ⟨rfl, hw'⟩
   refine ⟨_, rfl, _, back _ _ hw', ?_⟩
   clear hw1 hw' back kn sb
   refine lv (v := .bool false) (e_not (a := true) rfl) ?_
   refine lnf ?_
   refine c_no rfl ?_
   refine c_skip ?_
   refine f_block ?_
   refine f_then ?_
   refine c_region ?_
   refine lv (v := Nx (n)) e_move ?_
   refine lv (v := Nx (n + 1)) (e_add (a := ((n : Nat) : Int)) (b := (1 : Int)) rfl rfl (i64n (by omega) (by omega))) ?_
   refine lv (v := Nx (n + 1)) e_assign ?_
   refine l_nil ?_
   refine f_mask (L' := []) [false, false, false, false] rfl ?_
   exact f_cut ⟨n + 1, ⟨rfl, rfl, by omega⟩, (show 1728 - (n + 1) < 1728 - n from by omega)⟩
  refine csk ?_
  refine csr ?_
  refine lv (v := .agg #[sB p bs c, .slice none 0 0, Nx (n % 3), Ix (((n % 2 : Nat) : Int) - (1 : Int))]) (e_load tf31 rfl (k_pt 1 rfl rfl) rfl) ?_
  refine lv (v := Nx (n)) e_move ?_
  refine lv (v := Nx (n % 3)) (e_rem (a := ((n : Nat) : Int)) (b := (3 : Int)) rfl rfl (by decide) (nat_tmod _ 3)) ?_
  refine lv (v := Nx ((n % 3) * 2)) (e_mul (a := ((n % 3 : Nat) : Int)) (b := (2 : Int)) rfl rfl (i64n (by omega) (by omega))) ?_
  refine lv (v := Nx (1 + ((n % 3) * 2))) (e_add (a := (1 : Int)) (b := (((n % 3) * 2 : Nat) : Int)) rfl rfl (i64n (by omega) (by omega))) ?_
  refine l_mv rfl rfl rfl (m_slices tf23 tf24 (cells := #[Nx (1 + ((n % 3) * 2))]) rfl rfl rfl rfl) ?_
  rintro _ _ ⟨b15, rfl, rfl⟩
  refine lcf (cl0 (vs := [.agg #[sB p bs c, .slice none 0 0, Nx (n % 3), Ix (((n % 2 : Nat) : Int) - (1 : Int))], .slice (some ⟨b15, 0, none⟩) 1 1]) tf240 rfl rfl) rfl fun w β1 sb kn hw1 back => (tells_ok β1 w hw1 _ _ _ ((n % 3 : Nat) : Int) (((n % 2 : Nat) : Int) - (1 : Int)) bs [] [((1 + ((n % 3) * 2) : Nat) : Int)] (kn _ (k_flN 1 (F := BodyF) (m := bs.length) rfl rfl)) (Sl.nil _ _) (kn _ (k_ptFls (F := IntF) 0 (m := 1) (xs := [((1 + ((n % 3) * 2) : Nat) : Int)]) rfl rfl rfl (Nat.le_of_ble_eq_true rfl))) (by omega) (by omega) (by omega) (Nat.le_of_ble_eq_true rfl) (Nat.le_of_ble_eq_true rfl)).mono ?_
  rintro e w' ⟨rfl, hw'⟩
  refine ⟨_, rfl, _, back _ _ hw', ?_⟩
  clear hw1 hw' back kn sb
  refine lv (v := .bool false) (e_not (a := true) rfl) ?_
  refine lnf ?_
  refine c_no rfl ?_
  refine c_skip ?_
  refine f_block ?_
  refine f_then ?_
  refine c_region ?_
  refine lv (v := Nx (n)) e_move ?_
  refine lv (v := Nx (n + 1)) (e_add (a := ((n : Nat) : Int)) (b := (1 : Int)) rfl rfl (i64n (by omega) (by omega))) ?_
  refine lv (v := Nx (n + 1)) e_assign ?_
  refine l_nil ?_
  refine f_mask (L' := []) [false, false, false] rfl ?_
  exact f_cut ⟨n + 1, ⟨rfl, rfl, by omega⟩, (show 1728 - (n + 1) < 1728 - n from by omega)⟩
 refine c_exit ?_
 refine f_then_exit ?_
 refine f_then_exit ?_
 refine f_exit ?_
 refine ftc ?_
 refine lv (v := .agg #[.slice none 0 0, .slice none 0 0, .int .i64 (0), .int .i64 (0)]) (e_build tf67 tf69 (vs := []) (cells := #[.slice none 0 0, .slice none 0 0, .int .i64 (0), .int .i64 (0)]) rfl rfl) ?_
 refine l_mv rfl rfl rfl (m_alloc tf67) ?_
 rintro _ _ ⟨b16, rfl, rfl⟩
 refine lu (m_store 0 tf31 (cs' := #[.slice none 0 0, .slice none 0 0, .int .i64 (0), .int .i64 (0)]) rfl rfl rfl rfl rfl rfl rfl) ?_
 refine lnf ?_
 refine cs2 ?_
 refine c_emp (r := rowF BodyF 33 none 0 []) (row_nil _ _ _) ?_
 refine c_region ?_
 refine l_val (v := .int .i64 (0)) rfl rfl rfl e_assign ?_
 refine lnf ?_
 refine c_block ?_
 refine c_loop (fun (x_ : Nat × Option Addr × Nat) (f : Fm) (L : List Res) => match x_ with | (i, p, c) => (f 6 = pp b16 0 ∧ f 7 = Nx (i)) ∧ L = [rowF BodyF 33 p c (rowL i), pt b16 (.cells #[sB p (rowL i) c, .slice none 0 0, .int .i64 (0), .int .i64 (0)] 27)] ∧ (i ≤ 65)) (fun (x_ : Nat × Option Addr × Nat) => match x_ with | (i, p, c) => 65 - i) (0, none, 0) ?_ ?_
 ·exact ⟨⟨rfl, rfl⟩, rfl, by omega⟩
 rintro ⟨i, p, c⟩ f0 L0 ⟨⟨hs6, hs7⟩, hL, hi⟩
 subst L0
 refine rebase (d := 6) hs6 ?_
 refine rebase (d := 7) hs7 ?_
 clear hs6 hs7
 have hrl := rowL_len i
 refine cs2 ?_
 refine c_region ?_
 refine lv (v := Nx (i)) e_move ?_
 refine lv (e_leq (a := ((i : Nat) : Int)) (b := (64 : Int)) rfl rfl) ?_
 refine lnf ?_
 refine c_if (((i : Nat) : Int) ≤ (64 : Int)) rfl (fun hc17 => ?_) (fun hc17 => ?_)
 ·refine csk ?_
  refine c_seq ?_
  refine c_block ?_
  refine cs2 ?_
  refine c_region ?_
  refine lv (v := Nx (i)) e_move ?_
  refine lv (e_eql (a := ((i : Nat) : Int)) (b := (64 : Int)) rfl rfl) ?_
  refine lnf ?_
  refine c_if (((i : Nat) : Int) = (64 : Int)) rfl (fun hc18 => ?_) (fun hc18 => ?_)
  ·refine c_seq ?_
   have hi64 : i = 64 := by omega
   refine c_region ?_
   refine lv (v := .agg #[sB p (rowL i) c, .slice none 0 0, .int .i64 (0), .int .i64 (0)]) (e_load tf31 rfl (k_pt 1 rfl rfl) rfl) ?_
   refine lcf (cl0 (vs := [.agg #[sB p (rowL i) c, .slice none 0 0, .int .i64 (0), .int .i64 (0)]]) tf75 rfl rfl) rfl fun w β1 sb kn hw1 back => (islandsM_ok β1 w hw1 _ _ 0 0 (rowL i) [] (kn _ (k_flN 0 (F := BodyF) (m := (rowL i).length) rfl rfl)) (Sl.nil _ _) (by omega) (by omega)).mono ?_
   rintro e w' ⟨p19, c20, hs21, hx22, rfl, hw'⟩
   refine ⟨_, rfl, _, back _ _ hw', ?_⟩
   clear hw1 hw' back kn sb
   refine lv (v := .tuple #[sB p19 hs21 c20, Ix ((errI (rowL i) [] 0 0))]) e_move ?_
   refine lv (v := sB p19 hs21 c20) (e_extract (vs := #[sB p19 hs21 c20, Ix ((errI (rowL i) [] 0 0))]) rfl rfl) ?_
   refine lv (v := Ix ((errI (rowL i) [] 0 0))) (e_extract (vs := #[sB p19 hs21 c20, Ix ((errI (rowL i) [] 0 0))]) rfl rfl) ?_
   refine lv (v := sB p19 hs21 c20) e_assign ?_
   refine lv (v := Ix ((errI (rowL i) [] 0 0))) e_assign ?_
   refine lnf ?_
   refine c_seq ?_
   obtain ⟨r24, hr1, hr2⟩ := row_islI hi64
   have hr3 := hx22.trans hr1
   obtain ⟨y, hyE, hy⟩ : ∃ y : HI, hs21 = [y] ∧ y.xs.length = 64 := one_row hr3 hr2
   have herr : errI (rowL i) [] 0 0 = 0 := if_pos (row_okI hi64)
   rw [hyE]
   refine c_split (K := llL p19 c20 [y]) (M := [rowF BodyF 33 p c (rowL i), pt b16 (.cells #[sB p (rowL i) c, .slice none 0 0, .int .i64 (0), .int .i64 (0)] 27)]) rfl ?_
   refine c_region ?_
   refine lv (v := .agg #[sB p (rowL i) c, .slice none 0 0, .int .i64 (0), .int .i64 (0)]) (e_load tf31 rfl (k_pt 3 rfl rfl) rfl) ?_
   refine l_mv rfl rfl rfl (m_slices tf23 tf24 (cells := #[.int .i64 (1), .int .i64 (3)]) rfl rfl rfl rfl) ?_
   rintro _ _ ⟨b25, rfl, rfl⟩
   refine lcf (cl0 (vs := [.agg #[sB p (rowL i) c, .slice none 0 0, .int .i64 (0), .int .i64 (0)], .slice (some ⟨b25, 0, none⟩) 2 2]) tf240 rfl rfl) rfl fun w β1 sb kn hw1 back => (tells_ok β1 w hw1 _ _ _ 0 0 (rowL i) [] [1, 3] (kn _ (k_flN 3 (F := BodyF) (m := (rowL i).length) rfl rfl)) (Sl.nil _ _) (kn _ (k_ptFls (F := IntF) 0 (m := 2) (xs := [1, 3]) rfl rfl rfl (Nat.le_of_ble_eq_true rfl))) (by omega) (by omega) (by rw [rowL_len]; omega) (Nat.le_of_ble_eq_true rfl) (Nat.le_of_ble_eq_true rfl)).mono ?_
   rintro e w' ⟨rfl, hw'⟩
   refine ⟨_, rfl, _, back _ _ hw', ?_⟩
   clear hw1 hw' back kn sb
   refine lv (v := .bool false) (e_not (a := true) rfl) ?_
   refine lv (v := .bool false) e_move ?_
   refine g_val (v := Ix ((errI (rowL i) [] 0 0))) rfl rfl rfl rfl rfl e_move ?_
   refine g_val rfl rfl rfl rfl rfl (e_neq (a := ((errI (rowL i) [] 0 0))) (b := (0 : Int)) rfl rfl) ?_
   refine lv (v := .bool (decide (((errI (rowL i) [] 0 0)) ≠ (0 : Int)))) (e_pick_f rfl) ?_
   refine lv (v := .bool (decide (((errI (rowL i) [] 0 0)) ≠ (0 : Int)))) e_move ?_
   refine l_split (s := 101) (p := ((errI (rowL i) [] 0 0)) ≠ (0 : Int)) rfl (fun h => ?_) (fun h => ?_)
   exact absurd h (fun q => q herr)
   refine g_val (v := sB p19 [y] c20) rfl rfl rfl rfl rfl e_move ?_
   refine g_val (v := Nx ([y].length)) rfl rfl rfl rfl rfl (e_len (a := p19) (n := [y].length) (c := c20) rfl tf64) ?_
   refine g_val rfl rfl rfl rfl rfl (e_neq (a := (([y].length : Nat) : Int)) (b := (1 : Int)) rfl rfl) ?_
   refine lv (v := .bool (decide ((([y].length : Nat) : Int) ≠ (1 : Int)))) (e_pick_f rfl) ?_
   refine lv (v := .bool (decide ((([y].length : Nat) : Int) ≠ (1 : Int)))) e_move ?_
   refine l_split (s := 106) (p := (([y].length : Nat) : Int) ≠ (1 : Int)) rfl (fun h => ?_) (fun h => ?_)
   exact absurd h (by first | omega | (simp only [List.length_singleton]; omega))
   refine g_val (v := sB p19 [y] c20) rfl rfl rfl rfl rfl e_move ?_
   refine g_val (v := .pointer (some ((ba p19).add (0 * 1)))) rfl rfl rfl rfl rfl (e_indexFlN 1 (F := HdIF) (j := 0) (m := [y].length) (xs := [y]) rfl rfl rfl tf21 (by omega) rfl) ?_
   refine g_val (v := sB y.p y.xs y.c) rfl rfl rfl rfl rfl (e_load1 tf22 rfl (k_flAt 1 (F := HdIF) rfl (show [y][0]? = some y from rfl))) ?_
   refine g_val (v := Nx (y.xs.length)) rfl rfl rfl rfl rfl (e_len (a := y.p) (n := y.xs.length) (c := y.c) rfl tf28) ?_
   refine g_val rfl rfl rfl rfl rfl (e_neq (a := ((y.xs.length : Nat) : Int)) (b := (64 : Int)) rfl rfl) ?_
   refine lv (v := .bool (decide (((y.xs.length : Nat) : Int) ≠ (64 : Int)))) (e_pick_f rfl) ?_
   refine lnf ?_
   refine c_if (((y.xs.length : Nat) : Int) ≠ (64 : Int)) rfl (fun hc26 => ?_) (fun hc26 => ?_)
   ·exact absurd hc26 (by first | omega | (simp only [List.length_singleton]; omega))
   refine csk ?_
   refine c_any [⟨[], [], [0], [113], fun f => f 113 = pp b16 0⟩, ⟨[0], [0], [], [114], fun f => f 114 = sB p (rowL i) c⟩, ⟨[], [], [1], [115], fun f => f 115 = Nx (i)⟩, ⟨[], [], [1], [116], fun f => f 116 = Nx (i)⟩, ⟨[3], [3], [], [117], fun f => f 117 = Nx (i * 37)⟩, ⟨[3, 4], [4], [], [118], fun f => f 118 = Nx ((i * 37) % 64)⟩, ⟨[3, 4, 5], [5], [], [119], fun f => f 119 = Nx (20 * ((i * 37) % 64))⟩, ⟨[2, 3, 4, 5, 6], [2, 6], [], [120], fun f => f 120 = .agg #[Nx (i), Nx (20 * ((i * 37) % 64)), .int .i64 (0), .int .i64 (0), .int .i64 (0), .int .i64 (10), .int .i64 (10), .bool false, .bool false]⟩, ⟨[2, 3, 4, 5, 6, 7], [7], [], [121], fun f => f 121 = .slice (some ⟨(blk (f 121)), 0, none⟩) 1 1⟩, ⟨(List.range 9), [1, 8], [], [122], fun f => f 122 = sB (sla (f 122)) ((rowL i) ++ [(⟨((i : Nat) : Int), ((20 * ((i * 37) % 64) : Nat) : Int), 0, 0, 0, 10, 10, false, false⟩ : KB)]) (slc (f 122))⟩, ⟨(List.range 10), [], [0], [123], fun f => f 123 = pp b16 0⟩, ⟨(List.range 11), [10, 9], [], [], fun _ => True⟩] [⟨none, none, [], [], fun _ => pt b25 (.cells #[.int .i64 (1), .int .i64 (3)] 3)⟩, ⟨none, none, [], [], fun _ => rowF HdIF 28 p19 c20 [y]⟩, ⟨none, none, [], [], fun _ => Sat ([y].map ownI)⟩, ⟨none, (some 9), [9], [], fun _ => rowF BodyF 33 p c (rowL i)⟩, ⟨none, (some 11), [1, 11], [], fun _ => pt b16 (.cells #[sB p (rowL i) c, .slice none 0 0, .int .i64 (0), .int .i64 (0)] 27)⟩, ⟨(some 8), none, [9], [121], fun f => pt (blk (f 121)) (.cells #[Nx (i), Nx (20 * ((i * 37) % 64)), .int .i64 (0), .int .i64 (0), .int .i64 (0), .int .i64 (10), .int .i64 (10), .bool false, .bool false] 33)⟩, ⟨(some 9), none, [], [122], fun f => rowF BodyF 33 (sla (f 122)) (slc (f 122)) ((rowL i) ++ [(⟨((i : Nat) : Int), ((20 * ((i * 37) % 64) : Nat) : Int), 0, 0, 0, 10, 10, false, false⟩ : KB)])⟩, ⟨(some 11), none, [], [122], fun f => pt b16 (.cells #[sB (sla (f 122)) ((rowL i) ++ [(⟨((i : Nat) : Int), ((20 * ((i * 37) % 64) : Nat) : Int), 0, 0, 0, 10, 10, false, false⟩ : KB)]) (slc (f 122)), .slice none 0 0, .int .i64 (0), .int .i64 (0)] 27)⟩] [(6, pp b16 0), (7, Nx (i))] [0, 1] [] (by kernel_rfl) (by kernel_rfl) (by kernel_rfl) (by kernel_rfl) rfl ⟨rfl, rfl, trivial⟩ ⟨?_, ?_, ?_, ?_, ?_, ?_, ?_, ?_, ?_, ?_, ?_, ?_, trivial⟩ ?_
   ·rintro f M - ⟨i0, -⟩
    exact ob0 (up_cons (d := 6) rfl i0) rfl (e_fieldPt rfl tf33) (.refl _)
   ·rintro f M ⟨k0, -⟩ -
    exact obv (L' := pt b16 (.cells #[sB p (rowL i) c, .slice none 0 0, .int .i64 (0), .int .i64 (0)] 27) :: M) (up_cons (d := 113) rfl k0) rfl (e_load1 tf26 rfl (k_pt 0 rfl rfl)) (perm_front 0 rfl) (by rfl)
   ·rintro f M - ⟨i0, -⟩
    exact ob0 (up_cons (d := 7) rfl i0) rfl e_move (.refl _)
   ·rintro f M - ⟨i0, -⟩
    exact ob0 (up_cons (d := 7) rfl i0) rfl e_move (.refl _)
   ·rintro f M ⟨k0, -⟩ -
    exact ob0 (up_cons (d := 116) rfl k0) rfl (e_mul (a := ((i : Nat) : Int)) (b := (37 : Int)) rfl rfl (i64n (by omega) (by omega))) (.refl _)
   ·rintro f M ⟨k0, -⟩ -
    exact ob0 (up_cons (d := 117) rfl k0) rfl (e_rem (a := ((i * 37 : Nat) : Int)) (b := (64 : Int)) rfl rfl (by decide) (nat_tmod _ 64)) (.refl _)
   ·rintro f M ⟨k0, -⟩ -
    exact ob0 (up_cons (d := 118) rfl k0) rfl (e_mul (a := (20 : Int)) (b := (((i * 37) % 64 : Nat) : Int)) rfl rfl (i64n (by omega) (by omega))) (.refl _)
   ·rintro f M ⟨k0, k1, -⟩ -
    refine ob_start (L' := M) (by rfl) (up_cons (d := 119) (up_cons (d := 115) rfl k0) k1) ?_
    refine lcf (cl0 (vs := [Nx (i), Nx (20 * ((i * 37) % 64)), .int .i64 (0), .int .i64 (0), .int .i64 (0)]) tf68 rfl rfl) rfl fun w β1 sb kn hw1 back => (box_ok β1 w hw1 ((i : Nat) : Int) ((20 * ((i * 37) % 64) : Nat) : Int) 0 0 0).mono ?_
    rintro e w' ⟨rfl, hw'⟩
    refine ⟨_, rfl, _, back _ _ hw', ?_⟩
    clear hw1 hw' back kn sb
    refine l_nil ?_
    exact f_owes_d (up_cons (d := 119) (up_cons (d := 115) rfl k0) k1) rfl (List.Perm.refl _)
   ·rintro f M ⟨k0, -⟩ -
    refine ob_start (L' := M) (by rfl) (up_cons (d := 120) rfl k0) ?_
    refine l_mv rfl rfl rfl (m_slices tf16 tf17 (cells := #[Nx (i), Nx (20 * ((i * 37) % 64)), .int .i64 (0), .int .i64 (0), .int .i64 (0), .int .i64 (10), .int .i64 (10), .bool false, .bool false]) rfl rfl rfl (by kernel_rfl)) ?_
    rintro _ _ ⟨b28, rfl, rfl⟩
    refine l_nil ?_
    exact f_owes_d (up_cons (d := 120) rfl k0) rfl (perm_front 0 rfl)
   ·rintro f M ⟨k0, k1, -⟩ -
    have hs121 : f 121 = .slice (some ⟨(blk (f 121)), 0, none⟩) 1 1 := k1
    refine ob_start (L' := rowF BodyF 33 p c (rowL i) :: pt (blk (f 121)) (.cells #[Nx (i), Nx (20 * ((i * 37) % 64)), .int .i64 (0), .int .i64 (0), .int .i64 (0), .int .i64 (10), .int .i64 (10), .bool false, .bool false] 33) :: M) (by rfl) (up_cons (up_cons (d := 114) rfl k0) hs121) ?_
    refine l_mv rfl rfl rfl (m_appendFlN (F := BodyF) 0 tf16 tf70 (p := p) (m := (rowL i).length) (xs := (rowL i)) (ys := [(⟨((i : Nat) : Int), ((20 * ((i * 37) % 64) : Nat) : Int), 0, 0, 0, 10, 10, false, false⟩ : KB)]) (ao := (some ⟨(blk (f 121)), 0, none⟩)) (k := 1) (c := 1) rfl rfl rfl rfl rfl (k_ptFl (z := (⟨((i : Nat) : Int), ((20 * ((i * 37) % 64) : Nat) : Int), 0, 0, 0, 10, 10, false, false⟩ : KB)) 1 rfl rfl) (by first | omega | simp only [List.length_nil, List.length_cons, List.length_append, List.length_set]; omega) (by first | omega | simp only [List.length_nil, List.length_cons, List.length_append, List.length_set]; omega)) ?_
    rintro _ _ ⟨rp31, rc32, rfl, rfl⟩
    refine l_nil ?_
    exact f_owes_d (up_cons (up_cons (d := 114) rfl k0) hs121) rfl ((perm_front 0 rfl).trans (perm_front 1 rfl))
   ·rintro f M - ⟨i0, -⟩
    exact ob0 (up_cons (d := 6) rfl i0) rfl (e_fieldPt rfl tf33) (.refl _)
   ·rintro f M ⟨k0, k1, -⟩ -
    have hs122 : f 122 = sB (sla (f 122)) ((rowL i) ++ [(⟨((i : Nat) : Int), ((20 * ((i * 37) % 64) : Nat) : Int), 0, 0, 0, 10, 10, false, false⟩ : KB)]) (slc (f 122)) := k1
    refine ob_start (L' := pt b16 (.cells #[sB p (rowL i) c, .slice none 0 0, .int .i64 (0), .int .i64 (0)] 27) :: M) (by rfl) (up_cons (up_cons (d := 123) rfl k0) hs122) ?_
    refine lu (m_store 0 tf26 (cs' := #[sB (sla (f 122)) ((rowL i) ++ [(⟨((i : Nat) : Int), ((20 * ((i * 37) % 64) : Nat) : Int), 0, 0, 0, 10, 10, false, false⟩ : KB)]) (slc (f 122)), .slice none 0 0, .int .i64 (0), .int .i64 (0)]) rfl rfl rfl rfl rfl rfl rfl) ?_
    refine l_nil ?_
    exact f_owes_n (up_cons (up_cons (d := 123) rfl k0) hs122) trivial (perm_front 0 rfl)
   rintro fa33 ⟨-, -, -, -, -, -, -, -, -, -, -, -, -⟩ ⟨j0, j1, -⟩
   refine f_re (L' := [pt b25 (.cells #[.int .i64 (1), .int .i64 (3)] 3), rowF HdIF 28 p19 c20 [y], Sat ([y].map ownI), pt (blk (fa33 121)) (.cells #[Nx (i), Nx (20 * ((i * 37) % 64)), .int .i64 (0), .int .i64 (0), .int .i64 (0), .int .i64 (10), .int .i64 (10), .bool false, .bool false] 33), rowF BodyF 33 (sla (fa33 122)) (slc (fa33 122)) ((rowL i) ++ [(⟨((i : Nat) : Int), ((20 * ((i * 37) % 64) : Nat) : Int), 0, 0, 0, 10, 10, false, false⟩ : KB)]), pt b16 (.cells #[sB (sla (fa33 122)) ((rowL i) ++ [(⟨((i : Nat) : Int), ((20 * ((i * 37) % 64) : Nat) : Int), 0, 0, 0, 10, 10, false, false⟩ : KB)]) (slc (fa33 122)), .slice none 0 0, .int .i64 (0), .int .i64 (0)] 27)]) (by rfl) ?_
   refine f_rebase (d := 6) j0 ?_
   refine f_rebase (d := 7) j1 ?_
   refine f_block ?_
   refine f_then ?_
   refine c_region ?_
   refine lv (v := Nx (i)) e_move ?_
   refine lv (v := Nx (i + 1)) (e_add (a := ((i : Nat) : Int)) (b := (1 : Int)) rfl rfl (i64n (by omega) (by omega))) ?_
   refine lv (v := Nx (i + 1)) e_assign ?_
   refine l_nil ?_
   refine f_mask (L' := [rowF BodyF 33 (sla (fa33 122)) (slc (fa33 122)) ((rowL i) ++ [(⟨((i : Nat) : Int), ((20 * ((i * 37) % 64) : Nat) : Int), 0, 0, 0, 10, 10, false, false⟩ : KB)]), pt b16 (.cells #[sB (sla (fa33 122)) ((rowL i) ++ [(⟨((i : Nat) : Int), ((20 * ((i * 37) % 64) : Nat) : Int), 0, 0, 0, 10, 10, false, false⟩ : KB)]) (slc (fa33 122)), .slice none 0 0, .int .i64 (0), .int .i64 (0)] 27)]) [false, false, false, false, true, true] rfl ?_
   exact f_cut ⟨(i + 1, (sla (fa33 122)), (slc (fa33 122))), ⟨⟨rfl, rfl⟩, by rw [← rowL_next] <;> rfl, by omega⟩, (show 65 - (i + 1) < 65 - i from by omega)⟩
  refine csk ?_
  refine c_any [⟨[], [], [0], [113], fun f => f 113 = pp b16 0⟩, ⟨[0], [0], [], [114], fun f => f 114 = sB p (rowL i) c⟩, ⟨[], [], [1], [115], fun f => f 115 = Nx (i)⟩, ⟨[], [], [1], [116], fun f => f 116 = Nx (i)⟩, ⟨[3], [3], [], [117], fun f => f 117 = Nx (i * 37)⟩, ⟨[3, 4], [4], [], [118], fun f => f 118 = Nx ((i * 37) % 64)⟩, ⟨[3, 4, 5], [5], [], [119], fun f => f 119 = Nx (20 * ((i * 37) % 64))⟩, ⟨[2, 3, 4, 5, 6], [2, 6], [], [120], fun f => f 120 = .agg #[Nx (i), Nx (20 * ((i * 37) % 64)), .int .i64 (0), .int .i64 (0), .int .i64 (0), .int .i64 (10), .int .i64 (10), .bool false, .bool false]⟩, ⟨[2, 3, 4, 5, 6, 7], [7], [], [121], fun f => f 121 = .slice (some ⟨(blk (f 121)), 0, none⟩) 1 1⟩, ⟨(List.range 9), [1, 8], [], [122], fun f => f 122 = sB (sla (f 122)) ((rowL i) ++ [(⟨((i : Nat) : Int), ((20 * ((i * 37) % 64) : Nat) : Int), 0, 0, 0, 10, 10, false, false⟩ : KB)]) (slc (f 122))⟩, ⟨(List.range 10), [], [0], [123], fun f => f 123 = pp b16 0⟩, ⟨(List.range 11), [10, 9], [], [], fun _ => True⟩] [⟨none, (some 9), [9], [], fun _ => rowF BodyF 33 p c (rowL i)⟩, ⟨none, (some 11), [1, 11], [], fun _ => pt b16 (.cells #[sB p (rowL i) c, .slice none 0 0, .int .i64 (0), .int .i64 (0)] 27)⟩, ⟨(some 8), none, [9], [121], fun f => pt (blk (f 121)) (.cells #[Nx (i), Nx (20 * ((i * 37) % 64)), .int .i64 (0), .int .i64 (0), .int .i64 (0), .int .i64 (10), .int .i64 (10), .bool false, .bool false] 33)⟩, ⟨(some 9), none, [], [122], fun f => rowF BodyF 33 (sla (f 122)) (slc (f 122)) ((rowL i) ++ [(⟨((i : Nat) : Int), ((20 * ((i * 37) % 64) : Nat) : Int), 0, 0, 0, 10, 10, false, false⟩ : KB)])⟩, ⟨(some 11), none, [], [122], fun f => pt b16 (.cells #[sB (sla (f 122)) ((rowL i) ++ [(⟨((i : Nat) : Int), ((20 * ((i * 37) % 64) : Nat) : Int), 0, 0, 0, 10, 10, false, false⟩ : KB)]) (slc (f 122)), .slice none 0 0, .int .i64 (0), .int .i64 (0)] 27)⟩] [(6, pp b16 0), (7, Nx (i))] [0, 1] [] (by kernel_rfl) (by kernel_rfl) (by kernel_rfl) (by kernel_rfl) rfl ⟨rfl, rfl, trivial⟩ ⟨?_, ?_, ?_, ?_, ?_, ?_, ?_, ?_, ?_, ?_, ?_, ?_, trivial⟩ ?_
  ·rintro f M - ⟨i0, -⟩
   exact ob0 (up_cons (d := 6) rfl i0) rfl (e_fieldPt rfl tf33) (.refl _)
  ·rintro f M ⟨k0, -⟩ -
   exact obv (L' := pt b16 (.cells #[sB p (rowL i) c, .slice none 0 0, .int .i64 (0), .int .i64 (0)] 27) :: M) (up_cons (d := 113) rfl k0) rfl (e_load1 tf26 rfl (k_pt 0 rfl rfl)) (perm_front 0 rfl) (by rfl)
  ·rintro f M - ⟨i0, -⟩
   exact ob0 (up_cons (d := 7) rfl i0) rfl e_move (.refl _)
  ·rintro f M - ⟨i0, -⟩
   exact ob0 (up_cons (d := 7) rfl i0) rfl e_move (.refl _)
  ·rintro f M ⟨k0, -⟩ -
   exact ob0 (up_cons (d := 116) rfl k0) rfl (e_mul (a := ((i : Nat) : Int)) (b := (37 : Int)) rfl rfl (i64n (by omega) (by omega))) (.refl _)
  ·rintro f M ⟨k0, -⟩ -
   exact ob0 (up_cons (d := 117) rfl k0) rfl (e_rem (a := ((i * 37 : Nat) : Int)) (b := (64 : Int)) rfl rfl (by decide) (nat_tmod _ 64)) (.refl _)
  ·rintro f M ⟨k0, -⟩ -
   exact ob0 (up_cons (d := 118) rfl k0) rfl (e_mul (a := (20 : Int)) (b := (((i * 37) % 64 : Nat) : Int)) rfl rfl (i64n (by omega) (by omega))) (.refl _)
  ·rintro f M ⟨k0, k1, -⟩ -
   refine ob_start (L' := M) (by rfl) (up_cons (d := 119) (up_cons (d := 115) rfl k0) k1) ?_
   refine lcf (cl0 (vs := [Nx (i), Nx (20 * ((i * 37) % 64)), .int .i64 (0), .int .i64 (0), .int .i64 (0)]) tf68 rfl rfl) rfl fun w β1 sb kn hw1 back => (box_ok β1 w hw1 ((i : Nat) : Int) ((20 * ((i * 37) % 64) : Nat) : Int) 0 0 0).mono ?_
   rintro e w' ⟨rfl, hw'⟩
   refine ⟨_, rfl, _, back _ _ hw', ?_⟩
   clear hw1 hw' back kn sb
   refine l_nil ?_
   exact f_owes_d (up_cons (d := 119) (up_cons (d := 115) rfl k0) k1) rfl (List.Perm.refl _)
  ·rintro f M ⟨k0, -⟩ -
   refine ob_start (L' := M) (by rfl) (up_cons (d := 120) rfl k0) ?_
   refine l_mv rfl rfl rfl (m_slices tf16 tf17 (cells := #[Nx (i), Nx (20 * ((i * 37) % 64)), .int .i64 (0), .int .i64 (0), .int .i64 (0), .int .i64 (10), .int .i64 (10), .bool false, .bool false]) rfl rfl rfl (by kernel_rfl)) ?_
   rintro _ _ ⟨b35, rfl, rfl⟩
   refine l_nil ?_
   exact f_owes_d (up_cons (d := 120) rfl k0) rfl (perm_front 0 rfl)
  ·rintro f M ⟨k0, k1, -⟩ -
   have hs121 : f 121 = .slice (some ⟨(blk (f 121)), 0, none⟩) 1 1 := k1
   refine ob_start (L' := rowF BodyF 33 p c (rowL i) :: pt (blk (f 121)) (.cells #[Nx (i), Nx (20 * ((i * 37) % 64)), .int .i64 (0), .int .i64 (0), .int .i64 (0), .int .i64 (10), .int .i64 (10), .bool false, .bool false] 33) :: M) (by rfl) (up_cons (up_cons (d := 114) rfl k0) hs121) ?_
   refine l_mv rfl rfl rfl (m_appendFlN (F := BodyF) 0 tf16 tf70 (p := p) (m := (rowL i).length) (xs := (rowL i)) (ys := [(⟨((i : Nat) : Int), ((20 * ((i * 37) % 64) : Nat) : Int), 0, 0, 0, 10, 10, false, false⟩ : KB)]) (ao := (some ⟨(blk (f 121)), 0, none⟩)) (k := 1) (c := 1) rfl rfl rfl rfl rfl (k_ptFl (z := (⟨((i : Nat) : Int), ((20 * ((i * 37) % 64) : Nat) : Int), 0, 0, 0, 10, 10, false, false⟩ : KB)) 1 rfl rfl) (by first | omega | simp only [List.length_nil, List.length_cons, List.length_append, List.length_set]; omega) (by first | omega | simp only [List.length_nil, List.length_cons, List.length_append, List.length_set]; omega)) ?_
   rintro _ _ ⟨rp38, rc39, rfl, rfl⟩
   refine l_nil ?_
   exact f_owes_d (up_cons (up_cons (d := 114) rfl k0) hs121) rfl ((perm_front 0 rfl).trans (perm_front 1 rfl))
  ·rintro f M - ⟨i0, -⟩
   exact ob0 (up_cons (d := 6) rfl i0) rfl (e_fieldPt rfl tf33) (.refl _)
  ·rintro f M ⟨k0, k1, -⟩ -
   have hs122 : f 122 = sB (sla (f 122)) ((rowL i) ++ [(⟨((i : Nat) : Int), ((20 * ((i * 37) % 64) : Nat) : Int), 0, 0, 0, 10, 10, false, false⟩ : KB)]) (slc (f 122)) := k1
   refine ob_start (L' := pt b16 (.cells #[sB p (rowL i) c, .slice none 0 0, .int .i64 (0), .int .i64 (0)] 27) :: M) (by rfl) (up_cons (up_cons (d := 123) rfl k0) hs122) ?_
   refine lu (m_store 0 tf26 (cs' := #[sB (sla (f 122)) ((rowL i) ++ [(⟨((i : Nat) : Int), ((20 * ((i * 37) % 64) : Nat) : Int), 0, 0, 0, 10, 10, false, false⟩ : KB)]) (slc (f 122)), .slice none 0 0, .int .i64 (0), .int .i64 (0)]) rfl rfl rfl rfl rfl rfl rfl) ?_
   refine l_nil ?_
   exact f_owes_n (up_cons (up_cons (d := 123) rfl k0) hs122) trivial (perm_front 0 rfl)
  rintro fa40 ⟨-, -, -, -, -, -, -, -, -, -, -, -, -⟩ ⟨j0, j1, -⟩
  refine f_re (L' := [pt (blk (fa40 121)) (.cells #[Nx (i), Nx (20 * ((i * 37) % 64)), .int .i64 (0), .int .i64 (0), .int .i64 (0), .int .i64 (10), .int .i64 (10), .bool false, .bool false] 33), rowF BodyF 33 (sla (fa40 122)) (slc (fa40 122)) ((rowL i) ++ [(⟨((i : Nat) : Int), ((20 * ((i * 37) % 64) : Nat) : Int), 0, 0, 0, 10, 10, false, false⟩ : KB)]), pt b16 (.cells #[sB (sla (fa40 122)) ((rowL i) ++ [(⟨((i : Nat) : Int), ((20 * ((i * 37) % 64) : Nat) : Int), 0, 0, 0, 10, 10, false, false⟩ : KB)]) (slc (fa40 122)), .slice none 0 0, .int .i64 (0), .int .i64 (0)] 27)]) (by rfl) ?_
  refine f_rebase (d := 6) j0 ?_
  refine f_rebase (d := 7) j1 ?_
  refine f_block ?_
  refine f_then ?_
  refine c_region ?_
  refine lv (v := Nx (i)) e_move ?_
  refine lv (v := Nx (i + 1)) (e_add (a := ((i : Nat) : Int)) (b := (1 : Int)) rfl rfl (i64n (by omega) (by omega))) ?_
  refine lv (v := Nx (i + 1)) e_assign ?_
  refine l_nil ?_
  refine f_mask (L' := [rowF BodyF 33 (sla (fa40 122)) (slc (fa40 122)) ((rowL i) ++ [(⟨((i : Nat) : Int), ((20 * ((i * 37) % 64) : Nat) : Int), 0, 0, 0, 10, 10, false, false⟩ : KB)]), pt b16 (.cells #[sB (sla (fa40 122)) ((rowL i) ++ [(⟨((i : Nat) : Int), ((20 * ((i * 37) % 64) : Nat) : Int), 0, 0, 0, 10, 10, false, false⟩ : KB)]) (slc (fa40 122)), .slice none 0 0, .int .i64 (0), .int .i64 (0)] 27)]) [false, true, true] rfl ?_
  exact f_cut ⟨(i + 1, (sla (fa40 122)), (slc (fa40 122))), ⟨⟨rfl, rfl⟩, by rw [← rowL_next] <;> rfl, by omega⟩, (show 65 - (i + 1) < 65 - i from by omega)⟩
 refine c_exit ?_
 refine f_then_exit ?_
 refine f_then_exit ?_
 refine f_exit ?_
 refine fts ?_
 refine csr ?_
 refine lv (v := .agg #[sB p (rowL i) c, .slice none 0 0, .int .i64 (0), .int .i64 (0)]) (e_load tf31 rfl (k_pt 1 rfl rfl) rfl) ?_
 refine lcf (cl0 (vs := [.agg #[sB p (rowL i) c, .slice none 0 0, .int .i64 (0), .int .i64 (0)], .slice none 0 0]) tf240 rfl rfl) rfl fun w β1 sb kn hw1 back => (tells_ok β1 w hw1 _ _ _ 0 0 (rowL i) [] [] (kn _ (k_flN 0 (F := BodyF) (m := (rowL i).length) rfl rfl)) (Sl.nil _ _) (Sl.nil _ _) (by omega) (by omega) (by rw [rowL_len]; omega) (Nat.le_of_ble_eq_true rfl) (Nat.le_of_ble_eq_true rfl)).mono ?_
 rintro e w' ⟨rfl, hw'⟩
 refine ⟨_, rfl, _, back _ _ hw', ?_⟩
 clear hw1 hw' back kn sb
 refine lv (v := .bool false) (e_not (a := true) rfl) ?_
 refine lnf ?_
 refine c_no rfl ?_
 refine csk ?_
 refine csr ?_
 refine l_mv rfl rfl rfl (m_slices tf23 tf24 (cells := #[.int .i64 (-9223372036854775808), .int .i64 (-4097), .int .i64 (-4096), .int .i64 (-1), .int .i64 (0), .int .i64 (1), .int .i64 (2), .int .i64 (3), .int .i64 (4), .int .i64 (5), .int .i64 (4096), .int .i64 (4097), .int .i64 (2097152), .int .i64 (2097153), .int .i64 (9223372036854775807)]) rfl rfl rfl (by kernel_rfl)) ?_
 rintro _ _ ⟨b41, rfl, rfl⟩
 refine lv (v := .slice (some ⟨b41, 0, none⟩) 15 15) e_assign ?_
 refine lnf ?_
 refine cs2 ?_
 refine c_conseq 0 (r' := rowF IntF 3 (some ⟨b41, 0, none⟩) 15 numsL) rfl (pt_rowF (F := IntF) (xs := numsL) rfl (by decide)) ?_
 refine c_region ?_
 refine lv (v := .slice (some ⟨b41, 0, none⟩) (15) 15) e_move ?_
 refine lv (v := Nx (15)) (e_len (a := (some ⟨b41, 0, none⟩)) (n := 15) (c := 15) rfl tf28) ?_
 refine lv (v := .int .i64 (0)) e_move ?_
 refine lnf ?_
 refine c_block ?_
 refine c_mask [true, false, false] rfl ?_
 refine c_loop (fun (i : Nat) (f : Fm) (L : List Res) => (f 10 = .slice (some ⟨b41, 0, none⟩) (15) 15 ∧ f 129 = Nx (15) ∧ f 130 = Nx (i)) ∧ L = [rowF IntF 3 (some ⟨b41, 0, none⟩) 15 numsL] ∧ (i ≤ 15)) (fun (i : Nat) => 15 - i) 0 ?_ ?_
 ·exact ⟨⟨rfl, rfl, rfl⟩, rfl, by omega⟩
 rintro i f0 L0 ⟨⟨hs10, hs129, hs130⟩, hL, hi⟩
 subst L0
 refine rebase (d := 10) hs10 ?_
 refine rebase (d := 129) hs129 ?_
 refine rebase (d := 130) hs130 ?_
 clear hs10 hs129 hs130
 refine csr ?_
 refine lv (e_lss (a := ((i : Nat) : Int)) (b := ((15 : Nat) : Int)) rfl rfl) ?_
 refine lnf ?_
 refine c_seq ?_
 refine c_if (((i : Nat) : Int) < ((15 : Nat) : Int)) rfl (fun hc42 => ?_) (fun hc42 => ?_)
 ·refine csk ?_
  refine c_seq ?_
  refine c_block ?_
  refine csr ?_
  refine lv (v := Nx (i)) e_move ?_
  refine lv (v := Nx (i)) e_assign ?_
  refine lnc ?_
  refine lv (v := .int .i64 (0)) e_assign ?_
  refine lnf ?_
  refine c_block ?_
  refine c_mask [true] rfl ?_
  refine c_loop (fun (k : Nat) (f : Fm) (L : List Res) => (f 10 = .slice (some ⟨b41, 0, none⟩) (15) 15 ∧ f 11 = Nx (i) ∧ f 12 = Nx (k) ∧ f 129 = Nx (15) ∧ f 130 = Nx (i)) ∧ L = [rowF IntF 3 (some ⟨b41, 0, none⟩) 15 numsL] ∧ (k ≤ 5)) (fun (k : Nat) => 5 - k) 0 ?_ ?_
  ·exact ⟨⟨rfl, rfl, rfl, rfl, rfl⟩, rfl, by omega⟩
  rintro k f0 L0 ⟨⟨hs10, hs11, hs12, hs129, hs130⟩, hL, hk⟩
  subst L0
  refine rebase (d := 10) hs10 ?_
  refine rebase (d := 11) hs11 ?_
  refine rebase (d := 12) hs12 ?_
  refine rebase (d := 129) hs129 ?_
  refine rebase (d := 130) hs130 ?_
  clear hs10 hs11 hs12 hs129 hs130
  refine cs2 ?_
  refine c_region ?_
  refine lv (v := Nx (k)) e_move ?_
  refine lv (e_lss (a := ((k : Nat) : Int)) (b := (5 : Int)) rfl rfl) ?_
  refine lnf ?_
  refine c_if (((k : Nat) : Int) < (5 : Int)) rfl (fun hc43 => ?_) (fun hc43 => ?_)
  ·refine csk ?_
   refine c_seq ?_
   refine c_block ?_
   refine csr ?_
   refine lcf (cl0 (vs := []) tf73 rfl rfl) rfl fun w β1 sb kn hw1 back => (example_ok β1 w hw1).mono ?_
   rintro e w' ⟨b44, rfl, hw'⟩
   refine ⟨_, rfl, _, back _ _ hw', ?_⟩
   clear hw1 hw' back kn sb
   refine l_mv rfl rfl rfl (m_alloc tf67) ?_
   rintro _ _ ⟨b45, rfl, rfl⟩
   refine lu (m_store 0 tf31 (cs' := #[.slice (some ⟨b44, 0, none⟩) (4) 4, .slice none 0 0, .int .i64 (0), .int .i64 (0)]) rfl rfl rfl rfl rfl rfl rfl) ?_
   refine lnc ?_
   refine lv (v := .agg #[.int .i64 (1), .int .i64 (2), .int .i64 (5)]) (e_build tf57 tf74 (vs := [(0, .int .i64 (1)), (1, .int .i64 (2)), (2, .int .i64 (5))]) (cells := #[.int .i64 (1), .int .i64 (2), .int .i64 (5)]) rfl rfl) ?_
   refine lv (v := .agg #[.int .i64 (1), .int .i64 (4), .int .i64 (0)]) (e_build tf57 tf74 (vs := [(0, .int .i64 (1)), (1, .int .i64 (4)), (2, .int .i64 (0))]) (cells := #[.int .i64 (1), .int .i64 (4), .int .i64 (0)]) rfl rfl) ?_
   refine l_mv rfl rfl rfl (m_slices tf55 tf57 (cells := #[.int .i64 (1), .int .i64 (2), .int .i64 (5), .int .i64 (1), .int .i64 (4), .int .i64 (0)]) rfl rfl rfl rfl) ?_
   rintro _ _ ⟨b46, rfl, rfl⟩
   refine lv (v := pp b45 1) (e_fieldPt rfl tf52) ?_
   refine lu (m_store 1 tf53 (cs' := #[.slice (some ⟨b44, 0, none⟩) (4) 4, .slice (some ⟨b46, 0, none⟩) 2 2, .int .i64 (0), .int .i64 (0)]) rfl rfl rfl rfl rfl rfl rfl) ?_
   refine lnf ?_
   refine c_conseq 0 (r' := rowF RopeF 42 (some ⟨b46, 0, none⟩) 2 rp2) rfl (pt_rowF (F := RopeF) (xs := rp2) rfl (by decide)) ?_
   obtain ⟨x, hx⟩ : ∃ x_, numsL[i]? = some x_ := ⟨_, List.getElem?_eq_getElem (show i < 15 by omega)⟩
   obtain ⟨hxb1, hxb2⟩ := nums_bd x (List.mem_of_getElem? hx)
   refine c_seq_cut (fun (f : Fm) (L : List Res) => ∃ (gx : Int) (gy : Int) (ys : List KR), (f 10 = .slice (some ⟨b41, 0, none⟩) (15) 15 ∧ f 11 = Nx (i) ∧ f 12 = Nx (k) ∧ f 13 = pp b45 0 ∧ f 129 = Nx (15) ∧ f 130 = Nx (i)) ∧ L = [rowF RopeF 42 (some ⟨b46, 0, none⟩) 2 ys, pt b45 (.cells #[.slice (some ⟨b44, 0, none⟩) (4) 4, .slice (some ⟨b46, 0, none⟩) (2) 2, Ix (gx), Ix (gy)] 27), rowF BodyF 33 (some ⟨b44, 0, none⟩) 4 exB, rowF IntF 3 (some ⟨b41, 0, none⟩) 15 numsL] ∧ ((-9223372036854775808 ≤ gx ∧ gx ≤ 9223372036854775807) ∧ (-9223372036854775808 ≤ gy ∧ gy ≤ 9223372036854775807) ∧ ys.length = 2)) ?_ ?_
   ·refine csr ?_
    refine lv (v := Nx (k)) e_move ?_
    refine lnf ?_
    refine c_block ?_
    refine csr ?_
    refine lv (e_eql (a := ((k : Nat) : Int)) (b := (0 : Int)) rfl rfl) ?_
    refine lv (v := .bool (decide (((k : Nat) : Int) = (0 : Int)))) e_assign ?_
    refine lnf ?_
    refine c_if (((k : Nat) : Int) = (0 : Int)) rfl (fun hc47 => ?_) (fun hc47 => ?_)
    ·refine c_region ?_
     refine lv (v := .slice (some ⟨b41, 0, none⟩) (15) 15) e_move ?_
     refine lv (v := Nx (i)) e_move ?_
     refine lv (v := .pointer (some ((ba (some ⟨b41, 0, none⟩)).add (i * 1)))) (e_indexFlN 3 (F := IntF) (j := i) (m := 15) (xs := numsL) rfl rfl rfl tf23 (by omega) rfl) ?_
     refine lv (v := Ix (x)) (e_load1 tf11 rfl (k_flAt 3 (F := IntF) rfl hx)) ?_
     refine lv (v := pp b45 2) (e_fieldPt rfl tf40) ?_
     refine lv (v := pp b45 2) (e_fieldPt rfl tf10) ?_
     refine lu (m_store 1 tf11 (cs' := #[.slice (some ⟨b44, 0, none⟩) (4) 4, .slice (some ⟨b46, 0, none⟩) (2) 2, Ix (x), .int .i64 (0)]) rfl rfl rfl rfl rfl rfl rfl) ?_
     refine l_nil ?_
     refine f_block ?_
     exact f_cut ⟨x, 0, rp2, ⟨rfl, rfl, rfl, rfl, rfl, rfl⟩, rfl, ⟨by omega, by omega, rfl⟩⟩
    refine csr ?_
    refine lv (e_eql (a := ((k : Nat) : Int)) (b := (1 : Int)) rfl rfl) ?_
    refine lv (v := .bool (decide (((k : Nat) : Int) = (1 : Int)))) e_assign ?_
    refine lnf ?_
    refine c_if (((k : Nat) : Int) = (1 : Int)) rfl (fun hc48 => ?_) (fun hc48 => ?_)
    ·refine c_region ?_
     refine lv (v := .slice (some ⟨b41, 0, none⟩) (15) 15) e_move ?_
     refine lv (v := Nx (i)) e_move ?_
     refine lv (v := .pointer (some ((ba (some ⟨b41, 0, none⟩)).add (i * 1)))) (e_indexFlN 3 (F := IntF) (j := i) (m := 15) (xs := numsL) rfl rfl rfl tf23 (by omega) rfl) ?_
     refine lv (v := Ix (x)) (e_load1 tf11 rfl (k_flAt 3 (F := IntF) rfl hx)) ?_
     refine lv (v := pp b45 2) (e_fieldPt rfl tf40) ?_
     refine lv (v := pp b45 3) (e_fieldPt rfl tf12) ?_
     refine lu (m_store 1 tf11 (cs' := #[.slice (some ⟨b44, 0, none⟩) (4) 4, .slice (some ⟨b46, 0, none⟩) (2) 2, .int .i64 (0), Ix (x)]) rfl rfl rfl rfl rfl rfl rfl) ?_
     refine l_nil ?_
     refine f_block ?_
     exact f_cut ⟨0, x, rp2, ⟨rfl, rfl, rfl, rfl, rfl, rfl⟩, rfl, ⟨by omega, by omega, rfl⟩⟩
    refine csr ?_
    refine lv (e_eql (a := ((k : Nat) : Int)) (b := (2 : Int)) rfl rfl) ?_
    refine lv (v := .bool (decide (((k : Nat) : Int) = (2 : Int)))) e_assign ?_
    refine lnf ?_
    refine c_if (((k : Nat) : Int) = (2 : Int)) rfl (fun hc49 => ?_) (fun hc49 => ?_)
    ·refine c_any [⟨[], [], [0], [161], fun f => f 161 = pp b45 1⟩, ⟨[0], [0], [], [162], fun f => f 162 = .slice (some ⟨b46, 0, none⟩) (2) 2⟩, ⟨[], [], [1], [163], fun f => f 163 = .slice (some ⟨b41, 0, none⟩) (15) 15⟩, ⟨[], [], [2], [164], fun f => f 164 = Nx (i)⟩, ⟨[2, 3], [2, 3], [], [165], fun f => f 165 = .pointer (some ((ba (some ⟨b41, 0, none⟩)).add (i * 1)))⟩, ⟨[2, 3, 4], [4], [], [166], fun f => f 166 = Ix (x)⟩, ⟨(List.range 6), [1], [], [167], fun f => f 167 = .pointer (some ((ba (some ⟨b46, 0, none⟩)).add (0 * 3)))⟩, ⟨(List.range 7), [6], [], [168], fun f => f 168 = .pointer (some ((ba (some ⟨b46, 0, none⟩)).add (0 * 3)))⟩, ⟨(List.range 8), [7, 5], [], [], fun _ => True⟩] [⟨none, (some 8), [6, 8], [], fun _ => rowF RopeF 42 (some ⟨b46, 0, none⟩) 2 rp2⟩, ⟨none, none, [1], [], fun _ => pt b45 (.cells #[.slice (some ⟨b44, 0, none⟩) (4) 4, .slice (some ⟨b46, 0, none⟩) (2) 2, .int .i64 (0), .int .i64 (0)] 27)⟩, ⟨none, none, [], [], fun _ => rowF BodyF 33 (some ⟨b44, 0, none⟩) 4 exB⟩, ⟨none, none, [4, 5], [], fun _ => rowF IntF 3 (some ⟨b41, 0, none⟩) 15 numsL⟩, ⟨(some 8), none, [], [], fun _ => rowF RopeF 42 (some ⟨b46, 0, none⟩) 2 (rp2.set 0 (⟨x, (⟨1, 2, 5⟩ : KR).b, (⟨1, 2, 5⟩ : KR).len⟩ : KR))⟩] [(13, pp b45 0), (10, .slice (some ⟨b41, 0, none⟩) (15) 15), (11, Nx (i)), (12, Nx (k)), (129, Nx (15)), (130, Nx (i))] [1, 2, 3, 0, 4, 5] [] (by kernel_rfl) (by kernel_rfl) (by kernel_rfl) (by kernel_rfl) rfl ⟨rfl, rfl, rfl, rfl, rfl, rfl, trivial⟩ ⟨?_, ?_, ?_, ?_, ?_, ?_, ?_, ?_, ?_, trivial⟩ ?_
     ·rintro f M - ⟨i0, -⟩
      exact ob0 (up_cons (d := 13) rfl i0) rfl (e_fieldPt rfl tf52) (.refl _)
     ·rintro f M ⟨k0, -⟩ -
      exact obv (L' := pt b45 (.cells #[.slice (some ⟨b44, 0, none⟩) (4) 4, .slice (some ⟨b46, 0, none⟩) (2) 2, .int .i64 (0), .int .i64 (0)] 27) :: M) (up_cons (d := 161) rfl k0) rfl (e_load1 tf53 rfl (k_pt 0 rfl rfl)) (perm_front 0 rfl) (by rfl)
     ·rintro f M - ⟨i0, -⟩
      exact ob0 (up_cons (d := 10) rfl i0) rfl e_move (.refl _)
     ·rintro f M - ⟨i0, -⟩
      exact ob0 (up_cons (d := 11) rfl i0) rfl e_move (.refl _)
     ·rintro f M ⟨k0, k1, -⟩ -
      exact obv (L' := rowF IntF 3 (some ⟨b41, 0, none⟩) 15 numsL :: M) (up_cons (d := 164) (up_cons (d := 163) rfl k0) k1) rfl (e_indexFlN 0 (F := IntF) (j := i) (m := 15) (xs := numsL) rfl rfl rfl tf23 (by omega) rfl) (perm_front 0 rfl) (by rfl)
     ·rintro f M ⟨k0, -⟩ -
      exact obv (L' := rowF IntF 3 (some ⟨b41, 0, none⟩) 15 numsL :: M) (up_cons (d := 165) rfl k0) rfl (e_load1 tf11 rfl (k_flAt 0 (F := IntF) rfl hx)) (perm_front 0 rfl) (by rfl)
     ·rintro f M ⟨k0, -⟩ -
      exact obv (L' := rowF RopeF 42 (some ⟨b46, 0, none⟩) 2 rp2 :: M) (up_cons (d := 162) rfl k0) rfl (e_indexFlN 0 (F := RopeF) (j := 0) (m := 2) (xs := rp2) rfl rfl rfl tf55 (by omega) rfl) (perm_front 0 rfl) (by rfl)
     ·rintro f M ⟨k0, -⟩ -
      exact ob0 (up_cons (d := 167) rfl k0) rfl (ev_eq (congrArg (fun z => Value.pointer (some z)) (show ((ba (some ⟨b46, 0, none⟩)).add (0 * 3) : Addr).add 0 = (ba (some ⟨b46, 0, none⟩)).add (0 * 3) by rw [Addr.add_add'] <;> rfl)) (e_fieldAddr (a := (ba (some ⟨b46, 0, none⟩)).add (0 * 3)) rfl tf58)) (.refl _)
     ·rintro f M ⟨k0, k1, -⟩ -
      refine ob_start (L' := rowF RopeF 42 (some ⟨b46, 0, none⟩) 2 rp2 :: M) (by rfl) (up_cons (d := 166) (up_cons (d := 168) rfl k0) k1) ?_
      refine lu (m_storeFlPart 0 (F := RopeF) (p := (some ⟨b46, 0, none⟩)) (k := 0) (o := 0) (xs := rp2) (z0 := (⟨1, 2, 5⟩ : KR)) (z := (⟨x, (⟨1, 2, 5⟩ : KR).b, (⟨1, 2, 5⟩ : KR).len⟩ : KR)) tf11 rfl rfl rfl rfl rfl (show rp2[0]? = some _ from rfl) (by decide) rfl) ?_
      refine l_nil ?_
      exact f_owes_n (up_cons (d := 166) (up_cons (d := 168) rfl k0) k1) trivial (perm_front 0 rfl)
     rintro fa50 ⟨-, -, -, -, -, -, -, -, -, -⟩ ⟨j0, j1, j2, j3, j4, j5, -⟩
     refine f_re (L' := [pt b45 (.cells #[.slice (some ⟨b44, 0, none⟩) (4) 4, .slice (some ⟨b46, 0, none⟩) (2) 2, .int .i64 (0), .int .i64 (0)] 27), rowF BodyF 33 (some ⟨b44, 0, none⟩) 4 exB, rowF IntF 3 (some ⟨b41, 0, none⟩) 15 numsL, rowF RopeF 42 (some ⟨b46, 0, none⟩) 2 (rp2.set 0 (⟨x, (⟨1, 2, 5⟩ : KR).b, (⟨1, 2, 5⟩ : KR).len⟩ : KR))]) (by rfl) ?_
     refine f_rebase (d := 10) j0 ?_
     refine f_rebase (d := 11) j1 ?_
     refine f_rebase (d := 12) j2 ?_
     refine f_rebase (d := 13) j3 ?_
     refine f_rebase (d := 129) j4 ?_
     refine f_rebase (d := 130) j5 ?_
     refine f_block ?_
     refine f_perm (L' := [rowF RopeF 42 (some ⟨b46, 0, none⟩) 2 (rp2.set 0 (⟨x, (⟨1, 2, 5⟩ : KR).b, (⟨1, 2, 5⟩ : KR).len⟩ : KR)), pt b45 (.cells #[.slice (some ⟨b44, 0, none⟩) (4) 4, .slice (some ⟨b46, 0, none⟩) (2) 2, .int .i64 (0), .int .i64 (0)] 27), rowF BodyF 33 (some ⟨b44, 0, none⟩) 4 exB, rowF IntF 3 (some ⟨b41, 0, none⟩) 15 numsL]) (perm_ix [3, 0, 1, 2] 4 rfl (by kernel_rfl) (by kernel_rfl)) ?_
     exact f_cut ⟨0, 0, (rp2.set 0 (⟨x, (⟨1, 2, 5⟩ : KR).b, (⟨1, 2, 5⟩ : KR).len⟩ : KR)), ⟨rfl, rfl, rfl, rfl, rfl, rfl⟩, rfl, ⟨by omega, by omega, by simp only [sB, List.length_set]; rfl⟩⟩
    refine csr ?_
    refine lv (e_eql (a := ((k : Nat) : Int)) (b := (3 : Int)) rfl rfl) ?_
    refine lv (v := .bool (decide (((k : Nat) : Int) = (3 : Int)))) e_assign ?_
    refine lnf ?_
    refine c_if (((k : Nat) : Int) = (3 : Int)) rfl (fun hc51 => ?_) (fun hc51 => ?_)
    ·refine c_any [⟨[], [], [0], [171], fun f => f 171 = pp b45 1⟩, ⟨[0], [0], [], [172], fun f => f 172 = .slice (some ⟨b46, 0, none⟩) (2) 2⟩, ⟨[], [], [1], [173], fun f => f 173 = .slice (some ⟨b41, 0, none⟩) (15) 15⟩, ⟨[], [], [2], [174], fun f => f 174 = Nx (i)⟩, ⟨[2, 3], [2, 3], [], [175], fun f => f 175 = .pointer (some ((ba (some ⟨b41, 0, none⟩)).add (i * 1)))⟩, ⟨[2, 3, 4], [4], [], [176], fun f => f 176 = Ix (x)⟩, ⟨(List.range 6), [1], [], [177], fun f => f 177 = .pointer (some ((ba (some ⟨b46, 0, none⟩)).add (1 * 3)))⟩, ⟨(List.range 7), [6], [], [178], fun f => f 178 = .pointer (some ((ba (some ⟨b46, 0, none⟩)).add (1 * 3 + 1)))⟩, ⟨(List.range 8), [7, 5], [], [], fun _ => True⟩] [⟨none, (some 8), [6, 8], [], fun _ => rowF RopeF 42 (some ⟨b46, 0, none⟩) 2 rp2⟩, ⟨none, none, [1], [], fun _ => pt b45 (.cells #[.slice (some ⟨b44, 0, none⟩) (4) 4, .slice (some ⟨b46, 0, none⟩) (2) 2, .int .i64 (0), .int .i64 (0)] 27)⟩, ⟨none, none, [], [], fun _ => rowF BodyF 33 (some ⟨b44, 0, none⟩) 4 exB⟩, ⟨none, none, [4, 5], [], fun _ => rowF IntF 3 (some ⟨b41, 0, none⟩) 15 numsL⟩, ⟨(some 8), none, [], [], fun _ => rowF RopeF 42 (some ⟨b46, 0, none⟩) 2 (rp2.set 1 (⟨(⟨1, 4, 0⟩ : KR).a, x, (⟨1, 4, 0⟩ : KR).len⟩ : KR))⟩] [(13, pp b45 0), (10, .slice (some ⟨b41, 0, none⟩) (15) 15), (11, Nx (i)), (12, Nx (k)), (129, Nx (15)), (130, Nx (i))] [1, 2, 3, 0, 4, 5] [] (by kernel_rfl) (by kernel_rfl) (by kernel_rfl) (by kernel_rfl) rfl ⟨rfl, rfl, rfl, rfl, rfl, rfl, trivial⟩ ⟨?_, ?_, ?_, ?_, ?_, ?_, ?_, ?_, ?_, trivial⟩ ?_
     ·rintro f M - ⟨i0, -⟩
      exact ob0 (up_cons (d := 13) rfl i0) rfl (e_fieldPt rfl tf52) (.refl _)
     ·rintro f M ⟨k0, -⟩ -
      exact obv (L' := pt b45 (.cells #[.slice (some ⟨b44, 0, none⟩) (4) 4, .slice (some ⟨b46, 0, none⟩) (2) 2, .int .i64 (0), .int .i64 (0)] 27) :: M) (up_cons (d := 171) rfl k0) rfl (e_load1 tf53 rfl (k_pt 0 rfl rfl)) (perm_front 0 rfl) (by rfl)
     ·rintro f M - ⟨i0, -⟩
      exact ob0 (up_cons (d := 10) rfl i0) rfl e_move (.refl _)
     ·rintro f M - ⟨i0, -⟩
      exact ob0 (up_cons (d := 11) rfl i0) rfl e_move (.refl _)
     ·rintro f M ⟨k0, k1, -⟩ -
      exact obv (L' := rowF IntF 3 (some ⟨b41, 0, none⟩) 15 numsL :: M) (up_cons (d := 174) (up_cons (d := 173) rfl k0) k1) rfl (e_indexFlN 0 (F := IntF) (j := i) (m := 15) (xs := numsL) rfl rfl rfl tf23 (by omega) rfl) (perm_front 0 rfl) (by rfl)
     ·rintro f M ⟨k0, -⟩ -
      exact obv (L' := rowF IntF 3 (some ⟨b41, 0, none⟩) 15 numsL :: M) (up_cons (d := 175) rfl k0) rfl (e_load1 tf11 rfl (k_flAt 0 (F := IntF) rfl hx)) (perm_front 0 rfl) (by rfl)
     ·rintro f M ⟨k0, -⟩ -
      exact obv (L' := rowF RopeF 42 (some ⟨b46, 0, none⟩) 2 rp2 :: M) (up_cons (d := 172) rfl k0) rfl (e_indexFlN 0 (F := RopeF) (j := 1) (m := 2) (xs := rp2) rfl rfl rfl tf55 (by omega) rfl) (perm_front 0 rfl) (by rfl)
     ·rintro f M ⟨k0, -⟩ -
      exact ob0 (up_cons (d := 177) rfl k0) rfl (ev_eq (congrArg (fun z => Value.pointer (some z)) (show ((ba (some ⟨b46, 0, none⟩)).add (1 * 3) : Addr).add 1 = (ba (some ⟨b46, 0, none⟩)).add (1 * 3 + 1) by rw [Addr.add_add'])) (e_fieldAddr (a := (ba (some ⟨b46, 0, none⟩)).add (1 * 3)) rfl tf60)) (.refl _)
     ·rintro f M ⟨k0, k1, -⟩ -
      refine ob_start (L' := rowF RopeF 42 (some ⟨b46, 0, none⟩) 2 rp2 :: M) (by rfl) (up_cons (d := 176) (up_cons (d := 178) rfl k0) k1) ?_
      refine lu (m_storeFlPart 0 (F := RopeF) (p := (some ⟨b46, 0, none⟩)) (k := 1) (o := 1) (xs := rp2) (z0 := (⟨1, 4, 0⟩ : KR)) (z := (⟨(⟨1, 4, 0⟩ : KR).a, x, (⟨1, 4, 0⟩ : KR).len⟩ : KR)) tf11 rfl rfl rfl rfl rfl (show rp2[1]? = some _ from rfl) (by decide) rfl) ?_
      refine l_nil ?_
      exact f_owes_n (up_cons (d := 176) (up_cons (d := 178) rfl k0) k1) trivial (perm_front 0 rfl)
     rintro fa52 ⟨-, -, -, -, -, -, -, -, -, -⟩ ⟨j0, j1, j2, j3, j4, j5, -⟩
     refine f_re (L' := [pt b45 (.cells #[.slice (some ⟨b44, 0, none⟩) (4) 4, .slice (some ⟨b46, 0, none⟩) (2) 2, .int .i64 (0), .int .i64 (0)] 27), rowF BodyF 33 (some ⟨b44, 0, none⟩) 4 exB, rowF IntF 3 (some ⟨b41, 0, none⟩) 15 numsL, rowF RopeF 42 (some ⟨b46, 0, none⟩) 2 (rp2.set 1 (⟨(⟨1, 4, 0⟩ : KR).a, x, (⟨1, 4, 0⟩ : KR).len⟩ : KR))]) (by rfl) ?_
     refine f_rebase (d := 10) j0 ?_
     refine f_rebase (d := 11) j1 ?_
     refine f_rebase (d := 12) j2 ?_
     refine f_rebase (d := 13) j3 ?_
     refine f_rebase (d := 129) j4 ?_
     refine f_rebase (d := 130) j5 ?_
     refine f_block ?_
     refine f_perm (L' := [rowF RopeF 42 (some ⟨b46, 0, none⟩) 2 (rp2.set 1 (⟨(⟨1, 4, 0⟩ : KR).a, x, (⟨1, 4, 0⟩ : KR).len⟩ : KR)), pt b45 (.cells #[.slice (some ⟨b44, 0, none⟩) (4) 4, .slice (some ⟨b46, 0, none⟩) (2) 2, .int .i64 (0), .int .i64 (0)] 27), rowF BodyF 33 (some ⟨b44, 0, none⟩) 4 exB, rowF IntF 3 (some ⟨b41, 0, none⟩) 15 numsL]) (perm_ix [3, 0, 1, 2] 4 rfl (by kernel_rfl) (by kernel_rfl)) ?_
     exact f_cut ⟨0, 0, (rp2.set 1 (⟨(⟨1, 4, 0⟩ : KR).a, x, (⟨1, 4, 0⟩ : KR).len⟩ : KR)), ⟨rfl, rfl, rfl, rfl, rfl, rfl⟩, rfl, ⟨by omega, by omega, by simp only [sB, List.length_set]; rfl⟩⟩
    refine csr ?_
    refine lv (e_eql (a := ((k : Nat) : Int)) (b := (4 : Int)) rfl rfl) ?_
    refine lv (v := .bool (decide (((k : Nat) : Int) = (4 : Int)))) e_assign ?_
    refine lnf ?_
    refine c_if (((k : Nat) : Int) = (4 : Int)) rfl (fun hc53 => ?_) (fun hc53 => ?_)
    ·obtain ⟨x54, hx55⟩ : ∃ x_, rp2[i % 2]? = some x_ := ⟨_, List.getElem?_eq_getElem (show i % 2 < 2 by omega)⟩
     refine c_any [⟨[], [], [0], [181], fun f => f 181 = pp b45 1⟩, ⟨[0], [0], [], [182], fun f => f 182 = .slice (some ⟨b46, 0, none⟩) (2) 2⟩, ⟨[], [], [1], [183], fun f => f 183 = Nx (i)⟩, ⟨[2], [2], [], [184], fun f => f 184 = Nx (i % 2)⟩, ⟨[], [], [2], [185], fun f => f 185 = .slice (some ⟨b41, 0, none⟩) (15) 15⟩, ⟨[], [], [1], [186], fun f => f 186 = Nx (i)⟩, ⟨[4, 5], [4, 5], [], [187], fun f => f 187 = .pointer (some ((ba (some ⟨b41, 0, none⟩)).add (i * 1)))⟩, ⟨[4, 5, 6], [6], [], [188], fun f => f 188 = Ix (x)⟩, ⟨(List.range 8), [1, 3], [], [189], fun f => f 189 = .pointer (some ((ba (some ⟨b46, 0, none⟩)).add ((i % 2) * 3)))⟩, ⟨(List.range 9), [8], [], [190], fun f => f 190 = .pointer (some ((ba (some ⟨b46, 0, none⟩)).add ((i % 2) * 3 + 2)))⟩, ⟨(List.range 10), [9, 7], [], [], fun _ => True⟩] [⟨none, (some 10), [8, 10], [], fun _ => rowF RopeF 42 (some ⟨b46, 0, none⟩) 2 rp2⟩, ⟨none, none, [1], [], fun _ => pt b45 (.cells #[.slice (some ⟨b44, 0, none⟩) (4) 4, .slice (some ⟨b46, 0, none⟩) (2) 2, .int .i64 (0), .int .i64 (0)] 27)⟩, ⟨none, none, [], [], fun _ => rowF BodyF 33 (some ⟨b44, 0, none⟩) 4 exB⟩, ⟨none, none, [6, 7], [], fun _ => rowF IntF 3 (some ⟨b41, 0, none⟩) 15 numsL⟩, ⟨(some 10), none, [], [], fun _ => rowF RopeF 42 (some ⟨b46, 0, none⟩) 2 (rp2.set (i % 2) (⟨x54.a, x54.b, x⟩ : KR))⟩] [(13, pp b45 0), (11, Nx (i)), (10, .slice (some ⟨b41, 0, none⟩) (15) 15), (12, Nx (k)), (129, Nx (15)), (130, Nx (i))] [2, 1, 3, 0, 4, 5] [] (by kernel_rfl) (by kernel_rfl) (by kernel_rfl) (by kernel_rfl) rfl ⟨rfl, rfl, rfl, rfl, rfl, rfl, trivial⟩ ⟨?_, ?_, ?_, ?_, ?_, ?_, ?_, ?_, ?_, ?_, ?_, trivial⟩ ?_
     ·rintro f M - ⟨i0, -⟩
      exact ob0 (up_cons (d := 13) rfl i0) rfl (e_fieldPt rfl tf52) (.refl _)
     ·rintro f M ⟨k0, -⟩ -
      exact obv (L' := pt b45 (.cells #[.slice (some ⟨b44, 0, none⟩) (4) 4, .slice (some ⟨b46, 0, none⟩) (2) 2, .int .i64 (0), .int .i64 (0)] 27) :: M) (up_cons (d := 181) rfl k0) rfl (e_load1 tf53 rfl (k_pt 0 rfl rfl)) (perm_front 0 rfl) (by rfl)
     ·rintro f M - ⟨i0, -⟩
      exact ob0 (up_cons (d := 11) rfl i0) rfl e_move (.refl _)
     ·rintro f M ⟨k0, -⟩ -
      exact ob0 (up_cons (d := 183) rfl k0) rfl (e_rem (a := ((i : Nat) : Int)) (b := (2 : Int)) rfl rfl (by decide) (nat_tmod _ 2)) (.refl _)
     ·rintro f M - ⟨i0, -⟩
      exact ob0 (up_cons (d := 10) rfl i0) rfl e_move (.refl _)
     ·rintro f M - ⟨i0, -⟩
      exact ob0 (up_cons (d := 11) rfl i0) rfl e_move (.refl _)
     ·rintro f M ⟨k0, k1, -⟩ -
      exact obv (L' := rowF IntF 3 (some ⟨b41, 0, none⟩) 15 numsL :: M) (up_cons (d := 186) (up_cons (d := 185) rfl k0) k1) rfl (e_indexFlN 0 (F := IntF) (j := i) (m := 15) (xs := numsL) rfl rfl rfl tf23 (by omega) rfl) (perm_front 0 rfl) (by rfl)
     ·rintro f M ⟨k0, -⟩ -
      exact obv (L' := rowF IntF 3 (some ⟨b41, 0, none⟩) 15 numsL :: M) (up_cons (d := 187) rfl k0) rfl (e_load1 tf11 rfl (k_flAt 0 (F := IntF) rfl hx)) (perm_front 0 rfl) (by rfl)
     ·rintro f M ⟨k0, k1, -⟩ -
      exact obv (L' := rowF RopeF 42 (some ⟨b46, 0, none⟩) 2 rp2 :: M) (up_cons (d := 184) (up_cons (d := 182) rfl k0) k1) rfl (e_indexFlN 0 (F := RopeF) (j := i % 2) (m := 2) (xs := rp2) rfl rfl rfl tf55 (by omega) rfl) (perm_front 0 rfl) (by rfl)
     ·rintro f M ⟨k0, -⟩ -
      exact ob0 (up_cons (d := 189) rfl k0) rfl (ev_eq (congrArg (fun z => Value.pointer (some z)) (show ((ba (some ⟨b46, 0, none⟩)).add ((i % 2) * 3) : Addr).add 2 = (ba (some ⟨b46, 0, none⟩)).add ((i % 2) * 3 + 2) by rw [Addr.add_add'])) (e_fieldAddr (a := (ba (some ⟨b46, 0, none⟩)).add ((i % 2) * 3)) rfl tf244)) (.refl _)
     ·rintro f M ⟨k0, k1, -⟩ -
      refine ob_start (L' := rowF RopeF 42 (some ⟨b46, 0, none⟩) 2 rp2 :: M) (by rfl) (up_cons (d := 188) (up_cons (d := 190) rfl k0) k1) ?_
      refine lu (m_storeFlPart 0 (F := RopeF) (p := (some ⟨b46, 0, none⟩)) (k := i % 2) (o := 2) (xs := rp2) (z0 := x54) (z := (⟨x54.a, x54.b, x⟩ : KR)) tf11 rfl rfl rfl rfl rfl hx55 (by decide) rfl) ?_
      refine l_nil ?_
      exact f_owes_n (up_cons (d := 188) (up_cons (d := 190) rfl k0) k1) trivial (perm_front 0 rfl)
     rintro fa56 ⟨-, -, -, -, -, -, -, -, -, -, -, -⟩ ⟨j0, j1, j2, j3, j4, j5, -⟩
     refine f_re (L' := [pt b45 (.cells #[.slice (some ⟨b44, 0, none⟩) (4) 4, .slice (some ⟨b46, 0, none⟩) (2) 2, .int .i64 (0), .int .i64 (0)] 27), rowF BodyF 33 (some ⟨b44, 0, none⟩) 4 exB, rowF IntF 3 (some ⟨b41, 0, none⟩) 15 numsL, rowF RopeF 42 (some ⟨b46, 0, none⟩) 2 (rp2.set (i % 2) (⟨x54.a, x54.b, x⟩ : KR))]) (by rfl) ?_
     refine f_rebase (d := 10) j0 ?_
     refine f_rebase (d := 11) j1 ?_
     refine f_rebase (d := 12) j2 ?_
     refine f_rebase (d := 13) j3 ?_
     refine f_rebase (d := 129) j4 ?_
     refine f_rebase (d := 130) j5 ?_
     refine f_block ?_
     refine f_perm (L' := [rowF RopeF 42 (some ⟨b46, 0, none⟩) 2 (rp2.set (i % 2) (⟨x54.a, x54.b, x⟩ : KR)), pt b45 (.cells #[.slice (some ⟨b44, 0, none⟩) (4) 4, .slice (some ⟨b46, 0, none⟩) (2) 2, .int .i64 (0), .int .i64 (0)] 27), rowF BodyF 33 (some ⟨b44, 0, none⟩) 4 exB, rowF IntF 3 (some ⟨b41, 0, none⟩) 15 numsL]) (perm_ix [3, 0, 1, 2] 4 rfl (by kernel_rfl) (by kernel_rfl)) ?_
     exact f_cut ⟨0, 0, (rp2.set (i % 2) (⟨x54.a, x54.b, x⟩ : KR)), ⟨rfl, rfl, rfl, rfl, rfl, rfl⟩, rfl, ⟨by omega, by omega, by simp only [sB, List.length_set]; rfl⟩⟩
    refine c_skip ?_
    refine f_block ?_
    exact f_cut ⟨0, 0, rp2, ⟨rfl, rfl, rfl, rfl, rfl, rfl⟩, rfl, ⟨by omega, by omega, rfl⟩⟩
   rintro f0 L0 ⟨gx, gy, ys, ⟨hs10, hs11, hs12, hs13, hs129, hs130⟩, hL, ⟨hgx, hgy, hyl⟩⟩
   subst L0
   refine rebase (d := 10) hs10 ?_
   refine rebase (d := 11) hs11 ?_
   refine rebase (d := 12) hs12 ?_
   refine rebase (d := 13) hs13 ?_
   refine rebase (d := 129) hs129 ?_
   refine rebase (d := 130) hs130 ?_
   clear hs10 hs11 hs12 hs13 hs129 hs130
   refine c_seq ?_
   obtain ⟨x61, hx62⟩ : ∃ x_, exB[i % 4]? = some x_ := ⟨_, List.getElem?_eq_getElem (show i % 4 < 4 by omega)⟩
   refine c_any [⟨[], [], [0], [191], fun f => f 191 = .agg #[.slice (some ⟨b44, 0, none⟩) (4) 4, .slice (some ⟨b46, 0, none⟩) (2) 2, Ix (gx), Ix (gy)]⟩, ⟨[], [], [1], [192], fun f => f 192 = .slice (some ⟨b41, 0, none⟩) (15) 15⟩, ⟨[], [], [2], [193], fun f => f 193 = Nx (i)⟩, ⟨[1, 2], [1, 2], [], [194], fun f => f 194 = .pointer (some ((ba (some ⟨b41, 0, none⟩)).add (i * 1)))⟩, ⟨[1, 2, 3], [3], [], [195], fun f => f 195 = Ix (x)⟩, ⟨[1, 2, 3, 4], [4], [], [196], fun f => f 196 = .slice (some ⟨(blk (f 196)), 0, none⟩) 1 1⟩, ⟨(List.range 6), [0, 5], [], [197], fun f => f 197 = .bool true⟩, ⟨(List.range 7), [6], [], [198], fun f => f 198 = .bool false⟩, ⟨(List.range 8), [7], [], [199], fun f => f 199 = .bool false⟩, ⟨(List.range 9), [8], [0], [200], fun f => f 200 = .agg #[.slice (some ⟨b44, 0, none⟩) (4) 4, .slice (some ⟨b46, 0, none⟩) (2) 2, Ix (gx), Ix (gy)]⟩, ⟨(List.range 9), [8], [], [201], fun f => f 201 = .slice (some ⟨(blk (f 201)), 0, none⟩) 2 2⟩, ⟨(List.range 11), [9, 10, 8], [], [202], fun f => f 202 = .bool true⟩, ⟨(List.range 12), [11, 8], [], [203], fun f => f 203 = .bool false⟩, ⟨(List.range 13), [8, 12], [], [204], fun f => f 204 = .bool false⟩, ⟨(List.range 14), [13], [], [205], fun f => f 205 = .bool false⟩, ⟨(List.range 15), [14], [0], [206], fun f => f 206 = pp b45 0⟩, ⟨(List.range 16), [15, 14], [], [207], fun f => f 207 = .slice (some ⟨b44, 0, none⟩) (4) 4⟩, ⟨(List.range 15), [14], [2], [208], fun f => f 208 = Nx (i)⟩, ⟨[0, 1, 2, 3, 4, 5, 6, 7, 8, 9, 10, 11, 12, 13, 14, 17], [17, 14], [], [209], fun f => f 209 = Nx (i % 4)⟩, ⟨(List.range 19), [16, 18, 14], [], [210], fun f => f 210 = .pointer (some ((ba (some ⟨b44, 0, none⟩)).add ((i % 4) * 9)))⟩, ⟨(List.range 20), [19, 14], [], [211], fun f => f 211 = .agg (bC x61)⟩, ⟨(List.range 15), [14], [0], [212], fun f => f 212 = pp b45 2⟩, ⟨[0, 1, 2, 3, 4, 5, 6, 7, 8, 9, 10, 11, 12, 13, 14, 21], [21, 14], [], [213], fun f => f 213 = .agg #[Ix (gx), Ix (gy)]⟩, ⟨(List.range 23), [20, 22, 14], [], [214], fun f => f 214 = .bool true⟩, ⟨(List.range 24), [23, 14], [], [215], fun f => f 215 = .bool false⟩, ⟨(List.range 25), [14, 24], [], [216], fun f => f 216 = .bool false⟩] [⟨none, none, [6, 11], [], fun _ => rowF RopeF 42 (some ⟨b46, 0, none⟩) 2 ys⟩, ⟨none, none, [0, 9, 16, 22], [], fun _ => pt b45 (.cells #[.slice (some ⟨b44, 0, none⟩) (4) 4, .slice (some ⟨b46, 0, none⟩) (2) 2, Ix (gx), Ix (gy)] 27)⟩, ⟨none, none, [6, 11, 19, 20], [], fun _ => rowF BodyF 33 (some ⟨b44, 0, none⟩) 4 exB⟩, ⟨none, none, [3, 4], [], fun _ => rowF IntF 3 (some ⟨b41, 0, none⟩) 15 numsL⟩, ⟨(some 5), none, [6], [196], fun f => pt (blk (f 196)) (.cells #[Ix (x)] 3)⟩, ⟨(some 10), none, [11], [201], fun f => pt (blk (f 201)) (.cells #[.int .i64 (2), .int .i64 (2)] 3)⟩] [(13, pp b45 0), (10, .slice (some ⟨b41, 0, none⟩) (15) 15), (11, Nx (i)), (12, Nx (k)), (129, Nx (15)), (130, Nx (i))] [1, 2, 3, 4, 5] [] (by kernel_rfl) (by kernel_rfl) (by kernel_rfl) (by kernel_rfl) rfl ⟨rfl, rfl, rfl, rfl, rfl, rfl, trivial⟩ ⟨?_, ?_, ?_, ?_, ?_, ?_, ?_, ?_, ?_, ?_, ?_, ?_, ?_, ?_, ?_, ?_, ?_, ?_, ?_, ?_, ?_, ?_, ?_, ?_, ?_, ?_, trivial⟩ ?_
   ·rintro f M - ⟨i0, -⟩
    exact obv (L' := pt b45 (.cells #[.slice (some ⟨b44, 0, none⟩) (4) 4, .slice (some ⟨b46, 0, none⟩) (2) 2, Ix (gx), Ix (gy)] 27) :: M) (up_cons (d := 13) rfl i0) rfl (e_load tf31 rfl (k_pt 0 rfl rfl) rfl) (perm_front 0 rfl) (by rfl)
   ·rintro f M - ⟨i0, -⟩
    exact ob0 (up_cons (d := 10) rfl i0) rfl e_move (.refl _)
   ·rintro f M - ⟨i0, -⟩
    exact ob0 (up_cons (d := 11) rfl i0) rfl e_move (.refl _)
   ·rintro f M ⟨k0, k1, -⟩ -
    exact obv (L' := rowF IntF 3 (some ⟨b41, 0, none⟩) 15 numsL :: M) (up_cons (d := 193) (up_cons (d := 192) rfl k0) k1) rfl (e_indexFlN 0 (F := IntF) (j := i) (m := 15) (xs := numsL) rfl rfl rfl tf23 (by omega) rfl) (perm_front 0 rfl) (by rfl)
   ·rintro f M ⟨k0, -⟩ -
    exact obv (L' := rowF IntF 3 (some ⟨b41, 0, none⟩) 15 numsL :: M) (up_cons (d := 194) rfl k0) rfl (e_load1 tf11 rfl (k_flAt 0 (F := IntF) rfl hx)) (perm_front 0 rfl) (by rfl)
   ·rintro f M ⟨k0, -⟩ -
    refine ob_start (L' := M) (by rfl) (up_cons (d := 195) rfl k0) ?_
    refine l_mv rfl rfl rfl (m_slices tf23 tf24 (cells := #[Ix (x)]) rfl rfl rfl rfl) ?_
    rintro _ _ ⟨b58, rfl, rfl⟩
    refine l_nil ?_
    exact f_owes_d (up_cons (d := 195) rfl k0) rfl (perm_front 0 rfl)
   ·rintro f M ⟨k0, k1, -⟩ -
    have hs196 : f 196 = .slice (some ⟨(blk (f 196)), 0, none⟩) 1 1 := k1
    refine ob_start (L' := rowF RopeF 42 (some ⟨b46, 0, none⟩) 2 ys :: rowF BodyF 33 (some ⟨b44, 0, none⟩) 4 exB :: pt (blk (f 196)) (.cells #[Ix (x)] 3) :: M) (by rfl) (up_cons (up_cons (d := 191) rfl k0) hs196) ?_
    refine lcf (cl0 (vs := [.agg #[.slice (some ⟨b44, 0, none⟩) (4) 4, .slice (some ⟨b46, 0, none⟩) (2) 2, Ix (gx), Ix (gy)], .slice (some ⟨(blk (f 196)), 0, none⟩) 1 1]) tf240 rfl rfl) rfl fun w β1 sb kn hw1 back => (tells_ok β1 w hw1 _ _ _ gx gy exB ys [x] (kn _ (k_flN 1 (F := BodyF) (m := 4) rfl rfl)) (kn _ (k_flN 0 (F := RopeF) (m := 2) rfl hyl.symm)) (kn _ (k_ptFls (F := IntF) 2 (m := 1) (xs := [x]) rfl rfl rfl (Nat.le_of_ble_eq_true rfl))) (by omega) (by omega) (Nat.le_of_ble_eq_true rfl) (by omega) (Nat.le_of_ble_eq_true rfl)).mono ?_
    rintro e w' ⟨rfl, hw'⟩
    refine ⟨_, rfl, _, back _ _ hw', ?_⟩
    clear hw1 hw' back kn sb
    refine l_nil ?_
    exact f_owes_d (up_cons (up_cons (d := 191) rfl k0) hs196) rfl (((perm_front 2 rfl).trans (perm_front 2 rfl)).trans (perm_front 2 rfl))
   ·rintro f M ⟨k0, -⟩ -
    exact ob0 (up_cons (d := 197) rfl k0) rfl (e_not (a := true) rfl) (.refl _)
   ·rintro f M ⟨k0, -⟩ -
    exact ob0 (up_cons (d := 198) rfl k0) rfl e_move (.refl _)
   ·rintro f M ⟨k0, -⟩ ⟨i0, -⟩
    exact obg (L' := pt b45 (.cells #[.slice (some ⟨b44, 0, none⟩) (4) 4, .slice (some ⟨b46, 0, none⟩) (2) 2, Ix (gx), Ix (gy)] 27) :: M) (v := .agg #[.slice (some ⟨b44, 0, none⟩) (4) 4, .slice (some ⟨b46, 0, none⟩) (2) 2, Ix (gx), Ix (gy)]) (up_cons (d := 199) (up_cons (d := 13) rfl i0) k0) (e_load tf31 rfl (k_pt 0 rfl rfl) rfl) rfl rfl rfl rfl (perm_front 0 rfl) (by rfl)
   ·rintro f M ⟨k0, -⟩ -
    refine ob_start (L' := M) (by rfl) (up_cons (d := 199) rfl k0) ?_
    refine g_mv rfl rfl rfl rfl rfl (m_slices tf23 tf24 (cells := #[.int .i64 (2), .int .i64 (2)]) rfl rfl rfl rfl) ?_
    rintro _ _ ⟨b60, rfl, rfl⟩
    refine l_nil ?_
    exact f_owes_d (up_cons (d := 199) rfl k0) rfl (perm_front 0 rfl)
   ·rintro f M ⟨k0, k1, k2, -⟩ -
    have hs201 : f 201 = .slice (some ⟨(blk (f 201)), 0, none⟩) 2 2 := k1
    refine ob_start (L' := rowF RopeF 42 (some ⟨b46, 0, none⟩) 2 ys :: rowF BodyF 33 (some ⟨b44, 0, none⟩) 4 exB :: pt (blk (f 201)) (.cells #[.int .i64 (2), .int .i64 (2)] 3) :: M) (by rfl) (up_cons (d := 199) (up_cons (up_cons (d := 200) rfl k0) hs201) k2) ?_
    refine g_call rfl rfl rfl rfl rfl (cl0 (vs := [.agg #[.slice (some ⟨b44, 0, none⟩) (4) 4, .slice (some ⟨b46, 0, none⟩) (2) 2, Ix (gx), Ix (gy)], .slice (some ⟨(blk (f 201)), 0, none⟩) 2 2]) tf240 rfl rfl) ?_
    intro w hw
    obtain ⟨β1, sb, kn, hw1, back⟩ := St.frame_all hw
    refine (tells_ok β1 w hw1 _ _ _ gx gy exB ys [2, 2] (kn _ (k_flN 1 (F := BodyF) (m := 4) rfl rfl)) (kn _ (k_flN 0 (F := RopeF) (m := 2) rfl hyl.symm)) (kn _ (k_ptFls (F := IntF) 2 (m := 2) (xs := [2, 2]) rfl rfl rfl (Nat.le_of_ble_eq_true rfl))) (by omega) (by omega) (Nat.le_of_ble_eq_true rfl) (by omega) (Nat.le_of_ble_eq_true rfl)).mono ?_
    rintro e w' ⟨rfl, hw'⟩
    refine ⟨_, rfl, _, back _ _ hw', ?_⟩
    clear hw hw1 hw' back kn sb
    refine l_nil ?_
    exact f_owes_d (up_cons (d := 199) (up_cons (up_cons (d := 200) rfl k0) hs201) k2) rfl (((perm_front 2 rfl).trans (perm_front 2 rfl)).trans (perm_front 2 rfl))
   ·rintro f M ⟨k0, k1, -⟩ -
    exact obg (L' := M) (v := .bool false) (up_cons (d := 199) (up_cons (d := 202) rfl k0) k1) (e_not (a := true) rfl) rfl rfl rfl rfl (.refl _) (by rfl)
   ·rintro f M ⟨k0, k1, -⟩ -
    exact ob0 (up_cons (d := 203) (up_cons (d := 199) rfl k0) k1) rfl (e_pick_f rfl) (.refl _)
   ·rintro f M ⟨k0, -⟩ -
    exact ob0 (up_cons (d := 204) rfl k0) rfl e_move (.refl _)
   ·rintro f M ⟨k0, -⟩ ⟨i0, -⟩
    exact obg (L' := M) (v := pp b45 0) (up_cons (d := 205) (up_cons (d := 13) rfl i0) k0) (e_fieldPt rfl tf33) rfl rfl rfl rfl (.refl _) (by rfl)
   ·rintro f M ⟨k0, k1, -⟩ -
    exact obg (L' := pt b45 (.cells #[.slice (some ⟨b44, 0, none⟩) (4) 4, .slice (some ⟨b46, 0, none⟩) (2) 2, Ix (gx), Ix (gy)] 27) :: M) (v := .slice (some ⟨b44, 0, none⟩) (4) 4) (up_cons (d := 205) (up_cons (d := 206) rfl k0) k1) (e_load1 tf26 rfl (k_pt 0 rfl rfl)) rfl rfl rfl rfl (perm_front 0 rfl) (by rfl)
   ·rintro f M ⟨k0, -⟩ ⟨i0, -⟩
    exact obg (L' := M) (v := Nx (i)) (up_cons (d := 205) (up_cons (d := 11) rfl i0) k0) e_move rfl rfl rfl rfl (.refl _) (by rfl)
   ·rintro f M ⟨k0, k1, -⟩ -
    exact obg (L' := M) (v := Nx (i % 4)) (up_cons (d := 205) (up_cons (d := 208) rfl k0) k1) (e_rem (a := ((i : Nat) : Int)) (b := (4 : Int)) rfl rfl (by decide) (nat_tmod _ 4)) rfl rfl rfl rfl (.refl _) (by rfl)
   ·rintro f M ⟨k0, k1, k2, -⟩ -
    exact obg (L' := rowF BodyF 33 (some ⟨b44, 0, none⟩) 4 exB :: M) (v := .pointer (some ((ba (some ⟨b44, 0, none⟩)).add ((i % 4) * 9)))) (up_cons (d := 205) (up_cons (d := 209) (up_cons (d := 207) rfl k0) k1) k2) (e_indexFlN 0 (F := BodyF) (j := i % 4) (m := 4) (xs := exB) rfl rfl rfl tf16 (by omega) rfl) rfl rfl rfl rfl (perm_front 0 rfl) (by rfl)
   ·rintro f M ⟨k0, k1, -⟩ -
    exact obg (L' := rowF BodyF 33 (some ⟨b44, 0, none⟩) 4 exB :: M) (v := .agg (bC x61)) (up_cons (d := 205) (up_cons (d := 210) rfl k0) k1) (e_load tf1 rfl (k_flAt 0 (F := BodyF) rfl hx62) rfl) rfl rfl rfl rfl (perm_front 0 rfl) (by rfl)
   ·rintro f M ⟨k0, -⟩ ⟨i0, -⟩
    exact obg (L' := M) (v := pp b45 2) (up_cons (d := 205) (up_cons (d := 13) rfl i0) k0) (e_fieldPt rfl tf40) rfl rfl rfl rfl (.refl _) (by rfl)
   ·rintro f M ⟨k0, k1, -⟩ -
    exact obg (L' := pt b45 (.cells #[.slice (some ⟨b44, 0, none⟩) (4) 4, .slice (some ⟨b46, 0, none⟩) (2) 2, Ix (gx), Ix (gy)] 27) :: M) (v := .agg #[Ix (gx), Ix (gy)]) (up_cons (d := 205) (up_cons (d := 212) rfl k0) k1) (e_load tf5 rfl (k_pt 0 rfl rfl) rfl) rfl rfl rfl rfl (perm_front 0 rfl) (by rfl)
   ·rintro f M ⟨k0, k1, k2, -⟩ -
    refine ob_start (L' := M) (by rfl) (up_cons (d := 205) (up_cons (d := 213) (up_cons (d := 211) rfl k0) k1) k2) ?_
    refine g_call rfl rfl rfl rfl rfl (cl0 (vs := [.agg (bC x61), .agg #[Ix (gx), Ix (gy)]]) tf245 rfl rfl) ?_
    intro w hw
    obtain ⟨β1, sb, kn, hw1, back⟩ := St.frame_all hw
    refine (reachL_ok β1 w hw1 x61 gx gy (by omega) (by omega)).mono ?_
    rintro e w' ⟨rfl, hw'⟩
    refine ⟨_, rfl, _, back _ _ hw', ?_⟩
    clear hw hw1 hw' back kn sb
    refine l_nil ?_
    exact f_owes_d (up_cons (d := 205) (up_cons (d := 213) (up_cons (d := 211) rfl k0) k1) k2) rfl (List.Perm.refl _)
   ·rintro f M ⟨k0, k1, -⟩ -
    exact obg (L' := M) (v := .bool false) (up_cons (d := 205) (up_cons (d := 214) rfl k0) k1) (e_not (a := true) rfl) rfl rfl rfl rfl (.refl _) (by rfl)
   ·rintro f M ⟨k0, k1, -⟩ -
    exact ob0 (up_cons (d := 215) (up_cons (d := 205) rfl k0) k1) rfl (e_pick_f rfl) (.refl _)
   rintro fa63 ⟨-, -, -, -, -, -, -, -, -, -, -, -, -, -, -, -, -, -, -, -, -, -, -, -, -, k25, -⟩ ⟨j0, j1, j2, j3, j4, -⟩
   refine f_re (L' := [rowF RopeF 42 (some ⟨b46, 0, none⟩) 2 ys, pt b45 (.cells #[.slice (some ⟨b44, 0, none⟩) (4) 4, .slice (some ⟨b46, 0, none⟩) (2) 2, Ix (gx), Ix (gy)] 27), rowF BodyF 33 (some ⟨b44, 0, none⟩) 4 exB, rowF IntF 3 (some ⟨b41, 0, none⟩) 15 numsL, pt (blk (fa63 196)) (.cells #[Ix (x)] 3), pt (blk (fa63 201)) (.cells #[.int .i64 (2), .int .i64 (2)] 3)]) (by rfl) ?_
   refine f_rebase (d := 10) j0 ?_
   refine f_rebase (d := 11) j1 ?_
   refine f_rebase (d := 12) j2 ?_
   refine f_rebase (d := 129) j3 ?_
   refine f_rebase (d := 130) j4 ?_
   refine f_rebase (d := 216) k25 ?_
   refine f_then ?_
   refine c_no rfl ?_
   refine c_skip ?_
   refine f_block ?_
   refine f_then ?_
   refine c_region ?_
   refine lv (v := Nx (k)) e_move ?_
   refine lv (v := Nx (k + 1)) (e_add (a := ((k : Nat) : Int)) (b := (1 : Int)) rfl rfl (i64n (by omega) (by omega))) ?_
   refine lv (v := Nx (k + 1)) e_assign ?_
   refine l_nil ?_
   refine f_mask (L' := [rowF IntF 3 (some ⟨b41, 0, none⟩) 15 numsL]) [false, false, false, true, false, false] rfl ?_
   exact f_cut ⟨k + 1, ⟨⟨rfl, rfl, rfl, rfl, rfl⟩, rfl, by omega⟩, (show 5 - (k + 1) < 5 - k from by omega)⟩
  refine c_exit ?_
  refine f_then_exit ?_
  refine f_then_exit ?_
  refine f_exit ?_
  refine f_block ?_
  refine f_then ?_
  refine c_region ?_
  refine lv (v := Nx (i + 1)) (e_add (a := ((i : Nat) : Int)) (b := (1 : Int)) rfl rfl (i64n (by omega) (by omega))) ?_
  refine lv (v := Nx (i + 1)) e_move ?_
  refine l_nil ?_
  exact f_cut ⟨i + 1, ⟨⟨rfl, rfl, rfl⟩, rfl, by omega⟩, (show 15 - (i + 1) < 15 - i from by omega)⟩
 refine c_exit ?_
 refine f_then_exit ?_
 refine f_then_exit ?_
 refine f_exit ?_
 refine ftc ?_
 refine lcf (cl0 (vs := []) tf73 rfl rfl) rfl fun w β1 sb kn hw1 back => (example_ok β1 w hw1).mono ?_
 rintro e w' ⟨b64, rfl, hw'⟩
 refine ⟨_, rfl, _, back _ _ hw', ?_⟩
 clear hw1 hw' back kn sb
 refine l_mv rfl rfl rfl (m_alloc tf67) ?_
 rintro _ _ ⟨b65, rfl, rfl⟩
 refine lu (m_store 0 tf31 (cs' := #[.slice (some ⟨b64, 0, none⟩) (4) 4, .slice none 0 0, .int .i64 (0), .int .i64 (0)]) rfl rfl rfl rfl rfl rfl rfl) ?_
 refine lnf ?_
 refine c_seq ?_
 refine c_block ?_
 refine c_emp (r := rowF RopeF 42 none 0 []) (row_nil _ _ _) ?_
 refine c_loop (fun (x_ : List KR × Option Addr × Nat) (f : Fm) (L : List Res) => match x_ with | (qs, p, c) => (f 14 = pp b65 0) ∧ L = [rowF RopeF 42 p c qs, pt b65 (.cells #[.slice (some ⟨b64, 0, none⟩) (4) 4, sB p qs c, .int .i64 (0), .int .i64 (0)] 27), rowF BodyF 33 (some ⟨b64, 0, none⟩) 4 exB, rowF IntF 3 (some ⟨b41, 0, none⟩) 15 numsL] ∧ (qs.length ≤ 33)) (fun (x_ : List KR × Option Addr × Nat) => match x_ with | (qs, p, c) => 33 - qs.length) ([], none, 0) ?_ ?_
 ·exact ⟨rfl, rfl, (by decide)⟩
 rintro ⟨qs, p, c⟩ f0 L0 ⟨hs14, hL, hql⟩
 subst L0
 refine rebase (d := 14) hs14 ?_
 clear hs14
 refine cs2 ?_
 refine c_region ?_
 refine lv (v := pp b65 1) (e_fieldPt rfl tf52) ?_
 refine lv (v := sB p qs c) (e_load1 tf53 rfl (k_pt 1 rfl rfl)) ?_
 refine lv (v := Nx (qs.length)) (e_len (a := p) (n := qs.length) (c := c) rfl tf54) ?_
 refine lv (e_leq (a := ((qs.length : Nat) : Int)) (b := (32 : Int)) rfl rfl) ?_
 refine lnf ?_
 refine c_if (((qs.length : Nat) : Int) ≤ (32 : Int)) rfl (fun hc66 => ?_) (fun hc66 => ?_)
 ·refine csk ?_
  refine c_block ?_
  refine c_region ?_
  refine lv (v := pp b65 1) (e_fieldPt rfl tf52) ?_
  refine lv (v := sB p qs c) (e_load1 tf53 rfl (k_pt 1 rfl rfl)) ?_
  refine lv (v := .agg #[.int .i64 (2), .int .i64 (3), .int .i64 (9)]) (e_build tf57 tf74 (vs := [(0, .int .i64 (2)), (1, .int .i64 (3)), (2, .int .i64 (9))]) (cells := #[.int .i64 (2), .int .i64 (3), .int .i64 (9)]) rfl rfl) ?_
  refine l_mv rfl rfl rfl (m_slices tf55 tf57 (cells := #[.int .i64 (2), .int .i64 (3), .int .i64 (9)]) rfl rfl rfl rfl) ?_
  rintro _ _ ⟨b67, rfl, rfl⟩
  refine l_mv rfl rfl rfl (m_appendFlN (F := RopeF) 1 tf55 tf72 (p := p) (m := qs.length) (xs := qs) (ys := [(⟨2, 3, 9⟩ : KR)]) (ao := (some ⟨b67, 0, none⟩)) (k := 1) (c := 1) rfl rfl rfl rfl rfl (k_ptFl (z := (⟨2, 3, 9⟩ : KR)) 0 rfl rfl) (by first | omega | simp only [List.length_nil, List.length_cons, List.length_append, List.length_set]; omega) (by first | omega | simp only [List.length_nil, List.length_cons, List.length_append, List.length_set]; omega)) ?_
  rintro _ _ ⟨rp68, rc69, rfl, rfl⟩
  refine lv (v := pp b65 1) (e_fieldPt rfl tf52) ?_
  refine lu (m_store 2 tf53 (cs' := #[.slice (some ⟨b64, 0, none⟩) (4) 4, sB rp68 (qs ++ [(⟨2, 3, 9⟩ : KR)]) rc69, .int .i64 (0), .int .i64 (0)]) rfl rfl rfl rfl rfl rfl rfl) ?_
  refine l_nil ?_
  refine f_block ?_
  refine f_mask (L' := [rowF RopeF 42 rp68 rc69 (qs ++ [(⟨2, 3, 9⟩ : KR)]), pt b65 (.cells #[.slice (some ⟨b64, 0, none⟩) (4) 4, sB rp68 (qs ++ [(⟨2, 3, 9⟩ : KR)]) rc69, .int .i64 (0), .int .i64 (0)] 27), rowF BodyF 33 (some ⟨b64, 0, none⟩) 4 exB, rowF IntF 3 (some ⟨b41, 0, none⟩) 15 numsL]) [false, true, true, true, true] rfl ?_
  exact f_cut ⟨((qs ++ [(⟨2, 3, 9⟩ : KR)]), rp68, rc69), ⟨rfl, rfl, (by rw [List.length_append, List.length_singleton]; omega)⟩, (show 33 - (qs ++ [(⟨2, 3, 9⟩ : KR)]).length < 33 - qs.length from by rw [List.length_append, List.length_singleton]; omega)⟩
 refine c_exit ?_
 refine f_then_exit ?_
 refine f_then_exit ?_
 refine f_exit ?_
 refine ftc ?_
 refine lv (v := .agg #[.slice (some ⟨b64, 0, none⟩) (4) 4, sB p qs c, .int .i64 (0), .int .i64 (0)]) (e_load tf31 rfl (k_pt 1 rfl rfl) rfl) ?_
 refine lcf (cl0 (vs := [.agg #[.slice (some ⟨b64, 0, none⟩) (4) 4, sB p qs c, .int .i64 (0), .int .i64 (0)], .slice none 0 0]) tf240 rfl rfl) rfl fun w β1 sb kn hw1 back => (tells_ok β1 w hw1 _ _ _ 0 0 exB qs [] (kn _ (k_flN 2 (F := BodyF) (m := 4) rfl rfl)) (kn _ (k_flN 0 (F := RopeF) (m := qs.length) rfl rfl)) (Sl.nil _ _) (by omega) (by omega) (Nat.le_of_ble_eq_true rfl) (by omega) (Nat.le_of_ble_eq_true rfl)).mono ?_
 rintro e w' ⟨rfl, hw'⟩
 refine ⟨_, rfl, _, back _ _ hw', ?_⟩
 clear hw1 hw' back kn sb
 refine lv (v := .bool true) e_move ?_
 refine g_val (v := .agg #[.slice none 0 0, .slice none 0 0, .int .i64 (0), .int .i64 (0)]) rfl rfl rfl rfl rfl (e_build tf67 tf69 (vs := []) (cells := #[.slice none 0 0, .slice none 0 0, .int .i64 (0), .int .i64 (0)]) rfl rfl) ?_
 refine g_call rfl rfl rfl rfl rfl (cl0 (vs := [.agg #[.slice none 0 0, .slice none 0 0, .int .i64 (0), .int .i64 (0)], .slice none 0 0]) tf240 rfl rfl) ?_
 intro w hw
 obtain ⟨β1, sb, kn, hw1, back⟩ := St.frame_all hw
 refine (tells_ok β1 w hw1 _ _ _ 0 0 [] [] [] (Sl.nil _ _) (Sl.nil _ _) (Sl.nil _ _) (by omega) (by omega) (Nat.le_of_ble_eq_true rfl) (Nat.le_of_ble_eq_true rfl) (Nat.le_of_ble_eq_true rfl)).mono ?_
 rintro e w' ⟨rfl, hw'⟩
 refine ⟨_, rfl, _, back _ _ hw', ?_⟩
 clear hw hw1 hw' back kn sb
 refine lv (v := .bool true) (e_pick_t rfl) ?_
 refine lv (v := .bool true) e_move ?_
 refine g_val (v := .agg #[.slice none 0 0, .slice none 0 0, .int .i64 (0), .int .i64 (0)]) rfl rfl rfl rfl rfl (e_build tf67 tf69 (vs := []) (cells := #[.slice none 0 0, .slice none 0 0, .int .i64 (0), .int .i64 (0)]) rfl rfl) ?_
 refine g_mv rfl rfl rfl rfl rfl (m_slices tf23 tf24 (cells := #[.int .i64 (0)]) rfl rfl rfl rfl) ?_
 rintro _ _ ⟨b70, rfl, rfl⟩
 refine g_call rfl rfl rfl rfl rfl (cl0 (vs := [.agg #[.slice none 0 0, .slice none 0 0, .int .i64 (0), .int .i64 (0)], .slice (some ⟨b70, 0, none⟩) 1 1]) tf240 rfl rfl) ?_
 intro w hw
 obtain ⟨β1, sb, kn, hw1, back⟩ := St.frame_all hw
 refine (tells_ok β1 w hw1 _ _ _ 0 0 [] [] [0] (Sl.nil _ _) (Sl.nil _ _) (kn _ (k_ptFls (F := IntF) 0 (m := 1) (xs := [0]) rfl rfl rfl (Nat.le_of_ble_eq_true rfl))) (by omega) (by omega) (Nat.le_of_ble_eq_true rfl) (Nat.le_of_ble_eq_true rfl) (Nat.le_of_ble_eq_true rfl)).mono ?_
 rintro e w' ⟨rfl, hw'⟩
 refine ⟨_, rfl, _, back _ _ hw', ?_⟩
 clear hw hw1 hw' back kn sb
 refine lv (v := .bool true) (e_pick_t rfl) ?_
 refine lv (v := .bool true) e_move ?_
 refine g_call rfl rfl rfl rfl rfl (cl0 (vs := []) tf94 rfl rfl) ?_
 intro w hw
 obtain ⟨β1, sb, kn, hw1, back⟩ := St.frame_all hw
 refine (awake_ok β1 w hw1).mono ?_
 rintro e w' ⟨rfl, hw'⟩
 refine ⟨_, rfl, _, back _ _ hw', ?_⟩
 clear hw hw1 hw' back kn sb
 refine lv (v := .bool true) (e_pick_t rfl) ?_
 refine lv (v := .bool true) e_assign ?_
 refine lnf ?_
 refine c_ret ?_
 refine ret1 Tryz.results5 (v := .bool true) rfl ?_
 intro w hw
 exact ⟨rfl, st_mask [false, false, false, false, false] rfl hw⟩
end Go.Proofs
