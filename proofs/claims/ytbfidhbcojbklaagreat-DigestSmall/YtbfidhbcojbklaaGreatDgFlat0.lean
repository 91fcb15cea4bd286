/-
  Own work; plain Lean (DgFlat0).
-/
import Derived.Test.YtbfidhbcojbklaaGreatDgRDif
namespace Go.Proofs
open Go Go.Sl
theorem tf106 : Tryz.prog.underlying 53 = some (.slice 127) := by kernel_rfl
theorem tf107 : slB Tryz.prog 53 127 1 = true := by kernel_rfl
theorem tf108 : elB Tryz.prog 127 1 24 = true := by kernel_rfl
theorem tf109 : Tryz.prog.underlying 54 = some (.slice 129) := by kernel_rfl
theorem tf110 : slB Tryz.prog 54 129 1 = true := by kernel_rfl
theorem tf111 : elB Tryz.prog 129 1 24 = true := by kernel_rfl
theorem tf112 : Tryz.prog.underlying 55 = some (.slice 40) := by kernel_rfl
theorem tf113 : slB Tryz.prog 55 40 1 = true := by kernel_rfl
theorem tf114 : elB Tryz.prog 40 1 24 = true := by kernel_rfl
theorem tf115 : Tryz.prog.underlying 56 = some (.slice 33) := by kernel_rfl
theorem tf116 : slB Tryz.prog 56 33 1 = true := by kernel_rfl
theorem tf117 : elB Tryz.prog 33 1 24 = true := by kernel_rfl
theorem tf118 : Tryz.prog.underlying 57 = some (.slice 22) := by kernel_rfl
theorem tf119 : slB Tryz.prog 57 22 1 = true := by kernel_rfl
theorem tf120 : elB Tryz.prog 22 1 24 = true := by kernel_rfl
theorem tf121 : Tryz.prog.underlying 58 = some (.slice 45) := by kernel_rfl
theorem tf122 : slB Tryz.prog 58 45 1 = true := by kernel_rfl
theorem tf123 : elB Tryz.prog 45 1 24 = true := by kernel_rfl
theorem tf124 : Tryz.prog.underlying 59 = some (.slice 134) := by kernel_rfl
theorem tf125 : slB Tryz.prog 59 134 1 = true := by kernel_rfl
theorem tf126 : elB Tryz.prog 134 1 24 = true := by kernel_rfl
theorem tf127 : Tryz.prog.underlying 60 = some (.slice 138) := by kernel_rfl
theorem tf128 : slB Tryz.prog 60 138 1 = true := by kernel_rfl
theorem tf129 : elB Tryz.prog 138 1 24 = true := by kernel_rfl
theorem tf130 : Tryz.prog.underlying 61 = some (.slice 142) := by kernel_rfl
theorem tf131 : slB Tryz.prog 61 142 1 = true := by kernel_rfl
theorem tf132 : elB Tryz.prog 142 1 24 = true := by kernel_rfl
theorem tf133 : Tryz.prog.underlying 62 = some (.slice 146) := by kernel_rfl
theorem tf134 : slB Tryz.prog 62 146 1 = true := by kernel_rfl
theorem tf135 : elB Tryz.prog 146 1 24 = true := by kernel_rfl
theorem tf136 : Tryz.prog.underlying 63 = some (.slice 150) := by kernel_rfl
theorem tf137 : slB Tryz.prog 63 150 1 = true := by kernel_rfl
theorem tf138 : elB Tryz.prog 150 1 24 = true := by kernel_rfl
theorem tf139 : Tryz.prog.underlying 64 = some (.slice 154) := by kernel_rfl
theorem tf140 : slB Tryz.prog 64 154 1 = true := by kernel_rfl
theorem tf141 : elB Tryz.prog 154 1 24 = true := by kernel_rfl
theorem tf142 : Tryz.prog.underlying 65 = some (.slice 158) := by kernel_rfl
theorem tf143 : slB Tryz.prog 65 158 1 = true := by kernel_rfl
theorem tf144 : elB Tryz.prog 158 1 24 = true := by kernel_rfl
theorem tf145 : Tryz.prog.underlying 66 = some (.slice 162) := by kernel_rfl
theorem tf146 : slB Tryz.prog 66 162 1 = true := by kernel_rfl
theorem tf147 : elB Tryz.prog 162 1 24 = true := by kernel_rfl
theorem tf148 : Tryz.prog.underlying 67 = some (.slice 167) := by kernel_rfl
theorem tf149 : slB Tryz.prog 67 167 1 = true := by kernel_rfl
theorem tf150 : elB Tryz.prog 167 1 24 = true := by kernel_rfl
theorem tf151 : Tryz.prog.underlying 68 = some (.slice 172) := by kernel_rfl
theorem tf152 : slB Tryz.prog 68 172 1 = true := by kernel_rfl
theorem tf153 : elB Tryz.prog 172 1 24 = true := by kernel_rfl
theorem tf154 : Tryz.prog.underlying 69 = some (.slice 177) := by kernel_rfl
theorem tf155 : slB Tryz.prog 69 177 1 = true := by kernel_rfl
theorem tf156 : elB Tryz.prog 177 1 24 = true := by kernel_rfl
theorem tf157 : Tryz.prog.underlying 70 = some (.slice 181) := by kernel_rfl
theorem tf158 : slB Tryz.prog 70 181 1 = true := by kernel_rfl
theorem tf159 : elB Tryz.prog 181 1 24 = true := by kernel_rfl
theorem tf160 : Tryz.prog.underlying 71 = some (.slice 185) := by kernel_rfl
theorem tf161 : slB Tryz.prog 71 185 1 = true := by kernel_rfl
theorem tf162 : elB Tryz.prog 185 1 24 = true := by kernel_rfl
theorem flatLimbs_nil (β : Base) (w : World) (hw : St β [] w) : Calls Tryz.prog 47 #[.slice none 0 0] w fun e w' => e = .returned (.bool true) ∧ St β [] w' := by
  refine enter (n := 200) Tryz.func47 rfl Tryz.ntmps47 rfl ?_ hw
  refine c_seq ?_
  refine c_region ?_
  refine l_val (v := .bool false) rfl rfl rfl (e_assign) ?_
  refine l_nil ?_
  refine f_then ?_
  refine c_seq ?_
  refine c_seq ?_
  refine c_region ?_
  refine l_val (v := .int .i64 (0)) rfl rfl rfl (e_assign) ?_
  refine l_nil ?_
  refine f_then ?_
  refine c_block ?_
  refine c_loop (fun (x_ : Unit) (f : Fm) (L : List Res) => match x_ with | () => (f 0 = .slice none 0 0 ∧ f 3 = .int .i64 (0)) ∧ L = [] ∧ (True)) (fun (x_ : Unit) => match x_ with | () => 0) () ?_ ?_
  · exact ⟨⟨rfl, rfl⟩, rfl, trivial⟩
  rintro ⟨⟩ f0 L0 ⟨⟨hs0, hs3⟩, hL, -⟩
  subst L0
  refine rebase (d := 0) hs0 ?_
  refine rebase (d := 3) hs3 ?_
  clear hs0 hs3
  refine c_seq ?_
  refine c_seq ?_
  refine c_region ?_
  refine l_val (v := .int .i64 (0)) rfl rfl rfl (e_move) ?_
  refine l_val (v := .slice none 0 0) rfl rfl rfl (e_move) ?_
  refine l_val (v := .int .i64 (0)) rfl rfl rfl (e_len (n := 0) rfl tf106) ?_
  refine l_val (v := .bool false) rfl rfl rfl (e_lss (a := (0 : Int)) (b := (0 : Int)) rfl rfl) ?_
  refine l_nil ?_
  refine f_then ?_
  refine c_no rfl ?_
  refine c_exit ?_
  refine f_then_exit ?_
  refine f_then_exit ?_
  refine f_exit ?_
  refine f_then ?_
  refine c_seq ?_
  refine c_region ?_
  refine l_val (v := .slice none 0 0) rfl rfl rfl (e_move) ?_
  refine l_val (v := .int .i64 (0)) rfl rfl rfl (e_len (n := 0) rfl tf106) ?_
  refine l_mv rfl rfl rfl (m_make00 tf107 rfl rfl) ?_
  rintro _ _ ⟨b1, rfl, rfl⟩
  refine l_val (v := .slice (some ⟨b1, 0, none⟩) 0 0) rfl rfl rfl (e_assign) ?_
  refine l_nil ?_
  refine f_then ?_
  refine c_seq ?_
  refine c_seq ?_
  refine c_region ?_
  refine l_val (v := .int .i64 (0)) rfl rfl rfl (e_assign) ?_
  refine l_nil ?_
  refine f_then ?_
  refine c_block ?_
  refine c_loop (fun (x_ : Unit) (f : Fm) (L : List Res) => match x_ with | () => (f 0 = .slice none 0 0 ∧ f 5 = .slice (some ⟨b1, 0, none⟩) 0 0 ∧ f 6 = .int .i64 (0)) ∧ L = [pt b1 (.cells #[] 127)] ∧ (True)) (fun (x_ : Unit) => match x_ with | () => 0) () ?_ ?_
  · exact ⟨⟨rfl, rfl, rfl⟩, rfl, trivial⟩
  rintro ⟨⟩ f0 L0 ⟨⟨hs0, hs5, hs6⟩, hL, -⟩
  subst L0
  refine rebase (d := 0) hs0 ?_
  refine rebase (d := 5) hs5 ?_
  refine rebase (d := 6) hs6 ?_
  clear hs0 hs5 hs6
  refine c_seq ?_
  refine c_seq ?_
  refine c_region ?_
  refine l_val (v := .int .i64 (0)) rfl rfl rfl (e_move) ?_
  refine l_val (v := .slice none 0 0) rfl rfl rfl (e_move) ?_
  refine l_val (v := .int .i64 (0)) rfl rfl rfl (e_len (n := 0) rfl tf106) ?_
  refine l_val (v := .bool false) rfl rfl rfl (e_lss (a := (0 : Int)) (b := (0 : Int)) rfl rfl) ?_
  refine l_nil ?_
  refine f_then ?_
  refine c_no rfl ?_
  refine c_exit ?_
  refine f_then_exit ?_
  refine f_then_exit ?_
  refine f_exit ?_
  refine f_then ?_
  refine c_seq ?_
  refine c_seq ?_
  refine c_region ?_
  refine l_val (v := .int .i64 (0)) rfl rfl rfl (e_assign) ?_
  refine l_nil ?_
  refine f_then ?_
  refine c_block ?_
  refine c_loop (fun (x_ : Unit) (f : Fm) (L : List Res) => match x_ with | () => (f 0 = .slice none 0 0 ∧ f 5 = .slice (some ⟨b1, 0, none⟩) 0 0 ∧ f 9 = .int .i64 (0)) ∧ L = [pt b1 (.cells #[] 127)] ∧ (True)) (fun (x_ : Unit) => match x_ with | () => 0) () ?_ ?_
  · exact ⟨⟨rfl, rfl, rfl⟩, rfl, trivial⟩
  rintro ⟨⟩ f0 L0 ⟨⟨hs0, hs5, hs9⟩, hL, -⟩
  subst L0
  refine rebase (d := 0) hs0 ?_
  refine rebase (d := 5) hs5 ?_
  refine rebase (d := 9) hs9 ?_
  clear hs0 hs5 hs9
  refine c_seq ?_
  refine c_seq ?_
  refine c_region ?_
  refine l_val (v := .int .i64 (0)) rfl rfl rfl (e_move) ?_
  refine l_val (v := .slice none 0 0) rfl rfl rfl (e_move) ?_
  refine l_val (v := .int .i64 (0)) rfl rfl rfl (e_len (n := 0) rfl tf106) ?_
  refine l_val (v := .bool false) rfl rfl rfl (e_lss (a := (0 : Int)) (b := (0 : Int)) rfl rfl) ?_
  refine l_nil ?_
  refine f_then ?_
  refine c_no rfl ?_
  refine c_exit ?_
  refine f_then_exit ?_
  refine f_then_exit ?_
  refine f_exit ?_
  refine f_then ?_
  refine c_seq ?_
  refine c_seq ?_
  refine c_region ?_
  refine l_val (v := .int .i64 (0)) rfl rfl rfl (e_assign) ?_
  refine l_nil ?_
  refine f_then ?_
  refine c_block ?_
  refine c_loop (fun (x_ : Unit) (f : Fm) (L : List Res) => match x_ with | () => (f 0 = .slice none 0 0 ∧ f 5 = .slice (some ⟨b1, 0, none⟩) 0 0 ∧ f 11 = .int .i64 (0)) ∧ L = [pt b1 (.cells #[] 127)] ∧ (True)) (fun (x_ : Unit) => match x_ with | () => 0) () ?_ ?_
  · exact ⟨⟨rfl, rfl, rfl⟩, rfl, trivial⟩
  rintro ⟨⟩ f0 L0 ⟨⟨hs0, hs5, hs11⟩, hL, -⟩
  subst L0
  refine rebase (d := 0) hs0 ?_
  refine rebase (d := 5) hs5 ?_
  refine rebase (d := 11) hs11 ?_
  clear hs0 hs5 hs11
  refine c_seq ?_
  refine c_seq ?_
  refine c_region ?_
  refine l_val (v := .int .i64 (0)) rfl rfl rfl (e_move) ?_
  refine l_val (v := .slice none 0 0) rfl rfl rfl (e_move) ?_
  refine l_val (v := .int .i64 (0)) rfl rfl rfl (e_len (n := 0) rfl tf106) ?_
  refine l_val (v := .bool false) rfl rfl rfl (e_lss (a := (0 : Int)) (b := (0 : Int)) rfl rfl) ?_
  refine l_nil ?_
  refine f_then ?_
  refine c_no rfl ?_
  refine c_exit ?_
  refine f_then_exit ?_
  refine f_then_exit ?_
  refine f_exit ?_
  refine f_then ?_
  refine c_seq ?_
  refine c_seq ?_
  refine c_region ?_
  refine l_val (v := .int .i64 (0)) rfl rfl rfl (e_assign) ?_
  refine l_nil ?_
  refine f_then ?_
  refine c_block ?_
  refine c_loop (fun (x_ : Unit) (f : Fm) (L : List Res) => match x_ with | () => (f 0 = .slice none 0 0 ∧ f 5 = .slice (some ⟨b1, 0, none⟩) 0 0 ∧ f 14 = .int .i64 (0)) ∧ L = [pt b1 (.cells #[] 127)] ∧ (True)) (fun (x_ : Unit) => match x_ with | () => 0) () ?_ ?_
  · exact ⟨⟨rfl, rfl, rfl⟩, rfl, trivial⟩
  rintro ⟨⟩ f0 L0 ⟨⟨hs0, hs5, hs14⟩, hL, -⟩
  subst L0
  refine rebase (d := 0) hs0 ?_
  refine rebase (d := 5) hs5 ?_
  refine rebase (d := 14) hs14 ?_
  clear hs0 hs5 hs14
  refine c_seq ?_
  refine c_seq ?_
  refine c_region ?_
  refine l_val (v := .int .i64 (0)) rfl rfl rfl (e_move) ?_
  refine l_val (v := .slice none 0 0) rfl rfl rfl (e_move) ?_
  refine l_val (v := .int .i64 (0)) rfl rfl rfl (e_len (n := 0) rfl tf106) ?_
  refine l_val (v := .bool false) rfl rfl rfl (e_lss (a := (0 : Int)) (b := (0 : Int)) rfl rfl) ?_
  refine l_nil ?_
  refine f_then ?_
  refine c_no rfl ?_
  refine c_exit ?_
  refine f_then_exit ?_
  refine f_then_exit ?_
  refine f_exit ?_
  refine f_then ?_
  refine c_seq ?_
  refine c_region ?_
  refine l_val (v := .bool true) rfl rfl rfl (e_assign) ?_
  refine l_nil ?_
  refine f_then ?_
  refine c_ret ?_
  refine ret1 Tryz.results47 (v := .bool true) rfl ?_
  intro w hw
  exact ⟨rfl, st_mask [false] rfl hw⟩
theorem flatTexts_nil (β : Base) (w : World) (hw : St β [] w) : Calls Tryz.prog 49 #[.slice none 0 0] w fun e w' => e = .returned (.bool true) ∧ St β [] w' := by
  refine enter (n := 193) Tryz.func49 rfl Tryz.ntmps49 rfl ?_ hw
  refine c_seq ?_
  refine c_region ?_
  refine l_val (v := .bool false) rfl rfl rfl (e_assign) ?_
  refine l_nil ?_
  refine f_then ?_
  refine c_seq ?_
  refine c_seq ?_
  refine c_region ?_
  refine l_val (v := .int .i64 (0)) rfl rfl rfl (e_assign) ?_
  refine l_nil ?_
  refine f_then ?_
  refine c_block ?_
  refine c_loop (fun (x_ : Unit) (f : Fm) (L : List Res) => match x_ with | () => (f 0 = .slice none 0 0 ∧ f 3 = .int .i64 (0)) ∧ L = [] ∧ (True)) (fun (x_ : Unit) => match x_ with | () => 0) () ?_ ?_
  · exact ⟨⟨rfl, rfl⟩, rfl, trivial⟩
  rintro ⟨⟩ f0 L0 ⟨⟨hs0, hs3⟩, hL, -⟩
  subst L0
  refine rebase (d := 0) hs0 ?_
  refine rebase (d := 3) hs3 ?_
  clear hs0 hs3
  refine c_seq ?_
  refine c_seq ?_
  refine c_region ?_
  refine l_val (v := .int .i64 (0)) rfl rfl rfl (e_move) ?_
  refine l_val (v := .slice none 0 0) rfl rfl rfl (e_move) ?_
  refine l_val (v := .int .i64 (0)) rfl rfl rfl (e_len (n := 0) rfl tf109) ?_
  refine l_val (v := .bool false) rfl rfl rfl (e_lss (a := (0 : Int)) (b := (0 : Int)) rfl rfl) ?_
  refine l_nil ?_
  refine f_then ?_
  refine c_no rfl ?_
  refine c_exit ?_
  refine f_then_exit ?_
  refine f_then_exit ?_
  refine f_exit ?_
  refine f_then ?_
  refine c_seq ?_
  refine c_region ?_
  refine l_val (v := .slice none 0 0) rfl rfl rfl (e_move) ?_
  refine l_val (v := .int .i64 (0)) rfl rfl rfl (e_len (n := 0) rfl tf109) ?_
  refine l_mv rfl rfl rfl (m_make00 tf110 rfl rfl) ?_
  rintro _ _ ⟨b1, rfl, rfl⟩
  refine l_val (v := .slice (some ⟨b1, 0, none⟩) 0 0) rfl rfl rfl (e_assign) ?_
  refine l_nil ?_
  refine f_then ?_
  refine c_seq ?_
  refine c_seq ?_
  refine c_region ?_
  refine l_val (v := .int .i64 (0)) rfl rfl rfl (e_assign) ?_
  refine l_nil ?_
  refine f_then ?_
  refine c_block ?_
  refine c_loop (fun (x_ : Unit) (f : Fm) (L : List Res) => match x_ with | () => (f 0 = .slice none 0 0 ∧ f 5 = .slice (some ⟨b1, 0, none⟩) 0 0 ∧ f 6 = .int .i64 (0)) ∧ L = [pt b1 (.cells #[] 129)] ∧ (True)) (fun (x_ : Unit) => match x_ with | () => 0) () ?_ ?_
  · exact ⟨⟨rfl, rfl, rfl⟩, rfl, trivial⟩
  rintro ⟨⟩ f0 L0 ⟨⟨hs0, hs5, hs6⟩, hL, -⟩
  subst L0
  refine rebase (d := 0) hs0 ?_
  refine rebase (d := 5) hs5 ?_
  refine rebase (d := 6) hs6 ?_
  clear hs0 hs5 hs6
  refine c_seq ?_
  refine c_seq ?_
  refine c_region ?_
  refine l_val (v := .int .i64 (0)) rfl rfl rfl (e_move) ?_
  refine l_val (v := .slice none 0 0) rfl rfl rfl (e_move) ?_
  refine l_val (v := .int .i64 (0)) rfl rfl rfl (e_len (n := 0) rfl tf109) ?_
  refine l_val (v := .bool false) rfl rfl rfl (e_lss (a := (0 : Int)) (b := (0 : Int)) rfl rfl) ?_
  refine l_nil ?_
  refine f_then ?_
  refine c_no rfl ?_
  refine c_exit ?_
  refine f_then_exit ?_
  refine f_then_exit ?_
  refine f_exit ?_
  refine f_then ?_
  refine c_seq ?_
  refine c_seq ?_
  refine c_region ?_
  refine l_val (v := .int .i64 (0)) rfl rfl rfl (e_assign) ?_
  refine l_nil ?_
  refine f_then ?_
  refine c_block ?_
  refine c_loop (fun (x_ : Unit) (f : Fm) (L : List Res) => match x_ with | () => (f 0 = .slice none 0 0 ∧ f 5 = .slice (some ⟨b1, 0, none⟩) 0 0 ∧ f 9 = .int .i64 (0)) ∧ L = [pt b1 (.cells #[] 129)] ∧ (True)) (fun (x_ : Unit) => match x_ with | () => 0) () ?_ ?_
  · exact ⟨⟨rfl, rfl, rfl⟩, rfl, trivial⟩
  rintro ⟨⟩ f0 L0 ⟨⟨hs0, hs5, hs9⟩, hL, -⟩
  subst L0
  refine rebase (d := 0) hs0 ?_
  refine rebase (d := 5) hs5 ?_
  refine rebase (d := 9) hs9 ?_
  clear hs0 hs5 hs9
  refine c_seq ?_
  refine c_seq ?_
  refine c_region ?_
  refine l_val (v := .int .i64 (0)) rfl rfl rfl (e_move) ?_
  refine l_val (v := .slice none 0 0) rfl rfl rfl (e_move) ?_
  refine l_val (v := .int .i64 (0)) rfl rfl rfl (e_len (n := 0) rfl tf109) ?_
  refine l_val (v := .bool false) rfl rfl rfl (e_lss (a := (0 : Int)) (b := (0 : Int)) rfl rfl) ?_
  refine l_nil ?_
  refine f_then ?_
  refine c_no rfl ?_
  refine c_exit ?_
  refine f_then_exit ?_
  refine f_then_exit ?_
  refine f_exit ?_
  refine f_then ?_
  refine c_seq ?_
  refine c_seq ?_
  refine c_region ?_
  refine l_val (v := .int .i64 (0)) rfl rfl rfl (e_assign) ?_
  refine l_nil ?_
  refine f_then ?_
  refine c_block ?_
  refine c_loop (fun (x_ : Unit) (f : Fm) (L : List Res) => match x_ with | () => (f 0 = .slice none 0 0 ∧ f 5 = .slice (some ⟨b1, 0, none⟩) 0 0 ∧ f 11 = .int .i64 (0)) ∧ L = [pt b1 (.cells #[] 129)] ∧ (True)) (fun (x_ : Unit) => match x_ with | () => 0) () ?_ ?_
  · exact ⟨⟨rfl, rfl, rfl⟩, rfl, trivial⟩
  rintro ⟨⟩ f0 L0 ⟨⟨hs0, hs5, hs11⟩, hL, -⟩
  subst L0
  refine rebase (d := 0) hs0 ?_
  refine rebase (d := 5) hs5 ?_
  refine rebase (d := 11) hs11 ?_
  clear hs0 hs5 hs11
  refine c_seq ?_
  refine c_seq ?_
  refine c_region ?_
  refine l_val (v := .int .i64 (0)) rfl rfl rfl (e_move) ?_
  refine l_val (v := .slice none 0 0) rfl rfl rfl (e_move) ?_
  refine l_val (v := .int .i64 (0)) rfl rfl rfl (e_len (n := 0) rfl tf109) ?_
  refine l_val (v := .bool false) rfl rfl rfl (e_lss (a := (0 : Int)) (b := (0 : Int)) rfl rfl) ?_
  refine l_nil ?_
  refine f_then ?_
  refine c_no rfl ?_
  refine c_exit ?_
  refine f_then_exit ?_
  refine f_then_exit ?_
  refine f_exit ?_
  refine f_then ?_
  refine c_seq ?_
  refine c_seq ?_
  refine c_region ?_
  refine l_val (v := .int .i64 (0)) rfl rfl rfl (e_assign) ?_
  refine l_nil ?_
  refine f_then ?_
  refine c_block ?_
  refine c_loop (fun (x_ : Unit) (f : Fm) (L : List Res) => match x_ with | () => (f 0 = .slice none 0 0 ∧ f 5 = .slice (some ⟨b1, 0, none⟩) 0 0 ∧ f 14 = .int .i64 (0)) ∧ L = [pt b1 (.cells #[] 129)] ∧ (True)) (fun (x_ : Unit) => match x_ with | () => 0) () ?_ ?_
  · exact ⟨⟨rfl, rfl, rfl⟩, rfl, trivial⟩
  rintro ⟨⟩ f0 L0 ⟨⟨hs0, hs5, hs14⟩, hL, -⟩
  subst L0
  refine rebase (d := 0) hs0 ?_
  refine rebase (d := 5) hs5 ?_
  refine rebase (d := 14) hs14 ?_
  clear hs0 hs5 hs14
  refine c_seq ?_
  refine c_seq ?_
  refine c_region ?_
  refine l_val (v := .int .i64 (0)) rfl rfl rfl (e_move) ?_
  refine l_val (v := .slice none 0 0) rfl rfl rfl (e_move) ?_
  refine l_val (v := .int .i64 (0)) rfl rfl rfl (e_len (n := 0) rfl tf109) ?_
  refine l_val (v := .bool false) rfl rfl rfl (e_lss (a := (0 : Int)) (b := (0 : Int)) rfl rfl) ?_
  refine l_nil ?_
  refine f_then ?_
  refine c_no rfl ?_
  refine c_exit ?_
  refine f_then_exit ?_
  refine f_then_exit ?_
  refine f_exit ?_
  refine f_then ?_
  refine c_seq ?_
  refine c_region ?_
  refine l_val (v := .bool true) rfl rfl rfl (e_assign) ?_
  refine l_nil ?_
  refine f_then ?_
  refine c_ret ?_
  refine ret1 Tryz.results49 (v := .bool true) rfl ?_
  intro w hw
  exact ⟨rfl, st_mask [false] rfl hw⟩
theorem flatBytes_nil (β : Base) (w : World) (hw : St β [] w) : Calls Tryz.prog 50 #[.slice none 0 0] w fun e w' => e = .returned (.bool true) ∧ St β [] w' := by
  refine enter (n := 193) Tryz.func50 rfl Tryz.ntmps50 rfl ?_ hw
  refine c_seq ?_
  refine c_region ?_
  refine l_val (v := .bool false) rfl rfl rfl (e_assign) ?_
  refine l_nil ?_
  refine f_then ?_
  refine c_seq ?_
  refine c_seq ?_
  refine c_region ?_
  refine l_val (v := .int .i64 (0)) rfl rfl rfl (e_assign) ?_
  refine l_nil ?_
  refine f_then ?_
  refine c_block ?_
  refine c_loop (fun (x_ : Unit) (f : Fm) (L : List Res) => match x_ with | () => (f 0 = .slice none 0 0 ∧ f 3 = .int .i64 (0)) ∧ L = [] ∧ (True)) (fun (x_ : Unit) => match x_ with | () => 0) () ?_ ?_
  · exact ⟨⟨rfl, rfl⟩, rfl, trivial⟩
  rintro ⟨⟩ f0 L0 ⟨⟨hs0, hs3⟩, hL, -⟩
  subst L0
  refine rebase (d := 0) hs0 ?_
  refine rebase (d := 3) hs3 ?_
  clear hs0 hs3
  refine c_seq ?_
  refine c_seq ?_
  refine c_region ?_
  refine l_val (v := .int .i64 (0)) rfl rfl rfl (e_move) ?_
  refine l_val (v := .slice none 0 0) rfl rfl rfl (e_move) ?_
  refine l_val (v := .int .i64 (0)) rfl rfl rfl (e_len (n := 0) rfl tf112) ?_
  refine l_val (v := .bool false) rfl rfl rfl (e_lss (a := (0 : Int)) (b := (0 : Int)) rfl rfl) ?_
  refine l_nil ?_
  refine f_then ?_
  refine c_no rfl ?_
  refine c_exit ?_
  refine f_then_exit ?_
  refine f_then_exit ?_
  refine f_exit ?_
  refine f_then ?_
  refine c_seq ?_
  refine c_region ?_
  refine l_val (v := .slice none 0 0) rfl rfl rfl (e_move) ?_
  refine l_val (v := .int .i64 (0)) rfl rfl rfl (e_len (n := 0) rfl tf112) ?_
  refine l_mv rfl rfl rfl (m_make00 tf113 rfl rfl) ?_
  rintro _ _ ⟨b1, rfl, rfl⟩
  refine l_val (v := .slice (some ⟨b1, 0, none⟩) 0 0) rfl rfl rfl (e_assign) ?_
  refine l_nil ?_
  refine f_then ?_
  refine c_seq ?_
  refine c_seq ?_
  refine c_region ?_
  refine l_val (v := .int .i64 (0)) rfl rfl rfl (e_assign) ?_
  refine l_nil ?_
  refine f_then ?_
  refine c_block ?_
  refine c_loop (fun (x_ : Unit) (f : Fm) (L : List Res) => match x_ with | () => (f 0 = .slice none 0 0 ∧ f 5 = .slice (some ⟨b1, 0, none⟩) 0 0 ∧ f 6 = .int .i64 (0)) ∧ L = [pt b1 (.cells #[] 40)] ∧ (True)) (fun (x_ : Unit) => match x_ with | () => 0) () ?_ ?_
  · exact ⟨⟨rfl, rfl, rfl⟩, rfl, trivial⟩
  rintro ⟨⟩ f0 L0 ⟨⟨hs0, hs5, hs6⟩, hL, -⟩
  subst L0
  refine rebase (d := 0) hs0 ?_
  refine rebase (d := 5) hs5 ?_
  refine rebase (d := 6) hs6 ?_
  clear hs0 hs5 hs6
  refine c_seq ?_
  refine c_seq ?_
  refine c_region ?_
  refine l_val (v := .int .i64 (0)) rfl rfl rfl (e_move) ?_
  refine l_val (v := .slice none 0 0) rfl rfl rfl (e_move) ?_
  refine l_val (v := .int .i64 (0)) rfl rfl rfl (e_len (n := 0) rfl tf112) ?_
  refine l_val (v := .bool false) rfl rfl rfl (e_lss (a := (0 : Int)) (b := (0 : Int)) rfl rfl) ?_
  refine l_nil ?_
  refine f_then ?_
  refine c_no rfl ?_
  refine c_exit ?_
  refine f_then_exit ?_
  refine f_then_exit ?_
  refine f_exit ?_
  refine f_then ?_
  refine c_seq ?_
  refine c_seq ?_
  refine c_region ?_
  refine l_val (v := .int .i64 (0)) rfl rfl rfl (e_assign) ?_
  refine l_nil ?_
  refine f_then ?_
  refine c_block ?_
  refine c_loop (fun (x_ : Unit) (f : Fm) (L : List Res) => match x_ with | () => (f 0 = .slice none 0 0 ∧ f 5 = .slice (some ⟨b1, 0, none⟩) 0 0 ∧ f 9 = .int .i64 (0)) ∧ L = [pt b1 (.cells #[] 40)] ∧ (True)) (fun (x_ : Unit) => match x_ with | () => 0) () ?_ ?_
  · exact ⟨⟨rfl, rfl, rfl⟩, rfl, trivial⟩
  rintro ⟨⟩ f0 L0 ⟨⟨hs0, hs5, hs9⟩, hL, -⟩
  subst L0
  refine rebase (d := 0) hs0 ?_
  refine rebase (d := 5) hs5 ?_
  refine rebase (d := 9) hs9 ?_
  clear hs0 hs5 hs9
  refine c_seq ?_
  refine c_seq ?_
  refine c_region ?_
  refine l_val (v := .int .i64 (0)) rfl rfl rfl (e_move) ?_
  refine l_val (v := .slice none 0 0) rfl rfl rfl (e_move) ?_
  refine l_val (v := .int .i64 (0)) rfl rfl rfl (e_len (n := 0) rfl tf112) ?_
  refine l_val (v := .bool false) rfl rfl rfl (e_lss (a := (0 : Int)) (b := (0 : Int)) rfl rfl) ?_
  refine l_nil ?_
  refine f_then ?_
  refine c_no rfl ?_
  refine c_exit ?_
  refine f_then_exit ?_
  refine f_then_exit ?_
  refine f_exit ?_
  refine f_then ?_
  refine c_seq ?_
  refine c_seq ?_
  refine c_region ?_
  refine l_val (v := .int .i64 (0)) rfl rfl rfl (e_assign) ?_
  refine l_nil ?_
  refine f_then ?_
  refine c_block ?_
  refine c_loop (fun (x_ : Unit) (f : Fm) (L : List Res) => match x_ with | () => (f 0 = .slice none 0 0 ∧ f 5 = .slice (some ⟨b1, 0, none⟩) 0 0 ∧ f 11 = .int .i64 (0)) ∧ L = [pt b1 (.cells #[] 40)] ∧ (True)) (fun (x_ : Unit) => match x_ with | () => 0) () ?_ ?_
  · exact ⟨⟨rfl, rfl, rfl⟩, rfl, trivial⟩
  rintro ⟨⟩ f0 L0 ⟨⟨hs0, hs5, hs11⟩, hL, -⟩
  subst L0
  refine rebase (d := 0) hs0 ?_
  refine rebase (d := 5) hs5 ?_
  refine rebase (d := 11) hs11 ?_
  clear hs0 hs5 hs11
  refine c_seq ?_
  refine c_seq ?_
  refine c_region ?_
  refine l_val (v := .int .i64 (0)) rfl rfl rfl (e_move) ?_
  refine l_val (v := .slice none 0 0) rfl rfl rfl (e_move) ?_
  refine l_val (v := .int .i64 (0)) rfl rfl rfl (e_len (n := 0) rfl tf112) ?_
  refine l_val (v := .bool false) rfl rfl rfl (e_lss (a := (0 : Int)) (b := (0 : Int)) rfl rfl) ?_
  refine l_nil ?_
  refine f_then ?_
  refine c_no rfl ?_
  refine c_exit ?_
  refine f_then_exit ?_
  refine f_then_exit ?_
  refine f_exit ?_
  refine f_then ?_
  refine c_seq ?_
  refine c_seq ?_
  refine c_region ?_
  refine l_val (v := .int .i64 (0)) rfl rfl rfl (e_assign) ?_
  refine l_nil ?_
  refine f_then ?_
  refine c_block ?_
  refine c_loop (fun (x_ : Unit) (f : Fm) (L : List Res) => match x_ with | () => (f 0 = .slice none 0 0 ∧ f 5 = .slice (some ⟨b1, 0, none⟩) 0 0 ∧ f 14 = .int .i64 (0)) ∧ L = [pt b1 (.cells #[] 40)] ∧ (True)) (fun (x_ : Unit) => match x_ with | () => 0) () ?_ ?_
  · exact ⟨⟨rfl, rfl, rfl⟩, rfl, trivial⟩
  rintro ⟨⟩ f0 L0 ⟨⟨hs0, hs5, hs14⟩, hL, -⟩
  subst L0
  refine rebase (d := 0) hs0 ?_
  refine rebase (d := 5) hs5 ?_
  refine rebase (d := 14) hs14 ?_
  clear hs0 hs5 hs14
  refine c_seq ?_
  refine c_seq ?_
  refine c_region ?_
  refine l_val (v := .int .i64 (0)) rfl rfl rfl (e_move) ?_
  refine l_val (v := .slice none 0 0) rfl rfl rfl (e_move) ?_
  refine l_val (v := .int .i64 (0)) rfl rfl rfl (e_len (n := 0) rfl tf112) ?_
  refine l_val (v := .bool false) rfl rfl rfl (e_lss (a := (0 : Int)) (b := (0 : Int)) rfl rfl) ?_
  refine l_nil ?_
  refine f_then ?_
  refine c_no rfl ?_
  refine c_exit ?_
  refine f_then_exit ?_
  refine f_then_exit ?_
  refine f_exit ?_
  refine f_then ?_
  refine c_seq ?_
  refine c_region ?_
  refine l_val (v := .bool true) rfl rfl rfl (e_assign) ?_
  refine l_nil ?_
  refine f_then ?_
  refine c_ret ?_
  refine ret1 Tryz.results50 (v := .bool true) rfl ?_
  intro w hw
  exact ⟨rfl, st_mask [false] rfl hw⟩
theorem flatComps_nil (β : Base) (w : World) (hw : St β [] w) : Calls Tryz.prog 51 #[.slice none 0 0] w fun e w' => e = .returned (.bool true) ∧ St β [] w' := by
  refine enter (n := 193) Tryz.func51 rfl Tryz.ntmps51 rfl ?_ hw
  refine c_seq ?_
  refine c_region ?_
  refine l_val (v := .bool false) rfl rfl rfl (e_assign) ?_
  refine l_nil ?_
  refine f_then ?_
  refine c_seq ?_
  refine c_seq ?_
  refine c_region ?_
  refine l_val (v := .int .i64 (0)) rfl rfl rfl (e_assign) ?_
  refine l_nil ?_
  refine f_then ?_
  refine c_block ?_
  refine c_loop (fun (x_ : Unit) (f : Fm) (L : List Res) => match x_ with | () => (f 0 = .slice none 0 0 ∧ f 3 = .int .i64 (0)) ∧ L = [] ∧ (True)) (fun (x_ : Unit) => match x_ with | () => 0) () ?_ ?_
  · exact ⟨⟨rfl, rfl⟩, rfl, trivial⟩
  rintro ⟨⟩ f0 L0 ⟨⟨hs0, hs3⟩, hL, -⟩
  subst L0
  refine rebase (d := 0) hs0 ?_
  refine rebase (d := 3) hs3 ?_
  clear hs0 hs3
  refine c_seq ?_
  refine c_seq ?_
  refine c_region ?_
  refine l_val (v := .int .i64 (0)) rfl rfl rfl (e_move) ?_
  refine l_val (v := .slice none 0 0) rfl rfl rfl (e_move) ?_
  refine l_val (v := .int .i64 (0)) rfl rfl rfl (e_len (n := 0) rfl tf115) ?_
  refine l_val (v := .bool false) rfl rfl rfl (e_lss (a := (0 : Int)) (b := (0 : Int)) rfl rfl) ?_
  refine l_nil ?_
  refine f_then ?_
  refine c_no rfl ?_
  refine c_exit ?_
  refine f_then_exit ?_
  refine f_then_exit ?_
  refine f_exit ?_
  refine f_then ?_
  refine c_seq ?_
  refine c_region ?_
  refine l_val (v := .slice none 0 0) rfl rfl rfl (e_move) ?_
  refine l_val (v := .int .i64 (0)) rfl rfl rfl (e_len (n := 0) rfl tf115) ?_
  refine l_mv rfl rfl rfl (m_make00 tf116 rfl rfl) ?_
  rintro _ _ ⟨b1, rfl, rfl⟩
  refine l_val (v := .slice (some ⟨b1, 0, none⟩) 0 0) rfl rfl rfl (e_assign) ?_
  refine l_nil ?_
  refine f_then ?_
  refine c_seq ?_
  refine c_seq ?_
  refine c_region ?_
  refine l_val (v := .int .i64 (0)) rfl rfl rfl (e_assign) ?_
  refine l_nil ?_
  refine f_then ?_
  refine c_block ?_
  refine c_loop (fun (x_ : Unit) (f : Fm) (L : List Res) => match x_ with | () => (f 0 = .slice none 0 0 ∧ f 5 = .slice (some ⟨b1, 0, none⟩) 0 0 ∧ f 6 = .int .i64 (0)) ∧ L = [pt b1 (.cells #[] 33)] ∧ (True)) (fun (x_ : Unit) => match x_ with | () => 0) () ?_ ?_
  · exact ⟨⟨rfl, rfl, rfl⟩, rfl, trivial⟩
  rintro ⟨⟩ f0 L0 ⟨⟨hs0, hs5, hs6⟩, hL, -⟩
  subst L0
  refine rebase (d := 0) hs0 ?_
  refine rebase (d := 5) hs5 ?_
  refine rebase (d := 6) hs6 ?_
  clear hs0 hs5 hs6
  refine c_seq ?_
  refine c_seq ?_
  refine c_region ?_
  refine l_val (v := .int .i64 (0)) rfl rfl rfl (e_move) ?_
  refine l_val (v := .slice none 0 0) rfl rfl rfl (e_move) ?_
  refine l_val (v := .int .i64 (0)) rfl rfl rfl (e_len (n := 0) rfl tf115) ?_
  refine l_val (v := .bool false) rfl rfl rfl (e_lss (a := (0 : Int)) (b := (0 : Int)) rfl rfl) ?_
  refine l_nil ?_
  refine f_then ?_
  refine c_no rfl ?_
  refine c_exit ?_
  refine f_then_exit ?_
  refine f_then_exit ?_
  refine f_exit ?_
  refine f_then ?_
  refine c_seq ?_
  refine c_seq ?_
  refine c_region ?_
  refine l_val (v := .int .i64 (0)) rfl rfl rfl (e_assign) ?_
  refine l_nil ?_
  refine f_then ?_
  refine c_block ?_
  refine c_loop (fun (x_ : Unit) (f : Fm) (L : List Res) => match x_ with | () => (f 0 = .slice none 0 0 ∧ f 5 = .slice (some ⟨b1, 0, none⟩) 0 0 ∧ f 9 = .int .i64 (0)) ∧ L = [pt b1 (.cells #[] 33)] ∧ (True)) (fun (x_ : Unit) => match x_ with | () => 0) () ?_ ?_
  · exact ⟨⟨rfl, rfl, rfl⟩, rfl, trivial⟩
  rintro ⟨⟩ f0 L0 ⟨⟨hs0, hs5, hs9⟩, hL, -⟩
  subst L0
  refine rebase (d := 0) hs0 ?_
  refine rebase (d := 5) hs5 ?_
  refine rebase (d := 9) hs9 ?_
  clear hs0 hs5 hs9
  refine c_seq ?_
  refine c_seq ?_
  refine c_region ?_
  refine l_val (v := .int .i64 (0)) rfl rfl rfl (e_move) ?_
  refine l_val (v := .slice none 0 0) rfl rfl rfl (e_move) ?_
  refine l_val (v := .int .i64 (0)) rfl rfl rfl (e_len (n := 0) rfl tf115) ?_
  refine l_val (v := .bool false) rfl rfl rfl (e_lss (a := (0 : Int)) (b := (0 : Int)) rfl rfl) ?_
  refine l_nil ?_
  refine f_then ?_
  refine c_no rfl ?_
  refine c_exit ?_
  refine f_then_exit ?_
  refine f_then_exit ?_
  refine f_exit ?_
  refine f_then ?_
  refine c_seq ?_
  refine c_seq ?_
  refine c_region ?_
  refine l_val (v := .int .i64 (0)) rfl rfl rfl (e_assign) ?_
  refine l_nil ?_
  refine f_then ?_
  refine c_block ?_
  refine c_loop (fun (x_ : Unit) (f : Fm) (L : List Res) => match x_ with | () => (f 0 = .slice none 0 0 ∧ f 5 = .slice (some ⟨b1, 0, none⟩) 0 0 ∧ f 11 = .int .i64 (0)) ∧ L = [pt b1 (.cells #[] 33)] ∧ (True)) (fun (x_ : Unit) => match x_ with | () => 0) () ?_ ?_
  · exact ⟨⟨rfl, rfl, rfl⟩, rfl, trivial⟩
  rintro ⟨⟩ f0 L0 ⟨⟨hs0, hs5, hs11⟩, hL, -⟩
  subst L0
  refine rebase (d := 0) hs0 ?_
  refine rebase (d := 5) hs5 ?_
  refine rebase (d := 11) hs11 ?_
  clear hs0 hs5 hs11
  refine c_seq ?_
  refine c_seq ?_
  refine c_region ?_
  refine l_val (v := .int .i64 (0)) rfl rfl rfl (e_move) ?_
  refine l_val (v := .slice none 0 0) rfl rfl rfl (e_move) ?_
  refine l_val (v := .int .i64 (0)) rfl rfl rfl (e_len (n := 0) rfl tf115) ?_
  refine l_val (v := .bool false) rfl rfl rfl (e_lss (a := (0 : Int)) (b := (0 : Int)) rfl rfl) ?_
  refine l_nil ?_
  refine f_then ?_
  refine c_no rfl ?_
  refine c_exit ?_
  refine f_then_exit ?_
  refine f_then_exit ?_
  refine f_exit ?_
  refine f_then ?_
  refine c_seq ?_
  refine c_seq ?_
  refine c_region ?_
  refine l_val (v := .int .i64 (0)) rfl rfl rfl (e_assign) ?_
  refine l_nil ?_
  refine f_then ?_
  refine c_block ?_
  refine c_loop (fun (x_ : Unit) (f : Fm) (L : List Res) => match x_ with | () => (f 0 = .slice none 0 0 ∧ f 5 = .slice (some ⟨b1, 0, none⟩) 0 0 ∧ f 14 = .int .i64 (0)) ∧ L = [pt b1 (.cells #[] 33)] ∧ (True)) (fun (x_ : Unit) => match x_ with | () => 0) () ?_ ?_
  · exact ⟨⟨rfl, rfl, rfl⟩, rfl, trivial⟩
  rintro ⟨⟩ f0 L0 ⟨⟨hs0, hs5, hs14⟩, hL, -⟩
  subst L0
  refine rebase (d := 0) hs0 ?_
  refine rebase (d := 5) hs5 ?_
  refine rebase (d := 14) hs14 ?_
  clear hs0 hs5 hs14
  refine c_seq ?_
  refine c_seq ?_
  refine c_region ?_
  refine l_val (v := .int .i64 (0)) rfl rfl rfl (e_move) ?_
  refine l_val (v := .slice none 0 0) rfl rfl rfl (e_move) ?_
  refine l_val (v := .int .i64 (0)) rfl rfl rfl (e_len (n := 0) rfl tf115) ?_
  refine l_val (v := .bool false) rfl rfl rfl (e_lss (a := (0 : Int)) (b := (0 : Int)) rfl rfl) ?_
  refine l_nil ?_
  refine f_then ?_
  refine c_no rfl ?_
  refine c_exit ?_
  refine f_then_exit ?_
  refine f_then_exit ?_
  refine f_exit ?_
  refine f_then ?_
  refine c_seq ?_
  refine c_region ?_
  refine l_val (v := .bool true) rfl rfl rfl (e_assign) ?_
  refine l_nil ?_
  refine f_then ?_
  refine c_ret ?_
  refine ret1 Tryz.results51 (v := .bool true) rfl ?_
  intro w hw
  exact ⟨rfl, st_mask [false] rfl hw⟩
theorem flatEntities_nil (β : Base) (w : World) (hw : St β [] w) : Calls Tryz.prog 52 #[.slice none 0 0] w fun e w' => e = .returned (.bool true) ∧ St β [] w' := by
  refine enter (n := 193) Tryz.func52 rfl Tryz.ntmps52 rfl ?_ hw
  refine c_seq ?_
  refine c_region ?_
  refine l_val (v := .bool false) rfl rfl rfl (e_assign) ?_
  refine l_nil ?_
  refine f_then ?_
  refine c_seq ?_
  refine c_seq ?_
  refine c_region ?_
  refine l_val (v := .int .i64 (0)) rfl rfl rfl (e_assign) ?_
  refine l_nil ?_
  refine f_then ?_
  refine c_block ?_
  refine c_loop (fun (x_ : Unit) (f : Fm) (L : List Res) => match x_ with | () => (f 0 = .slice none 0 0 ∧ f 3 = .int .i64 (0)) ∧ L = [] ∧ (True)) (fun (x_ : Unit) => match x_ with | () => 0) () ?_ ?_
  · exact ⟨⟨rfl, rfl⟩, rfl, trivial⟩
  rintro ⟨⟩ f0 L0 ⟨⟨hs0, hs3⟩, hL, -⟩
  subst L0
  refine rebase (d := 0) hs0 ?_
  refine rebase (d := 3) hs3 ?_
  clear hs0 hs3
  refine c_seq ?_
  refine c_seq ?_
  refine c_region ?_
  refine l_val (v := .int .i64 (0)) rfl rfl rfl (e_move) ?_
  refine l_val (v := .slice none 0 0) rfl rfl rfl (e_move) ?_
  refine l_val (v := .int .i64 (0)) rfl rfl rfl (e_len (n := 0) rfl tf118) ?_
  refine l_val (v := .bool false) rfl rfl rfl (e_lss (a := (0 : Int)) (b := (0 : Int)) rfl rfl) ?_
  refine l_nil ?_
  refine f_then ?_
  refine c_no rfl ?_
  refine c_exit ?_
  refine f_then_exit ?_
  refine f_then_exit ?_
  refine f_exit ?_
  refine f_then ?_
  refine c_seq ?_
  refine c_region ?_
  refine l_val (v := .slice none 0 0) rfl rfl rfl (e_move) ?_
  refine l_val (v := .int .i64 (0)) rfl rfl rfl (e_len (n := 0) rfl tf118) ?_
  refine l_mv rfl rfl rfl (m_make00 tf119 rfl rfl) ?_
  rintro _ _ ⟨b1, rfl, rfl⟩
  refine l_val (v := .slice (some ⟨b1, 0, none⟩) 0 0) rfl rfl rfl (e_assign) ?_
  refine l_nil ?_
  refine f_then ?_
  refine c_seq ?_
  refine c_seq ?_
  refine c_region ?_
  refine l_val (v := .int .i64 (0)) rfl rfl rfl (e_assign) ?_
  refine l_nil ?_
  refine f_then ?_
  refine c_block ?_
  refine c_loop (fun (x_ : Unit) (f : Fm) (L : List Res) => match x_ with | () => (f 0 = .slice none 0 0 ∧ f 5 = .slice (some ⟨b1, 0, none⟩) 0 0 ∧ f 6 = .int .i64 (0)) ∧ L = [pt b1 (.cells #[] 22)] ∧ (True)) (fun (x_ : Unit) => match x_ with | () => 0) () ?_ ?_
  · exact ⟨⟨rfl, rfl, rfl⟩, rfl, trivial⟩
  rintro ⟨⟩ f0 L0 ⟨⟨hs0, hs5, hs6⟩, hL, -⟩
  subst L0
  refine rebase (d := 0) hs0 ?_
  refine rebase (d := 5) hs5 ?_
  refine rebase (d := 6) hs6 ?_
  clear hs0 hs5 hs6
  refine c_seq ?_
  refine c_seq ?_
  refine c_region ?_
  refine l_val (v := .int .i64 (0)) rfl rfl rfl (e_move) ?_
  refine l_val (v := .slice none 0 0) rfl rfl rfl (e_move) ?_
  refine l_val (v := .int .i64 (0)) rfl rfl rfl (e_len (n := 0) rfl tf118) ?_
  refine l_val (v := .bool false) rfl rfl rfl (e_lss (a := (0 : Int)) (b := (0 : Int)) rfl rfl) ?_
  refine l_nil ?_
  refine f_then ?_
  refine c_no rfl ?_
  refine c_exit ?_
  refine f_then_exit ?_
  refine f_then_exit ?_
  refine f_exit ?_
  refine f_then ?_
  refine c_seq ?_
  refine c_seq ?_
  refine c_region ?_
  refine l_val (v := .int .i64 (0)) rfl rfl rfl (e_assign) ?_
  refine l_nil ?_
  refine f_then ?_
  refine c_block ?_
  refine c_loop (fun (x_ : Unit) (f : Fm) (L : List Res) => match x_ with | () => (f 0 = .slice none 0 0 ∧ f 5 = .slice (some ⟨b1, 0, none⟩) 0 0 ∧ f 9 = .int .i64 (0)) ∧ L = [pt b1 (.cells #[] 22)] ∧ (True)) (fun (x_ : Unit) => match x_ with | () => 0) () ?_ ?_
  · exact ⟨⟨rfl, rfl, rfl⟩, rfl, trivial⟩
  rintro ⟨⟩ f0 L0 ⟨⟨hs0, hs5, hs9⟩, hL, -⟩
  subst L0
  refine rebase (d := 0) hs0 ?_
  refine rebase (d := 5) hs5 ?_
  refine rebase (d := 9) hs9 ?_
  clear hs0 hs5 hs9
  refine c_seq ?_
  refine c_seq ?_
  refine c_region ?_
  refine l_val (v := .int .i64 (0)) rfl rfl rfl (e_move) ?_
  refine l_val (v := .slice none 0 0) rfl rfl rfl (e_move) ?_
  refine l_val (v := .int .i64 (0)) rfl rfl rfl (e_len (n := 0) rfl tf118) ?_
  refine l_val (v := .bool false) rfl rfl rfl (e_lss (a := (0 : Int)) (b := (0 : Int)) rfl rfl) ?_
  refine l_nil ?_
  refine f_then ?_
  refine c_no rfl ?_
  refine c_exit ?_
  refine f_then_exit ?_
  refine f_then_exit ?_
  refine f_exit ?_
  refine f_then ?_
  refine c_seq ?_
  refine c_seq ?_
  refine c_region ?_
  refine l_val (v := .int .i64 (0)) rfl rfl rfl (e_assign) ?_
  refine l_nil ?_
  refine f_then ?_
  refine c_block ?_
  refine c_loop (fun (x_ : Unit) (f : Fm) (L : List Res) => match x_ with | () => (f 0 = .slice none 0 0 ∧ f 5 = .slice (some ⟨b1, 0, none⟩) 0 0 ∧ f 11 = .int .i64 (0)) ∧ L = [pt b1 (.cells #[] 22)] ∧ (True)) (fun (x_ : Unit) => match x_ with | () => 0) () ?_ ?_
  · exact ⟨⟨rfl, rfl, rfl⟩, rfl, trivial⟩
  rintro ⟨⟩ f0 L0 ⟨⟨hs0, hs5, hs11⟩, hL, -⟩
  subst L0
  refine rebase (d := 0) hs0 ?_
  refine rebase (d := 5) hs5 ?_
  refine rebase (d := 11) hs11 ?_
  clear hs0 hs5 hs11
  refine c_seq ?_
  refine c_seq ?_
  refine c_region ?_
  refine l_val (v := .int .i64 (0)) rfl rfl rfl (e_move) ?_
  refine l_val (v := .slice none 0 0) rfl rfl rfl (e_move) ?_
  refine l_val (v := .int .i64 (0)) rfl rfl rfl (e_len (n := 0) rfl tf118) ?_
  refine l_val (v := .bool false) rfl rfl rfl (e_lss (a := (0 : Int)) (b := (0 : Int)) rfl rfl) ?_
  refine l_nil ?_
  refine f_then ?_
  refine c_no rfl ?_
  refine c_exit ?_
  refine f_then_exit ?_
  refine f_then_exit ?_
  refine f_exit ?_
  refine f_then ?_
  refine c_seq ?_
  refine c_seq ?_
  refine c_region ?_
  refine l_val (v := .int .i64 (0)) rfl rfl rfl (e_assign) ?_
  refine l_nil ?_
  refine f_then ?_
  refine c_block ?_
  refine c_loop (fun (x_ : Unit) (f : Fm) (L : List Res) => match x_ with | () => (f 0 = .slice none 0 0 ∧ f 5 = .slice (some ⟨b1, 0, none⟩) 0 0 ∧ f 14 = .int .i64 (0)) ∧ L = [pt b1 (.cells #[] 22)] ∧ (True)) (fun (x_ : Unit) => match x_ with | () => 0) () ?_ ?_
  · exact ⟨⟨rfl, rfl, rfl⟩, rfl, trivial⟩
  rintro ⟨⟩ f0 L0 ⟨⟨hs0, hs5, hs14⟩, hL, -⟩
  subst L0
  refine rebase (d := 0) hs0 ?_
  refine rebase (d := 5) hs5 ?_
  refine rebase (d := 14) hs14 ?_
  clear hs0 hs5 hs14
  refine c_seq ?_
  refine c_seq ?_
  refine c_region ?_
  refine l_val (v := .int .i64 (0)) rfl rfl rfl (e_move) ?_
  refine l_val (v := .slice none 0 0) rfl rfl rfl (e_move) ?_
  refine l_val (v := .int .i64 (0)) rfl rfl rfl (e_len (n := 0) rfl tf118) ?_
  refine l_val (v := .bool false) rfl rfl rfl (e_lss (a := (0 : Int)) (b := (0 : Int)) rfl rfl) ?_
  refine l_nil ?_
  refine f_then ?_
  refine c_no rfl ?_
  refine c_exit ?_
  refine f_then_exit ?_
  refine f_then_exit ?_
  refine f_exit ?_
  refine f_then ?_
  refine c_seq ?_
  refine c_region ?_
  refine l_val (v := .bool true) rfl rfl rfl (e_assign) ?_
  refine l_nil ?_
  refine f_then ?_
  refine c_ret ?_
  refine ret1 Tryz.results52 (v := .bool true) rfl ?_
  intro w hw
  exact ⟨rfl, st_mask [false] rfl hw⟩
theorem flatWorlds_nil (β : Base) (w : World) (hw : St β [] w) : Calls Tryz.prog 53 #[.slice none 0 0] w fun e w' => e = .returned (.bool true) ∧ St β [] w' := by
  refine enter (n := 193) Tryz.func53 rfl Tryz.ntmps53 rfl ?_ hw
  refine c_seq ?_
  refine c_region ?_
  refine l_val (v := .bool false) rfl rfl rfl (e_assign) ?_
  refine l_nil ?_
  refine f_then ?_
  refine c_seq ?_
  refine c_seq ?_
  refine c_region ?_
  refine l_val (v := .int .i64 (0)) rfl rfl rfl (e_assign) ?_
  refine l_nil ?_
  refine f_then ?_
  refine c_block ?_
  refine c_loop (fun (x_ : Unit) (f : Fm) (L : List Res) => match x_ with | () => (f 0 = .slice none 0 0 ∧ f 3 = .int .i64 (0)) ∧ L = [] ∧ (True)) (fun (x_ : Unit) => match x_ with | () => 0) () ?_ ?_
  · exact ⟨⟨rfl, rfl⟩, rfl, trivial⟩
  rintro ⟨⟩ f0 L0 ⟨⟨hs0, hs3⟩, hL, -⟩
  subst L0
  refine rebase (d := 0) hs0 ?_
  refine rebase (d := 3) hs3 ?_
  clear hs0 hs3
  refine c_seq ?_
  refine c_seq ?_
  refine c_region ?_
  refine l_val (v := .int .i64 (0)) rfl rfl rfl (e_move) ?_
  refine l_val (v := .slice none 0 0) rfl rfl rfl (e_move) ?_
  refine l_val (v := .int .i64 (0)) rfl rfl rfl (e_len (n := 0) rfl tf121) ?_
  refine l_val (v := .bool false) rfl rfl rfl (e_lss (a := (0 : Int)) (b := (0 : Int)) rfl rfl) ?_
  refine l_nil ?_
  refine f_then ?_
  refine c_no rfl ?_
  refine c_exit ?_
  refine f_then_exit ?_
  refine f_then_exit ?_
  refine f_exit ?_
  refine f_then ?_
  refine c_seq ?_
  refine c_region ?_
  refine l_val (v := .slice none 0 0) rfl rfl rfl (e_move) ?_
  refine l_val (v := .int .i64 (0)) rfl rfl rfl (e_len (n := 0) rfl tf121) ?_
  refine l_mv rfl rfl rfl (m_make00 tf122 rfl rfl) ?_
  rintro _ _ ⟨b1, rfl, rfl⟩
  refine l_val (v := .slice (some ⟨b1, 0, none⟩) 0 0) rfl rfl rfl (e_assign) ?_
  refine l_nil ?_
  refine f_then ?_
  refine c_seq ?_
  refine c_seq ?_
  refine c_region ?_
  refine l_val (v := .int .i64 (0)) rfl rfl rfl (e_assign) ?_
  refine l_nil ?_
  refine f_then ?_
  refine c_block ?_
  refine c_loop (fun (x_ : Unit) (f : Fm) (L : List Res) => match x_ with | () => (f 0 = .slice none 0 0 ∧ f 5 = .slice (some ⟨b1, 0, none⟩) 0 0 ∧ f 6 = .int .i64 (0)) ∧ L = [pt b1 (.cells #[] 45)] ∧ (True)) (fun (x_ : Unit) => match x_ with | () => 0) () ?_ ?_
  · exact ⟨⟨rfl, rfl, rfl⟩, rfl, trivial⟩
  rintro ⟨⟩ f0 L0 ⟨⟨hs0, hs5, hs6⟩, hL, -⟩
  subst L0
  refine rebase (d := 0) hs0 ?_
  refine rebase (d := 5) hs5 ?_
  refine rebase (d := 6) hs6 ?_
  clear hs0 hs5 hs6
  refine c_seq ?_
  refine c_seq ?_
  refine c_region ?_
  refine l_val (v := .int .i64 (0)) rfl rfl rfl (e_move) ?_
  refine l_val (v := .slice none 0 0) rfl rfl rfl (e_move) ?_
  refine l_val (v := .int .i64 (0)) rfl rfl rfl (e_len (n := 0) rfl tf121) ?_
  refine l_val (v := .bool false) rfl rfl rfl (e_lss (a := (0 : Int)) (b := (0 : Int)) rfl rfl) ?_
  refine l_nil ?_
  refine f_then ?_
  refine c_no rfl ?_
  refine c_exit ?_
  refine f_then_exit ?_
  refine f_then_exit ?_
  refine f_exit ?_
  refine f_then ?_
  refine c_seq ?_
  refine c_seq ?_
  refine c_region ?_
  refine l_val (v := .int .i64 (0)) rfl rfl rfl (e_assign) ?_
  refine l_nil ?_
  refine f_then ?_
  refine c_block ?_
  refine c_loop (fun (x_ : Unit) (f : Fm) (L : List Res) => match x_ with | () => (f 0 = .slice none 0 0 ∧ f 5 = .slice (some ⟨b1, 0, none⟩) 0 0 ∧ f 9 = .int .i64 (0)) ∧ L = [pt b1 (.cells #[] 45)] ∧ (True)) (fun (x_ : Unit) => match x_ with | () => 0) () ?_ ?_
  · exact ⟨⟨rfl, rfl, rfl⟩, rfl, trivial⟩
  rintro ⟨⟩ f0 L0 ⟨⟨hs0, hs5, hs9⟩, hL, -⟩
  subst L0
  refine rebase (d := 0) hs0 ?_
  refine rebase (d := 5) hs5 ?_
  refine rebase (d := 9) hs9 ?_
  clear hs0 hs5 hs9
  refine c_seq ?_
  refine c_seq ?_
  refine c_region ?_
  refine l_val (v := .int .i64 (0)) rfl rfl rfl (e_move) ?_
  refine l_val (v := .slice none 0 0) rfl rfl rfl (e_move) ?_
  refine l_val (v := .int .i64 (0)) rfl rfl rfl (e_len (n := 0) rfl tf121) ?_
  refine l_val (v := .bool false) rfl rfl rfl (e_lss (a := (0 : Int)) (b := (0 : Int)) rfl rfl) ?_
  refine l_nil ?_
  refine f_then ?_
  refine c_no rfl ?_
  refine c_exit ?_
  refine f_then_exit ?_
  refine f_then_exit ?_
  refine f_exit ?_
  refine f_then ?_
  refine c_seq ?_
  refine c_seq ?_
  refine c_region ?_
  refine l_val (v := .int .i64 (0)) rfl rfl rfl (e_assign) ?_
  refine l_nil ?_
  refine f_then ?_
  refine c_block ?_
  refine c_loop (fun (x_ : Unit) (f : Fm) (L : List Res) => match x_ with | () => (f 0 = .slice none 0 0 ∧ f 5 = .slice (some ⟨b1, 0, none⟩) 0 0 ∧ f 11 = .int .i64 (0)) ∧ L = [pt b1 (.cells #[] 45)] ∧ (True)) (fun (x_ : Unit) => match x_ with | () => 0) () ?_ ?_
  · exact ⟨⟨rfl, rfl, rfl⟩, rfl, trivial⟩
  rintro ⟨⟩ f0 L0 ⟨⟨hs0, hs5, hs11⟩, hL, -⟩
  subst L0
  refine rebase (d := 0) hs0 ?_
  refine rebase (d := 5) hs5 ?_
  refine rebase (d := 11) hs11 ?_
  clear hs0 hs5 hs11
  refine c_seq ?_
  refine c_seq ?_
  refine c_region ?_
  refine l_val (v := .int .i64 (0)) rfl rfl rfl (e_move) ?_
  refine l_val (v := .slice none 0 0) rfl rfl rfl (e_move) ?_
  refine l_val (v := .int .i64 (0)) rfl rfl rfl (e_len (n := 0) rfl tf121) ?_
  refine l_val (v := .bool false) rfl rfl rfl (e_lss (a := (0 : Int)) (b := (0 : Int)) rfl rfl) ?_
  refine l_nil ?_
  refine f_then ?_
  refine c_no rfl ?_
  refine c_exit ?_
  refine f_then_exit ?_
  refine f_then_exit ?_
  refine f_exit ?_
  refine f_then ?_
  refine c_seq ?_
  refine c_seq ?_
  refine c_region ?_
  refine l_val (v := .int .i64 (0)) rfl rfl rfl (e_assign) ?_
  refine l_nil ?_
  refine f_then ?_
  refine c_block ?_
  refine c_loop (fun (x_ : Unit) (f : Fm) (L : List Res) => match x_ with | () => (f 0 = .slice none 0 0 ∧ f 5 = .slice (some ⟨b1, 0, none⟩) 0 0 ∧ f 14 = .int .i64 (0)) ∧ L = [pt b1 (.cells #[] 45)] ∧ (True)) (fun (x_ : Unit) => match x_ with | () => 0) () ?_ ?_
  · exact ⟨⟨rfl, rfl, rfl⟩, rfl, trivial⟩
  rintro ⟨⟩ f0 L0 ⟨⟨hs0, hs5, hs14⟩, hL, -⟩
  subst L0
  refine rebase (d := 0) hs0 ?_
  refine rebase (d := 5) hs5 ?_
  refine rebase (d := 14) hs14 ?_
  clear hs0 hs5 hs14
  refine c_seq ?_
  refine c_seq ?_
  refine c_region ?_
  refine l_val (v := .int .i64 (0)) rfl rfl rfl (e_move) ?_
  refine l_val (v := .slice none 0 0) rfl rfl rfl (e_move) ?_
  refine l_val (v := .int .i64 (0)) rfl rfl rfl (e_len (n := 0) rfl tf121) ?_
  refine l_val (v := .bool false) rfl rfl rfl (e_lss (a := (0 : Int)) (b := (0 : Int)) rfl rfl) ?_
  refine l_nil ?_
  refine f_then ?_
  refine c_no rfl ?_
  refine c_exit ?_
  refine f_then_exit ?_
  refine f_then_exit ?_
  refine f_exit ?_
  refine f_then ?_
  refine c_seq ?_
  refine c_region ?_
  refine l_val (v := .bool true) rfl rfl rfl (e_assign) ?_
  refine l_nil ?_
  refine f_then ?_
  refine c_ret ?_
  refine ret1 Tryz.results53 (v := .bool true) rfl ?_
  intro w hw
  exact ⟨rfl, st_mask [false] rfl hw⟩
theorem flatVecs_nil (β : Base) (w : World) (hw : St β [] w) : Calls Tryz.prog 54 #[.slice none 0 0] w fun e w' => e = .returned (.bool true) ∧ St β [] w' := by
  refine enter (n := 193) Tryz.func54 rfl Tryz.ntmps54 rfl ?_ hw
  refine c_seq ?_
  refine c_region ?_
  refine l_val (v := .bool false) rfl rfl rfl (e_assign) ?_
  refine l_nil ?_
  refine f_then ?_
  refine c_seq ?_
  refine c_seq ?_
  refine c_region ?_
  refine l_val (v := .int .i64 (0)) rfl rfl rfl (e_assign) ?_
  refine l_nil ?_
  refine f_then ?_
  refine c_block ?_
  refine c_loop (fun (x_ : Unit) (f : Fm) (L : List Res) => match x_ with | () => (f 0 = .slice none 0 0 ∧ f 3 = .int .i64 (0)) ∧ L = [] ∧ (True)) (fun (x_ : Unit) => match x_ with | () => 0) () ?_ ?_
  · exact ⟨⟨rfl, rfl⟩, rfl, trivial⟩
  rintro ⟨⟩ f0 L0 ⟨⟨hs0, hs3⟩, hL, -⟩
  subst L0
  refine rebase (d := 0) hs0 ?_
  refine rebase (d := 3) hs3 ?_
  clear hs0 hs3
  refine c_seq ?_
  refine c_seq ?_
  refine c_region ?_
  refine l_val (v := .int .i64 (0)) rfl rfl rfl (e_move) ?_
  refine l_val (v := .slice none 0 0) rfl rfl rfl (e_move) ?_
  refine l_val (v := .int .i64 (0)) rfl rfl rfl (e_len (n := 0) rfl tf124) ?_
  refine l_val (v := .bool false) rfl rfl rfl (e_lss (a := (0 : Int)) (b := (0 : Int)) rfl rfl) ?_
  refine l_nil ?_
  refine f_then ?_
  refine c_no rfl ?_
  refine c_exit ?_
  refine f_then_exit ?_
  refine f_then_exit ?_
  refine f_exit ?_
  refine f_then ?_
  refine c_seq ?_
  refine c_region ?_
  refine l_val (v := .slice none 0 0) rfl rfl rfl (e_move) ?_
  refine l_val (v := .int .i64 (0)) rfl rfl rfl (e_len (n := 0) rfl tf124) ?_
  refine l_mv rfl rfl rfl (m_make00 tf125 rfl rfl) ?_
  rintro _ _ ⟨b1, rfl, rfl⟩
  refine l_val (v := .slice (some ⟨b1, 0, none⟩) 0 0) rfl rfl rfl (e_assign) ?_
  refine l_nil ?_
  refine f_then ?_
  refine c_seq ?_
  refine c_seq ?_
  refine c_region ?_
  refine l_val (v := .int .i64 (0)) rfl rfl rfl (e_assign) ?_
  refine l_nil ?_
  refine f_then ?_
  refine c_block ?_
  refine c_loop (fun (x_ : Unit) (f : Fm) (L : List Res) => match x_ with | () => (f 0 = .slice none 0 0 ∧ f 5 = .slice (some ⟨b1, 0, none⟩) 0 0 ∧ f 6 = .int .i64 (0)) ∧ L = [pt b1 (.cells #[] 134)] ∧ (True)) (fun (x_ : Unit) => match x_ with | () => 0) () ?_ ?_
  · exact ⟨⟨rfl, rfl, rfl⟩, rfl, trivial⟩
  rintro ⟨⟩ f0 L0 ⟨⟨hs0, hs5, hs6⟩, hL, -⟩
  subst L0
  refine rebase (d := 0) hs0 ?_
  refine rebase (d := 5) hs5 ?_
  refine rebase (d := 6) hs6 ?_
  clear hs0 hs5 hs6
  refine c_seq ?_
  refine c_seq ?_
  refine c_region ?_
  refine l_val (v := .int .i64 (0)) rfl rfl rfl (e_move) ?_
  refine l_val (v := .slice none 0 0) rfl rfl rfl (e_move) ?_
  refine l_val (v := .int .i64 (0)) rfl rfl rfl (e_len (n := 0) rfl tf124) ?_
  refine l_val (v := .bool false) rfl rfl rfl (e_lss (a := (0 : Int)) (b := (0 : Int)) rfl rfl) ?_
  refine l_nil ?_
  refine f_then ?_
  refine c_no rfl ?_
  refine c_exit ?_
  refine f_then_exit ?_
  refine f_then_exit ?_
  refine f_exit ?_
  refine f_then ?_
  refine c_seq ?_
  refine c_seq ?_
  refine c_region ?_
  refine l_val (v := .int .i64 (0)) rfl rfl rfl (e_assign) ?_
  refine l_nil ?_
  refine f_then ?_
  refine c_block ?_
  refine c_loop (fun (x_ : Unit) (f : Fm) (L : List Res) => match x_ with | () => (f 0 = .slice none 0 0 ∧ f 5 = .slice (some ⟨b1, 0, none⟩) 0 0 ∧ f 9 = .int .i64 (0)) ∧ L = [pt b1 (.cells #[] 134)] ∧ (True)) (fun (x_ : Unit) => match x_ with | () => 0) () ?_ ?_
  · exact ⟨⟨rfl, rfl, rfl⟩, rfl, trivial⟩
  rintro ⟨⟩ f0 L0 ⟨⟨hs0, hs5, hs9⟩, hL, -⟩
  subst L0
  refine rebase (d := 0) hs0 ?_
  refine rebase (d := 5) hs5 ?_
  refine rebase (d := 9) hs9 ?_
  clear hs0 hs5 hs9
  refine c_seq ?_
  refine c_seq ?_
  refine c_region ?_
  refine l_val (v := .int .i64 (0)) rfl rfl rfl (e_move) ?_
  refine l_val (v := .slice none 0 0) rfl rfl rfl (e_move) ?_
  refine l_val (v := .int .i64 (0)) rfl rfl rfl (e_len (n := 0) rfl tf124) ?_
  refine l_val (v := .bool false) rfl rfl rfl (e_lss (a := (0 : Int)) (b := (0 : Int)) rfl rfl) ?_
  refine l_nil ?_
  refine f_then ?_
  refine c_no rfl ?_
  refine c_exit ?_
  refine f_then_exit ?_
  refine f_then_exit ?_
  refine f_exit ?_
  refine f_then ?_
  refine c_seq ?_
  refine c_seq ?_
  refine c_region ?_
  refine l_val (v := .int .i64 (0)) rfl rfl rfl (e_assign) ?_
  refine l_nil ?_
  refine f_then ?_
  refine c_block ?_
  refine c_loop (fun (x_ : Unit) (f : Fm) (L : List Res) => match x_ with | () => (f 0 = .slice none 0 0 ∧ f 5 = .slice (some ⟨b1, 0, none⟩) 0 0 ∧ f 11 = .int .i64 (0)) ∧ L = [pt b1 (.cells #[] 134)] ∧ (True)) (fun (x_ : Unit) => match x_ with | () => 0) () ?_ ?_
  · exact ⟨⟨rfl, rfl, rfl⟩, rfl, trivial⟩
  rintro ⟨⟩ f0 L0 ⟨⟨hs0, hs5, hs11⟩, hL, -⟩
  subst L0
  refine rebase (d := 0) hs0 ?_
  refine rebase (d := 5) hs5 ?_
  refine rebase (d := 11) hs11 ?_
  clear hs0 hs5 hs11
  refine c_seq ?_
  refine c_seq ?_
  refine c_region ?_
  refine l_val (v := .int .i64 (0)) rfl rfl rfl (e_move) ?_
  refine l_val (v := .slice none 0 0) rfl rfl rfl (e_move) ?_
  refine l_val (v := .int .i64 (0)) rfl rfl rfl (e_len (n := 0) rfl tf124) ?_
  refine l_val (v := .bool false) rfl rfl rfl (e_lss (a := (0 : Int)) (b := (0 : Int)) rfl rfl) ?_
  refine l_nil ?_
  refine f_then ?_
  refine c_no rfl ?_
  refine c_exit ?_
  refine f_then_exit ?_
  refine f_then_exit ?_
  refine f_exit ?_
  refine f_then ?_
  refine c_seq ?_
  refine c_seq ?_
  refine c_region ?_
  refine l_val (v := .int .i64 (0)) rfl rfl rfl (e_assign) ?_
  refine l_nil ?_
  refine f_then ?_
  refine c_block ?_
  refine c_loop (fun (x_ : Unit) (f : Fm) (L : List Res) => match x_ with | () => (f 0 = .slice none 0 0 ∧ f 5 = .slice (some ⟨b1, 0, none⟩) 0 0 ∧ f 14 = .int .i64 (0)) ∧ L = [pt b1 (.cells #[] 134)] ∧ (True)) (fun (x_ : Unit) => match x_ with | () => 0) () ?_ ?_
  · exact ⟨⟨rfl, rfl, rfl⟩, rfl, trivial⟩
  rintro ⟨⟩ f0 L0 ⟨⟨hs0, hs5, hs14⟩, hL, -⟩
  subst L0
  refine rebase (d := 0) hs0 ?_
  refine rebase (d := 5) hs5 ?_
  refine rebase (d := 14) hs14 ?_
  clear hs0 hs5 hs14
  refine c_seq ?_
  refine c_seq ?_
  refine c_region ?_
  refine l_val (v := .int .i64 (0)) rfl rfl rfl (e_move) ?_
  refine l_val (v := .slice none 0 0) rfl rfl rfl (e_move) ?_
  refine l_val (v := .int .i64 (0)) rfl rfl rfl (e_len (n := 0) rfl tf124) ?_
  refine l_val (v := .bool false) rfl rfl rfl (e_lss (a := (0 : Int)) (b := (0 : Int)) rfl rfl) ?_
  refine l_nil ?_
  refine f_then ?_
  refine c_no rfl ?_
  refine c_exit ?_
  refine f_then_exit ?_
  refine f_then_exit ?_
  refine f_exit ?_
  refine f_then ?_
  refine c_seq ?_
  refine c_region ?_
  refine l_val (v := .bool true) rfl rfl rfl (e_assign) ?_
  refine l_nil ?_
  refine f_then ?_
  refine c_ret ?_
  refine ret1 Tryz.results54 (v := .bool true) rfl ?_
  intro w hw
  exact ⟨rfl, st_mask [false] rfl hw⟩
theorem flatBodies_nil (β : Base) (w : World) (hw : St β [] w) : Calls Tryz.prog 55 #[.slice none 0 0] w fun e w' => e = .returned (.bool true) ∧ St β [] w' := by
  refine enter (n := 193) Tryz.func55 rfl Tryz.ntmps55 rfl ?_ hw
  refine c_seq ?_
  refine c_region ?_
  refine l_val (v := .bool false) rfl rfl rfl (e_assign) ?_
  refine l_nil ?_
  refine f_then ?_
  refine c_seq ?_
  refine c_seq ?_
  refine c_region ?_
  refine l_val (v := .int .i64 (0)) rfl rfl rfl (e_assign) ?_
  refine l_nil ?_
  refine f_then ?_
  refine c_block ?_
  refine c_loop (fun (x_ : Unit) (f : Fm) (L : List Res) => match x_ with | () => (f 0 = .slice none 0 0 ∧ f 3 = .int .i64 (0)) ∧ L = [] ∧ (True)) (fun (x_ : Unit) => match x_ with | () => 0) () ?_ ?_
  · exact ⟨⟨rfl, rfl⟩, rfl, trivial⟩
  rintro ⟨⟩ f0 L0 ⟨⟨hs0, hs3⟩, hL, -⟩
  subst L0
  refine rebase (d := 0) hs0 ?_
  refine rebase (d := 3) hs3 ?_
  clear hs0 hs3
  refine c_seq ?_
  refine c_seq ?_
  refine c_region ?_
  refine l_val (v := .int .i64 (0)) rfl rfl rfl (e_move) ?_
  refine l_val (v := .slice none 0 0) rfl rfl rfl (e_move) ?_
  refine l_val (v := .int .i64 (0)) rfl rfl rfl (e_len (n := 0) rfl tf127) ?_
  refine l_val (v := .bool false) rfl rfl rfl (e_lss (a := (0 : Int)) (b := (0 : Int)) rfl rfl) ?_
  refine l_nil ?_
  refine f_then ?_
  refine c_no rfl ?_
  refine c_exit ?_
  refine f_then_exit ?_
  refine f_then_exit ?_
  refine f_exit ?_
  refine f_then ?_
  refine c_seq ?_
  refine c_region ?_
  refine l_val (v := .slice none 0 0) rfl rfl rfl (e_move) ?_
  refine l_val (v := .int .i64 (0)) rfl rfl rfl (e_len (n := 0) rfl tf127) ?_
  refine l_mv rfl rfl rfl (m_make00 tf128 rfl rfl) ?_
  rintro _ _ ⟨b1, rfl, rfl⟩
  refine l_val (v := .slice (some ⟨b1, 0, none⟩) 0 0) rfl rfl rfl (e_assign) ?_
  refine l_nil ?_
  refine f_then ?_
  refine c_seq ?_
  refine c_seq ?_
  refine c_region ?_
  refine l_val (v := .int .i64 (0)) rfl rfl rfl (e_assign) ?_
  refine l_nil ?_
  refine f_then ?_
  refine c_block ?_
  refine c_loop (fun (x_ : Unit) (f : Fm) (L : List Res) => match x_ with | () => (f 0 = .slice none 0 0 ∧ f 5 = .slice (some ⟨b1, 0, none⟩) 0 0 ∧ f 6 = .int .i64 (0)) ∧ L = [pt b1 (.cells #[] 138)] ∧ (True)) (fun (x_ : Unit) => match x_ with | () => 0) () ?_ ?_
  · exact ⟨⟨rfl, rfl, rfl⟩, rfl, trivial⟩
  rintro ⟨⟩ f0 L0 ⟨⟨hs0, hs5, hs6⟩, hL, -⟩
  subst L0
  refine rebase (d := 0) hs0 ?_
  refine rebase (d := 5) hs5 ?_
  refine rebase (d := 6) hs6 ?_
  clear hs0 hs5 hs6
  refine c_seq ?_
  refine c_seq ?_
  refine c_region ?_
  refine l_val (v := .int .i64 (0)) rfl rfl rfl (e_move) ?_
  refine l_val (v := .slice none 0 0) rfl rfl rfl (e_move) ?_
  refine l_val (v := .int .i64 (0)) rfl rfl rfl (e_len (n := 0) rfl tf127) ?_
  refine l_val (v := .bool false) rfl rfl rfl (e_lss (a := (0 : Int)) (b := (0 : Int)) rfl rfl) ?_
  refine l_nil ?_
  refine f_then ?_
  refine c_no rfl ?_
  refine c_exit ?_
  refine f_then_exit ?_
  refine f_then_exit ?_
  refine f_exit ?_
  refine f_then ?_
  refine c_seq ?_
  refine c_seq ?_
  refine c_region ?_
  refine l_val (v := .int .i64 (0)) rfl rfl rfl (e_assign) ?_
  refine l_nil ?_
  refine f_then ?_
  refine c_block ?_
  refine c_loop (fun (x_ : Unit) (f : Fm) (L : List Res) => match x_ with | () => (f 0 = .slice none 0 0 ∧ f 5 = .slice (some ⟨b1, 0, none⟩) 0 0 ∧ f 9 = .int .i64 (0)) ∧ L = [pt b1 (.cells #[] 138)] ∧ (True)) (fun (x_ : Unit) => match x_ with | () => 0) () ?_ ?_
  · exact ⟨⟨rfl, rfl, rfl⟩, rfl, trivial⟩
  rintro ⟨⟩ f0 L0 ⟨⟨hs0, hs5, hs9⟩, hL, -⟩
  subst L0
  refine rebase (d := 0) hs0 ?_
  refine rebase (d := 5) hs5 ?_
  refine rebase (d := 9) hs9 ?_
  clear hs0 hs5 hs9
  refine c_seq ?_
  refine c_seq ?_
  refine c_region ?_
  refine l_val (v := .int .i64 (0)) rfl rfl rfl (e_move) ?_
  refine l_val (v := .slice none 0 0) rfl rfl rfl (e_move) ?_
  refine l_val (v := .int .i64 (0)) rfl rfl rfl (e_len (n := 0) rfl tf127) ?_
  refine l_val (v := .bool false) rfl rfl rfl (e_lss (a := (0 : Int)) (b := (0 : Int)) rfl rfl) ?_
  refine l_nil ?_
  refine f_then ?_
  refine c_no rfl ?_
  refine c_exit ?_
  refine f_then_exit ?_
  refine f_then_exit ?_
  refine f_exit ?_
  refine f_then ?_
  refine c_seq ?_
  refine c_seq ?_
  refine c_region ?_
  refine l_val (v := .int .i64 (0)) rfl rfl rfl (e_assign) ?_
  refine l_nil ?_
  refine f_then ?_
  refine c_block ?_
  refine c_loop (fun (x_ : Unit) (f : Fm) (L : List Res) => match x_ with | () => (f 0 = .slice none 0 0 ∧ f 5 = .slice (some ⟨b1, 0, none⟩) 0 0 ∧ f 11 = .int .i64 (0)) ∧ L = [pt b1 (.cells #[] 138)] ∧ (True)) (fun (x_ : Unit) => match x_ with | () => 0) () ?_ ?_
  · exact ⟨⟨rfl, rfl, rfl⟩, rfl, trivial⟩
  rintro ⟨⟩ f0 L0 ⟨⟨hs0, hs5, hs11⟩, hL, -⟩
  subst L0
  refine rebase (d := 0) hs0 ?_
  refine rebase (d := 5) hs5 ?_
  refine rebase (d := 11) hs11 ?_
  clear hs0 hs5 hs11
  refine c_seq ?_
  refine c_seq ?_
  refine c_region ?_
  refine l_val (v := .int .i64 (0)) rfl rfl rfl (e_move) ?_
  refine l_val (v := .slice none 0 0) rfl rfl rfl (e_move) ?_
  refine l_val (v := .int .i64 (0)) rfl rfl rfl (e_len (n := 0) rfl tf127) ?_
  refine l_val (v := .bool false) rfl rfl rfl (e_lss (a := (0 : Int)) (b := (0 : Int)) rfl rfl) ?_
  refine l_nil ?_
  refine f_then ?_
  refine c_no rfl ?_
  refine c_exit ?_
  refine f_then_exit ?_
  refine f_then_exit ?_
  refine f_exit ?_
  refine f_then ?_
  refine c_seq ?_
  refine c_seq ?_
  refine c_region ?_
  refine l_val (v := .int .i64 (0)) rfl rfl rfl (e_assign) ?_
  refine l_nil ?_
  refine f_then ?_
  refine c_block ?_
  refine c_loop (fun (x_ : Unit) (f : Fm) (L : List Res) => match x_ with | () => (f 0 = .slice none 0 0 ∧ f 5 = .slice (some ⟨b1, 0, none⟩) 0 0 ∧ f 14 = .int .i64 (0)) ∧ L = [pt b1 (.cells #[] 138)] ∧ (True)) (fun (x_ : Unit) => match x_ with | () => 0) () ?_ ?_
  · exact ⟨⟨rfl, rfl, rfl⟩, rfl, trivial⟩
  rintro ⟨⟩ f0 L0 ⟨⟨hs0, hs5, hs14⟩, hL, -⟩
  subst L0
  refine rebase (d := 0) hs0 ?_
  refine rebase (d := 5) hs5 ?_
  refine rebase (d := 14) hs14 ?_
  clear hs0 hs5 hs14
  refine c_seq ?_
  refine c_seq ?_
  refine c_region ?_
  refine l_val (v := .int .i64 (0)) rfl rfl rfl (e_move) ?_
  refine l_val (v := .slice none 0 0) rfl rfl rfl (e_move) ?_
  refine l_val (v := .int .i64 (0)) rfl rfl rfl (e_len (n := 0) rfl tf127) ?_
  refine l_val (v := .bool false) rfl rfl rfl (e_lss (a := (0 : Int)) (b := (0 : Int)) rfl rfl) ?_
  refine l_nil ?_
  refine f_then ?_
  refine c_no rfl ?_
  refine c_exit ?_
  refine f_then_exit ?_
  refine f_then_exit ?_
  refine f_exit ?_
  refine f_then ?_
  refine c_seq ?_
  refine c_region ?_
  refine l_val (v := .bool true) rfl rfl rfl (e_assign) ?_
  refine l_nil ?_
  refine f_then ?_
  refine c_ret ?_
  refine ret1 Tryz.results55 (v := .bool true) rfl ?_
  intro w hw
  exact ⟨rfl, st_mask [false] rfl hw⟩
theorem flatSystems_nil (β : Base) (w : World) (hw : St β [] w) : Calls Tryz.prog 56 #[.slice none 0 0] w fun e w' => e = .returned (.bool true) ∧ St β [] w' := by
  refine enter (n := 193) Tryz.func56 rfl Tryz.ntmps56 rfl ?_ hw
  refine c_seq ?_
  refine c_region ?_
  refine l_val (v := .bool false) rfl rfl rfl (e_assign) ?_
  refine l_nil ?_
  refine f_then ?_
  refine c_seq ?_
  refine c_seq ?_
  refine c_region ?_
  refine l_val (v := .int .i64 (0)) rfl rfl rfl (e_assign) ?_
  refine l_nil ?_
  refine f_then ?_
  refine c_block ?_
  refine c_loop (fun (x_ : Unit) (f : Fm) (L : List Res) => match x_ with | () => (f 0 = .slice none 0 0 ∧ f 3 = .int .i64 (0)) ∧ L = [] ∧ (True)) (fun (x_ : Unit) => match x_ with | () => 0) () ?_ ?_
  · exact ⟨⟨rfl, rfl⟩, rfl, trivial⟩
  rintro ⟨⟩ f0 L0 ⟨⟨hs0, hs3⟩, hL, -⟩
  subst L0
  refine rebase (d := 0) hs0 ?_
  refine rebase (d := 3) hs3 ?_
  clear hs0 hs3
  refine c_seq ?_
  refine c_seq ?_
  refine c_region ?_
  refine l_val (v := .int .i64 (0)) rfl rfl rfl (e_move) ?_
  refine l_val (v := .slice none 0 0) rfl rfl rfl (e_move) ?_
  refine l_val (v := .int .i64 (0)) rfl rfl rfl (e_len (n := 0) rfl tf130) ?_
  refine l_val (v := .bool false) rfl rfl rfl (e_lss (a := (0 : Int)) (b := (0 : Int)) rfl rfl) ?_
  refine l_nil ?_
  refine f_then ?_
  refine c_no rfl ?_
  refine c_exit ?_
  refine f_then_exit ?_
  refine f_then_exit ?_
  refine f_exit ?_
  refine f_then ?_
  refine c_seq ?_
  refine c_region ?_
  refine l_val (v := .slice none 0 0) rfl rfl rfl (e_move) ?_
  refine l_val (v := .int .i64 (0)) rfl rfl rfl (e_len (n := 0) rfl tf130) ?_
  refine l_mv rfl rfl rfl (m_make00 tf131 rfl rfl) ?_
  rintro _ _ ⟨b1, rfl, rfl⟩
  refine l_val (v := .slice (some ⟨b1, 0, none⟩) 0 0) rfl rfl rfl (e_assign) ?_
  refine l_nil ?_
  refine f_then ?_
  refine c_seq ?_
  refine c_seq ?_
  refine c_region ?_
  refine l_val (v := .int .i64 (0)) rfl rfl rfl (e_assign) ?_
  refine l_nil ?_
  refine f_then ?_
  refine c_block ?_
  refine c_loop (fun (x_ : Unit) (f : Fm) (L : List Res) => match x_ with | () => (f 0 = .slice none 0 0 ∧ f 5 = .slice (some ⟨b1, 0, none⟩) 0 0 ∧ f 6 = .int .i64 (0)) ∧ L = [pt b1 (.cells #[] 142)] ∧ (True)) (fun (x_ : Unit) => match x_ with | () => 0) () ?_ ?_
  · exact ⟨⟨rfl, rfl, rfl⟩, rfl, trivial⟩
  rintro ⟨⟩ f0 L0 ⟨⟨hs0, hs5, hs6⟩, hL, -⟩
  subst L0
  refine rebase (d := 0) hs0 ?_
  refine rebase (d := 5) hs5 ?_
  refine rebase (d := 6) hs6 ?_
  clear hs0 hs5 hs6
  refine c_seq ?_
  refine c_seq ?_
  refine c_region ?_
  refine l_val (v := .int .i64 (0)) rfl rfl rfl (e_move) ?_
  refine l_val (v := .slice none 0 0) rfl rfl rfl (e_move) ?_
  refine l_val (v := .int .i64 (0)) rfl rfl rfl (e_len (n := 0) rfl tf130) ?_
  refine l_val (v := .bool false) rfl rfl rfl (e_lss (a := (0 : Int)) (b := (0 : Int)) rfl rfl) ?_
  refine l_nil ?_
  refine f_then ?_
  refine c_no rfl ?_
  refine c_exit ?_
  refine f_then_exit ?_
  refine f_then_exit ?_
  refine f_exit ?_
  refine f_then ?_
  refine c_seq ?_
  refine c_seq ?_
  refine c_region ?_
  refine l_val (v := .int .i64 (0)) rfl rfl rfl (e_assign) ?_
  refine l_nil ?_
  refine f_then ?_
  refine c_block ?_
  refine c_loop (fun (x_ : Unit) (f : Fm) (L : List Res) => match x_ with | () => (f 0 = .slice none 0 0 ∧ f 5 = .slice (some ⟨b1, 0, none⟩) 0 0 ∧ f 9 = .int .i64 (0)) ∧ L = [pt b1 (.cells #[] 142)] ∧ (True)) (fun (x_ : Unit) => match x_ with | () => 0) () ?_ ?_
  · exact ⟨⟨rfl, rfl, rfl⟩, rfl, trivial⟩
  rintro ⟨⟩ f0 L0 ⟨⟨hs0, hs5, hs9⟩, hL, -⟩
  subst L0
  refine rebase (d := 0) hs0 ?_
  refine rebase (d := 5) hs5 ?_
  refine rebase (d := 9) hs9 ?_
  clear hs0 hs5 hs9
  refine c_seq ?_
  refine c_seq ?_
  refine c_region ?_
  refine l_val (v := .int .i64 (0)) rfl rfl rfl (e_move) ?_
  refine l_val (v := .slice none 0 0) rfl rfl rfl (e_move) ?_
  refine l_val (v := .int .i64 (0)) rfl rfl rfl (e_len (n := 0) rfl tf130) ?_
  refine l_val (v := .bool false) rfl rfl rfl (e_lss (a := (0 : Int)) (b := (0 : Int)) rfl rfl) ?_
  refine l_nil ?_
  refine f_then ?_
  refine c_no rfl ?_
  refine c_exit ?_
  refine f_then_exit ?_
  refine f_then_exit ?_
  refine f_exit ?_
  refine f_then ?_
  refine c_seq ?_
  refine c_seq ?_
  refine c_region ?_
  refine l_val (v := .int .i64 (0)) rfl rfl rfl (e_assign) ?_
  refine l_nil ?_
  refine f_then ?_
  refine c_block ?_
  refine c_loop (fun (x_ : Unit) (f : Fm) (L : List Res) => match x_ with | () => (f 0 = .slice none 0 0 ∧ f 5 = .slice (some ⟨b1, 0, none⟩) 0 0 ∧ f 11 = .int .i64 (0)) ∧ L = [pt b1 (.cells #[] 142)] ∧ (True)) (fun (x_ : Unit) => match x_ with | () => 0) () ?_ ?_
  · exact ⟨⟨rfl, rfl, rfl⟩, rfl, trivial⟩
  rintro ⟨⟩ f0 L0 ⟨⟨hs0, hs5, hs11⟩, hL, -⟩
  subst L0
  refine rebase (d := 0) hs0 ?_
  refine rebase (d := 5) hs5 ?_
  refine rebase (d := 11) hs11 ?_
  clear hs0 hs5 hs11
  refine c_seq ?_
  refine c_seq ?_
  refine c_region ?_
  refine l_val (v := .int .i64 (0)) rfl rfl rfl (e_move) ?_
  refine l_val (v := .slice none 0 0) rfl rfl rfl (e_move) ?_
  refine l_val (v := .int .i64 (0)) rfl rfl rfl (e_len (n := 0) rfl tf130) ?_
  refine l_val (v := .bool false) rfl rfl rfl (e_lss (a := (0 : Int)) (b := (0 : Int)) rfl rfl) ?_
  refine l_nil ?_
  refine f_then ?_
  refine c_no rfl ?_
  refine c_exit ?_
  refine f_then_exit ?_
  refine f_then_exit ?_
  refine f_exit ?_
  refine f_then ?_
  refine c_seq ?_
  refine c_seq ?_
  refine c_region ?_
  refine l_val (v := .int .i64 (0)) rfl rfl rfl (e_assign) ?_
  refine l_nil ?_
  refine f_then ?_
  refine c_block ?_
  refine c_loop (fun (x_ : Unit) (f : Fm) (L : List Res) => match x_ with | () => (f 0 = .slice none 0 0 ∧ f 5 = .slice (some ⟨b1, 0, none⟩) 0 0 ∧ f 14 = .int .i64 (0)) ∧ L = [pt b1 (.cells #[] 142)] ∧ (True)) (fun (x_ : Unit) => match x_ with | () => 0) () ?_ ?_
  · exact ⟨⟨rfl, rfl, rfl⟩, rfl, trivial⟩
  rintro ⟨⟩ f0 L0 ⟨⟨hs0, hs5, hs14⟩, hL, -⟩
  subst L0
  refine rebase (d := 0) hs0 ?_
  refine rebase (d := 5) hs5 ?_
  refine rebase (d := 14) hs14 ?_
  clear hs0 hs5 hs14
  refine c_seq ?_
  refine c_seq ?_
  refine c_region ?_
  refine l_val (v := .int .i64 (0)) rfl rfl rfl (e_move) ?_
  refine l_val (v := .slice none 0 0) rfl rfl rfl (e_move) ?_
  refine l_val (v := .int .i64 (0)) rfl rfl rfl (e_len (n := 0) rfl tf130) ?_
  refine l_val (v := .bool false) rfl rfl rfl (e_lss (a := (0 : Int)) (b := (0 : Int)) rfl rfl) ?_
  refine l_nil ?_
  refine f_then ?_
  refine c_no rfl ?_
  refine c_exit ?_
  refine f_then_exit ?_
  refine f_then_exit ?_
  refine f_exit ?_
  refine f_then ?_
  refine c_seq ?_
  refine c_region ?_
  refine l_val (v := .bool true) rfl rfl rfl (e_assign) ?_
  refine l_nil ?_
  refine f_then ?_
  refine c_ret ?_
  refine ret1 Tryz.results56 (v := .bool true) rfl ?_
  intro w hw
  exact ⟨rfl, st_mask [false] rfl hw⟩
theorem flatInputs_nil (β : Base) (w : World) (hw : St β [] w) : Calls Tryz.prog 57 #[.slice none 0 0] w fun e w' => e = .returned (.bool true) ∧ St β [] w' := by
  refine enter (n := 193) Tryz.func57 rfl Tryz.ntmps57 rfl ?_ hw
  refine c_seq ?_
  refine c_region ?_
  refine l_val (v := .bool false) rfl rfl rfl (e_assign) ?_
  refine l_nil ?_
  refine f_then ?_
  refine c_seq ?_
  refine c_seq ?_
  refine c_region ?_
  refine l_val (v := .int .i64 (0)) rfl rfl rfl (e_assign) ?_
  refine l_nil ?_
  refine f_then ?_
  refine c_block ?_
  refine c_loop (fun (x_ : Unit) (f : Fm) (L : List Res) => match x_ with | () => (f 0 = .slice none 0 0 ∧ f 3 = .int .i64 (0)) ∧ L = [] ∧ (True)) (fun (x_ : Unit) => match x_ with | () => 0) () ?_ ?_
  · exact ⟨⟨rfl, rfl⟩, rfl, trivial⟩
  rintro ⟨⟩ f0 L0 ⟨⟨hs0, hs3⟩, hL, -⟩
  subst L0
  refine rebase (d := 0) hs0 ?_
  refine rebase (d := 3) hs3 ?_
  clear hs0 hs3
  refine c_seq ?_
  refine c_seq ?_
  refine c_region ?_
  refine l_val (v := .int .i64 (0)) rfl rfl rfl (e_move) ?_
  refine l_val (v := .slice none 0 0) rfl rfl rfl (e_move) ?_
  refine l_val (v := .int .i64 (0)) rfl rfl rfl (e_len (n := 0) rfl tf133) ?_
  refine l_val (v := .bool false) rfl rfl rfl (e_lss (a := (0 : Int)) (b := (0 : Int)) rfl rfl) ?_
  refine l_nil ?_
  refine f_then ?_
  refine c_no rfl ?_
  refine c_exit ?_
  refine f_then_exit ?_
  refine f_then_exit ?_
  refine f_exit ?_
  refine f_then ?_
  refine c_seq ?_
  refine c_region ?_
  refine l_val (v := .slice none 0 0) rfl rfl rfl (e_move) ?_
  refine l_val (v := .int .i64 (0)) rfl rfl rfl (e_len (n := 0) rfl tf133) ?_
  refine l_mv rfl rfl rfl (m_make00 tf134 rfl rfl) ?_
  rintro _ _ ⟨b1, rfl, rfl⟩
  refine l_val (v := .slice (some ⟨b1, 0, none⟩) 0 0) rfl rfl rfl (e_assign) ?_
  refine l_nil ?_
  refine f_then ?_
  refine c_seq ?_
  refine c_seq ?_
  refine c_region ?_
  refine l_val (v := .int .i64 (0)) rfl rfl rfl (e_assign) ?_
  refine l_nil ?_
  refine f_then ?_
  refine c_block ?_
  refine c_loop (fun (x_ : Unit) (f : Fm) (L : List Res) => match x_ with | () => (f 0 = .slice none 0 0 ∧ f 5 = .slice (some ⟨b1, 0, none⟩) 0 0 ∧ f 6 = .int .i64 (0)) ∧ L = [pt b1 (.cells #[] 146)] ∧ (True)) (fun (x_ : Unit) => match x_ with | () => 0) () ?_ ?_
  · exact ⟨⟨rfl, rfl, rfl⟩, rfl, trivial⟩
  rintro ⟨⟩ f0 L0 ⟨⟨hs0, hs5, hs6⟩, hL, -⟩
  subst L0
  refine rebase (d := 0) hs0 ?_
  refine rebase (d := 5) hs5 ?_
  refine rebase (d := 6) hs6 ?_
  clear hs0 hs5 hs6
  refine c_seq ?_
  refine c_seq ?_
  refine c_region ?_
  refine l_val (v := .int .i64 (0)) rfl rfl rfl (e_move) ?_
  refine l_val (v := .slice none 0 0) rfl rfl rfl (e_move) ?_
  refine l_val (v := .int .i64 (0)) rfl rfl rfl (e_len (n := 0) rfl tf133) ?_
  refine l_val (v := .bool false) rfl rfl rfl (e_lss (a := (0 : Int)) (b := (0 : Int)) rfl rfl) ?_
  refine l_nil ?_
  refine f_then ?_
  refine c_no rfl ?_
  refine c_exit ?_
  refine f_then_exit ?_
  refine f_then_exit ?_
  refine f_exit ?_
  refine f_then ?_
  refine c_seq ?_
  refine c_seq ?_
  refine c_region ?_
  refine l_val (v := .int .i64 (0)) rfl rfl rfl (e_assign) ?_
  refine l_nil ?_
  refine f_then ?_
  refine c_block ?_
  refine c_loop (fun (x_ : Unit) (f : Fm) (L : List Res) => match x_ with | () => (f 0 = .slice none 0 0 ∧ f 5 = .slice (some ⟨b1, 0, none⟩) 0 0 ∧ f 9 = .int .i64 (0)) ∧ L = [pt b1 (.cells #[] 146)] ∧ (True)) (fun (x_ : Unit) => match x_ with | () => 0) () ?_ ?_
  · exact ⟨⟨rfl, rfl, rfl⟩, rfl, trivial⟩
  rintro ⟨⟩ f0 L0 ⟨⟨hs0, hs5, hs9⟩, hL, -⟩
  subst L0
  refine rebase (d := 0) hs0 ?_
  refine rebase (d := 5) hs5 ?_
  refine rebase (d := 9) hs9 ?_
  clear hs0 hs5 hs9
  refine c_seq ?_
  refine c_seq ?_
  refine c_region ?_
  refine l_val (v := .int .i64 (0)) rfl rfl rfl (e_move) ?_
  refine l_val (v := .slice none 0 0) rfl rfl rfl (e_move) ?_
  refine l_val (v := .int .i64 (0)) rfl rfl rfl (e_len (n := 0) rfl tf133) ?_
  refine l_val (v := .bool false) rfl rfl rfl (e_lss (a := (0 : Int)) (b := (0 : Int)) rfl rfl) ?_
  refine l_nil ?_
  refine f_then ?_
  refine c_no rfl ?_
  refine c_exit ?_
  refine f_then_exit ?_
  refine f_then_exit ?_
  refine f_exit ?_
  refine f_then ?_
  refine c_seq ?_
  refine c_seq ?_
  refine c_region ?_
  refine l_val (v := .int .i64 (0)) rfl rfl rfl (e_assign) ?_
  refine l_nil ?_
  refine f_then ?_
  refine c_block ?_
  refine c_loop (fun (x_ : Unit) (f : Fm) (L : List Res) => match x_ with | () => (f 0 = .slice none 0 0 ∧ f 5 = .slice (some ⟨b1, 0, none⟩) 0 0 ∧ f 11 = .int .i64 (0)) ∧ L = [pt b1 (.cells #[] 146)] ∧ (True)) (fun (x_ : Unit) => match x_ with | () => 0) () ?_ ?_
  · exact ⟨⟨rfl, rfl, rfl⟩, rfl, trivial⟩
  rintro ⟨⟩ f0 L0 ⟨⟨hs0, hs5, hs11⟩, hL, -⟩
  subst L0
  refine rebase (d := 0) hs0 ?_
  refine rebase (d := 5) hs5 ?_
  refine rebase (d := 11) hs11 ?_
  clear hs0 hs5 hs11
  refine c_seq ?_
  refine c_seq ?_
  refine c_region ?_
  refine l_val (v := .int .i64 (0)) rfl rfl rfl (e_move) ?_
  refine l_val (v := .slice none 0 0) rfl rfl rfl (e_move) ?_
  refine l_val (v := .int .i64 (0)) rfl rfl rfl (e_len (n := 0) rfl tf133) ?_
  refine l_val (v := .bool false) rfl rfl rfl (e_lss (a := (0 : Int)) (b := (0 : Int)) rfl rfl) ?_
  refine l_nil ?_
  refine f_then ?_
  refine c_no rfl ?_
  refine c_exit ?_
  refine f_then_exit ?_
  refine f_then_exit ?_
  refine f_exit ?_
  refine f_then ?_
  refine c_seq ?_
  refine c_seq ?_
  refine c_region ?_
  refine l_val (v := .int .i64 (0)) rfl rfl rfl (e_assign) ?_
  refine l_nil ?_
  refine f_then ?_
  refine c_block ?_
  refine c_loop (fun (x_ : Unit) (f : Fm) (L : List Res) => match x_ with | () => (f 0 = .slice none 0 0 ∧ f 5 = .slice (some ⟨b1, 0, none⟩) 0 0 ∧ f 14 = .int .i64 (0)) ∧ L = [pt b1 (.cells #[] 146)] ∧ (True)) (fun (x_ : Unit) => match x_ with | () => 0) () ?_ ?_
  · exact ⟨⟨rfl, rfl, rfl⟩, rfl, trivial⟩
  rintro ⟨⟩ f0 L0 ⟨⟨hs0, hs5, hs14⟩, hL, -⟩
  subst L0
  refine rebase (d := 0) hs0 ?_
  refine rebase (d := 5) hs5 ?_
  refine rebase (d := 14) hs14 ?_
  clear hs0 hs5 hs14
  refine c_seq ?_
  refine c_seq ?_
  refine c_region ?_
  refine l_val (v := .int .i64 (0)) rfl rfl rfl (e_move) ?_
  refine l_val (v := .slice none 0 0) rfl rfl rfl (e_move) ?_
  refine l_val (v := .int .i64 (0)) rfl rfl rfl (e_len (n := 0) rfl tf133) ?_
  refine l_val (v := .bool false) rfl rfl rfl (e_lss (a := (0 : Int)) (b := (0 : Int)) rfl rfl) ?_
  refine l_nil ?_
  refine f_then ?_
  refine c_no rfl ?_
  refine c_exit ?_
  refine f_then_exit ?_
  refine f_then_exit ?_
  refine f_exit ?_
  refine f_then ?_
  refine c_seq ?_
  refine c_region ?_
  refine l_val (v := .bool true) rfl rfl rfl (e_assign) ?_
  refine l_nil ?_
  refine f_then ?_
  refine c_ret ?_
  refine ret1 Tryz.results57 (v := .bool true) rfl ?_
  intro w hw
  exact ⟨rfl, st_mask [false] rfl hw⟩
theorem flatAreas_nil (β : Base) (w : World) (hw : St β [] w) : Calls Tryz.prog 58 #[.slice none 0 0] w fun e w' => e = .returned (.bool true) ∧ St β [] w' := by
  refine enter (n := 193) Tryz.func58 rfl Tryz.ntmps58 rfl ?_ hw
  refine c_seq ?_
  refine c_region ?_
  refine l_val (v := .bool false) rfl rfl rfl (e_assign) ?_
  refine l_nil ?_
  refine f_then ?_
  refine c_seq ?_
  refine c_seq ?_
  refine c_region ?_
  refine l_val (v := .int .i64 (0)) rfl rfl rfl (e_assign) ?_
  refine l_nil ?_
  refine f_then ?_
  refine c_block ?_
  refine c_loop (fun (x_ : Unit) (f : Fm) (L : List Res) => match x_ with | () => (f 0 = .slice none 0 0 ∧ f 3 = .int .i64 (0)) ∧ L = [] ∧ (True)) (fun (x_ : Unit) => match x_ with | () => 0) () ?_ ?_
  · exact ⟨⟨rfl, rfl⟩, rfl, trivial⟩
  rintro ⟨⟩ f0 L0 ⟨⟨hs0, hs3⟩, hL, -⟩
  subst L0
  refine rebase (d := 0) hs0 ?_
  refine rebase (d := 3) hs3 ?_
  clear hs0 hs3
  refine c_seq ?_
  refine c_seq ?_
  refine c_region ?_
  refine l_val (v := .int .i64 (0)) rfl rfl rfl (e_move) ?_
  refine l_val (v := .slice none 0 0) rfl rfl rfl (e_move) ?_
  refine l_val (v := .int .i64 (0)) rfl rfl rfl (e_len (n := 0) rfl tf136) ?_
  refine l_val (v := .bool false) rfl rfl rfl (e_lss (a := (0 : Int)) (b := (0 : Int)) rfl rfl) ?_
  refine l_nil ?_
  refine f_then ?_
  refine c_no rfl ?_
  refine c_exit ?_
  refine f_then_exit ?_
  refine f_then_exit ?_
  refine f_exit ?_
  refine f_then ?_
  refine c_seq ?_
  refine c_region ?_
  refine l_val (v := .slice none 0 0) rfl rfl rfl (e_move) ?_
  refine l_val (v := .int .i64 (0)) rfl rfl rfl (e_len (n := 0) rfl tf136) ?_
  refine l_mv rfl rfl rfl (m_make00 tf137 rfl rfl) ?_
  rintro _ _ ⟨b1, rfl, rfl⟩
  refine l_val (v := .slice (some ⟨b1, 0, none⟩) 0 0) rfl rfl rfl (e_assign) ?_
  refine l_nil ?_
  refine f_then ?_
  refine c_seq ?_
  refine c_seq ?_
  refine c_region ?_
  refine l_val (v := .int .i64 (0)) rfl rfl rfl (e_assign) ?_
  refine l_nil ?_
  refine f_then ?_
  refine c_block ?_
  refine c_loop (fun (x_ : Unit) (f : Fm) (L : List Res) => match x_ with | () => (f 0 = .slice none 0 0 ∧ f 5 = .slice (some ⟨b1, 0, none⟩) 0 0 ∧ f 6 = .int .i64 (0)) ∧ L = [pt b1 (.cells #[] 150)] ∧ (True)) (fun (x_ : Unit) => match x_ with | () => 0) () ?_ ?_
  · exact ⟨⟨rfl, rfl, rfl⟩, rfl, trivial⟩
  rintro ⟨⟩ f0 L0 ⟨⟨hs0, hs5, hs6⟩, hL, -⟩
  subst L0
  refine rebase (d := 0) hs0 ?_
  refine rebase (d := 5) hs5 ?_
  refine rebase (d := 6) hs6 ?_
  clear hs0 hs5 hs6
  refine c_seq ?_
  refine c_seq ?_
  refine c_region ?_
  refine l_val (v := .int .i64 (0)) rfl rfl rfl (e_move) ?_
  refine l_val (v := .slice none 0 0) rfl rfl rfl (e_move) ?_
  refine l_val (v := .int .i64 (0)) rfl rfl rfl (e_len (n := 0) rfl tf136) ?_
  refine l_val (v := .bool false) rfl rfl rfl (e_lss (a := (0 : Int)) (b := (0 : Int)) rfl rfl) ?_
  refine l_nil ?_
  refine f_then ?_
  refine c_no rfl ?_
  refine c_exit ?_
  refine f_then_exit ?_
  refine f_then_exit ?_
  refine f_exit ?_
  refine f_then ?_
  refine c_seq ?_
  refine c_seq ?_
  refine c_region ?_
  refine l_val (v := .int .i64 (0)) rfl rfl rfl (e_assign) ?_
  refine l_nil ?_
  refine f_then ?_
  refine c_block ?_
  refine c_loop (fun (x_ : Unit) (f : Fm) (L : List Res) => match x_ with | () => (f 0 = .slice none 0 0 ∧ f 5 = .slice (some ⟨b1, 0, none⟩) 0 0 ∧ f 9 = .int .i64 (0)) ∧ L = [pt b1 (.cells #[] 150)] ∧ (True)) (fun (x_ : Unit) => match x_ with | () => 0) () ?_ ?_
  · exact ⟨⟨rfl, rfl, rfl⟩, rfl, trivial⟩
  rintro ⟨⟩ f0 L0 ⟨⟨hs0, hs5, hs9⟩, hL, -⟩
  subst L0
  refine rebase (d := 0) hs0 ?_
  refine rebase (d := 5) hs5 ?_
  refine rebase (d := 9) hs9 ?_
  clear hs0 hs5 hs9
  refine c_seq ?_
  refine c_seq ?_
  refine c_region ?_
  refine l_val (v := .int .i64 (0)) rfl rfl rfl (e_move) ?_
  refine l_val (v := .slice none 0 0) rfl rfl rfl (e_move) ?_
  refine l_val (v := .int .i64 (0)) rfl rfl rfl (e_len (n := 0) rfl tf136) ?_
  refine l_val (v := .bool false) rfl rfl rfl (e_lss (a := (0 : Int)) (b := (0 : Int)) rfl rfl) ?_
  refine l_nil ?_
  refine f_then ?_
  refine c_no rfl ?_
  refine c_exit ?_
  refine f_then_exit ?_
  refine f_then_exit ?_
  refine f_exit ?_
  refine f_then ?_
  refine c_seq ?_
  refine c_seq ?_
  refine c_region ?_
  refine l_val (v := .int .i64 (0)) rfl rfl rfl (e_assign) ?_
  refine l_nil ?_
  refine f_then ?_
  refine c_block ?_
  refine c_loop (fun (x_ : Unit) (f : Fm) (L : List Res) => match x_ with | () => (f 0 = .slice none 0 0 ∧ f 5 = .slice (some ⟨b1, 0, none⟩) 0 0 ∧ f 11 = .int .i64 (0)) ∧ L = [pt b1 (.cells #[] 150)] ∧ (True)) (fun (x_ : Unit) => match x_ with | () => 0) () ?_ ?_
  · exact ⟨⟨rfl, rfl, rfl⟩, rfl, trivial⟩
  rintro ⟨⟩ f0 L0 ⟨⟨hs0, hs5, hs11⟩, hL, -⟩
  subst L0
  refine rebase (d := 0) hs0 ?_
  refine rebase (d := 5) hs5 ?_
  refine rebase (d := 11) hs11 ?_
  clear hs0 hs5 hs11
  refine c_seq ?_
  refine c_seq ?_
  refine c_region ?_
  refine l_val (v := .int .i64 (0)) rfl rfl rfl (e_move) ?_
  refine l_val (v := .slice none 0 0) rfl rfl rfl (e_move) ?_
  refine l_val (v := .int .i64 (0)) rfl rfl rfl (e_len (n := 0) rfl tf136) ?_
  refine l_val (v := .bool false) rfl rfl rfl (e_lss (a := (0 : Int)) (b := (0 : Int)) rfl rfl) ?_
  refine l_nil ?_
  refine f_then ?_
  refine c_no rfl ?_
  refine c_exit ?_
  refine f_then_exit ?_
  refine f_then_exit ?_
  refine f_exit ?_
  refine f_then ?_
  refine c_seq ?_
  refine c_seq ?_
  refine c_region ?_
  refine l_val (v := .int .i64 (0)) rfl rfl rfl (e_assign) ?_
  refine l_nil ?_
  refine f_then ?_
  refine c_block ?_
  refine c_loop (fun (x_ : Unit) (f : Fm) (L : List Res) => match x_ with | () => (f 0 = .slice none 0 0 ∧ f 5 = .slice (some ⟨b1, 0, none⟩) 0 0 ∧ f 14 = .int .i64 (0)) ∧ L = [pt b1 (.cells #[] 150)] ∧ (True)) (fun (x_ : Unit) => match x_ with | () => 0) () ?_ ?_
  · exact ⟨⟨rfl, rfl, rfl⟩, rfl, trivial⟩
  rintro ⟨⟩ f0 L0 ⟨⟨hs0, hs5, hs14⟩, hL, -⟩
  subst L0
  refine rebase (d := 0) hs0 ?_
  refine rebase (d := 5) hs5 ?_
  refine rebase (d := 14) hs14 ?_
  clear hs0 hs5 hs14
  refine c_seq ?_
  refine c_seq ?_
  refine c_region ?_
  refine l_val (v := .int .i64 (0)) rfl rfl rfl (e_move) ?_
  refine l_val (v := .slice none 0 0) rfl rfl rfl (e_move) ?_
  refine l_val (v := .int .i64 (0)) rfl rfl rfl (e_len (n := 0) rfl tf136) ?_
  refine l_val (v := .bool false) rfl rfl rfl (e_lss (a := (0 : Int)) (b := (0 : Int)) rfl rfl) ?_
  refine l_nil ?_
  refine f_then ?_
  refine c_no rfl ?_
  refine c_exit ?_
  refine f_then_exit ?_
  refine f_then_exit ?_
  refine f_exit ?_
  refine f_then ?_
  refine c_seq ?_
  refine c_region ?_
  refine l_val (v := .bool true) rfl rfl rfl (e_assign) ?_
  refine l_nil ?_
  refine f_then ?_
  refine c_ret ?_
  refine ret1 Tryz.results58 (v := .bool true) rfl ?_
  intro w hw
  exact ⟨rfl, st_mask [false] rfl hw⟩
theorem flatPairs_nil (β : Base) (w : World) (hw : St β [] w) : Calls Tryz.prog 59 #[.slice none 0 0] w fun e w' => e = .returned (.bool true) ∧ St β [] w' := by
  refine enter (n := 193) Tryz.func59 rfl Tryz.ntmps59 rfl ?_ hw
  refine c_seq ?_
  refine c_region ?_
  refine l_val (v := .bool false) rfl rfl rfl (e_assign) ?_
  refine l_nil ?_
  refine f_then ?_
  refine c_seq ?_
  refine c_seq ?_
  refine c_region ?_
  refine l_val (v := .int .i64 (0)) rfl rfl rfl (e_assign) ?_
  refine l_nil ?_
  refine f_then ?_
  refine c_block ?_
  refine c_loop (fun (x_ : Unit) (f : Fm) (L : List Res) => match x_ with | () => (f 0 = .slice none 0 0 ∧ f 3 = .int .i64 (0)) ∧ L = [] ∧ (True)) (fun (x_ : Unit) => match x_ with | () => 0) () ?_ ?_
  · exact ⟨⟨rfl, rfl⟩, rfl, trivial⟩
  rintro ⟨⟩ f0 L0 ⟨⟨hs0, hs3⟩, hL, -⟩
  subst L0
  refine rebase (d := 0) hs0 ?_
  refine rebase (d := 3) hs3 ?_
  clear hs0 hs3
  refine c_seq ?_
  refine c_seq ?_
  refine c_region ?_
  refine l_val (v := .int .i64 (0)) rfl rfl rfl (e_move) ?_
  refine l_val (v := .slice none 0 0) rfl rfl rfl (e_move) ?_
  refine l_val (v := .int .i64 (0)) rfl rfl rfl (e_len (n := 0) rfl tf139) ?_
  refine l_val (v := .bool false) rfl rfl rfl (e_lss (a := (0 : Int)) (b := (0 : Int)) rfl rfl) ?_
  refine l_nil ?_
  refine f_then ?_
  refine c_no rfl ?_
  refine c_exit ?_
  refine f_then_exit ?_
  refine f_then_exit ?_
  refine f_exit ?_
  refine f_then ?_
  refine c_seq ?_
  refine c_region ?_
  refine l_val (v := .slice none 0 0) rfl rfl rfl (e_move) ?_
  refine l_val (v := .int .i64 (0)) rfl rfl rfl (e_len (n := 0) rfl tf139) ?_
  refine l_mv rfl rfl rfl (m_make00 tf140 rfl rfl) ?_
  rintro _ _ ⟨b1, rfl, rfl⟩
  refine l_val (v := .slice (some ⟨b1, 0, none⟩) 0 0) rfl rfl rfl (e_assign) ?_
  refine l_nil ?_
  refine f_then ?_
  refine c_seq ?_
  refine c_seq ?_
  refine c_region ?_
  refine l_val (v := .int .i64 (0)) rfl rfl rfl (e_assign) ?_
  refine l_nil ?_
  refine f_then ?_
  refine c_block ?_
  refine c_loop (fun (x_ : Unit) (f : Fm) (L : List Res) => match x_ with | () => (f 0 = .slice none 0 0 ∧ f 5 = .slice (some ⟨b1, 0, none⟩) 0 0 ∧ f 6 = .int .i64 (0)) ∧ L = [pt b1 (.cells #[] 154)] ∧ (True)) (fun (x_ : Unit) => match x_ with | () => 0) () ?_ ?_
  · exact ⟨⟨rfl, rfl, rfl⟩, rfl, trivial⟩
  rintro ⟨⟩ f0 L0 ⟨⟨hs0, hs5, hs6⟩, hL, -⟩
  subst L0
  refine rebase (d := 0) hs0 ?_
  refine rebase (d := 5) hs5 ?_
  refine rebase (d := 6) hs6 ?_
  clear hs0 hs5 hs6
  refine c_seq ?_
  refine c_seq ?_
  refine c_region ?_
  refine l_val (v := .int .i64 (0)) rfl rfl rfl (e_move) ?_
  refine l_val (v := .slice none 0 0) rfl rfl rfl (e_move) ?_
  refine l_val (v := .int .i64 (0)) rfl rfl rfl (e_len (n := 0) rfl tf139) ?_
  refine l_val (v := .bool false) rfl rfl rfl (e_lss (a := (0 : Int)) (b := (0 : Int)) rfl rfl) ?_
  refine l_nil ?_
  refine f_then ?_
  refine c_no rfl ?_
  refine c_exit ?_
  refine f_then_exit ?_
  refine f_then_exit ?_
  refine f_exit ?_
  refine f_then ?_
  refine c_seq ?_
  refine c_seq ?_
  refine c_region ?_
  refine l_val (v := .int .i64 (0)) rfl rfl rfl (e_assign) ?_
  refine l_nil ?_
  refine f_then ?_
  refine c_block ?_
  refine c_loop (fun (x_ : Unit) (f : Fm) (L : List Res) => match x_ with | () => (f 0 = .slice none 0 0 ∧ f 5 = .slice (some ⟨b1, 0, none⟩) 0 0 ∧ f 9 = .int .i64 (0)) ∧ L = [pt b1 (.cells #[] 154)] ∧ (True)) (fun (x_ : Unit) => match x_ with | () => 0) () ?_ ?_
  · exact ⟨⟨rfl, rfl, rfl⟩, rfl, trivial⟩
  rintro ⟨⟩ f0 L0 ⟨⟨hs0, hs5, hs9⟩, hL, -⟩
  subst L0
  refine rebase (d := 0) hs0 ?_
  refine rebase (d := 5) hs5 ?_
  refine rebase (d := 9) hs9 ?_
  clear hs0 hs5 hs9
  refine c_seq ?_
  refine c_seq ?_
  refine c_region ?_
  refine l_val (v := .int .i64 (0)) rfl rfl rfl (e_move) ?_
  refine l_val (v := .slice none 0 0) rfl rfl rfl (e_move) ?_
  refine l_val (v := .int .i64 (0)) rfl rfl rfl (e_len (n := 0) rfl tf139) ?_
  refine l_val (v := .bool false) rfl rfl rfl (e_lss (a := (0 : Int)) (b := (0 : Int)) rfl rfl) ?_
  refine l_nil ?_
  refine f_then ?_
  refine c_no rfl ?_
  refine c_exit ?_
  refine f_then_exit ?_
  refine f_then_exit ?_
  refine f_exit ?_
  refine f_then ?_
  refine c_seq ?_
  refine c_seq ?_
  refine c_region ?_
  refine l_val (v := .int .i64 (0)) rfl rfl rfl (e_assign) ?_
  refine l_nil ?_
  refine f_then ?_
  refine c_block ?_
  refine c_loop (fun (x_ : Unit) (f : Fm) (L : List Res) => match x_ with | () => (f 0 = .slice none 0 0 ∧ f 5 = .slice (some ⟨b1, 0, none⟩) 0 0 ∧ f 11 = .int .i64 (0)) ∧ L = [pt b1 (.cells #[] 154)] ∧ (True)) (fun (x_ : Unit) => match x_ with | () => 0) () ?_ ?_
  · exact ⟨⟨rfl, rfl, rfl⟩, rfl, trivial⟩
  rintro ⟨⟩ f0 L0 ⟨⟨hs0, hs5, hs11⟩, hL, -⟩
  subst L0
  refine rebase (d := 0) hs0 ?_
  refine rebase (d := 5) hs5 ?_
  refine rebase (d := 11) hs11 ?_
  clear hs0 hs5 hs11
  refine c_seq ?_
  refine c_seq ?_
  refine c_region ?_
  refine l_val (v := .int .i64 (0)) rfl rfl rfl (e_move) ?_
  refine l_val (v := .slice none 0 0) rfl rfl rfl (e_move) ?_
  refine l_val (v := .int .i64 (0)) rfl rfl rfl (e_len (n := 0) rfl tf139) ?_
  refine l_val (v := .bool false) rfl rfl rfl (e_lss (a := (0 : Int)) (b := (0 : Int)) rfl rfl) ?_
  refine l_nil ?_
  refine f_then ?_
  refine c_no rfl ?_
  refine c_exit ?_
  refine f_then_exit ?_
  refine f_then_exit ?_
  refine f_exit ?_
  refine f_then ?_
  refine c_seq ?_
  refine c_seq ?_
  refine c_region ?_
  refine l_val (v := .int .i64 (0)) rfl rfl rfl (e_assign) ?_
  refine l_nil ?_
  refine f_then ?_
  refine c_block ?_
  refine c_loop (fun (x_ : Unit) (f : Fm) (L : List Res) => match x_ with | () => (f 0 = .slice none 0 0 ∧ f 5 = .slice (some ⟨b1, 0, none⟩) 0 0 ∧ f 14 = .int .i64 (0)) ∧ L = [pt b1 (.cells #[] 154)] ∧ (True)) (fun (x_ : Unit) => match x_ with | () => 0) () ?_ ?_
  · exact ⟨⟨rfl, rfl, rfl⟩, rfl, trivial⟩
  rintro ⟨⟩ f0 L0 ⟨⟨hs0, hs5, hs14⟩, hL, -⟩
  subst L0
  refine rebase (d := 0) hs0 ?_
  refine rebase (d := 5) hs5 ?_
  refine rebase (d := 14) hs14 ?_
  clear hs0 hs5 hs14
  refine c_seq ?_
  refine c_seq ?_
  refine c_region ?_
  refine l_val (v := .int .i64 (0)) rfl rfl rfl (e_move) ?_
  refine l_val (v := .slice none 0 0) rfl rfl rfl (e_move) ?_
  refine l_val (v := .int .i64 (0)) rfl rfl rfl (e_len (n := 0) rfl tf139) ?_
  refine l_val (v := .bool false) rfl rfl rfl (e_lss (a := (0 : Int)) (b := (0 : Int)) rfl rfl) ?_
  refine l_nil ?_
  refine f_then ?_
  refine c_no rfl ?_
  refine c_exit ?_
  refine f_then_exit ?_
  refine f_then_exit ?_
  refine f_exit ?_
  refine f_then ?_
  refine c_seq ?_
  refine c_region ?_
  refine l_val (v := .bool true) rfl rfl rfl (e_assign) ?_
  refine l_nil ?_
  refine f_then ?_
  refine c_ret ?_
  refine ret1 Tryz.results59 (v := .bool true) rfl ?_
  intro w hw
  exact ⟨rfl, st_mask [false] rfl hw⟩
theorem flatRopes_nil (β : Base) (w : World) (hw : St β [] w) : Calls Tryz.prog 60 #[.slice none 0 0] w fun e w' => e = .returned (.bool true) ∧ St β [] w' := by
  refine enter (n := 193) Tryz.func60 rfl Tryz.ntmps60 rfl ?_ hw
  refine c_seq ?_
  refine c_region ?_
  refine l_val (v := .bool false) rfl rfl rfl (e_assign) ?_
  refine l_nil ?_
  refine f_then ?_
  refine c_seq ?_
  refine c_seq ?_
  refine c_region ?_
  refine l_val (v := .int .i64 (0)) rfl rfl rfl (e_assign) ?_
  refine l_nil ?_
  refine f_then ?_
  refine c_block ?_
  refine c_loop (fun (x_ : Unit) (f : Fm) (L : List Res) => match x_ with | () => (f 0 = .slice none 0 0 ∧ f 3 = .int .i64 (0)) ∧ L = [] ∧ (True)) (fun (x_ : Unit) => match x_ with | () => 0) () ?_ ?_
  · exact ⟨⟨rfl, rfl⟩, rfl, trivial⟩
  rintro ⟨⟩ f0 L0 ⟨⟨hs0, hs3⟩, hL, -⟩
  subst L0
  refine rebase (d := 0) hs0 ?_
  refine rebase (d := 3) hs3 ?_
  clear hs0 hs3
  refine c_seq ?_
  refine c_seq ?_
  refine c_region ?_
  refine l_val (v := .int .i64 (0)) rfl rfl rfl (e_move) ?_
  refine l_val (v := .slice none 0 0) rfl rfl rfl (e_move) ?_
  refine l_val (v := .int .i64 (0)) rfl rfl rfl (e_len (n := 0) rfl tf142) ?_
  refine l_val (v := .bool false) rfl rfl rfl (e_lss (a := (0 : Int)) (b := (0 : Int)) rfl rfl) ?_
  refine l_nil ?_
  refine f_then ?_
  refine c_no rfl ?_
  refine c_exit ?_
  refine f_then_exit ?_
  refine f_then_exit ?_
  refine f_exit ?_
  refine f_then ?_
  refine c_seq ?_
  refine c_region ?_
  refine l_val (v := .slice none 0 0) rfl rfl rfl (e_move) ?_
  refine l_val (v := .int .i64 (0)) rfl rfl rfl (e_len (n := 0) rfl tf142) ?_
  refine l_mv rfl rfl rfl (m_make00 tf143 rfl rfl) ?_
  rintro _ _ ⟨b1, rfl, rfl⟩
  refine l_val (v := .slice (some ⟨b1, 0, none⟩) 0 0) rfl rfl rfl (e_assign) ?_
  refine l_nil ?_
  refine f_then ?_
  refine c_seq ?_
  refine c_seq ?_
  refine c_region ?_
  refine l_val (v := .int .i64 (0)) rfl rfl rfl (e_assign) ?_
  refine l_nil ?_
  refine f_then ?_
  refine c_block ?_
  refine c_loop (fun (x_ : Unit) (f : Fm) (L : List Res) => match x_ with | () => (f 0 = .slice none 0 0 ∧ f 5 = .slice (some ⟨b1, 0, none⟩) 0 0 ∧ f 6 = .int .i64 (0)) ∧ L = [pt b1 (.cells #[] 158)] ∧ (True)) (fun (x_ : Unit) => match x_ with | () => 0) () ?_ ?_
  · exact ⟨⟨rfl, rfl, rfl⟩, rfl, trivial⟩
  rintro ⟨⟩ f0 L0 ⟨⟨hs0, hs5, hs6⟩, hL, -⟩
  subst L0
  refine rebase (d := 0) hs0 ?_
  refine rebase (d := 5) hs5 ?_
  refine rebase (d := 6) hs6 ?_
  clear hs0 hs5 hs6
  refine c_seq ?_
  refine c_seq ?_
  refine c_region ?_
  refine l_val (v := .int .i64 (0)) rfl rfl rfl (e_move) ?_
  refine l_val (v := .slice none 0 0) rfl rfl rfl (e_move) ?_
  refine l_val (v := .int .i64 (0)) rfl rfl rfl (e_len (n := 0) rfl tf142) ?_
  refine l_val (v := .bool false) rfl rfl rfl (e_lss (a := (0 : Int)) (b := (0 : Int)) rfl rfl) ?_
  refine l_nil ?_
  refine f_then ?_
  refine c_no rfl ?_
  refine c_exit ?_
  refine f_then_exit ?_
  refine f_then_exit ?_
  refine f_exit ?_
  refine f_then ?_
  refine c_seq ?_
  refine c_seq ?_
  refine c_region ?_
  refine l_val (v := .int .i64 (0)) rfl rfl rfl (e_assign) ?_
  refine l_nil ?_
  refine f_then ?_
  refine c_block ?_
  refine c_loop (fun (x_ : Unit) (f : Fm) (L : List Res) => match x_ with | () => (f 0 = .slice none 0 0 ∧ f 5 = .slice (some ⟨b1, 0, none⟩) 0 0 ∧ f 9 = .int .i64 (0)) ∧ L = [pt b1 (.cells #[] 158)] ∧ (True)) (fun (x_ : Unit) => match x_ with | () => 0) () ?_ ?_
  · exact ⟨⟨rfl, rfl, rfl⟩, rfl, trivial⟩
  rintro ⟨⟩ f0 L0 ⟨⟨hs0, hs5, hs9⟩, hL, -⟩
  subst L0
  refine rebase (d := 0) hs0 ?_
  refine rebase (d := 5) hs5 ?_
  refine rebase (d := 9) hs9 ?_
  clear hs0 hs5 hs9
  refine c_seq ?_
  refine c_seq ?_
  refine c_region ?_
  refine l_val (v := .int .i64 (0)) rfl rfl rfl (e_move) ?_
  refine l_val (v := .slice none 0 0) rfl rfl rfl (e_move) ?_
  refine l_val (v := .int .i64 (0)) rfl rfl rfl (e_len (n := 0) rfl tf142) ?_
  refine l_val (v := .bool false) rfl rfl rfl (e_lss (a := (0 : Int)) (b := (0 : Int)) rfl rfl) ?_
  refine l_nil ?_
  refine f_then ?_
  refine c_no rfl ?_
  refine c_exit ?_
  refine f_then_exit ?_
  refine f_then_exit ?_
  refine f_exit ?_
  refine f_then ?_
  refine c_seq ?_
  refine c_seq ?_
  refine c_region ?_
  refine l_val (v := .int .i64 (0)) rfl rfl rfl (e_assign) ?_
  refine l_nil ?_
  refine f_then ?_
  refine c_block ?_
  refine c_loop (fun (x_ : Unit) (f : Fm) (L : List Res) => match x_ with | () => (f 0 = .slice none 0 0 ∧ f 5 = .slice (some ⟨b1, 0, none⟩) 0 0 ∧ f 11 = .int .i64 (0)) ∧ L = [pt b1 (.cells #[] 158)] ∧ (True)) (fun (x_ : Unit) => match x_ with | () => 0) () ?_ ?_
  · exact ⟨⟨rfl, rfl, rfl⟩, rfl, trivial⟩
  rintro ⟨⟩ f0 L0 ⟨⟨hs0, hs5, hs11⟩, hL, -⟩
  subst L0
  refine rebase (d := 0) hs0 ?_
  refine rebase (d := 5) hs5 ?_
  refine rebase (d := 11) hs11 ?_
  clear hs0 hs5 hs11
  refine c_seq ?_
  refine c_seq ?_
  refine c_region ?_
  refine l_val (v := .int .i64 (0)) rfl rfl rfl (e_move) ?_
  refine l_val (v := .slice none 0 0) rfl rfl rfl (e_move) ?_
  refine l_val (v := .int .i64 (0)) rfl rfl rfl (e_len (n := 0) rfl tf142) ?_
  refine l_val (v := .bool false) rfl rfl rfl (e_lss (a := (0 : Int)) (b := (0 : Int)) rfl rfl) ?_
  refine l_nil ?_
  refine f_then ?_
  refine c_no rfl ?_
  refine c_exit ?_
  refine f_then_exit ?_
  refine f_then_exit ?_
  refine f_exit ?_
  refine f_then ?_
  refine c_seq ?_
  refine c_seq ?_
  refine c_region ?_
  refine l_val (v := .int .i64 (0)) rfl rfl rfl (e_assign) ?_
  refine l_nil ?_
  refine f_then ?_
  refine c_block ?_
  refine c_loop (fun (x_ : Unit) (f : Fm) (L : List Res) => match x_ with | () => (f 0 = .slice none 0 0 ∧ f 5 = .slice (some ⟨b1, 0, none⟩) 0 0 ∧ f 14 = .int .i64 (0)) ∧ L = [pt b1 (.cells #[] 158)] ∧ (True)) (fun (x_ : Unit) => match x_ with | () => 0) () ?_ ?_
  · exact ⟨⟨rfl, rfl, rfl⟩, rfl, trivial⟩
  rintro ⟨⟩ f0 L0 ⟨⟨hs0, hs5, hs14⟩, hL, -⟩
  subst L0
  refine rebase (d := 0) hs0 ?_
  refine rebase (d := 5) hs5 ?_
  refine rebase (d := 14) hs14 ?_
  clear hs0 hs5 hs14
  refine c_seq ?_
  refine c_seq ?_
  refine c_region ?_
  refine l_val (v := .int .i64 (0)) rfl rfl rfl (e_move) ?_
  refine l_val (v := .slice none 0 0) rfl rfl rfl (e_move) ?_
  refine l_val (v := .int .i64 (0)) rfl rfl rfl (e_len (n := 0) rfl tf142) ?_
  refine l_val (v := .bool false) rfl rfl rfl (e_lss (a := (0 : Int)) (b := (0 : Int)) rfl rfl) ?_
  refine l_nil ?_
  refine f_then ?_
  refine c_no rfl ?_
  refine c_exit ?_
  refine f_then_exit ?_
  refine f_then_exit ?_
  refine f_exit ?_
  refine f_then ?_
  refine c_seq ?_
  refine c_region ?_
  refine l_val (v := .bool true) rfl rfl rfl (e_assign) ?_
  refine l_nil ?_
  refine f_then ?_
  refine c_ret ?_
  refine ret1 Tryz.results60 (v := .bool true) rfl ?_
  intro w hw
  exact ⟨rfl, st_mask [false] rfl hw⟩
theorem flatExprs_nil (β : Base) (w : World) (hw : St β [] w) : Calls Tryz.prog 61 #[.slice none 0 0] w fun e w' => e = .returned (.bool true) ∧ St β [] w' := by
  refine enter (n := 193) Tryz.func61 rfl Tryz.ntmps61 rfl ?_ hw
  refine c_seq ?_
  refine c_region ?_
  refine l_val (v := .bool false) rfl rfl rfl (e_assign) ?_
  refine l_nil ?_
  refine f_then ?_
  refine c_seq ?_
  refine c_seq ?_
  refine c_region ?_
  refine l_val (v := .int .i64 (0)) rfl rfl rfl (e_assign) ?_
  refine l_nil ?_
  refine f_then ?_
  refine c_block ?_
  refine c_loop (fun (x_ : Unit) (f : Fm) (L : List Res) => match x_ with | () => (f 0 = .slice none 0 0 ∧ f 3 = .int .i64 (0)) ∧ L = [] ∧ (True)) (fun (x_ : Unit) => match x_ with | () => 0) () ?_ ?_
  · exact ⟨⟨rfl, rfl⟩, rfl, trivial⟩
  rintro ⟨⟩ f0 L0 ⟨⟨hs0, hs3⟩, hL, -⟩
  subst L0
  refine rebase (d := 0) hs0 ?_
  refine rebase (d := 3) hs3 ?_
  clear hs0 hs3
  refine c_seq ?_
  refine c_seq ?_
  refine c_region ?_
  refine l_val (v := .int .i64 (0)) rfl rfl rfl (e_move) ?_
  refine l_val (v := .slice none 0 0) rfl rfl rfl (e_move) ?_
  refine l_val (v := .int .i64 (0)) rfl rfl rfl (e_len (n := 0) rfl tf145) ?_
  refine l_val (v := .bool false) rfl rfl rfl (e_lss (a := (0 : Int)) (b := (0 : Int)) rfl rfl) ?_
  refine l_nil ?_
  refine f_then ?_
  refine c_no rfl ?_
  refine c_exit ?_
  refine f_then_exit ?_
  refine f_then_exit ?_
  refine f_exit ?_
  refine f_then ?_
  refine c_seq ?_
  refine c_region ?_
  refine l_val (v := .slice none 0 0) rfl rfl rfl (e_move) ?_
  refine l_val (v := .int .i64 (0)) rfl rfl rfl (e_len (n := 0) rfl tf145) ?_
  refine l_mv rfl rfl rfl (m_make00 tf146 rfl rfl) ?_
  rintro _ _ ⟨b1, rfl, rfl⟩
  refine l_val (v := .slice (some ⟨b1, 0, none⟩) 0 0) rfl rfl rfl (e_assign) ?_
  refine l_nil ?_
  refine f_then ?_
  refine c_seq ?_
  refine c_seq ?_
  refine c_region ?_
  refine l_val (v := .int .i64 (0)) rfl rfl rfl (e_assign) ?_
  refine l_nil ?_
  refine f_then ?_
  refine c_block ?_
  refine c_loop (fun (x_ : Unit) (f : Fm) (L : List Res) => match x_ with | () => (f 0 = .slice none 0 0 ∧ f 5 = .slice (some ⟨b1, 0, none⟩) 0 0 ∧ f 6 = .int .i64 (0)) ∧ L = [pt b1 (.cells #[] 162)] ∧ (True)) (fun (x_ : Unit) => match x_ with | () => 0) () ?_ ?_
  · exact ⟨⟨rfl, rfl, rfl⟩, rfl, trivial⟩
  rintro ⟨⟩ f0 L0 ⟨⟨hs0, hs5, hs6⟩, hL, -⟩
  subst L0
  refine rebase (d := 0) hs0 ?_
  refine rebase (d := 5) hs5 ?_
  refine rebase (d := 6) hs6 ?_
  clear hs0 hs5 hs6
  refine c_seq ?_
  refine c_seq ?_
  refine c_region ?_
  refine l_val (v := .int .i64 (0)) rfl rfl rfl (e_move) ?_
  refine l_val (v := .slice none 0 0) rfl rfl rfl (e_move) ?_
  refine l_val (v := .int .i64 (0)) rfl rfl rfl (e_len (n := 0) rfl tf145) ?_
  refine l_val (v := .bool false) rfl rfl rfl (e_lss (a := (0 : Int)) (b := (0 : Int)) rfl rfl) ?_
  refine l_nil ?_
  refine f_then ?_
  refine c_no rfl ?_
  refine c_exit ?_
  refine f_then_exit ?_
  refine f_then_exit ?_
  refine f_exit ?_
  refine f_then ?_
  refine c_seq ?_
  refine c_seq ?_
  refine c_region ?_
  refine l_val (v := .int .i64 (0)) rfl rfl rfl (e_assign) ?_
  refine l_nil ?_
  refine f_then ?_
  refine c_block ?_
  refine c_loop (fun (x_ : Unit) (f : Fm) (L : List Res) => match x_ with | () => (f 0 = .slice none 0 0 ∧ f 5 = .slice (some ⟨b1, 0, none⟩) 0 0 ∧ f 9 = .int .i64 (0)) ∧ L = [pt b1 (.cells #[] 162)] ∧ (True)) (fun (x_ : Unit) => match x_ with | () => 0) () ?_ ?_
  · exact ⟨⟨rfl, rfl, rfl⟩, rfl, trivial⟩
  rintro ⟨⟩ f0 L0 ⟨⟨hs0, hs5, hs9⟩, hL, -⟩
  subst L0
  refine rebase (d := 0) hs0 ?_
  refine rebase (d := 5) hs5 ?_
  refine rebase (d := 9) hs9 ?_
  clear hs0 hs5 hs9
  refine c_seq ?_
  refine c_seq ?_
  refine c_region ?_
  refine l_val (v := .int .i64 (0)) rfl rfl rfl (e_move) ?_
  refine l_val (v := .slice none 0 0) rfl rfl rfl (e_move) ?_
  refine l_val (v := .int .i64 (0)) rfl rfl rfl (e_len (n := 0) rfl tf145) ?_
  refine l_val (v := .bool false) rfl rfl rfl (e_lss (a := (0 : Int)) (b := (0 : Int)) rfl rfl) ?_
  refine l_nil ?_
  refine f_then ?_
  refine c_no rfl ?_
  refine c_exit ?_
  refine f_then_exit ?_
  refine f_then_exit ?_
  refine f_exit ?_
  refine f_then ?_
  refine c_seq ?_
  refine c_seq ?_
  refine c_region ?_
  refine l_val (v := .int .i64 (0)) rfl rfl rfl (e_assign) ?_
  refine l_nil ?_
  refine f_then ?_
  refine c_block ?_
  refine c_loop (fun (x_ : Unit) (f : Fm) (L : List Res) => match x_ with | () => (f 0 = .slice none 0 0 ∧ f 5 = .slice (some ⟨b1, 0, none⟩) 0 0 ∧ f 11 = .int .i64 (0)) ∧ L = [pt b1 (.cells #[] 162)] ∧ (True)) (fun (x_ : Unit) => match x_ with | () => 0) () ?_ ?_
  · exact ⟨⟨rfl, rfl, rfl⟩, rfl, trivial⟩
  rintro ⟨⟩ f0 L0 ⟨⟨hs0, hs5, hs11⟩, hL, -⟩
  subst L0
  refine rebase (d := 0) hs0 ?_
  refine rebase (d := 5) hs5 ?_
  refine rebase (d := 11) hs11 ?_
  clear hs0 hs5 hs11
  refine c_seq ?_
  refine c_seq ?_
  refine c_region ?_
  refine l_val (v := .int .i64 (0)) rfl rfl rfl (e_move) ?_
  refine l_val (v := .slice none 0 0) rfl rfl rfl (e_move) ?_
  refine l_val (v := .int .i64 (0)) rfl rfl rfl (e_len (n := 0) rfl tf145) ?_
  refine l_val (v := .bool false) rfl rfl rfl (e_lss (a := (0 : Int)) (b := (0 : Int)) rfl rfl) ?_
  refine l_nil ?_
  refine f_then ?_
  refine c_no rfl ?_
  refine c_exit ?_
  refine f_then_exit ?_
  refine f_then_exit ?_
  refine f_exit ?_
  refine f_then ?_
  refine c_seq ?_
  refine c_seq ?_
  refine c_region ?_
  refine l_val (v := .int .i64 (0)) rfl rfl rfl (e_assign) ?_
  refine l_nil ?_
  refine f_then ?_
  refine c_block ?_
  refine c_loop (fun (x_ : Unit) (f : Fm) (L : List Res) => match x_ with | () => (f 0 = .slice none 0 0 ∧ f 5 = .slice (some ⟨b1, 0, none⟩) 0 0 ∧ f 14 = .int .i64 (0)) ∧ L = [pt b1 (.cells #[] 162)] ∧ (True)) (fun (x_ : Unit) => match x_ with | () => 0) () ?_ ?_
  · exact ⟨⟨rfl, rfl, rfl⟩, rfl, trivial⟩
  rintro ⟨⟩ f0 L0 ⟨⟨hs0, hs5, hs14⟩, hL, -⟩
  subst L0
  refine rebase (d := 0) hs0 ?_
  refine rebase (d := 5) hs5 ?_
  refine rebase (d := 14) hs14 ?_
  clear hs0 hs5 hs14
  refine c_seq ?_
  refine c_seq ?_
  refine c_region ?_
  refine l_val (v := .int .i64 (0)) rfl rfl rfl (e_move) ?_
  refine l_val (v := .slice none 0 0) rfl rfl rfl (e_move) ?_
  refine l_val (v := .int .i64 (0)) rfl rfl rfl (e_len (n := 0) rfl tf145) ?_
  refine l_val (v := .bool false) rfl rfl rfl (e_lss (a := (0 : Int)) (b := (0 : Int)) rfl rfl) ?_
  refine l_nil ?_
  refine f_then ?_
  refine c_no rfl ?_
  refine c_exit ?_
  refine f_then_exit ?_
  refine f_then_exit ?_
  refine f_exit ?_
  refine f_then ?_
  refine c_seq ?_
  refine c_region ?_
  refine l_val (v := .bool true) rfl rfl rfl (e_assign) ?_
  refine l_nil ?_
  refine f_then ?_
  refine c_ret ?_
  refine ret1 Tryz.results61 (v := .bool true) rfl ?_
  intro w hw
  exact ⟨rfl, st_mask [false] rfl hw⟩
theorem flatStmts_nil (β : Base) (w : World) (hw : St β [] w) : Calls Tryz.prog 62 #[.slice none 0 0] w fun e w' => e = .returned (.bool true) ∧ St β [] w' := by
  refine enter (n := 193) Tryz.func62 rfl Tryz.ntmps62 rfl ?_ hw
  refine c_seq ?_
  refine c_region ?_
  refine l_val (v := .bool false) rfl rfl rfl (e_assign) ?_
  refine l_nil ?_
  refine f_then ?_
  refine c_seq ?_
  refine c_seq ?_
  refine c_region ?_
  refine l_val (v := .int .i64 (0)) rfl rfl rfl (e_assign) ?_
  refine l_nil ?_
  refine f_then ?_
  refine c_block ?_
  refine c_loop (fun (x_ : Unit) (f : Fm) (L : List Res) => match x_ with | () => (f 0 = .slice none 0 0 ∧ f 3 = .int .i64 (0)) ∧ L = [] ∧ (True)) (fun (x_ : Unit) => match x_ with | () => 0) () ?_ ?_
  · exact ⟨⟨rfl, rfl⟩, rfl, trivial⟩
  rintro ⟨⟩ f0 L0 ⟨⟨hs0, hs3⟩, hL, -⟩
  subst L0
  refine rebase (d := 0) hs0 ?_
  refine rebase (d := 3) hs3 ?_
  clear hs0 hs3
  refine c_seq ?_
  refine c_seq ?_
  refine c_region ?_
  refine l_val (v := .int .i64 (0)) rfl rfl rfl (e_move) ?_
  refine l_val (v := .slice none 0 0) rfl rfl rfl (e_move) ?_
  refine l_val (v := .int .i64 (0)) rfl rfl rfl (e_len (n := 0) rfl tf148) ?_
  refine l_val (v := .bool false) rfl rfl rfl (e_lss (a := (0 : Int)) (b := (0 : Int)) rfl rfl) ?_
  refine l_nil ?_
  refine f_then ?_
  refine c_no rfl ?_
  refine c_exit ?_
  refine f_then_exit ?_
  refine f_then_exit ?_
  refine f_exit ?_
  refine f_then ?_
  refine c_seq ?_
  refine c_region ?_
  refine l_val (v := .slice none 0 0) rfl rfl rfl (e_move) ?_
  refine l_val (v := .int .i64 (0)) rfl rfl rfl (e_len (n := 0) rfl tf148) ?_
  refine l_mv rfl rfl rfl (m_make00 tf149 rfl rfl) ?_
  rintro _ _ ⟨b1, rfl, rfl⟩
  refine l_val (v := .slice (some ⟨b1, 0, none⟩) 0 0) rfl rfl rfl (e_assign) ?_
  refine l_nil ?_
  refine f_then ?_
  refine c_seq ?_
  refine c_seq ?_
  refine c_region ?_
  refine l_val (v := .int .i64 (0)) rfl rfl rfl (e_assign) ?_
  refine l_nil ?_
  refine f_then ?_
  refine c_block ?_
  refine c_loop (fun (x_ : Unit) (f : Fm) (L : List Res) => match x_ with | () => (f 0 = .slice none 0 0 ∧ f 5 = .slice (some ⟨b1, 0, none⟩) 0 0 ∧ f 6 = .int .i64 (0)) ∧ L = [pt b1 (.cells #[] 167)] ∧ (True)) (fun (x_ : Unit) => match x_ with | () => 0) () ?_ ?_
  · exact ⟨⟨rfl, rfl, rfl⟩, rfl, trivial⟩
  rintro ⟨⟩ f0 L0 ⟨⟨hs0, hs5, hs6⟩, hL, -⟩
  subst L0
  refine rebase (d := 0) hs0 ?_
  refine rebase (d := 5) hs5 ?_
  refine rebase (d := 6) hs6 ?_
  clear hs0 hs5 hs6
  refine c_seq ?_
  refine c_seq ?_
  refine c_region ?_
  refine l_val (v := .int .i64 (0)) rfl rfl rfl (e_move) ?_
  refine l_val (v := .slice none 0 0) rfl rfl rfl (e_move) ?_
  refine l_val (v := .int .i64 (0)) rfl rfl rfl (e_len (n := 0) rfl tf148) ?_
  refine l_val (v := .bool false) rfl rfl rfl (e_lss (a := (0 : Int)) (b := (0 : Int)) rfl rfl) ?_
  refine l_nil ?_
  refine f_then ?_
  refine c_no rfl ?_
  refine c_exit ?_
  refine f_then_exit ?_
  refine f_then_exit ?_
  refine f_exit ?_
  refine f_then ?_
  refine c_seq ?_
  refine c_seq ?_
  refine c_region ?_
  refine l_val (v := .int .i64 (0)) rfl rfl rfl (e_assign) ?_
  refine l_nil ?_
  refine f_then ?_
  refine c_block ?_
  refine c_loop (fun (x_ : Unit) (f : Fm) (L : List Res) => match x_ with | () => (f 0 = .slice none 0 0 ∧ f 5 = .slice (some ⟨b1, 0, none⟩) 0 0 ∧ f 9 = .int .i64 (0)) ∧ L = [pt b1 (.cells #[] 167)] ∧ (True)) (fun (x_ : Unit) => match x_ with | () => 0) () ?_ ?_
  · exact ⟨⟨rfl, rfl, rfl⟩, rfl, trivial⟩
  rintro ⟨⟩ f0 L0 ⟨⟨hs0, hs5, hs9⟩, hL, -⟩
  subst L0
  refine rebase (d := 0) hs0 ?_
  refine rebase (d := 5) hs5 ?_
  refine rebase (d := 9) hs9 ?_
  clear hs0 hs5 hs9
  refine c_seq ?_
  refine c_seq ?_
  refine c_region ?_
  refine l_val (v := .int .i64 (0)) rfl rfl rfl (e_move) ?_
  refine l_val (v := .slice none 0 0) rfl rfl rfl (e_move) ?_
  refine l_val (v := .int .i64 (0)) rfl rfl rfl (e_len (n := 0) rfl tf148) ?_
  refine l_val (v := .bool false) rfl rfl rfl (e_lss (a := (0 : Int)) (b := (0 : Int)) rfl rfl) ?_
  refine l_nil ?_
  refine f_then ?_
  refine c_no rfl ?_
  refine c_exit ?_
  refine f_then_exit ?_
  refine f_then_exit ?_
  refine f_exit ?_
  refine f_then ?_
  refine c_seq ?_
  refine c_seq ?_
  refine c_region ?_
  refine l_val (v := .int .i64 (0)) rfl rfl rfl (e_assign) ?_
  refine l_nil ?_
  refine f_then ?_
  refine c_block ?_
  refine c_loop (fun (x_ : Unit) (f : Fm) (L : List Res) => match x_ with | () => (f 0 = .slice none 0 0 ∧ f 5 = .slice (some ⟨b1, 0, none⟩) 0 0 ∧ f 11 = .int .i64 (0)) ∧ L = [pt b1 (.cells #[] 167)] ∧ (True)) (fun (x_ : Unit) => match x_ with | () => 0) () ?_ ?_
  · exact ⟨⟨rfl, rfl, rfl⟩, rfl, trivial⟩
  rintro ⟨⟩ f0 L0 ⟨⟨hs0, hs5, hs11⟩, hL, -⟩
  subst L0
  refine rebase (d := 0) hs0 ?_
  refine rebase (d := 5) hs5 ?_
  refine rebase (d := 11) hs11 ?_
  clear hs0 hs5 hs11
  refine c_seq ?_
  refine c_seq ?_
  refine c_region ?_
  refine l_val (v := .int .i64 (0)) rfl rfl rfl (e_move) ?_
  refine l_val (v := .slice none 0 0) rfl rfl rfl (e_move) ?_
  refine l_val (v := .int .i64 (0)) rfl rfl rfl (e_len (n := 0) rfl tf148) ?_
  refine l_val (v := .bool false) rfl rfl rfl (e_lss (a := (0 : Int)) (b := (0 : Int)) rfl rfl) ?_
  refine l_nil ?_
  refine f_then ?_
  refine c_no rfl ?_
  refine c_exit ?_
  refine f_then_exit ?_
  refine f_then_exit ?_
  refine f_exit ?_
  refine f_then ?_
  refine c_seq ?_
  refine c_seq ?_
  refine c_region ?_
  refine l_val (v := .int .i64 (0)) rfl rfl rfl (e_assign) ?_
  refine l_nil ?_
  refine f_then ?_
  refine c_block ?_
  refine c_loop (fun (x_ : Unit) (f : Fm) (L : List Res) => match x_ with | () => (f 0 = .slice none 0 0 ∧ f 5 = .slice (some ⟨b1, 0, none⟩) 0 0 ∧ f 14 = .int .i64 (0)) ∧ L = [pt b1 (.cells #[] 167)] ∧ (True)) (fun (x_ : Unit) => match x_ with | () => 0) () ?_ ?_
  · exact ⟨⟨rfl, rfl, rfl⟩, rfl, trivial⟩
  rintro ⟨⟩ f0 L0 ⟨⟨hs0, hs5, hs14⟩, hL, -⟩
  subst L0
  refine rebase (d := 0) hs0 ?_
  refine rebase (d := 5) hs5 ?_
  refine rebase (d := 14) hs14 ?_
  clear hs0 hs5 hs14
  refine c_seq ?_
  refine c_seq ?_
  refine c_region ?_
  refine l_val (v := .int .i64 (0)) rfl rfl rfl (e_move) ?_
  refine l_val (v := .slice none 0 0) rfl rfl rfl (e_move) ?_
  refine l_val (v := .int .i64 (0)) rfl rfl rfl (e_len (n := 0) rfl tf148) ?_
  refine l_val (v := .bool false) rfl rfl rfl (e_lss (a := (0 : Int)) (b := (0 : Int)) rfl rfl) ?_
  refine l_nil ?_
  refine f_then ?_
  refine c_no rfl ?_
  refine c_exit ?_
  refine f_then_exit ?_
  refine f_then_exit ?_
  refine f_exit ?_
  refine f_then ?_
  refine c_seq ?_
  refine c_region ?_
  refine l_val (v := .bool true) rfl rfl rfl (e_assign) ?_
  refine l_nil ?_
  refine f_then ?_
  refine c_ret ?_
  refine ret1 Tryz.results62 (v := .bool true) rfl ?_
  intro w hw
  exact ⟨rfl, st_mask [false] rfl hw⟩
theorem flatScenes_nil (β : Base) (w : World) (hw : St β [] w) : Calls Tryz.prog 63 #[.slice none 0 0] w fun e w' => e = .returned (.bool true) ∧ St β [] w' := by
  refine enter (n := 193) Tryz.func63 rfl Tryz.ntmps63 rfl ?_ hw
  refine c_seq ?_
  refine c_region ?_
  refine l_val (v := .bool false) rfl rfl rfl (e_assign) ?_
  refine l_nil ?_
  refine f_then ?_
  refine c_seq ?_
  refine c_seq ?_
  refine c_region ?_
  refine l_val (v := .int .i64 (0)) rfl rfl rfl (e_assign) ?_
  refine l_nil ?_
  refine f_then ?_
  refine c_block ?_
  refine c_loop (fun (x_ : Unit) (f : Fm) (L : List Res) => match x_ with | () => (f 0 = .slice none 0 0 ∧ f 3 = .int .i64 (0)) ∧ L = [] ∧ (True)) (fun (x_ : Unit) => match x_ with | () => 0) () ?_ ?_
  · exact ⟨⟨rfl, rfl⟩, rfl, trivial⟩
  rintro ⟨⟩ f0 L0 ⟨⟨hs0, hs3⟩, hL, -⟩
  subst L0
  refine rebase (d := 0) hs0 ?_
  refine rebase (d := 3) hs3 ?_
  clear hs0 hs3
  refine c_seq ?_
  refine c_seq ?_
  refine c_region ?_
  refine l_val (v := .int .i64 (0)) rfl rfl rfl (e_move) ?_
  refine l_val (v := .slice none 0 0) rfl rfl rfl (e_move) ?_
  refine l_val (v := .int .i64 (0)) rfl rfl rfl (e_len (n := 0) rfl tf151) ?_
  refine l_val (v := .bool false) rfl rfl rfl (e_lss (a := (0 : Int)) (b := (0 : Int)) rfl rfl) ?_
  refine l_nil ?_
  refine f_then ?_
  refine c_no rfl ?_
  refine c_exit ?_
  refine f_then_exit ?_
  refine f_then_exit ?_
  refine f_exit ?_
  refine f_then ?_
  refine c_seq ?_
  refine c_region ?_
  refine l_val (v := .slice none 0 0) rfl rfl rfl (e_move) ?_
  refine l_val (v := .int .i64 (0)) rfl rfl rfl (e_len (n := 0) rfl tf151) ?_
  refine l_mv rfl rfl rfl (m_make00 tf152 rfl rfl) ?_
  rintro _ _ ⟨b1, rfl, rfl⟩
  refine l_val (v := .slice (some ⟨b1, 0, none⟩) 0 0) rfl rfl rfl (e_assign) ?_
  refine l_nil ?_
  refine f_then ?_
  refine c_seq ?_
  refine c_seq ?_
  refine c_region ?_
  refine l_val (v := .int .i64 (0)) rfl rfl rfl (e_assign) ?_
  refine l_nil ?_
  refine f_then ?_
  refine c_block ?_
  refine c_loop (fun (x_ : Unit) (f : Fm) (L : List Res) => match x_ with | () => (f 0 = .slice none 0 0 ∧ f 5 = .slice (some ⟨b1, 0, none⟩) 0 0 ∧ f 6 = .int .i64 (0)) ∧ L = [pt b1 (.cells #[] 172)] ∧ (True)) (fun (x_ : Unit) => match x_ with | () => 0) () ?_ ?_
  · exact ⟨⟨rfl, rfl, rfl⟩, rfl, trivial⟩
  rintro ⟨⟩ f0 L0 ⟨⟨hs0, hs5, hs6⟩, hL, -⟩
  subst L0
  refine rebase (d := 0) hs0 ?_
  refine rebase (d := 5) hs5 ?_
  refine rebase (d := 6) hs6 ?_
  clear hs0 hs5 hs6
  refine c_seq ?_
  refine c_seq ?_
  refine c_region ?_
  refine l_val (v := .int .i64 (0)) rfl rfl rfl (e_move) ?_
  refine l_val (v := .slice none 0 0) rfl rfl rfl (e_move) ?_
  refine l_val (v := .int .i64 (0)) rfl rfl rfl (e_len (n := 0) rfl tf151) ?_
  refine l_val (v := .bool false) rfl rfl rfl (e_lss (a := (0 : Int)) (b := (0 : Int)) rfl rfl) ?_
  refine l_nil ?_
  refine f_then ?_
  refine c_no rfl ?_
  refine c_exit ?_
  refine f_then_exit ?_
  refine f_then_exit ?_
  refine f_exit ?_
  refine f_then ?_
  refine c_seq ?_
  refine c_seq ?_
  refine c_region ?_
  refine l_val (v := .int .i64 (0)) rfl rfl rfl (e_assign) ?_
  refine l_nil ?_
  refine f_then ?_
  refine c_block ?_
  refine c_loop (fun (x_ : Unit) (f : Fm) (L : List Res) => match x_ with | () => (f 0 = .slice none 0 0 ∧ f 5 = .slice (some ⟨b1, 0, none⟩) 0 0 ∧ f 9 = .int .i64 (0)) ∧ L = [pt b1 (.cells #[] 172)] ∧ (True)) (fun (x_ : Unit) => match x_ with | () => 0) () ?_ ?_
  · exact ⟨⟨rfl, rfl, rfl⟩, rfl, trivial⟩
  rintro ⟨⟩ f0 L0 ⟨⟨hs0, hs5, hs9⟩, hL, -⟩
  subst L0
  refine rebase (d := 0) hs0 ?_
  refine rebase (d := 5) hs5 ?_
  refine rebase (d := 9) hs9 ?_
  clear hs0 hs5 hs9
  refine c_seq ?_
  refine c_seq ?_
  refine c_region ?_
  refine l_val (v := .int .i64 (0)) rfl rfl rfl (e_move) ?_
  refine l_val (v := .slice none 0 0) rfl rfl rfl (e_move) ?_
  refine l_val (v := .int .i64 (0)) rfl rfl rfl (e_len (n := 0) rfl tf151) ?_
  refine l_val (v := .bool false) rfl rfl rfl (e_lss (a := (0 : Int)) (b := (0 : Int)) rfl rfl) ?_
  refine l_nil ?_
  refine f_then ?_
  refine c_no rfl ?_
  refine c_exit ?_
  refine f_then_exit ?_
  refine f_then_exit ?_
  refine f_exit ?_
  refine f_then ?_
  refine c_seq ?_
  refine c_seq ?_
  refine c_region ?_
  refine l_val (v := .int .i64 (0)) rfl rfl rfl (e_assign) ?_
  refine l_nil ?_
  refine f_then ?_
  refine c_block ?_
  refine c_loop (fun (x_ : Unit) (f : Fm) (L : List Res) => match x_ with | () => (f 0 = .slice none 0 0 ∧ f 5 = .slice (some ⟨b1, 0, none⟩) 0 0 ∧ f 11 = .int .i64 (0)) ∧ L = [pt b1 (.cells #[] 172)] ∧ (True)) (fun (x_ : Unit) => match x_ with | () => 0) () ?_ ?_
  · exact ⟨⟨rfl, rfl, rfl⟩, rfl, trivial⟩
  rintro ⟨⟩ f0 L0 ⟨⟨hs0, hs5, hs11⟩, hL, -⟩
  subst L0
  refine rebase (d := 0) hs0 ?_
  refine rebase (d := 5) hs5 ?_
  refine rebase (d := 11) hs11 ?_
  clear hs0 hs5 hs11
  refine c_seq ?_
  refine c_seq ?_
  refine c_region ?_
  refine l_val (v := .int .i64 (0)) rfl rfl rfl (e_move) ?_
  refine l_val (v := .slice none 0 0) rfl rfl rfl (e_move) ?_
  refine l_val (v := .int .i64 (0)) rfl rfl rfl (e_len (n := 0) rfl tf151) ?_
  refine l_val (v := .bool false) rfl rfl rfl (e_lss (a := (0 : Int)) (b := (0 : Int)) rfl rfl) ?_
  refine l_nil ?_
  refine f_then ?_
  refine c_no rfl ?_
  refine c_exit ?_
  refine f_then_exit ?_
  refine f_then_exit ?_
  refine f_exit ?_
  refine f_then ?_
  refine c_seq ?_
  refine c_seq ?_
  refine c_region ?_
  refine l_val (v := .int .i64 (0)) rfl rfl rfl (e_assign) ?_
  refine l_nil ?_
  refine f_then ?_
  refine c_block ?_
  refine c_loop (fun (x_ : Unit) (f : Fm) (L : List Res) => match x_ with | () => (f 0 = .slice none 0 0 ∧ f 5 = .slice (some ⟨b1, 0, none⟩) 0 0 ∧ f 14 = .int .i64 (0)) ∧ L = [pt b1 (.cells #[] 172)] ∧ (True)) (fun (x_ : Unit) => match x_ with | () => 0) () ?_ ?_
  · exact ⟨⟨rfl, rfl, rfl⟩, rfl, trivial⟩
  rintro ⟨⟩ f0 L0 ⟨⟨hs0, hs5, hs14⟩, hL, -⟩
  subst L0
  refine rebase (d := 0) hs0 ?_
  refine rebase (d := 5) hs5 ?_
  refine rebase (d := 14) hs14 ?_
  clear hs0 hs5 hs14
  refine c_seq ?_
  refine c_seq ?_
  refine c_region ?_
  refine l_val (v := .int .i64 (0)) rfl rfl rfl (e_move) ?_
  refine l_val (v := .slice none 0 0) rfl rfl rfl (e_move) ?_
  refine l_val (v := .int .i64 (0)) rfl rfl rfl (e_len (n := 0) rfl tf151) ?_
  refine l_val (v := .bool false) rfl rfl rfl (e_lss (a := (0 : Int)) (b := (0 : Int)) rfl rfl) ?_
  refine l_nil ?_
  refine f_then ?_
  refine c_no rfl ?_
  refine c_exit ?_
  refine f_then_exit ?_
  refine f_then_exit ?_
  refine f_exit ?_
  refine f_then ?_
  refine c_seq ?_
  refine c_region ?_
  refine l_val (v := .bool true) rfl rfl rfl (e_assign) ?_
  refine l_nil ?_
  refine f_then ?_
  refine c_ret ?_
  refine ret1 Tryz.results63 (v := .bool true) rfl ?_
  intro w hw
  exact ⟨rfl, st_mask [false] rfl hw⟩
theorem flatStops_nil (β : Base) (w : World) (hw : St β [] w) : Calls Tryz.prog 64 #[.slice none 0 0] w fun e w' => e = .returned (.bool true) ∧ St β [] w' := by
  refine enter (n := 193) Tryz.func64 rfl Tryz.ntmps64 rfl ?_ hw
  refine c_seq ?_
  refine c_region ?_
  refine l_val (v := .bool false) rfl rfl rfl (e_assign) ?_
  refine l_nil ?_
  refine f_then ?_
  refine c_seq ?_
  refine c_seq ?_
  refine c_region ?_
  refine l_val (v := .int .i64 (0)) rfl rfl rfl (e_assign) ?_
  refine l_nil ?_
  refine f_then ?_
  refine c_block ?_
  refine c_loop (fun (x_ : Unit) (f : Fm) (L : List Res) => match x_ with | () => (f 0 = .slice none 0 0 ∧ f 3 = .int .i64 (0)) ∧ L = [] ∧ (True)) (fun (x_ : Unit) => match x_ with | () => 0) () ?_ ?_
  · exact ⟨⟨rfl, rfl⟩, rfl, trivial⟩
  rintro ⟨⟩ f0 L0 ⟨⟨hs0, hs3⟩, hL, -⟩
  subst L0
  refine rebase (d := 0) hs0 ?_
  refine rebase (d := 3) hs3 ?_
  clear hs0 hs3
  refine c_seq ?_
  refine c_seq ?_
  refine c_region ?_
  refine l_val (v := .int .i64 (0)) rfl rfl rfl (e_move) ?_
  refine l_val (v := .slice none 0 0) rfl rfl rfl (e_move) ?_
  refine l_val (v := .int .i64 (0)) rfl rfl rfl (e_len (n := 0) rfl tf154) ?_
  refine l_val (v := .bool false) rfl rfl rfl (e_lss (a := (0 : Int)) (b := (0 : Int)) rfl rfl) ?_
  refine l_nil ?_
  refine f_then ?_
  refine c_no rfl ?_
  refine c_exit ?_
  refine f_then_exit ?_
  refine f_then_exit ?_
  refine f_exit ?_
  refine f_then ?_
  refine c_seq ?_
  refine c_region ?_
  refine l_val (v := .slice none 0 0) rfl rfl rfl (e_move) ?_
  refine l_val (v := .int .i64 (0)) rfl rfl rfl (e_len (n := 0) rfl tf154) ?_
  refine l_mv rfl rfl rfl (m_make00 tf155 rfl rfl) ?_
  rintro _ _ ⟨b1, rfl, rfl⟩
  refine l_val (v := .slice (some ⟨b1, 0, none⟩) 0 0) rfl rfl rfl (e_assign) ?_
  refine l_nil ?_
  refine f_then ?_
  refine c_seq ?_
  refine c_seq ?_
  refine c_region ?_
  refine l_val (v := .int .i64 (0)) rfl rfl rfl (e_assign) ?_
  refine l_nil ?_
  refine f_then ?_
  refine c_block ?_
  refine c_loop (fun (x_ : Unit) (f : Fm) (L : List Res) => match x_ with | () => (f 0 = .slice none 0 0 ∧ f 5 = .slice (some ⟨b1, 0, none⟩) 0 0 ∧ f 6 = .int .i64 (0)) ∧ L = [pt b1 (.cells #[] 177)] ∧ (True)) (fun (x_ : Unit) => match x_ with | () => 0) () ?_ ?_
  · exact ⟨⟨rfl, rfl, rfl⟩, rfl, trivial⟩
  rintro ⟨⟩ f0 L0 ⟨⟨hs0, hs5, hs6⟩, hL, -⟩
  subst L0
  refine rebase (d := 0) hs0 ?_
  refine rebase (d := 5) hs5 ?_
  refine rebase (d := 6) hs6 ?_
  clear hs0 hs5 hs6
  refine c_seq ?_
  refine c_seq ?_
  refine c_region ?_
  refine l_val (v := .int .i64 (0)) rfl rfl rfl (e_move) ?_
  refine l_val (v := .slice none 0 0) rfl rfl rfl (e_move) ?_
  refine l_val (v := .int .i64 (0)) rfl rfl rfl (e_len (n := 0) rfl tf154) ?_
  refine l_val (v := .bool false) rfl rfl rfl (e_lss (a := (0 : Int)) (b := (0 : Int)) rfl rfl) ?_
  refine l_nil ?_
  refine f_then ?_
  refine c_no rfl ?_
  refine c_exit ?_
  refine f_then_exit ?_
  refine f_then_exit ?_
  refine f_exit ?_
  refine f_then ?_
  refine c_seq ?_
  refine c_seq ?_
  refine c_region ?_
  refine l_val (v := .int .i64 (0)) rfl rfl rfl (e_assign) ?_
  refine l_nil ?_
  refine f_then ?_
  refine c_block ?_
  refine c_loop (fun (x_ : Unit) (f : Fm) (L : List Res) => match x_ with | () => (f 0 = .slice none 0 0 ∧ f 5 = .slice (some ⟨b1, 0, none⟩) 0 0 ∧ f 9 = .int .i64 (0)) ∧ L = [pt b1 (.cells #[] 177)] ∧ (True)) (fun (x_ : Unit) => match x_ with | () => 0) () ?_ ?_
  · exact ⟨⟨rfl, rfl, rfl⟩, rfl, trivial⟩
  rintro ⟨⟩ f0 L0 ⟨⟨hs0, hs5, hs9⟩, hL, -⟩
  subst L0
  refine rebase (d := 0) hs0 ?_
  refine rebase (d := 5) hs5 ?_
  refine rebase (d := 9) hs9 ?_
  clear hs0 hs5 hs9
  refine c_seq ?_
  refine c_seq ?_
  refine c_region ?_
  refine l_val (v := .int .i64 (0)) rfl rfl rfl (e_move) ?_
  refine l_val (v := .slice none 0 0) rfl rfl rfl (e_move) ?_
  refine l_val (v := .int .i64 (0)) rfl rfl rfl (e_len (n := 0) rfl tf154) ?_
  refine l_val (v := .bool false) rfl rfl rfl (e_lss (a := (0 : Int)) (b := (0 : Int)) rfl rfl) ?_
  refine l_nil ?_
  refine f_then ?_
  refine c_no rfl ?_
  refine c_exit ?_
  refine f_then_exit ?_
  refine f_then_exit ?_
  refine f_exit ?_
  refine f_then ?_
  refine c_seq ?_
  refine c_seq ?_
  refine c_region ?_
  refine l_val (v := .int .i64 (0)) rfl rfl rfl (e_assign) ?_
  refine l_nil ?_
  refine f_then ?_
  refine c_block ?_
  refine c_loop (fun (x_ : Unit) (f : Fm) (L : List Res) => match x_ with | () => (f 0 = .slice none 0 0 ∧ f 5 = .slice (some ⟨b1, 0, none⟩) 0 0 ∧ f 11 = .int .i64 (0)) ∧ L = [pt b1 (.cells #[] 177)] ∧ (True)) (fun (x_ : Unit) => match x_ with | () => 0) () ?_ ?_
  · exact ⟨⟨rfl, rfl, rfl⟩, rfl, trivial⟩
  rintro ⟨⟩ f0 L0 ⟨⟨hs0, hs5, hs11⟩, hL, -⟩
  subst L0
  refine rebase (d := 0) hs0 ?_
  refine rebase (d := 5) hs5 ?_
  refine rebase (d := 11) hs11 ?_
  clear hs0 hs5 hs11
  refine c_seq ?_
  refine c_seq ?_
  refine c_region ?_
  refine l_val (v := .int .i64 (0)) rfl rfl rfl (e_move) ?_
  refine l_val (v := .slice none 0 0) rfl rfl rfl (e_move) ?_
  refine l_val (v := .int .i64 (0)) rfl rfl rfl (e_len (n := 0) rfl tf154) ?_
  refine l_val (v := .bool false) rfl rfl rfl (e_lss (a := (0 : Int)) (b := (0 : Int)) rfl rfl) ?_
  refine l_nil ?_
  refine f_then ?_
  refine c_no rfl ?_
  refine c_exit ?_
  refine f_then_exit ?_
  refine f_then_exit ?_
  refine f_exit ?_
  refine f_then ?_
  refine c_seq ?_
  refine c_seq ?_
  refine c_region ?_
  refine l_val (v := .int .i64 (0)) rfl rfl rfl (e_assign) ?_
  refine l_nil ?_
  refine f_then ?_
  refine c_block ?_
  refine c_loop (fun (x_ : Unit) (f : Fm) (L : List Res) => match x_ with | () => (f 0 = .slice none 0 0 ∧ f 5 = .slice (some ⟨b1, 0, none⟩) 0 0 ∧ f 14 = .int .i64 (0)) ∧ L = [pt b1 (.cells #[] 177)] ∧ (True)) (fun (x_ : Unit) => match x_ with | () => 0) () ?_ ?_
  · exact ⟨⟨rfl, rfl, rfl⟩, rfl, trivial⟩
  rintro ⟨⟩ f0 L0 ⟨⟨hs0, hs5, hs14⟩, hL, -⟩
  subst L0
  refine rebase (d := 0) hs0 ?_
  refine rebase (d := 5) hs5 ?_
  refine rebase (d := 14) hs14 ?_
  clear hs0 hs5 hs14
  refine c_seq ?_
  refine c_seq ?_
  refine c_region ?_
  refine l_val (v := .int .i64 (0)) rfl rfl rfl (e_move) ?_
  refine l_val (v := .slice none 0 0) rfl rfl rfl (e_move) ?_
  refine l_val (v := .int .i64 (0)) rfl rfl rfl (e_len (n := 0) rfl tf154) ?_
  refine l_val (v := .bool false) rfl rfl rfl (e_lss (a := (0 : Int)) (b := (0 : Int)) rfl rfl) ?_
  refine l_nil ?_
  refine f_then ?_
  refine c_no rfl ?_
  refine c_exit ?_
  refine f_then_exit ?_
  refine f_then_exit ?_
  refine f_exit ?_
  refine f_then ?_
  refine c_seq ?_
  refine c_region ?_
  refine l_val (v := .bool true) rfl rfl rfl (e_assign) ?_
  refine l_nil ?_
  refine f_then ?_
  refine c_ret ?_
  refine ret1 Tryz.results64 (v := .bool true) rfl ?_
  intro w hw
  exact ⟨rfl, st_mask [false] rfl hw⟩
theorem flatPortals_nil (β : Base) (w : World) (hw : St β [] w) : Calls Tryz.prog 65 #[.slice none 0 0] w fun e w' => e = .returned (.bool true) ∧ St β [] w' := by
  refine enter (n := 193) Tryz.func65 rfl Tryz.ntmps65 rfl ?_ hw
  refine c_seq ?_
  refine c_region ?_
  refine l_val (v := .bool false) rfl rfl rfl (e_assign) ?_
  refine l_nil ?_
  refine f_then ?_
  refine c_seq ?_
  refine c_seq ?_
  refine c_region ?_
  refine l_val (v := .int .i64 (0)) rfl rfl rfl (e_assign) ?_
  refine l_nil ?_
  refine f_then ?_
  refine c_block ?_
  refine c_loop (fun (x_ : Unit) (f : Fm) (L : List Res) => match x_ with | () => (f 0 = .slice none 0 0 ∧ f 3 = .int .i64 (0)) ∧ L = [] ∧ (True)) (fun (x_ : Unit) => match x_ with | () => 0) () ?_ ?_
  · exact ⟨⟨rfl, rfl⟩, rfl, trivial⟩
  rintro ⟨⟩ f0 L0 ⟨⟨hs0, hs3⟩, hL, -⟩
  subst L0
  refine rebase (d := 0) hs0 ?_
  refine rebase (d := 3) hs3 ?_
  clear hs0 hs3
  refine c_seq ?_
  refine c_seq ?_
  refine c_region ?_
  refine l_val (v := .int .i64 (0)) rfl rfl rfl (e_move) ?_
  refine l_val (v := .slice none 0 0) rfl rfl rfl (e_move) ?_
  refine l_val (v := .int .i64 (0)) rfl rfl rfl (e_len (n := 0) rfl tf157) ?_
  refine l_val (v := .bool false) rfl rfl rfl (e_lss (a := (0 : Int)) (b := (0 : Int)) rfl rfl) ?_
  refine l_nil ?_
  refine f_then ?_
  refine c_no rfl ?_
  refine c_exit ?_
  refine f_then_exit ?_
  refine f_then_exit ?_
  refine f_exit ?_
  refine f_then ?_
  refine c_seq ?_
  refine c_region ?_
  refine l_val (v := .slice none 0 0) rfl rfl rfl (e_move) ?_
  refine l_val (v := .int .i64 (0)) rfl rfl rfl (e_len (n := 0) rfl tf157) ?_
  refine l_mv rfl rfl rfl (m_make00 tf158 rfl rfl) ?_
  rintro _ _ ⟨b1, rfl, rfl⟩
  refine l_val (v := .slice (some ⟨b1, 0, none⟩) 0 0) rfl rfl rfl (e_assign) ?_
  refine l_nil ?_
  refine f_then ?_
  refine c_seq ?_
  refine c_seq ?_
  refine c_region ?_
  refine l_val (v := .int .i64 (0)) rfl rfl rfl (e_assign) ?_
  refine l_nil ?_
  refine f_then ?_
  refine c_block ?_
  refine c_loop (fun (x_ : Unit) (f : Fm) (L : List Res) => match x_ with | () => (f 0 = .slice none 0 0 ∧ f 5 = .slice (some ⟨b1, 0, none⟩) 0 0 ∧ f 6 = .int .i64 (0)) ∧ L = [pt b1 (.cells #[] 181)] ∧ (True)) (fun (x_ : Unit) => match x_ with | () => 0) () ?_ ?_
  · exact ⟨⟨rfl, rfl, rfl⟩, rfl, trivial⟩
  rintro ⟨⟩ f0 L0 ⟨⟨hs0, hs5, hs6⟩, hL, -⟩
  subst L0
  refine rebase (d := 0) hs0 ?_
  refine rebase (d := 5) hs5 ?_
  refine rebase (d := 6) hs6 ?_
  clear hs0 hs5 hs6
  refine c_seq ?_
  refine c_seq ?_
  refine c_region ?_
  refine l_val (v := .int .i64 (0)) rfl rfl rfl (e_move) ?_
  refine l_val (v := .slice none 0 0) rfl rfl rfl (e_move) ?_
  refine l_val (v := .int .i64 (0)) rfl rfl rfl (e_len (n := 0) rfl tf157) ?_
  refine l_val (v := .bool false) rfl rfl rfl (e_lss (a := (0 : Int)) (b := (0 : Int)) rfl rfl) ?_
  refine l_nil ?_
  refine f_then ?_
  refine c_no rfl ?_
  refine c_exit ?_
  refine f_then_exit ?_
  refine f_then_exit ?_
  refine f_exit ?_
  refine f_then ?_
  refine c_seq ?_
  refine c_seq ?_
  refine c_region ?_
  refine l_val (v := .int .i64 (0)) rfl rfl rfl (e_assign) ?_
  refine l_nil ?_
  refine f_then ?_
  refine c_block ?_
  refine c_loop (fun (x_ : Unit) (f : Fm) (L : List Res) => match x_ with | () => (f 0 = .slice none 0 0 ∧ f 5 = .slice (some ⟨b1, 0, none⟩) 0 0 ∧ f 9 = .int .i64 (0)) ∧ L = [pt b1 (.cells #[] 181)] ∧ (True)) (fun (x_ : Unit) => match x_ with | () => 0) () ?_ ?_
  · exact ⟨⟨rfl, rfl, rfl⟩, rfl, trivial⟩
  rintro ⟨⟩ f0 L0 ⟨⟨hs0, hs5, hs9⟩, hL, -⟩
  subst L0
  refine rebase (d := 0) hs0 ?_
  refine rebase (d := 5) hs5 ?_
  refine rebase (d := 9) hs9 ?_
  clear hs0 hs5 hs9
  refine c_seq ?_
  refine c_seq ?_
  refine c_region ?_
  refine l_val (v := .int .i64 (0)) rfl rfl rfl (e_move) ?_
  refine l_val (v := .slice none 0 0) rfl rfl rfl (e_move) ?_
  refine l_val (v := .int .i64 (0)) rfl rfl rfl (e_len (n := 0) rfl tf157) ?_
  refine l_val (v := .bool false) rfl rfl rfl (e_lss (a := (0 : Int)) (b := (0 : Int)) rfl rfl) ?_
  refine l_nil ?_
  refine f_then ?_
  refine c_no rfl ?_
  refine c_exit ?_
  refine f_then_exit ?_
  refine f_then_exit ?_
  refine f_exit ?_
  refine f_then ?_
  refine c_seq ?_
  refine c_seq ?_
  refine c_region ?_
  refine l_val (v := .int .i64 (0)) rfl rfl rfl (e_assign) ?_
  refine l_nil ?_
  refine f_then ?_
  refine c_block ?_
  refine c_loop (fun (x_ : Unit) (f : Fm) (L : List Res) => match x_ with | () => (f 0 = .slice none 0 0 ∧ f 5 = .slice (some ⟨b1, 0, none⟩) 0 0 ∧ f 11 = .int .i64 (0)) ∧ L = [pt b1 (.cells #[] 181)] ∧ (True)) (fun (x_ : Unit) => match x_ with | () => 0) () ?_ ?_
  · exact ⟨⟨rfl, rfl, rfl⟩, rfl, trivial⟩
  rintro ⟨⟩ f0 L0 ⟨⟨hs0, hs5, hs11⟩, hL, -⟩
  subst L0
  refine rebase (d := 0) hs0 ?_
  refine rebase (d := 5) hs5 ?_
  refine rebase (d := 11) hs11 ?_
  clear hs0 hs5 hs11
  refine c_seq ?_
  refine c_seq ?_
  refine c_region ?_
  refine l_val (v := .int .i64 (0)) rfl rfl rfl (e_move) ?_
  refine l_val (v := .slice none 0 0) rfl rfl rfl (e_move) ?_
  refine l_val (v := .int .i64 (0)) rfl rfl rfl (e_len (n := 0) rfl tf157) ?_
  refine l_val (v := .bool false) rfl rfl rfl (e_lss (a := (0 : Int)) (b := (0 : Int)) rfl rfl) ?_
  refine l_nil ?_
  refine f_then ?_
  refine c_no rfl ?_
  refine c_exit ?_
  refine f_then_exit ?_
  refine f_then_exit ?_
  refine f_exit ?_
  refine f_then ?_
  refine c_seq ?_
  refine c_seq ?_
  refine c_region ?_
  refine l_val (v := .int .i64 (0)) rfl rfl rfl (e_assign) ?_
  refine l_nil ?_
  refine f_then ?_
  refine c_block ?_
  refine c_loop (fun (x_ : Unit) (f : Fm) (L : List Res) => match x_ with | () => (f 0 = .slice none 0 0 ∧ f 5 = .slice (some ⟨b1, 0, none⟩) 0 0 ∧ f 14 = .int .i64 (0)) ∧ L = [pt b1 (.cells #[] 181)] ∧ (True)) (fun (x_ : Unit) => match x_ with | () => 0) () ?_ ?_
  · exact ⟨⟨rfl, rfl, rfl⟩, rfl, trivial⟩
  rintro ⟨⟩ f0 L0 ⟨⟨hs0, hs5, hs14⟩, hL, -⟩
  subst L0
  refine rebase (d := 0) hs0 ?_
  refine rebase (d := 5) hs5 ?_
  refine rebase (d := 14) hs14 ?_
  clear hs0 hs5 hs14
  refine c_seq ?_
  refine c_seq ?_
  refine c_region ?_
  refine l_val (v := .int .i64 (0)) rfl rfl rfl (e_move) ?_
  refine l_val (v := .slice none 0 0) rfl rfl rfl (e_move) ?_
  refine l_val (v := .int .i64 (0)) rfl rfl rfl (e_len (n := 0) rfl tf157) ?_
  refine l_val (v := .bool false) rfl rfl rfl (e_lss (a := (0 : Int)) (b := (0 : Int)) rfl rfl) ?_
  refine l_nil ?_
  refine f_then ?_
  refine c_no rfl ?_
  refine c_exit ?_
  refine f_then_exit ?_
  refine f_then_exit ?_
  refine f_exit ?_
  refine f_then ?_
  refine c_seq ?_
  refine c_region ?_
  refine l_val (v := .bool true) rfl rfl rfl (e_assign) ?_
  refine l_nil ?_
  refine f_then ?_
  refine c_ret ?_
  refine ret1 Tryz.results65 (v := .bool true) rfl ?_
  intro w hw
  exact ⟨rfl, st_mask [false] rfl hw⟩
theorem flatStores_nil (β : Base) (w : World) (hw : St β [] w) : Calls Tryz.prog 66 #[.slice none 0 0] w fun e w' => e = .returned (.bool true) ∧ St β [] w' := by
  refine enter (n := 193) Tryz.func66 rfl Tryz.ntmps66 rfl ?_ hw
  refine c_seq ?_
  refine c_region ?_
  refine l_val (v := .bool false) rfl rfl rfl (e_assign) ?_
  refine l_nil ?_
  refine f_then ?_
  refine c_seq ?_
  refine c_seq ?_
  refine c_region ?_
  refine l_val (v := .int .i64 (0)) rfl rfl rfl (e_assign) ?_
  refine l_nil ?_
  refine f_then ?_
  refine c_block ?_
  refine c_loop (fun (x_ : Unit) (f : Fm) (L : List Res) => match x_ with | () => (f 0 = .slice none 0 0 ∧ f 3 = .int .i64 (0)) ∧ L = [] ∧ (True)) (fun (x_ : Unit) => match x_ with | () => 0) () ?_ ?_
  · exact ⟨⟨rfl, rfl⟩, rfl, trivial⟩
  rintro ⟨⟩ f0 L0 ⟨⟨hs0, hs3⟩, hL, -⟩
  subst L0
  refine rebase (d := 0) hs0 ?_
  refine rebase (d := 3) hs3 ?_
  clear hs0 hs3
  refine c_seq ?_
  refine c_seq ?_
  refine c_region ?_
  refine l_val (v := .int .i64 (0)) rfl rfl rfl (e_move) ?_
  refine l_val (v := .slice none 0 0) rfl rfl rfl (e_move) ?_
  refine l_val (v := .int .i64 (0)) rfl rfl rfl (e_len (n := 0) rfl tf160) ?_
  refine l_val (v := .bool false) rfl rfl rfl (e_lss (a := (0 : Int)) (b := (0 : Int)) rfl rfl) ?_
  refine l_nil ?_
  refine f_then ?_
  refine c_no rfl ?_
  refine c_exit ?_
  refine f_then_exit ?_
  refine f_then_exit ?_
  refine f_exit ?_
  refine f_then ?_
  refine c_seq ?_
  refine c_region ?_
  refine l_val (v := .slice none 0 0) rfl rfl rfl (e_move) ?_
  refine l_val (v := .int .i64 (0)) rfl rfl rfl (e_len (n := 0) rfl tf160) ?_
  refine l_mv rfl rfl rfl (m_make00 tf161 rfl rfl) ?_
  rintro _ _ ⟨b1, rfl, rfl⟩
  refine l_val (v := .slice (some ⟨b1, 0, none⟩) 0 0) rfl rfl rfl (e_assign) ?_
  refine l_nil ?_
  refine f_then ?_
  refine c_seq ?_
  refine c_seq ?_
  refine c_region ?_
  refine l_val (v := .int .i64 (0)) rfl rfl rfl (e_assign) ?_
  refine l_nil ?_
  refine f_then ?_
  refine c_block ?_
  refine c_loop (fun (x_ : Unit) (f : Fm) (L : List Res) => match x_ with | () => (f 0 = .slice none 0 0 ∧ f 5 = .slice (some ⟨b1, 0, none⟩) 0 0 ∧ f 6 = .int .i64 (0)) ∧ L = [pt b1 (.cells #[] 185)] ∧ (True)) (fun (x_ : Unit) => match x_ with | () => 0) () ?_ ?_
  · exact ⟨⟨rfl, rfl, rfl⟩, rfl, trivial⟩
  rintro ⟨⟩ f0 L0 ⟨⟨hs0, hs5, hs6⟩, hL, -⟩
  subst L0
  refine rebase (d := 0) hs0 ?_
  refine rebase (d := 5) hs5 ?_
  refine rebase (d := 6) hs6 ?_
  clear hs0 hs5 hs6
  refine c_seq ?_
  refine c_seq ?_
  refine c_region ?_
  refine l_val (v := .int .i64 (0)) rfl rfl rfl (e_move) ?_
  refine l_val (v := .slice none 0 0) rfl rfl rfl (e_move) ?_
  refine l_val (v := .int .i64 (0)) rfl rfl rfl (e_len (n := 0) rfl tf160) ?_
  refine l_val (v := .bool false) rfl rfl rfl (e_lss (a := (0 : Int)) (b := (0 : Int)) rfl rfl) ?_
  refine l_nil ?_
  refine f_then ?_
  refine c_no rfl ?_
  refine c_exit ?_
  refine f_then_exit ?_
  refine f_then_exit ?_
  refine f_exit ?_
  refine f_then ?_
  refine c_seq ?_
  refine c_seq ?_
  refine c_region ?_
  refine l_val (v := .int .i64 (0)) rfl rfl rfl (e_assign) ?_
  refine l_nil ?_
  refine f_then ?_
  refine c_block ?_
  refine c_loop (fun (x_ : Unit) (f : Fm) (L : List Res) => match x_ with | () => (f 0 = .slice none 0 0 ∧ f 5 = .slice (some ⟨b1, 0, none⟩) 0 0 ∧ f 9 = .int .i64 (0)) ∧ L = [pt b1 (.cells #[] 185)] ∧ (True)) (fun (x_ : Unit) => match x_ with | () => 0) () ?_ ?_
  · exact ⟨⟨rfl, rfl, rfl⟩, rfl, trivial⟩
  rintro ⟨⟩ f0 L0 ⟨⟨hs0, hs5, hs9⟩, hL, -⟩
  subst L0
  refine rebase (d := 0) hs0 ?_
  refine rebase (d := 5) hs5 ?_
  refine rebase (d := 9) hs9 ?_
  clear hs0 hs5 hs9
  refine c_seq ?_
  refine c_seq ?_
  refine c_region ?_
  refine l_val (v := .int .i64 (0)) rfl rfl rfl (e_move) ?_
  refine l_val (v := .slice none 0 0) rfl rfl rfl (e_move) ?_
  refine l_val (v := .int .i64 (0)) rfl rfl rfl (e_len (n := 0) rfl tf160) ?_
  refine l_val (v := .bool false) rfl rfl rfl (e_lss (a := (0 : Int)) (b := (0 : Int)) rfl rfl) ?_
  refine l_nil ?_
  refine f_then ?_
  refine c_no rfl ?_
  refine c_exit ?_
  refine f_then_exit ?_
  refine f_then_exit ?_
  refine f_exit ?_
  refine f_then ?_
  refine c_seq ?_
  refine c_seq ?_
  refine c_region ?_
  refine l_val (v := .int .i64 (0)) rfl rfl rfl (e_assign) ?_
  refine l_nil ?_
  refine f_then ?_
  refine c_block ?_
  refine c_loop (fun (x_ : Unit) (f : Fm) (L : List Res) => match x_ with | () => (f 0 = .slice none 0 0 ∧ f 5 = .slice (some ⟨b1, 0, none⟩) 0 0 ∧ f 11 = .int .i64 (0)) ∧ L = [pt b1 (.cells #[] 185)] ∧ (True)) (fun (x_ : Unit) => match x_ with | () => 0) () ?_ ?_
  · exact ⟨⟨rfl, rfl, rfl⟩, rfl, trivial⟩
  rintro ⟨⟩ f0 L0 ⟨⟨hs0, hs5, hs11⟩, hL, -⟩
  subst L0
  refine rebase (d := 0) hs0 ?_
  refine rebase (d := 5) hs5 ?_
  refine rebase (d := 11) hs11 ?_
  clear hs0 hs5 hs11
  refine c_seq ?_
  refine c_seq ?_
  refine c_region ?_
  refine l_val (v := .int .i64 (0)) rfl rfl rfl (e_move) ?_
  refine l_val (v := .slice none 0 0) rfl rfl rfl (e_move) ?_
  refine l_val (v := .int .i64 (0)) rfl rfl rfl (e_len (n := 0) rfl tf160) ?_
  refine l_val (v := .bool false) rfl rfl rfl (e_lss (a := (0 : Int)) (b := (0 : Int)) rfl rfl) ?_
  refine l_nil ?_
  refine f_then ?_
  refine c_no rfl ?_
  refine c_exit ?_
  refine f_then_exit ?_
  refine f_then_exit ?_
  refine f_exit ?_
  refine f_then ?_
  refine c_seq ?_
  refine c_seq ?_
  refine c_region ?_
  refine l_val (v := .int .i64 (0)) rfl rfl rfl (e_assign) ?_
  refine l_nil ?_
  refine f_then ?_
  refine c_block ?_
  refine c_loop (fun (x_ : Unit) (f : Fm) (L : List Res) => match x_ with | () => (f 0 = .slice none 0 0 ∧ f 5 = .slice (some ⟨b1, 0, none⟩) 0 0 ∧ f 14 = .int .i64 (0)) ∧ L = [pt b1 (.cells #[] 185)] ∧ (True)) (fun (x_ : Unit) => match x_ with | () => 0) () ?_ ?_
  · exact ⟨⟨rfl, rfl, rfl⟩, rfl, trivial⟩
  rintro ⟨⟩ f0 L0 ⟨⟨hs0, hs5, hs14⟩, hL, -⟩
  subst L0
  refine rebase (d := 0) hs0 ?_
  refine rebase (d := 5) hs5 ?_
  refine rebase (d := 14) hs14 ?_
  clear hs0 hs5 hs14
  refine c_seq ?_
  refine c_seq ?_
  refine c_region ?_
  refine l_val (v := .int .i64 (0)) rfl rfl rfl (e_move) ?_
  refine l_val (v := .slice none 0 0) rfl rfl rfl (e_move) ?_
  refine l_val (v := .int .i64 (0)) rfl rfl rfl (e_len (n := 0) rfl tf160) ?_
  refine l_val (v := .bool false) rfl rfl rfl (e_lss (a := (0 : Int)) (b := (0 : Int)) rfl rfl) ?_
  refine l_nil ?_
  refine f_then ?_
  refine c_no rfl ?_
  refine c_exit ?_
  refine f_then_exit ?_
  refine f_then_exit ?_
  refine f_exit ?_
  refine f_then ?_
  refine c_seq ?_
  refine c_region ?_
  refine l_val (v := .bool true) rfl rfl rfl (e_assign) ?_
  refine l_nil ?_
  refine f_then ?_
  refine c_ret ?_
  refine ret1 Tryz.results66 (v := .bool true) rfl ?_
  intro w hw
  exact ⟨rfl, st_mask [false] rfl hw⟩
end Go.Proofs
