/-
  place: walked. Printed by a program of my own.
-/
import Derived.Test.YtoijanalppaplaaIs8
import Derived.Test.YtoijanalppaplaaIsClass
namespace Go.Isl
open Go.Sl Go.Brd Go.Stp Go.Proofs
/-- the index of the list that has x -/
def placeI (xss : List (List Int)) (x : Int) : Int := idxI (fun r => decide (x ∈ r)) xss
theorem place_next {xss : List (List Int)} {k : Nat} {x : Int} {r : List Int} (hr : xss[k]? = some r) (hn : ¬ x ∈ r) (h : ∀ r ∈ xss.take k, ¬ x ∈ r) : ∀ r ∈ xss.take (k + 1), ¬ x ∈ r := by
  intro z hz
  rw [List.take_add_one, hr] at hz
  rcases List.mem_append.1 hz with hz | hz
  · exact h z hz
  · rw [List.mem_singleton.1 hz]; exact hn
theorem place_none {xss : List (List Int)} {x : Int} (h : ∀ r ∈ xss, ¬ x ∈ r) : placeI xss x = -1 := by
  unfold placeI idxI
  rw [List.findIdx?_eq_none_iff.2 (fun r hr => by simpa using h r hr)]
theorem place_at {xss : List (List Int)} {k : Nat} {x : Int} {r : List Int} (hr : xss[k]? = some r) (hx : x ∈ r) (h : ∀ r ∈ xss.take k, ¬ x ∈ r) : placeI xss x = ((k : Nat) : Int) :=
  idx_found hr (by simpa using hx) (fun y hy => by simpa using h y hy)
end Go.Isl
namespace Go.Proofs
open Go Go.Sl Go.Brd Go.Stp Go.Isl

set_option maxHeartbeats 4000000 in
theorem place_ok (β : Base) (w : World) (hw : St β [] w) (v : Value) (xss : List (List Int)) (hs : Sl IntF.R.slice β.heap v xss) (x : Int) : Calls Try.prog 12 #[v, Ix x] w fun r w' => r = .returned (Ix (placeI xss x)) ∧ St β [] w' := by
  obtain ⟨va, vc, rfl, vl, vm, ve⟩ := hs.get
  refine enter (n := 28) Try.func12 rfl Try.ntmps12 rfl ?_ hw
  refine c_seq ?_
  refine c_region ?_
  refine l_val (v := .int .i64 (0)) rfl rfl rfl (e_assign) ?_
  refine l_nil ?_
  refine f_then ?_
  refine c_seq ?_
  refine c_seq ?_
  refine c_region ?_
  refine l_val (v := .slice va (xss.length) (vc)) rfl rfl rfl (e_move) ?_
  refine l_val (v := Nx (xss.length)) rfl rfl rfl (e_len (a := va) (n := xss.length) (c := vc) rfl tf64) ?_
  refine l_val (v := .int .i64 (0)) rfl rfl rfl (e_move) ?_
  refine l_nil ?_
  refine f_then ?_
  refine c_block ?_
  refine c_loop (fun (k : Nat) (f : Fm) (L : List Res) => (f 0 = .slice va (xss.length) (vc) ∧ f 1 = Ix (x) ∧ f 9 = Nx (xss.length) ∧ f 10 = Nx (k)) ∧ L = [] ∧ (k ≤ xss.length ∧ ∀ r ∈ xss.take k, ¬ x ∈ r)) (fun (k : Nat) => xss.length - k) 0 ?_ ?_
  · exact ⟨⟨rfl, rfl, rfl, rfl⟩, rfl, ⟨by omega, by simp⟩⟩
  rintro k f0 L0 ⟨⟨hs0, hs1, hs9, hs10⟩, hL, ⟨hk, hpl⟩⟩
  subst L0
  refine rebase (d := 0) hs0 ?_
  refine rebase (d := 1) hs1 ?_
  refine rebase (d := 9) hs9 ?_
  refine rebase (d := 10) hs10 ?_
  clear hs0 hs1 hs9 hs10
  refine c_seq ?_
  refine c_region ?_
  refine l_val (v := .bool (decide (((k : Nat) : Int) < ((xss.length : Nat) : Int)))) rfl rfl rfl (e_lss (a := ((k : Nat) : Int)) (b := ((xss.length : Nat) : Int)) rfl rfl) ?_
  refine l_nil ?_
  refine f_then ?_
  refine c_seq ?_
  refine c_if (((k : Nat) : Int) < ((xss.length : Nat) : Int)) rfl (fun hc1 => ?_) (fun hc1 => ?_)
  ·
    refine c_skip ?_
    refine f_then ?_
    refine c_seq ?_
    refine c_block ?_
    refine c_seq ?_
    refine c_region ?_
    refine l_val (v := Nx (k)) rfl rfl rfl (e_move) ?_
    refine l_val (v := Nx (k)) rfl rfl rfl (e_assign) ?_
    refine l_nil ?_
    refine f_then ?_
    refine c_seq ?_
    refine c_region ?_
    refine l_val (v := .slice va (xss.length) (vc)) rfl rfl rfl (e_move) ?_
    refine l_val (v := Nx (k)) rfl rfl rfl (e_move) ?_
    obtain ⟨x2, hx3⟩ : ∃ x_, (xss)[k]? = some x_ := ⟨_, List.getElem?_eq_getElem (by omega)⟩
    obtain ⟨ha4, cs5, hc6, hr7⟩ := ve _ _ hx3
    obtain ⟨v8, rfl, hv9⟩ := hr7
    obtain ⟨a10, c11, rfl, hl12, hm13, he14⟩ := (hv9).get
    refine l_val (v := .pointer (some ((ba va).add (k * 1)))) rfl rfl rfl (e_indexAddr (k := k) (len := xss.length) (cap := vc) (a := va) rfl rfl tf21 (by omega) ha4) ?_
    refine l_val (v := .slice a10 (x2.length) (c11)) rfl rfl rfl (e_load1 tf22 (v := .slice a10 (x2.length) (c11)) rfl (Knows.of_base (Cs.mono _ _) hc6)) ?_
    refine l_val (v := Nx (x2.length)) rfl rfl rfl (e_len (a := a10) (n := x2.length) (c := c11) rfl tf28) ?_
    refine l_val (v := .int .i64 (0)) rfl rfl rfl (e_move) ?_
    refine l_nil ?_
    refine f_then ?_
    refine c_block ?_
    refine c_loop (fun (j : Nat) (f : Fm) (L : List Res) => (f 0 = .slice va (xss.length) (vc) ∧ f 1 = Ix (x) ∧ f 5 = Nx (k) ∧ f 9 = Nx (xss.length) ∧ f 10 = Nx (k) ∧ f 16 = .slice a10 (x2.length) (c11) ∧ f 17 = Nx (x2.length) ∧ f 18 = Nx (j)) ∧ L = [] ∧ (j ≤ x2.length ∧ ∀ y ∈ x2.take j, y ≠ x)) (fun (j : Nat) => x2.length - j) 0 ?_ ?_
    · exact ⟨⟨rfl, rfl, rfl, rfl, rfl, rfl, rfl, rfl⟩, rfl, ⟨by omega, by simp⟩⟩
    rintro j f0 L0 ⟨⟨hs0, hs1, hs5, hs9, hs10, hs16, hs17, hs18⟩, hL, ⟨hj, hno⟩⟩
    subst L0
    refine rebase (d := 0) hs0 ?_
    refine rebase (d := 1) hs1 ?_
    refine rebase (d := 5) hs5 ?_
    refine rebase (d := 9) hs9 ?_
    refine rebase (d := 10) hs10 ?_
    refine rebase (d := 16) hs16 ?_
    refine rebase (d := 17) hs17 ?_
    refine rebase (d := 18) hs18 ?_
    clear hs0 hs1 hs5 hs9 hs10 hs16 hs17 hs18
    refine c_seq ?_
    refine c_region ?_
    refine l_val (v := .bool (decide (((j : Nat) : Int) < ((x2.length : Nat) : Int)))) rfl rfl rfl (e_lss (a := ((j : Nat) : Int)) (b := ((x2.length : Nat) : Int)) rfl rfl) ?_
    refine l_nil ?_
    refine f_then ?_
    refine c_seq ?_
    refine c_if (((j : Nat) : Int) < ((x2.length : Nat) : Int)) rfl (fun hc15 => ?_) (fun hc15 => ?_)
    ·
      refine c_skip ?_
      refine f_then ?_
      refine c_seq ?_
      refine c_block ?_
      refine c_seq ?_
      refine c_region ?_
      obtain ⟨x16, hx17⟩ : ∃ x_, (x2)[j]? = some x_ := ⟨_, List.getElem?_eq_getElem (by omega)⟩
      obtain ⟨ha18, cs19, hc20, rfl⟩ := he14 _ _ hx17
      refine l_val (v := .pointer (some ((ba a10).add (j * 1)))) rfl rfl rfl (e_indexAddr (k := j) (len := x2.length) (cap := c11) (a := a10) rfl rfl tf23 (by omega) ha18) ?_
      refine l_val (v := Ix (x16)) rfl rfl rfl (e_load1 tf11 (v := Ix (x16)) rfl (Knows.of_base (Cs.mono _ _) hc20)) ?_
      refine l_val (v := Ix (x16)) rfl rfl rfl (e_assign) ?_
      refine l_nil ?_
      refine f_then ?_
      refine c_seq ?_
      refine c_region ?_
      refine l_val (v := Ix (x16)) rfl rfl rfl (e_move) ?_
      refine l_val (v := Ix (x)) rfl rfl rfl (e_move) ?_
      refine l_val (v := .bool (decide ((x16) = (x)))) rfl rfl rfl (e_eql (a := (x16)) (b := (x)) rfl rfl) ?_
      refine l_nil ?_
      refine f_then ?_
      refine c_if ((x16) = (x)) rfl (fun hc22 => ?_) (fun hc22 => ?_)
      ·
        refine c_seq ?_
        refine c_region ?_
        refine l_val (v := Nx (k)) rfl rfl rfl (e_move) ?_
        refine l_val (v := Nx (k)) rfl rfl rfl (e_assign) ?_
        refine l_nil ?_
        refine f_then ?_
        refine c_ret ?_
        refine f_block_ret ?_
        refine f_then_ret ?_
        refine f_then_ret ?_
        refine f_block_ret ?_
        refine f_block_ret ?_
        refine f_then_ret ?_
        refine f_then_ret ?_
        refine f_block_ret ?_
        refine f_then_ret ?_
        refine ret1 Try.results12 (v := Nx (k)) rfl ?_
        intro w hw
        exact ⟨by rw [place_at hx3 (by rw [← hc22]; exact List.mem_of_getElem? hx17) hpl], st_mask [] rfl hw⟩
      ·
        refine c_skip ?_
        refine f_block ?_
        refine f_then ?_
        refine c_region ?_
        refine l_val (v := Nx (j + 1)) rfl rfl rfl (e_add (a := ((j : Nat) : Int)) (b := (1 : Int)) rfl rfl (i64n (by omega) (by omega))) ?_
        refine l_val (v := Nx (j + 1)) rfl rfl rfl (e_move) ?_
        refine l_nil ?_
        exact f_cut ⟨j + 1, ⟨⟨rfl, rfl, rfl, rfl, rfl, rfl, rfl, rfl⟩, rfl, ⟨by omega, no_next hx17 (fun e => hc22 e.symm) hno⟩⟩, (show x2.length - (j + 1) < x2.length - j from by omega)⟩
    ·
      refine c_exit ?_
      refine f_then_exit ?_
      refine f_then_exit ?_
      refine f_exit ?_
      refine f_block ?_
      refine f_then ?_
      refine c_region ?_
      refine l_val (v := Nx (k + 1)) rfl rfl rfl (e_add (a := ((k : Nat) : Int)) (b := (1 : Int)) rfl rfl (i64n (by omega) (by omega))) ?_
      refine l_val (v := Nx (k + 1)) rfl rfl rfl (e_move) ?_
      refine l_nil ?_
      exact f_cut ⟨k + 1, ⟨⟨rfl, rfl, rfl, rfl⟩, rfl, ⟨by omega, place_next hx3 (fun q => absurd rfl (hno x (by rwa [List.take_of_length_le (by omega)]))) hpl⟩⟩, (show xss.length - (k + 1) < xss.length - k from by omega)⟩
  ·
    refine c_exit ?_
    refine f_then_exit ?_
    refine f_then_exit ?_
    refine f_exit ?_
    refine f_then ?_
    refine c_seq ?_
    refine c_region ?_
    refine l_val (v := .int .i64 (-1)) rfl rfl rfl (e_assign) ?_
    refine l_nil ?_
    refine f_then ?_
    refine c_ret ?_
    refine ret1 Try.results12 (v := .int .i64 (-1)) rfl ?_
    intro w hw
    exact ⟨by rw [place_none (fun r hr => hpl r (by rwa [List.take_of_length_le (by omega)]))], st_mask [] rfl hw⟩
end Go.Proofs
