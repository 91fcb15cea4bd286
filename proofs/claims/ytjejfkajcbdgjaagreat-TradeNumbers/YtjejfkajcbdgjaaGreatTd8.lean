/-
 Keys of maps, sorted: walked. Printed by a program of my own.
-/
import Derived.Test.YtjejfkajcbdgjaaGreatTd4
import Derived.Test.YtjejfkajcbdgjaaGreatSlMpB
import Derived.Test.YtjejfkajcbdgjaaGreatTdSortI
namespace Go.Proofs
open Go Go.Sl Go.Td
theorem sortI_len (xs : List Int) : (sortI xs).length = xs.length := (sortI_perm xs).length_eq
theorem mkeys_pre {ν : Type} {pre ks : List (Int × ν)} {x : Int × ν} (h : ∃ rs, (pre ++ [x] ++ rs).Perm ks) : ∃ l : List Int, l.Perm (ks.map (·.1)) ∧ pre.map (·.1) ++ [x.1] <+: l := by
 obtain ⟨rs, h⟩ := h
 exact ⟨(pre ++ [x] ++ rs).map (·.1), h.map _, by rw [List.map_append, List.map_append]; exact List.prefix_append _ _⟩
theorem pre_le {α : Type} {pre ks : List α} {x : α} (h : ∃ rs, (pre ++ [x] ++ rs).Perm ks) : (pre ++ [x]).length ≤ ks.length := by
 obtain ⟨rs, h⟩ := h; rw [← h.length_eq]; simp only [List.length_append, List.length_singleton]; omega
theorem pre_lt {α : Type} {pre ks : List α} {x : α} (h : ∃ rs, (pre ++ [x] ++ rs).Perm ks) : ks.length - (pre ++ [x]).length < ks.length - pre.length := by
 have := pre_le h; simp at this ⊢; omega
theorem tt110 : cfB Tryz.prog 111 = true := by kernel_rfl
theorem tt111 : cfB Tryz.prog 77 = true := by kernel_rfl
theorem tt112 : cfB Tryz.prog 78 = true := by kernel_rfl
theorem keysH_ok (β : Base) (w : World) (hw : St β [] w) (m : Nat) : Calls Tryz.prog 42 #[.map (some m)] w fun r w' => ∃ b, r = .returned (.func (.func 79) #[] #[.pointer (some ⟨b, 0, none⟩)]) ∧ St β [pt b (.cells #[.map (some m)] 85)] w' := by
 refine enter (n := 4) Tryz.func42 rfl Tryz.ntmps42 rfl ?_ hw
 refine c_seq ?_
 refine c_region ?_
 refine l_mv rfl rfl rfl (m_box (v := .map (some m)) rfl) ?_
 rintro _ _ ⟨b1, rfl, rfl⟩
 refine l_val (v := .nilFunc) rfl rfl rfl (e_assign) ?_
 refine l_nil ?_
 refine f_then ?_
 refine c_seq ?_
 refine c_region ?_
 refine l_val (v := .func (.func 79) #[] #[.pointer (some ⟨b1, 0, none⟩)]) rfl rfl rfl (e_func (u := []) (v := [.pointer (some ⟨b1, 0, none⟩)]) rfl rfl) ?_
 refine l_val (v := .func (.func 79) #[] #[.pointer (some ⟨b1, 0, none⟩)]) rfl rfl rfl (e_assign) ?_
 refine l_nil ?_
 refine f_then ?_
 refine c_ret ?_
 refine ret1 Tryz.results42 (v := .func (.func 79) #[] #[.pointer (some ⟨b1, 0, none⟩)]) rfl ?_
 intro w hw
 exact ⟨b1, rfl, st_mask [true] rfl hw⟩
theorem keysH_seq (β : Base) (b m : Nat) (ks : List (Int × KHo)) (hm : mpR HoM m ks β.heap) : SeqK Tryz.prog β (.func (.func 79) #[] #[.pointer (some ⟨b, 0, none⟩)]) (fun z : Int => [Ix z]) (fun l => l.Perm (ks.map (·.1))) [pt b (.cells #[.map (some m)] 85)] := by
 refine ⟨79, [], [.pointer (some ⟨b, 0, none⟩)], rfl, by kernel_rfl, fun β₁ ext l J X hY M w hJ hw => ?_⟩
 replace hw := hw.perm (List.perm_append_comm)
 have hm := mpR.mono _ _ _ _ _ ext.1 hm
 refine enter (n := 14) Tryz.func79 rfl Tryz.ntmps79 rfl ?_ hw
 refine c_seq ?_
 refine c_region ?_
 refine l_val (v := .map (some m)) rfl rfl rfl (e_load1 tt39 (v := .map (some m)) rfl (k_pt 0 (cs := #[.map (some m)]) (vs := [.map (some m)]) rfl rfl)) ?_
 refine l_mv rfl rfl rfl (m_rangeB (K := HoM) (b := m) (ks := ks) rfl rfl hm) ?_
 rintro _ _ ⟨it1, rfl, rfl⟩
 refine l_nil ?_
 refine f_then ?_
 refine c_block ?_
 refine c_loop (fun (x_ : List (Int × KHo) × List Res) (f : Fm) (L : List Res) => match x_ with | (pre, M) => (f 0 = yfn l ∧ f 5 = .pointer (some ⟨it1, 0, none⟩)) ∧ L = (itR HoM β₁ m it1 ks pre :: pt b (.cells #[.map (some m)] 85) :: M) ∧ (pre.length ≤ ks.length ∧ J (pre.map (·.1)) M)) (fun (x_ : List (Int × KHo) × List Res) => match x_ with | (pre, M) => ks.length - pre.length) ([], M) ?_ ?_
 ·exact ⟨⟨rfl, rfl⟩, rfl, ⟨Nat.zero_le _, hJ⟩⟩
 rintro ⟨pre, M⟩ f0 L0 ⟨⟨hs0, hs5⟩, hL, ⟨hpl, hJ⟩⟩
 subst L0
 refine rebase (d := 0) hs0 ?_
 refine rebase (d := 5) hs5 ?_
 clear hs0 hs5
 refine c_seq ?_
 refine c_region ?_
 refine l_mv rfl rfl rfl (m_nextB (K := HoM) (b := m) (r := it1) (ks := ks) (pre := pre) 0 rfl rfl) ?_
 rintro _ _ (⟨rfl, he4, rfl⟩ | ⟨x2, rfl, hx3, rfl⟩)
 ·
  refine l_val (v := .bool false) rfl rfl rfl (e_extract (vs := #[.bool false]) rfl rfl) ?_
  refine l_nil ?_
  refine f_then ?_
  refine c_seq ?_
  refine c_no rfl ?_
  refine c_exit ?_
  refine f_then_exit ?_
  refine f_then_exit ?_
  refine f_exit ?_
  refine end0 Tryz.results79 ?_
  intro w hw
  exact ⟨⟨_, rfl⟩, .inl ⟨_, M, he4.map _, hJ, st_mask [false, false] rfl hw⟩⟩
 ·
  refine l_val (v := .bool true) rfl rfl rfl (e_extract (vs := #[.bool true, Ix (x2.1), .agg #[Ix (x2.2.number), Ix (x2.2.owner), Ix (x2.2.a.a0), Ix (x2.2.a.a1), Ix (x2.2.a.a2), Ix (x2.2.a.a3)]]) rfl rfl) ?_
  refine l_nil ?_
  refine f_then ?_
  refine c_seq ?_
  refine c_yes rfl ?_
  refine c_skip ?_
  refine f_then ?_
  refine c_block ?_
  refine c_seq ?_
  refine c_region ?_
  refine l_val (v := .tuple #[Ix (x2.1), .agg #[Ix (x2.2.number), Ix (x2.2.owner), Ix (x2.2.a.a0), Ix (x2.2.a.a1), Ix (x2.2.a.a2), Ix (x2.2.a.a3)]]) rfl rfl rfl (e_entryB (K := HoM) (b := m) (r := it1) (ks := ks) (pre := pre) (y := x2) 0 rfl rfl) ?_
  refine l_val (v := Ix (x2.1)) rfl rfl rfl (e_extract (vs := #[Ix (x2.1), .agg #[Ix (x2.2.number), Ix (x2.2.owner), Ix (x2.2.a.a0), Ix (x2.2.a.a1), Ix (x2.2.a.a2), Ix (x2.2.a.a3)]]) rfl rfl) ?_
  refine l_val (v := Ix (x2.1)) rfl rfl rfl (e_assign) ?_
  refine l_nil ?_
  refine f_then ?_
  refine c_seq ?_
  refine c_region ?_
  refine l_val (v := yfn l) rfl rfl rfl (e_move) ?_
  refine l_val (v := Ix (x2.1)) rfl rfl rfl (e_move) ?_
  refine l_yield (own := [itR HoM β₁ m it1 ks (pre ++ [x2]), pt b (.cells #[.map (some m)] 85)]) (M := M) (d := 12) (enc := fun z : Int => [Ix z]) (pre := pre.map (·.1)) (x := x2.1) rfl rfl rfl rfl hY (mkeys_pre hx3) hJ (fun M1 hJ1 => ?_) (fun M1 hX1 => ?_)
  ·
   refine l_val (v := .bool false) rfl rfl rfl (e_not (a := true) rfl) ?_
   refine l_nil ?_
   refine f_then ?_
   refine c_no rfl ?_
   refine c_skip ?_
   refine f_block ?_
   exact f_cut ⟨((pre ++ [x2]), M1), ⟨⟨rfl, rfl⟩, rfl, ⟨pre_le hx3, by rw [List.map_append]; exact hJ1⟩⟩, (pre_lt hx3)⟩
  ·
   refine l_val (v := .bool true) rfl rfl rfl (e_not (a := false) rfl) ?_
   refine l_nil ?_
   refine f_then ?_
   refine c_yes rfl ?_
   refine c_ret ?_
   refine f_block_ret ?_
   refine f_then_ret ?_
   refine f_block_ret ?_
   refine ret0 Tryz.results79 ?_
   intro w hw
   exact ⟨⟨_, rfl⟩, .inr ⟨_, M1, hX1, st_mask [false, false] rfl hw⟩⟩
theorem appendSeqI_ok (β : Base) (w : World) (fn : Value) (S : List Int → Prop) (K : List Res) (hs : SeqK Tryz.prog β fn (fun z : Int => [Ix z]) S K) (hB : ∀ l, S l → l.length ≤ 1048576) (hw : St β K w) : Calls Tryz.prog 111 #[.slice none 0 0, fn] w fun r w' => ∃ p c xs, S xs ∧ r = .returned (.slice p xs.length c) ∧ St β [rowF IntF 3 p c xs] w' := by
 refine enterM (n := 13) Tryz.func111 rfl Tryz.ntmps111 rfl ?_ hw
 refine c_seq ?_
 refine c_region ?_
 refine l_mv rfl rfl rfl (m_box (v := .slice none 0 0) rfl) ?_
 rintro _ _ ⟨b1, rfl, rfl⟩
 refine l_val (v := .slice none 0 0) rfl rfl rfl (e_assign) ?_
 refine l_nil ?_
 refine f_then ?_
 refine c_seq ?_
 refine c_seq ?_
 refine c_emp (r := rowF IntF 3 none 0 []) (row_nil _ _ _) ?_
 refine c_region ?_
 refine l_val (v := fn) rfl rfl rfl (e_move) ?_
 refine l_nil ?_
 refine f_then ?_
 refine c_block ?_
 refine c_rangeK (L := [rowF IntF 3 none 0 [], pt b1 (.cells #[.slice none 0 0] 35)]) (K := K) (α := Int) (enc := fun z : Int => [Ix z]) (S := S) (ps := [7]) (I := fun (pre : List (Int)) (L : List Res) => ∃ (p : Option Addr), ∃ (c : Nat), L = [rowF IntF 3 p c pre, pt b1 (.cells #[.slice p (pre.length) c] 35)] ∧ (True)) (X := fun _ _ _ => False) rfl (hs) (fun _ => rfl) rfl ⟨none, 0, rfl, trivial⟩ ?_ ?_ ?_
 ·rintro l β1 pre x M ext hpre ⟨p, c, rfl, -⟩
  have hpl : pre.length ≤ 1048576 := by obtain ⟨l, h1, h2⟩ := hpre; have h3 := h2.length_le; have h4 := hB l h1; rw [List.length_append] at h3; omega
  refine c_region ?_
  refine l_val (v := Ix (x)) rfl rfl rfl (e_assign) ?_
  refine l_nil ?_
  refine f_cut (fun β2 ext2 => ?_)
  refine c_block ?_
  refine c_region ?_
  refine l_val (v := .slice p (pre.length) c) rfl rfl rfl (e_load1 tt63 (v := .slice p (pre.length) c) rfl (k_pt 1 (cs := #[.slice p (pre.length) c]) (vs := [.slice p (pre.length) c]) rfl rfl)) ?_
  refine l_val (v := Ix (x)) rfl rfl rfl (e_move) ?_
  refine l_mv rfl rfl rfl (m_slices tt29 tt64 (vs := [(0, Ix (x))]) (cells := #[Ix (x)]) rfl rfl rfl rfl) ?_
  rintro _ _ ⟨b2, rfl, rfl⟩
  refine l_mv rfl rfl rfl (m_appendFlN (F := IntF) 1 tt29 tt31 (p := p) (m := pre.length) (xs := pre) (ys := [x]) (ao := (some ⟨b2, 0, none⟩)) (k := 1) (c := 1) rfl rfl rfl rfl rfl (k_ptFl (z := x) 0 rfl rfl) (by first | omega | simp only [List.length_nil, List.length_cons, List.length_append, List.length_set]; omega) (by first | omega | simp only [List.length_nil, List.length_cons, List.length_append, List.length_set]; omega)) ?_
  rintro _ _ ⟨rp3, rc4, rfl, rfl⟩
  refine l_mu rfl rfl (m_store 2 tt63 (b := b1) (o := 0) (T := 35) (cs := #[.slice p (pre.length) c]) (cs' := #[.slice rp3 ((pre ++ [x]).length) rc4]) (v := .slice rp3 ((pre ++ [x]).length) rc4) rfl rfl rfl rfl rfl rfl rfl) ?_
  refine l_nil ?_
  refine f_block ?_
  refine f_mask (L' := [rowF IntF 3 rp3 rc4 (pre ++ [x]), pt b1 (.cells #[.slice rp3 ((pre ++ [x]).length) rc4] 35)]) [false, true, true] rfl ?_
  exact fun a w ha hw => ⟨_, ⟨rp3, rc4, rfl, trivial⟩, hw⟩
 ·rintro D1 ys1 M hS1 ⟨p, c, rfl, -⟩
  refine f_block ?_
  refine f_then ?_
  refine c_seq ?_
  refine c_region ?_
  refine l_val (v := .slice p (ys1.length) c) rfl rfl rfl (e_load1 tt63 (v := .slice p (ys1.length) c) rfl (k_pt 1 (cs := #[.slice p (ys1.length) c]) (vs := [.slice p (ys1.length) c]) rfl rfl)) ?_
  refine l_val (v := .slice p (ys1.length) c) rfl rfl rfl (e_assign) ?_
  refine l_nil ?_
  refine f_then ?_
  refine c_ret ?_
  refine retM 2 rfl Tryz.results111 (v := .slice p (ys1.length) c) rfl ?_
  intro w hw
  exact ⟨p, c, ys1, hS1, rfl, st_mask [true, false, false] rfl hw⟩
 ·intro D c pre M h; exact h.elim
theorem collectI_ok (β : Base) (w : World) (fn : Value) (S : List Int → Prop) (K : List Res) (hs : SeqK Tryz.prog β fn (fun z : Int => [Ix z]) S K) (hB : ∀ l, S l → l.length ≤ 1048576) (hw : St β K w) : Calls Tryz.prog 77 #[fn] w fun r w' => ∃ p c xs, S xs ∧ r = .returned (.slice p xs.length c) ∧ St β [rowF IntF 3 p c xs] w' := by
 refine enter (n := 5) Tryz.func77 rfl Tryz.ntmps77 rfl ?_ hw
 refine c_seq ?_
 refine c_region ?_
 refine l_val (v := .slice none 0 0) rfl rfl rfl (e_assign) ?_
 refine l_nil ?_
 refine f_then ?_
 refine c_seq ?_
 refine c_region ?_
 refine l_val (v := fn) rfl rfl rfl (e_move) ?_
 refine l_call rfl rfl rfl (cl_value (fst := []) (cap := []) (vs := [.slice none 0 0, fn]) (all := [.slice none 0 0, fn]) tt110 rfl rfl rfl) ?_
 intro w hw
 refine (appendSeqI_ok β w fn S K hs hB hw).mono ?_
 rintro e w' ⟨p, c, xs, hS, rfl, hw'⟩
 refine ⟨_, rfl, _, hw', ?_⟩
 clear hw hw'
 refine l_val (v := .slice p (xs.length) c) rfl rfl rfl (e_assign) ?_
 refine l_nil ?_
 refine f_then ?_
 refine c_ret ?_
 refine ret1 Tryz.results77 (v := .slice p (xs.length) c) rfl ?_
 intro w hw
 exact ⟨p, c, xs, hS, rfl, st_mask [true] rfl hw⟩
theorem sortedI_ok (β : Base) (w : World) (fn : Value) (S : List Int → Prop) (K : List Res) (hs : SeqK Tryz.prog β fn (fun z : Int => [Ix z]) S K) (hB : ∀ l, S l → l.length ≤ 1048576) (hw : St β K w) : Calls Tryz.prog 41 #[fn] w fun r w' => ∃ p c xs, S xs ∧ r = .returned (.slice p (sortI xs).length c) ∧ St β [rowF IntF 3 p c (sortI xs)] w' := by
 refine enter (n := 9) Tryz.func41 rfl Tryz.ntmps41 rfl ?_ hw
 refine c_seq ?_
 refine c_region ?_
 refine l_val (v := .slice none 0 0) rfl rfl rfl (e_assign) ?_
 refine l_nil ?_
 refine f_then ?_
 refine c_seq ?_
 refine c_region ?_
 refine l_val (v := fn) rfl rfl rfl (e_move) ?_
 refine l_call rfl rfl rfl (cl_value (fst := []) (cap := []) (vs := [fn]) (all := [fn]) tt111 rfl rfl rfl) ?_
 intro w hw
 refine (collectI_ok β w fn S K hs hB hw).mono ?_
 rintro e w' ⟨p, c, xs, hS, rfl, hw'⟩
 refine ⟨_, rfl, _, hw', ?_⟩
 clear hw hw'
 refine l_val (v := .slice p (xs.length) c) rfl rfl rfl (e_assign) ?_
 refine l_nil ?_
 refine f_then ?_
 refine c_seq ?_
 have hxl := hB _ hS
 refine c_region ?_
 refine l_val (v := .slice p (xs.length) c) rfl rfl rfl (e_move) ?_
 refine l_call rfl rfl rfl (cl_value (fst := []) (cap := []) (vs := [.slice p (xs.length) c]) (all := [.slice p (xs.length) c]) tt112 rfl rfl rfl) ?_
 intro w hw
 replace hw := hw.perm (L' := _ :: []) (by exact (perm_front 0 rfl))
 obtain ⟨β1, sb, kn, hw1, back⟩ := St.frame (L := [_]) (M := []) hw
 refine (sortI_ok β1 w _ _ xs hw1 (by omega)).mono ?_
 rintro e w' ⟨rfl, hw'⟩
 refine ⟨_, rfl, _, back _ _ hw', ?_⟩
 clear hw hw1 hw' back kn sb
 refine l_nil ?_
 refine f_then ?_
 refine c_seq ?_
 refine c_region ?_
 refine l_val (v := .slice p (xs.length) c) rfl rfl rfl (e_move) ?_
 refine l_val (v := .slice p (xs.length) c) rfl rfl rfl (e_assign) ?_
 refine l_nil ?_
 refine f_then ?_
 refine c_ret ?_
 refine ret1 Tryz.results41 (v := .slice p (xs.length) c) rfl ?_
 intro w hw
 exact ⟨p, c, xs, hS, by rw [sortI_len], st_mask [true] rfl hw⟩
end Go.Proofs
