/-
 Keys of maps,sorted: walked. Printed by a program of my own.
-/
import Derived.Test.YtjejfkajcbdgjaaGreatTd4
import Derived.Test.YtjejfkajcbdgjaaGreatSlMpB
import Derived.Test.YtjejfkajcbdgjaaGreatTdSortI
import Derived.Test.YtjejfkajcbdgjaaGreatSlA
import Derived.Test.YtjejfkajcbdgjaaGreatSlN
namespace Go.Proofs
open Go Go.Sl Go.Td
theorem sortI_len (xs : List Int) : (sortI xs).length = xs.length := (sortI_perm xs).length_eq
theorem mkeys_pre {ν : Type} {pre ks : List (Int × ν)} {x : Int × ν} (h : ∃ rs, (pre ++ [x] ++ rs).Perm ks) : ∃ l : List Int, l.Perm (ks.map (·.1)) ∧ pre.map (·.1) ++ [x.1] <+: l := by
 obtain ⟨rs,h⟩ := h
 exact ⟨(pre ++ [x] ++ rs).map (·.1),h.map _,by rw [List.map_append,List.map_append]; exact List.prefix_append _ _⟩
theorem pre_le {α : Type} {pre ks : List α} {x : α} (h : ∃ rs, (pre ++ [x] ++ rs).Perm ks) : (pre ++ [x]).length ≤ ks.length := by
 obtain ⟨rs,h⟩ := h; rw [← h.length_eq]; simp only [List.length_append,List.length_singleton]; omega
theorem pre_lt {α : Type} {pre ks : List α} {x : α} (h : ∃ rs, (pre ++ [x] ++ rs).Perm ks) : ks.length - (pre ++ [x]).length < ks.length - pre.length := by
 have := pre_le h; simp at this ⊢; omega
instance tt110 : CfC Tryz.prog 111 := ⟨by kernel_rfl⟩
instance tt111 : CfC Tryz.prog 77 := ⟨by kernel_rfl⟩
instance tt112 : CfC Tryz.prog 78 := ⟨by kernel_rfl⟩
theorem keysP_ok (β : Base) (w : World) (hw : St β [] w) (m : Nat) : Calls Tryz.prog 43 #[.map (some m)] w fun r w' => ∃ b, r = .returned (.func (.func 80) #[] #[pp b 0]) ∧ St β [pt b (.cells #[.map (some m)] 84)] w' := by
 refine enter (n := 4) Tryz.func43 rfl Tryz.ntmps43 rfl ?_ hw
 refine csr (l_mv rfl rfl rfl (m_box (v := .map (some m)) rfl) ?_)
 rintro _ _ ⟨b1,rfl,rfl⟩
 refine lv e_assign (lnc (lv (v := .func (.func 80) #[] #[pp b1 0]) (e_func (u := []) (v := [pp b1 0]) rfl rfl) (lE oaf (lnf (c_ret ?_)))))
 refine ret1 Tryz.results43 rfl ?_
 intro w hw
 exact ⟨b1,rfl,st_mask [true] rfl hw⟩
theorem keysP_seq (β : Base) (b m : Nat) (ks : List (Int × KAm)) (hm : mpR PuM m ks β.heap) : SeqK Tryz.prog β (.func (.func 80) #[] #[pp b 0]) (fun z : Int => [Ix z]) (fun l => l.Perm (ks.map (·.1))) [pt b (.cells #[.map (some m)] 84)] := by
 refine ⟨80,[],[pp b 0],rfl,by kernel_rfl,fun β₁ ext l J X hY M w hJ hw => ?_⟩
 replace hw := hw.perm (List.perm_append_comm)
 have hm := mpR.mono _ _ _ _ _ ext.1 hm
 refine enter (n := 14) Tryz.func80 rfl Tryz.ntmps80 rfl ?_ hw
 refine csr (lv (v := .map (some m)) (e_load1 tt33.ok rfl (k_pt 0 rfl rfl)) (l_mv rfl rfl rfl (m_rangeB (K := PuM) (b := m) (ks := ks) rfl rfl hm) ?_))
 rintro _ _ ⟨it1,rfl,rfl⟩
 refine lnf (c_block ?_)
 refine c_loop (fun (x_ : List (Int × KAm) × List Res) f L => match x_ with | (pre,M) => (f 0 = yfn l ∧ f 5 = pp it1 0) ∧ L = (itR PuM β₁ m it1 ks pre :: pt b (.cells #[.map (some m)] 84) :: M) ∧ (pre.length ≤ ks.length ∧ J (pre.map (·.1)) M)) (fun (pre,M) => ks.length - pre.length) ([],M) ?_ ?_
 ·exact ⟨⟨rfl,rfl⟩,rfl,⟨Nat.zero_le _,hJ⟩⟩
 rintro ⟨pre,M⟩ f0 L0 ⟨⟨hs0,hs5⟩,hL,⟨hpl,hJ⟩⟩
 subst L0
 refine rbs 0 hs0 (rbs 5 hs5 (csr (l_mv rfl rfl rfl (m_nextB (K := PuM) (b := m) (r := it1) (ks := ks) (pre := pre) 0 rfl rfl) ?_)))
 rintro _ _ (⟨rfl,he4,rfl⟩ | ⟨x2,rfl,hx3,rfl⟩)
 ·refine lE oxb (lnf (c_seq (c_no rfl (c_exit (f_then_exit (f_then_exit (f_exit (end0 Tryz.results80 ?_))))))))
  intro w hw
  exact ⟨⟨_,rfl⟩,.inl ⟨_,M,he4.map _,hJ,st_mask [false,false] rfl hw⟩⟩
 refine lE oxb (lnf (c_seq (c_yes rfl (csk (c_block (csr ?_))))))
 refine lv (v := .tuple #[Ix (x2.1),.agg (amC x2.2)]) (e_entryB (K := PuM) (b := m) (r := it1) (ks := ks) (pre := pre) (y := x2) 0 rfl rfl) (lE oxi ?_)
 refine lE oai (lnc (lv e_move (lE omi ?_)))
 refine l_yield (own := [itR PuM β₁ m it1 ks (pre ++ [x2]),pt b (.cells #[.map (some m)] 84)]) (M := M) (d := 12) (enc := fun z : Int => [Ix z]) (pre := pre.map (·.1)) (x := x2.1) rfl rfl rfl rfl hY (mkeys_pre hx3) hJ (fun M1 hJ1 => ?_) (fun M1 hX1 => ?_)
 ·refine lE ont (lnf (c_no rfl (c_skip (f_block ?_))))
  exact f_cut ⟨((pre ++ [x2]),M1),⟨⟨rfl,rfl⟩,rfl,⟨pre_le hx3,by rw [List.map_append]; exact hJ1⟩⟩,(pre_lt hx3)⟩
 refine lE ont (lnf (c_yes rfl (c_ret (f_block_ret (f_then_ret (f_block_ret (ret0 Tryz.results80 ?_)))))))
 intro w hw
 exact ⟨⟨_,rfl⟩,.inr ⟨_,M1,hX1,st_mask [false,false] rfl hw⟩⟩
theorem keysH_ok (β : Base) (w : World) (hw : St β [] w) (m : Nat) : Calls Tryz.prog 42 #[.map (some m)] w fun r w' => ∃ b, r = .returned (.func (.func 79) #[] #[pp b 0]) ∧ St β [pt b (.cells #[.map (some m)] 85)] w' := by
 refine enter (n := 4) Tryz.func42 rfl Tryz.ntmps42 rfl ?_ hw
 refine csr (l_mv rfl rfl rfl (m_box (v := .map (some m)) rfl) ?_)
 rintro _ _ ⟨b1,rfl,rfl⟩
 refine lv e_assign (lnc (lv (v := .func (.func 79) #[] #[pp b1 0]) (e_func (u := []) (v := [pp b1 0]) rfl rfl) (lE oaf (lnf (c_ret ?_)))))
 refine ret1 Tryz.results42 rfl ?_
 intro w hw
 exact ⟨b1,rfl,st_mask [true] rfl hw⟩
theorem keysH_seq (β : Base) (b m : Nat) (ks : List (Int × KHo)) (hm : mpR HoM m ks β.heap) : SeqK Tryz.prog β (.func (.func 79) #[] #[pp b 0]) (fun z : Int => [Ix z]) (fun l => l.Perm (ks.map (·.1))) [pt b (.cells #[.map (some m)] 85)] := by
 refine ⟨79,[],[pp b 0],rfl,by kernel_rfl,fun β₁ ext l J X hY M w hJ hw => ?_⟩
 replace hw := hw.perm (List.perm_append_comm)
 have hm := mpR.mono _ _ _ _ _ ext.1 hm
 refine enter (n := 14) Tryz.func79 rfl Tryz.ntmps79 rfl ?_ hw
 refine csr (lv (v := .map (some m)) (e_load1 tt39.ok rfl (k_pt 0 rfl rfl)) (l_mv rfl rfl rfl (m_rangeB (K := HoM) (b := m) (ks := ks) rfl rfl hm) ?_))
 rintro _ _ ⟨it1,rfl,rfl⟩
 refine lnf (c_block ?_)
 refine c_loop (fun (x_ : List (Int × KHo) × List Res) f L => match x_ with | (pre,M) => (f 0 = yfn l ∧ f 5 = pp it1 0) ∧ L = (itR HoM β₁ m it1 ks pre :: pt b (.cells #[.map (some m)] 85) :: M) ∧ (pre.length ≤ ks.length ∧ J (pre.map (·.1)) M)) (fun (pre,M) => ks.length - pre.length) ([],M) ?_ ?_
 ·exact ⟨⟨rfl,rfl⟩,rfl,⟨Nat.zero_le _,hJ⟩⟩
 rintro ⟨pre,M⟩ f0 L0 ⟨⟨hs0,hs5⟩,hL,⟨hpl,hJ⟩⟩
 subst L0
 refine rbs 0 hs0 (rbs 5 hs5 (csr (l_mv rfl rfl rfl (m_nextB (K := HoM) (b := m) (r := it1) (ks := ks) (pre := pre) 0 rfl rfl) ?_)))
 rintro _ _ (⟨rfl,he4,rfl⟩ | ⟨x2,rfl,hx3,rfl⟩)
 ·refine lE oxb (lnf (c_seq (c_no rfl (c_exit (f_then_exit (f_then_exit (f_exit (end0 Tryz.results79 ?_))))))))
  intro w hw
  exact ⟨⟨_,rfl⟩,.inl ⟨_,M,he4.map _,hJ,st_mask [false,false] rfl hw⟩⟩
 refine lE oxb (lnf (c_seq (c_yes rfl (csk (c_block (csr ?_))))))
 refine lv (v := .tuple #[Ix (x2.1),.agg #[Ix (x2.2.number),Ix (x2.2.owner),Ix (x2.2.a.a0),Ix (x2.2.a.a1),Ix (x2.2.a.a2),Ix (x2.2.a.a3)]]) (e_entryB (K := HoM) (b := m) (r := it1) (ks := ks) (pre := pre) (y := x2) 0 rfl rfl) ?_
 refine lE oxi (lE oai (lnc (lv e_move (lE omi ?_))))
 refine l_yield (own := [itR HoM β₁ m it1 ks (pre ++ [x2]),pt b (.cells #[.map (some m)] 85)]) (M := M) (d := 12) (enc := fun z : Int => [Ix z]) (pre := pre.map (·.1)) (x := x2.1) rfl rfl rfl rfl hY (mkeys_pre hx3) hJ (fun M1 hJ1 => ?_) (fun M1 hX1 => ?_)
 ·refine lE ont (lnf (c_no rfl (c_skip (f_block ?_))))
  exact f_cut ⟨((pre ++ [x2]),M1),⟨⟨rfl,rfl⟩,rfl,⟨pre_le hx3,by rw [List.map_append]; exact hJ1⟩⟩,(pre_lt hx3)⟩
 refine lE ont (lnf (c_yes rfl (c_ret (f_block_ret (f_then_ret (f_block_ret (ret0 Tryz.results79 ?_)))))))
 intro w hw
 exact ⟨⟨_,rfl⟩,.inr ⟨_,M1,hX1,st_mask [false,false] rfl hw⟩⟩
theorem keysM_ok (β : Base) (w : World) (hw : St β [] w) (m : Nat) : Calls Tryz.prog 96 #[.map (some m)] w fun r w' => ∃ b, r = .returned (.func (.func 121) #[] #[pp b 0]) ∧ St β [pt b (.cells #[.map (some m)] 86)] w' := by
 refine enter (n := 4) Tryz.func96 rfl Tryz.ntmps96 rfl ?_ hw
 refine csr (l_mv rfl rfl rfl (m_box (v := .map (some m)) rfl) ?_)
 rintro _ _ ⟨b1,rfl,rfl⟩
 refine lv e_assign (lnc (lv (v := .func (.func 121) #[] #[pp b1 0]) (e_func (u := []) (v := [pp b1 0]) rfl rfl) (lE oaf (lnf (c_ret ?_)))))
 refine ret1 Tryz.results96 rfl ?_
 intro w hw
 exact ⟨b1,rfl,st_mask [true] rfl hw⟩
theorem keysM_seq (β : Base) (b m : Nat) (ks : List (Int × KMh)) (hm : mpR MeM m ks β.heap) : SeqK Tryz.prog β (.func (.func 121) #[] #[pp b 0]) (fun z : Int => [Ix z]) (fun l => l.Perm (ks.map (·.1))) [pt b (.cells #[.map (some m)] 86)] := by
 refine ⟨121,[],[pp b 0],rfl,by kernel_rfl,fun β₁ ext l J X hY M w hJ hw => ?_⟩
 replace hw := hw.perm (List.perm_append_comm)
 have hm := mpR.mono _ _ _ _ _ ext.1 hm
 refine enter (n := 14) Tryz.func121 rfl Tryz.ntmps121 rfl ?_ hw
 refine csr (lv (v := .map (some m)) (e_load1 tt58.ok rfl (k_pt 0 rfl rfl)) (l_mv rfl rfl rfl (m_rangeB (K := MeM) (b := m) (ks := ks) rfl rfl hm) ?_))
 rintro _ _ ⟨it1,rfl,rfl⟩
 refine lnf (c_block ?_)
 refine c_loop (fun (x_ : List (Int × KMh) × List Res) f L => match x_ with | (pre,M) => (f 0 = yfn l ∧ f 5 = pp it1 0) ∧ L = (itR MeM β₁ m it1 ks pre :: pt b (.cells #[.map (some m)] 86) :: M) ∧ (pre.length ≤ ks.length ∧ J (pre.map (·.1)) M)) (fun (pre,M) => ks.length - pre.length) ([],M) ?_ ?_
 ·exact ⟨⟨rfl,rfl⟩,rfl,⟨Nat.zero_le _,hJ⟩⟩
 rintro ⟨pre,M⟩ f0 L0 ⟨⟨hs0,hs5⟩,hL,⟨hpl,hJ⟩⟩
 subst L0
 refine rbs 0 hs0 (rbs 5 hs5 (csr (l_mv rfl rfl rfl (m_nextB (K := MeM) (b := m) (r := it1) (ks := ks) (pre := pre) 0 rfl rfl) ?_)))
 rintro _ _ (⟨rfl,he4,rfl⟩ | ⟨x2,rfl,hx3,rfl⟩)
 ·refine lE oxb (lnf (c_seq (c_no rfl (c_exit (f_then_exit (f_then_exit (f_exit (end0 Tryz.results121 ?_))))))))
  intro w hw
  exact ⟨⟨_,rfl⟩,.inl ⟨_,M,he4.map _,hJ,st_mask [false,false] rfl hw⟩⟩
 refine lE oxb (lnf (c_seq (c_yes rfl (csk (c_block (csr ?_))))))
 refine lv (v := .tuple #[Ix (x2.1),.agg #[Ix (x2.2.author),Ix (x2.2.number),.slice x2.2.p (x2.2.n) x2.2.c,.bool (x2.2.done),Ix (x2.2.at_),Ix (x2.2.e),.slice x2.2.q (x2.2.m) x2.2.k]]) (e_entryB (K := MeM) (b := m) (r := it1) (ks := ks) (pre := pre) (y := x2) 0 rfl rfl) ?_
 refine lE oxi (lE oai (lnc (lv e_move (lE omi ?_))))
 refine l_yield (own := [itR MeM β₁ m it1 ks (pre ++ [x2]),pt b (.cells #[.map (some m)] 86)]) (M := M) (d := 12) (enc := fun z : Int => [Ix z]) (pre := pre.map (·.1)) (x := x2.1) rfl rfl rfl rfl hY (mkeys_pre hx3) hJ (fun M1 hJ1 => ?_) (fun M1 hX1 => ?_)
 ·refine lE ont (lnf (c_no rfl (c_skip (f_block ?_))))
  exact f_cut ⟨((pre ++ [x2]),M1),⟨⟨rfl,rfl⟩,rfl,⟨pre_le hx3,by rw [List.map_append]; exact hJ1⟩⟩,(pre_lt hx3)⟩
 refine lE ont (lnf (c_yes rfl (c_ret (f_block_ret (f_then_ret (f_block_ret (ret0 Tryz.results121 ?_)))))))
 intro w hw
 exact ⟨⟨_,rfl⟩,.inr ⟨_,M1,hX1,st_mask [false,false] rfl hw⟩⟩
theorem appendSeqI_ok (β : Base) (w : World) (fn : Value) (S : List Int → Prop) (K : List Res) (hs : SeqK Tryz.prog β fn (fun z : Int => [Ix z]) S K) (hB : ∀ l, S l → l.length ≤ 1048576) (hw : St β K w) : Calls Tryz.prog 111 #[.slice none 0 0, fn] w fun r w' => ∃ p c xs, S xs ∧ r = .returned (sB p xs c) ∧ St β [rowF IntF 3 p c xs] w' := by
 refine enterM (n := 13) Tryz.func111 rfl Tryz.ntmps111 rfl ?_ hw
 refine csr (bxs fun b1 => ?_)
 refine lE oas (lnf (cs2 (c_emp (r := rowF IntF 3 none 0 []) (row_nil _ _ _) (c_region (lv e_move (lnf (c_block ?_)))))))
 refine c_rangeK (L := [rowF IntF 3 none 0 [],pt b1 (.cells #[.slice none 0 0] 35)]) (K := K) (α := Int) (enc := fun z : Int => [Ix z]) (S := S) (ps := [7]) (I := fun (pre : List (Int)) (L : List Res) => ∃ (p : Option Addr),∃ (c : Nat),L = [rowF IntF 3 p c pre,pt b1 (.cells #[sB p pre c] 35)] ∧ (True)) (X := fun _ _ _ => False) rfl (hs) (fun _ => rfl) rfl ⟨none,0,rfl,trivial⟩ ?_ ?_ ?_
 ·rintro l β1 pre x M ext hpre ⟨p,c,rfl,-⟩
  have hpl : pre.length ≤ 1048576 := by obtain ⟨l,h1,h2⟩ := hpre; have h3 := h2.length_le; have h4 := hB l h1; rw [List.length_append] at h3; omega
  refine c_region (lE oai (l_nil (f_cut (fun β2 ext2 => ?_))))
  refine c_block (c_region (lE (ols 1) (lE omi (l_mv rfl rfl rfl (m_slices tt29 tt64.ok (cells := #[Ix (x)]) rfl rfl rfl rfl) ?_))))
  rintro _ _ ⟨b2,rfl,rfl⟩
  refine l_mv rfl rfl rfl (m_appendFlN (F := IntF) 1 tt29 tt31 (p := p) (m := pre.length) (xs := pre) (ys := [x]) (ao := (some ⟨b2,0,none⟩)) (k := 1) (c := 1) rfl rfl rfl rfl rfl (k_ptFl (z := x) 0 rfl rfl) (by first | omega | simp only [List.length_nil,List.length_cons,List.length_append,List.length_set]; omega) (by first | omega | simp only [List.length_nil,List.length_cons,List.length_append,List.length_set]; omega)) ?_
  rintro _ _ ⟨rp3,rc4,rfl,rfl⟩
  refine lu (mS 2 (#[sB rp3 (pre ++ [x]) rc4])) (l_nil (f_block (f_mask [false,true,true] rfl ?_)))
  exact fun a w ha hw => ⟨_,⟨rp3,rc4,rfl,trivial⟩,hw⟩
 ·rintro D1 ys1 M hS1 ⟨p,c,rfl,-⟩
  refine f_block (ftc (lE (ols 1) (lE oas (lnf (c_ret (retM 2 rfl Tryz.results111 (v := sB p ys1 c) rfl ?_))))))
  intro w hw
  exact ⟨p,c,ys1,hS1,rfl,st_mask [true,false,false] rfl hw⟩
 intro D c pre M h; exact h.elim
theorem collectI_ok (β : Base) (w : World) (fn : Value) (S : List Int → Prop) (K : List Res) (hs : SeqK Tryz.prog β fn (fun z : Int => [Ix z]) S K) (hB : ∀ l, S l → l.length ≤ 1048576) (hw : St β K w) : Calls Tryz.prog 77 #[fn] w fun r w' => ∃ p c xs, S xs ∧ r = .returned (sB p xs c) ∧ St β [rowF IntF 3 p c xs] w' := by
 refine enter (n := 5) Tryz.func77 rfl Tryz.ntmps77 rfl ?_ hw
 refine csr (lE oas (lnc (lv e_move (l_call rfl rfl rfl (cl0 (vs := [.slice none 0 0,fn]) tt110.ok rfl rfl) ?_))))
 intro w hw
 refine (appendSeqI_ok β w fn S K hs hB hw).mono ?_
 rintro e w' ⟨p,c,xs,hS,rfl,hw'⟩
 refine ⟨_,rfl,_,hw',?_⟩
 clear hw hw'
 refine lE oas (lnf (c_ret (ret1 Tryz.results77 rfl ?_)))
 intro w hw
 exact ⟨p,c,xs,hS,rfl,st_mask [true] rfl hw⟩
theorem sortedI_ok (β : Base) (w : World) (fn : Value) (S : List Int → Prop) (K : List Res) (hs : SeqK Tryz.prog β fn (fun z : Int => [Ix z]) S K) (hB : ∀ l, S l → l.length ≤ 1048576) (hw : St β K w) : Calls Tryz.prog 41 #[fn] w fun r w' => ∃ p c xs, S xs ∧ r = .returned (sB p (sortI xs) c) ∧ St β [rowF IntF 3 p c (sortI xs)] w' := by
 refine enter (n := 9) Tryz.func41 rfl Tryz.ntmps41 rfl ?_ hw
 refine csr (lE oas (lnc (lv e_move (l_call rfl rfl rfl (cl0 (vs := [fn]) tt111.ok rfl rfl) ?_))))
 intro w hw
 refine (collectI_ok β w fn S K hs hB hw).mono ?_
 rintro e w' ⟨p,c,xs,hS,rfl,hw'⟩
 refine ⟨_,rfl,_,hw',?_⟩
 clear hw hw'
 refine lE oas (lnf (c_seq ?_))
 have hxl := hB _ hS
 refine c_region (lE oms (l_call rfl rfl rfl (cl0 (vs := [sB p xs c]) tt112.ok rfl rfl) ?_))
 intro w hw
 replace hw := hw.perm (L' := _ :: []) (by exact (perm_front 0 rfl))
 obtain ⟨β1,sb,kn,hw1,back⟩ := St.frame (L := [_]) (M := []) hw
 refine (sortI_ok β1 w _ _ xs hw1 (by omega)).mono ?_
 rintro e w' ⟨rfl,hw'⟩
 refine ⟨_,rfl,_,back _ _ hw',?_⟩
 clear hw hw1 hw' back kn sb
 refine lnc (lE oms (lE oas (lnf (c_ret (ret1 Tryz.results41 (v := sB p xs c) rfl ?_)))))
 intro w hw
 exact ⟨p,c,xs,hS,by unfold sB; rw [sortI_len],st_mask [true] rfl hw⟩
end Go.Proofs
