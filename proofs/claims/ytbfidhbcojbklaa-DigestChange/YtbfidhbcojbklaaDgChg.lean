import Derived.Test.YtbfidhbcojbklaaDgChangeL
import Derived.Test.YtbfidhbcojbklaaDg8
namespace Go.Proofs
open Go Go.Sl
theorem kind_ne (c : UInt8) (z : UInt64) : c.toUInt64 ≠ (c + ((1 : UInt64) + z % (255 : UInt64)).toUInt8).toUInt64 := by
  intro h
  have h2 := congrArg UInt64.toNat h
  have h3 : z.toNat % 255 < 255 := Nat.mod_lt _ (by omega)
  have h4 := c.toNat_lt
  simp at h2
  omega
theorem tf76 : Try.prog.underlying 75 = some (.int .u64) := by kernel_rfl
theorem numbers2_ok (β : Base) (w : World) (hw : St β [] w) (x : KWorld) (v : Value) (hs : Sl EntR β.heap v x.ents) (hbig : ∀ (i : Nat) e, x.ents[i]? = some e → e.comps.length ≤ 20) (hn : x.ents.length ≤ 40) : Calls Try.prog 26 #[.agg #[Ix x.tick, v]] w fun r w' => r = .returned (Nx (numsTo x.ents x.ents.length)) ∧ St β [] w' := by
  obtain ⟨va, vc, rfl, vl, vm, ve⟩ := hs.get
  refine enter (n := 22) Try.func26 rfl Try.ntmps26 rfl ?_ hw
  refine c_seq ?_
  refine c_region ?_
  refine l_mv rfl rfl rfl (m_box (v := .agg #[Ix (x.tick), .slice va (x.ents.length) (vc)]) rfl) ?_
  rintro _ _ ⟨b1, rfl, rfl⟩
  refine l_val (v := .int .i64 (0)) rfl rfl rfl (e_assign) ?_
  refine l_nil ?_
  refine f_then ?_
  refine c_seq ?_
  refine c_region ?_
  refine l_val (v := .int .i64 (0)) rfl rfl rfl (e_assign) ?_
  refine l_nil ?_
  refine f_then ?_
  refine c_seq ?_
  refine c_seq ?_
  refine c_region ?_
  refine l_val (v := .pointer (some ⟨b1, 1, none⟩)) rfl rfl rfl (e_fieldPt (b := b1) (o := 0) rfl tf29) ?_
  refine l_val (v := .slice va (x.ents.length) (vc)) rfl rfl rfl (e_load1 tf30 (v := .slice va (x.ents.length) (vc)) rfl (k_pt 0 (cs := #[Ix (x.tick), .slice va (x.ents.length) (vc)]) (vs := [.slice va (x.ents.length) (vc)]) rfl rfl)) ?_
  refine l_val (v := Nx (x.ents.length)) rfl rfl rfl (e_len (a := va) (n := x.ents.length) (c := vc) rfl tf31) ?_
  refine l_val (v := .int .i64 (0)) rfl rfl rfl (e_move) ?_
  refine l_nil ?_
  refine f_then ?_
  refine c_block ?_
  refine c_loop (fun (k : Nat) (f : Fm) (L : List Res) => (f 3 = Nx (numsTo x.ents k) ∧ f 7 = .slice va (x.ents.length) (vc) ∧ f 8 = Nx (x.ents.length) ∧ f 9 = Nx (k)) ∧ L = [pt b1 (.cells #[Ix (x.tick), .slice va (x.ents.length) (vc)] 24)] ∧ (k ≤ x.ents.length)) (fun (k : Nat) => x.ents.length - k) 0 ?_ ?_
  · exact ⟨⟨rfl, rfl, rfl, rfl⟩, rfl, (by omega)⟩
  rintro k f0 L0 ⟨⟨hs3, hs7, hs8, hs9⟩, hL, hk⟩
  subst L0
  refine rebase (d := 3) hs3 ?_
  refine rebase (d := 7) hs7 ?_
  refine rebase (d := 8) hs8 ?_
  refine rebase (d := 9) hs9 ?_
  clear hs3 hs7 hs8 hs9
  have hnl := nums_le hbig k
  refine c_seq ?_
  refine c_region ?_
  refine l_val (v := .bool (decide (((k : Nat) : Int) < ((x.ents.length : Nat) : Int)))) rfl rfl rfl (e_lss (a := ((k : Nat) : Int)) (b := ((x.ents.length : Nat) : Int)) rfl rfl) ?_
  refine l_nil ?_
  refine f_then ?_
  refine c_seq ?_
  refine c_if (((k : Nat) : Int) < ((x.ents.length : Nat) : Int)) rfl (fun hc2 => ?_) (fun hc2 => ?_)
  ·
    refine c_skip ?_
    refine f_then ?_
    refine c_seq ?_
    refine c_block ?_
    refine c_seq ?_
    refine c_region ?_
    obtain ⟨x3, hx4⟩ : ∃ x_, (x.ents)[k]? = some x_ := ⟨_, List.getElem?_eq_getElem (by omega)⟩
    obtain ⟨ha5, cs6, hc7, hr8⟩ := ve _ _ hx4
    obtain ⟨v9, rfl, hv10⟩ := hr8
    obtain ⟨v9a, v9c, rfl, v9l, v9m, v9e⟩ := hv10.get
    refine l_val (v := .pointer (some ((ba va).add (k * 2)))) rfl rfl rfl (e_indexAddr (k := k) (len := x.ents.length) (cap := vc) (a := va) rfl rfl tf32 (by omega) ha5) ?_
    refine l_val (v := .agg #[Ix (x3.id), .slice v9a (x3.comps.length) (v9c)]) rfl rfl rfl (e_load tf24 (cs := [Ix (x3.id), .slice v9a (x3.comps.length) (v9c)]) rfl (Knows.of_base (Cs.mono _ _) hc7) rfl) ?_
    refine l_mv rfl rfl rfl (m_alloc tf33) ?_
    rintro _ _ ⟨b11, rfl, rfl⟩
    refine l_mu rfl rfl (m_store 0 tf24 (b := b11) (o := 0) (T := 33) (cs := #[.int .i64 (0), .slice none 0 0]) (cs' := #[Ix (x3.id), .slice v9a (x3.comps.length) (v9c)]) (v := .agg #[Ix (x3.id), .slice v9a (x3.comps.length) (v9c)]) rfl rfl rfl rfl rfl rfl rfl) ?_
    refine l_nil ?_
    refine f_then ?_
    have hec := hbig _ _ hx4
    refine c_region ?_
    refine l_val (v := Nx (numsTo x.ents k)) rfl rfl rfl (e_move) ?_
    refine l_val (v := .pointer (some ⟨b11, 1, none⟩)) rfl rfl rfl (e_fieldPt (b := b11) (o := 0) rfl tf11) ?_
    refine l_val (v := .slice v9a (x3.comps.length) (v9c)) rfl rfl rfl (e_load1 tf12 (v := .slice v9a (x3.comps.length) (v9c)) rfl (k_pt 0 (cs := #[Ix (x3.id), .slice v9a (x3.comps.length) (v9c)]) (vs := [.slice v9a (x3.comps.length) (v9c)]) rfl rfl)) ?_
    refine l_val (v := Nx (x3.comps.length)) rfl rfl rfl (e_len (a := v9a) (n := x3.comps.length) (c := v9c) rfl tf13) ?_
    refine l_val (v := Nx (5 * x3.comps.length)) rfl rfl rfl (e_mul (a := (5 : Int)) (b := ((x3.comps.length : Nat) : Int)) rfl rfl (i64n (by omega) (by omega))) ?_
    refine l_val (v := Nx (1 + (5 * x3.comps.length))) rfl rfl rfl (e_add (a := (1 : Int)) (b := ((5 * x3.comps.length : Nat) : Int)) rfl rfl (i64n (by omega) (by omega))) ?_
    refine l_val (v := Nx ((numsTo x.ents k) + (1 + (5 * x3.comps.length)))) rfl rfl rfl (e_add (a := ((numsTo x.ents k : Nat) : Int)) (b := ((1 + (5 * x3.comps.length) : Nat) : Int)) rfl rfl (i64n (by omega) (by omega))) ?_
    refine l_val (v := Nx ((numsTo x.ents k) + (1 + (5 * x3.comps.length)))) rfl rfl rfl (e_assign) ?_
    refine l_nil ?_
    refine f_block ?_
    refine f_then ?_
    refine c_region ?_
    refine l_val (v := Nx (k + 1)) rfl rfl rfl (e_add (a := ((k : Nat) : Int)) (b := (1 : Int)) rfl rfl (i64n (by omega) (by omega))) ?_
    refine l_val (v := Nx (k + 1)) rfl rfl rfl (e_move) ?_
    refine l_nil ?_
    refine f_mask (L' := [pt b1 (.cells #[Ix (x.tick), .slice va (x.ents.length) (vc)] 24)]) [false, true] rfl ?_
    exact f_cut ⟨k + 1, ⟨⟨congrArg (fun z : Nat => Nx z) (nums_succ hx4).symm, rfl, rfl, rfl⟩, rfl, (by omega)⟩, (show x.ents.length - (k + 1) < x.ents.length - k from by omega)⟩
  ·
    refine c_exit ?_
    refine f_then_exit ?_
    refine f_then_exit ?_
    refine f_exit ?_
    refine f_then ?_
    refine c_seq ?_
    refine c_region ?_
    refine l_val (v := Nx (numsTo x.ents k)) rfl rfl rfl (e_move) ?_
    refine l_val (v := Nx (numsTo x.ents k)) rfl rfl rfl (e_assign) ?_
    refine l_nil ?_
    refine f_then ?_
    refine c_ret ?_
    refine ret1 Try.results26 (v := Nx (numsTo x.ents k)) rfl ?_
    intro w hw
    have hke : k = x.ents.length := by omega
    subst hke
    exact ⟨rfl, st_mask [false] rfl hw⟩
theorem changed_ok (β : Base) (w : World) (hw : St β [] w) (x : KWorld) (v : Value) (hs : Sl EntR β.heap v x.ents) (hbig : ∀ (i : Nat) e, x.ents[i]? = some e → e.comps.length ≤ 20) (hn : x.ents.length ≤ 40) (at_ : Nat) (hat : at_ < numsTo x.ents x.ents.length) (by_ : Int) (hby : -9223372036854775808 ≤ by_ ∧ by_ ≤ 9223372036854775807) (h0 : by_ ≠ 0) : Calls Try.prog 27 #[.agg #[Ix x.tick, v], Nx at_, Ix by_] w fun r w' => ∃ (k : Nat) (e e' : KEnt) (p : Option Addr) (c : Nat) (vs : List Value), r = .returned (.tuple #[.agg #[Ix x.tick, .slice p x.ents.length c], Ix e.id, Ix e'.id]) ∧ x.ents[k]? = some e ∧ entU e ≠ entU e' ∧ vs.length = x.ents.length ∧ St β (row (.slice p x.ents.length c) 33 2 x.ents.length (entCells vs (x.ents.set k e')) :: compRows vs (x.ents.set k e')) w' := by
  obtain ⟨va, vc, rfl, vl, vm, ve⟩ := hs.get
  have hnb := nums_le hbig x.ents.length
  refine enter (n := 102) Try.func27 rfl Try.ntmps27 rfl ?_ hw
  refine c_seq ?_
  refine c_region ?_
  refine l_mv rfl rfl rfl (m_box (v := .agg #[Ix (x.tick), .slice va (x.ents.length) (vc)]) rfl) ?_
  rintro _ _ ⟨b1, rfl, rfl⟩
  refine l_mv rfl rfl rfl (m_alloc tf49) ?_
  rintro _ _ ⟨b2, rfl, rfl⟩
  refine l_val (v := .int .i64 (0)) rfl rfl rfl (e_assign) ?_
  refine l_val (v := .int .i64 (0)) rfl rfl rfl (e_assign) ?_
  refine l_nil ?_
  refine f_then ?_
  refine c_seq ?_
  refine c_region ?_
  refine l_val (v := .agg #[Ix (x.tick), .slice va (x.ents.length) (vc)]) rfl rfl rfl (e_load tf46 (cs := [Ix (x.tick), .slice va (x.ents.length) (vc)]) rfl (k_pt 1 (cs := #[Ix (x.tick), .slice va (x.ents.length) (vc)]) (vs := [Ix (x.tick), .slice va (x.ents.length) (vc)]) rfl rfl) rfl) ?_
  refine l_call rfl rfl rfl (cl_value (fst := []) (cap := []) (vs := [.agg #[Ix (x.tick), .slice va (x.ents.length) (vc)]]) (all := [.agg #[Ix (x.tick), .slice va (x.ents.length) (vc)]]) tf74 rfl rfl rfl) ?_
  intro w hw
  obtain ⟨β1, sb, kn, hw1, back⟩ := St.frame_all hw
  refine (copyWorld_ok β1 w hw1 x _ (Sl.mono _ _ _ _ _ sb (⟨⟨_, _, rfl, vl, vm, ve⟩⟩ : Sl EntR _ _ x.ents)) (by omega) (fun i e he => by have := hbig i e he; omega)).mono ?_
  rintro e w' ⟨p3, c4, vs5, rfl, hvs, hw'⟩
  refine ⟨_, rfl, _, St.perm (L' := row (.slice p3 (x.ents.length) c4) 33 2 (x.ents.length) ((entCells vs5 x.ents)) :: pt b2 (.cells #[.int .i64 (0), .slice none 0 0] 24) :: pt b1 (.cells #[Ix (x.tick), .slice va (x.ents.length) (vc)] 24) :: (compRows vs5 x.ents)) (back _ _ hw') (List.Perm.cons _ List.perm_append_comm), ?_⟩
  clear hw hw1 hw' back kn sb
  refine l_mu rfl rfl (m_store 2 tf46 (b := b1) (o := 0) (T := 24) (cs := #[Ix (x.tick), .slice va (x.ents.length) (vc)]) (cs' := #[Ix (x.tick), .slice p3 (x.ents.length) c4]) (v := .agg #[Ix (x.tick), .slice p3 (x.ents.length) c4]) rfl rfl rfl rfl rfl rfl rfl) ?_
  refine l_nil ?_
  refine f_then ?_
  refine c_seq ?_
  refine c_seq ?_
  refine c_rowcap 0 rfl (fun hrc hrm => ?_)
  refine c_region ?_
  refine l_val (v := .pointer (some ⟨b1, 1, none⟩)) rfl rfl rfl (e_fieldPt (b := b1) (o := 0) rfl tf29) ?_
  refine l_val (v := .slice p3 (x.ents.length) c4) rfl rfl rfl (e_load1 tf30 (v := .slice p3 (x.ents.length) c4) rfl (k_pt 2 (cs := #[Ix (x.tick), .slice p3 (x.ents.length) c4]) (vs := [.slice p3 (x.ents.length) c4]) rfl rfl)) ?_
  refine l_val (v := Nx (x.ents.length)) rfl rfl rfl (e_len (a := p3) (n := x.ents.length) (c := c4) rfl tf31) ?_
  refine l_val (v := .int .i64 (0)) rfl rfl rfl (e_move) ?_
  refine l_nil ?_
  refine f_then ?_
  refine c_block ?_
  refine c_loop (fun (k : Nat) (f : Fm) (L : List Res) => (f 1 = Nx (at_ - numsTo x.ents k) ∧ f 2 = Ix (by_) ∧ f 3 = .pointer (some ⟨b1, 0, none⟩) ∧ f 6 = .pointer (some ⟨b2, 0, none⟩) ∧ f 17 = Nx (x.ents.length) ∧ f 18 = Nx (k)) ∧ L = (row (.slice p3 (x.ents.length) c4) 33 2 (x.ents.length) ((entCells vs5 x.ents)) :: pt b2 (.cells #[.int .i64 (0), .slice none 0 0] 24) :: pt b1 (.cells #[Ix (x.tick), .slice p3 (x.ents.length) c4] 24) :: (compRows vs5 x.ents)) ∧ (k ≤ x.ents.length ∧ numsTo x.ents k ≤ at_)) (fun (k : Nat) => x.ents.length - k) 0 ?_ ?_
  · exact ⟨⟨rfl, rfl, rfl, rfl, rfl, rfl⟩, rfl, ⟨by omega, by simp [numsTo]⟩⟩
  rintro k f0 L0 ⟨⟨hs1, hs2, hs3, hs6, hs17, hs18⟩, hL, ⟨hk, hka⟩⟩
  subst L0
  refine rebase (d := 1) hs1 ?_
  refine rebase (d := 2) hs2 ?_
  refine rebase (d := 3) hs3 ?_
  refine rebase (d := 6) hs6 ?_
  refine rebase (d := 17) hs17 ?_
  refine rebase (d := 18) hs18 ?_
  clear hs1 hs2 hs3 hs6 hs17 hs18
  refine c_seq ?_
  refine c_region ?_
  refine l_val (v := .bool (decide (((k : Nat) : Int) < ((x.ents.length : Nat) : Int)))) rfl rfl rfl (e_lss (a := ((k : Nat) : Int)) (b := ((x.ents.length : Nat) : Int)) rfl rfl) ?_
  refine l_nil ?_
  refine f_then ?_
  refine c_seq ?_
  refine c_if (((k : Nat) : Int) < ((x.ents.length : Nat) : Int)) rfl (fun hc6 => ?_) (fun hc6 => ?_)
  ·
    refine c_skip ?_
    refine f_then ?_
    refine c_seq ?_
    refine c_block ?_
    refine c_seq ?_
    refine c_region ?_
    refine l_val (v := Nx (k)) rfl rfl rfl (e_move) ?_
    refine l_val (v := Nx (k)) rfl rfl rfl (e_assign) ?_
    refine l_nil ?_
    refine f_then ?_
    refine c_seq ?_
    obtain ⟨e, he⟩ : ∃ e_, x.ents[k]? = some e_ := ⟨_, List.getElem?_eq_getElem (by omega)⟩
    obtain ⟨v0, hv⟩ : ∃ v_, vs5[k]? = some v_ := ⟨_, List.getElem?_eq_getElem (by omega)⟩
    have hec := hbig _ _ he
    have hnl := nums_le hbig k
    refine c_perm (L' := (row (.slice p3 (x.ents.length) c4) 33 2 (x.ents.length) ((entCells vs5 x.ents)) :: pt b2 (.cells #[.int .i64 (0), .slice none 0 0] 24) :: pt b1 (.cells #[Ix (x.tick), .slice p3 (x.ents.length) c4] 24) :: row v0 55 5 (e.comps.length) ((e.comps.flatMap compE)) :: (compRows (vs5.eraseIdx k) (x.ents.eraseIdx k)))) (List.Perm.append_left [row (.slice p3 (x.ents.length) c4) 33 2 (x.ents.length) ((entCells vs5 x.ents)), pt b2 (.cells #[.int .i64 (0), .slice none 0 0] 24), pt b1 (.cells #[Ix (x.tick), .slice p3 (x.ents.length) c4] 24)] (comp_split hv he)) ?_
    refine c_rowform 3 rfl (fun pp cc hpp hcc hcm => ?_)
    subst hpp
    refine c_region ?_
    refine l_val (v := .pointer (some ⟨b1, 1, none⟩)) rfl rfl rfl (e_fieldPt (b := b1) (o := 0) rfl tf29) ?_
    refine l_val (v := .slice p3 (x.ents.length) c4) rfl rfl rfl (e_load1 tf30 (v := .slice p3 (x.ents.length) c4) rfl (k_pt 2 (cs := #[Ix (x.tick), .slice p3 (x.ents.length) c4]) (vs := [.slice p3 (x.ents.length) c4]) rfl rfl)) ?_
    refine l_val (v := Nx (k)) rfl rfl rfl (e_move) ?_
    refine l_val (v := .pointer (some ((ba p3).add (k * 2)))) rfl rfl rfl (e_indexRow 0 (j := k) (len := x.ents.length) (cap := c4) (p := p3) rfl rfl tf32 (by omega) (by omega) rfl) ?_
    refine l_val (v := .pointer (some ((ba p3).add (k * 2)))) rfl rfl rfl (e_assign) ?_
    refine l_nil ?_
    refine f_then ?_
    refine c_seq ?_
    refine c_region ?_
    refine l_val (v := .pointer (some ((ba p3).add (k * 2)))) rfl rfl rfl (e_move) ?_
    refine l_val (v := .pointer (some ((ba p3).add (k * 2)))) rfl rfl rfl (e_nil (a := (ba p3).add (k * 2)) rfl) ?_
    refine l_val (v := .pointer (some ((ba p3).add (k * 2 + 0)))) rfl rfl rfl (ev_eq (by rw [Addr.add_add']) (e_fieldAddr (a := (ba p3).add (k * 2)) rfl tf9)) ?_
    refine l_val (v := Ix (e.id)) rfl rfl rfl (e_load1 tf10 (v := Ix (e.id)) rfl (k_row 0 (o := k * 2 + 0) (us := [Ix (e.id)]) rfl (ent_at0 hv he) (Nat.succ_pos _))) ?_
    refine l_val (v := Ix (e.id)) rfl rfl rfl (e_assign) ?_
    refine l_nil ?_
    refine f_then ?_
    refine c_seq ?_
    refine c_seq ?_
    refine c_region ?_
    refine l_val (v := Nx (at_ - numsTo x.ents k)) rfl rfl rfl (e_move) ?_
    refine l_val (v := .bool (decide (((at_ - numsTo x.ents k : Nat) : Int) = (0 : Int)))) rfl rfl rfl (e_eql (a := ((at_ - numsTo x.ents k : Nat) : Int)) (b := (0 : Int)) rfl rfl) ?_
    refine l_nil ?_
    refine f_then ?_
    refine c_if (((at_ - numsTo x.ents k : Nat) : Int) = (0 : Int)) rfl (fun hc7 => ?_) (fun hc7 => ?_)
    ·
      refine c_seq ?_
      refine c_region ?_
      refine l_val (v := .pointer (some ((ba p3).add (k * 2)))) rfl rfl rfl (e_move) ?_
      refine l_val (v := .pointer (some ((ba p3).add (k * 2)))) rfl rfl rfl (e_nil (a := (ba p3).add (k * 2)) rfl) ?_
      refine l_val (v := .pointer (some ((ba p3).add (k * 2 + 0)))) rfl rfl rfl (ev_eq (by rw [Addr.add_add']) (e_fieldAddr (a := (ba p3).add (k * 2)) rfl tf9)) ?_
      refine l_val (v := Ix (e.id)) rfl rfl rfl (e_load1 tf10 (v := Ix (e.id)) rfl (k_row 0 (o := k * 2 + 0) (us := [Ix (e.id)]) rfl (ent_at0 hv he) (Nat.succ_pos _))) ?_
      refine l_val (v := Ix (by_)) rfl rfl rfl (e_move) ?_
      refine l_val (v := Ix (IntKind.i64.wrap ((e.id) + (by_)))) rfl rfl rfl (e_add (a := (e.id)) (b := (by_)) rfl rfl rfl) ?_
      refine l_val (v := .pointer (some ((ba p3).add (k * 2)))) rfl rfl rfl (e_nil (a := (ba p3).add (k * 2)) rfl) ?_
      refine l_val (v := .pointer (some ((ba p3).add (k * 2 + 0)))) rfl rfl rfl (ev_eq (by rw [Addr.add_add']) (e_fieldAddr (a := (ba p3).add (k * 2)) rfl tf9)) ?_
      refine l_mu rfl rfl (m_storeRow 0 tf10 (o := k * 2 + 0) (v := Ix (IntKind.i64.wrap ((e.id) + (by_)))) rfl rfl rfl rfl rfl (by omega) (by omega)) ?_
      refine l_nil ?_
      refine f_then ?_
      refine c_seq ?_
      have hlt := (List.getElem?_eq_some_iff.1 he).1
      refine c_perm (L' := (row (.slice p3 (x.ents.length) c4) 33 2 (x.ents.length) ((overL (entCells vs5 x.ents) (k * 2 + 0) [Ix (IntKind.i64.wrap ((e.id) + (by_)))])) :: pt b2 (.cells #[.int .i64 (0), .slice none 0 0] 24) :: pt b1 (.cells #[Ix (x.tick), .slice p3 (x.ents.length) c4] 24) :: row (.slice pp (e.comps.length) cc) 55 5 (e.comps.length) ((e.comps.flatMap compE)) :: (compRows (vs5.eraseIdx k) (x.ents.eraseIdx k)))) (List.Perm.refl _) ?_
      rw [over_id (e' := ⟨(IntKind.i64.wrap (e.id + by_)), e.comps⟩) (i := (IntKind.i64.wrap (e.id + by_))) rfl hv he]
      have he2 : (x.ents.set k ⟨(IntKind.i64.wrap (e.id + by_)), e.comps⟩)[k]? = some ⟨(IntKind.i64.wrap (e.id + by_)), e.comps⟩ := by rw [List.getElem?_set_self hlt]
      refine c_any [⟨[], [], [0], [39], fun f => f 39 = .agg #[Ix (x.tick), .slice p3 (x.ents.length) c4]⟩, ⟨[], [], [1], [40], fun f => f 40 = Ix (e.id)⟩, ⟨[], [], [2], [41], fun f => f 41 = .pointer (some ((ba p3).add (k * 2)))⟩, ⟨[2], [2], [], [42], fun f => f 42 = .pointer (some ((ba p3).add (k * 2)))⟩, ⟨[2, 3], [3], [], [43], fun f => f 43 = .pointer (some ((ba p3).add (k * 2 + 0)))⟩, ⟨[2, 3, 4], [4], [], [44], fun f => f 44 = Ix ((IntKind.i64.wrap (e.id + by_)))⟩, ⟨[0], [0], [3], [], fun _ => True⟩, ⟨[0, 1, 6], [1], [], [7], fun f => f 7 = Ix (e.id)⟩, ⟨[0, 1, 2, 3, 4, 5, 6, 7], [5], [], [8], fun f => f 8 = Ix ((IntKind.i64.wrap (e.id + by_)))⟩] [⟨none, none, [5], [], fun _ => row (.slice p3 (x.ents.length) c4) 33 2 (x.ents.length) ((entCells vs5 (x.ents.set k ⟨(IntKind.i64.wrap (e.id + by_)), e.comps⟩)))⟩, ⟨none, (some 6), [6], [], fun _ => pt b2 (.cells #[.int .i64 (0), .slice none 0 0] 24)⟩, ⟨none, none, [0], [], fun _ => pt b1 (.cells #[Ix (x.tick), .slice p3 (x.ents.length) c4] 24)⟩, ⟨none, none, [], [], fun _ => row (.slice pp (e.comps.length) cc) 55 5 (e.comps.length) ((e.comps.flatMap compE))⟩, ⟨(some 6), none, [], [], fun _ => pt b2 (.cells #[Ix (x.tick), .slice p3 (x.ents.length) c4] 24)⟩] [(3, .pointer (some ⟨b1, 0, none⟩)), (11, Ix (e.id)), (10, .pointer (some ((ba p3).add (k * 2)))), (6, .pointer (some ⟨b2, 0, none⟩))] [3] (compRows (vs5.eraseIdx k) (x.ents.eraseIdx k)) (by kernel_rfl) (by kernel_rfl) (by kernel_rfl) (by kernel_rfl) rfl ⟨rfl, rfl, rfl, rfl, trivial⟩ ⟨?_, ?_, ?_, ?_, ?_, ?_, ?_, ?_, ?_, trivial⟩ ?_
      · rintro f M - ⟨i0, -⟩
        have hs3 : f 3 = .pointer (some ⟨b1, 0, none⟩) := i0
        refine ob_start (L' := pt b1 (.cells #[Ix (x.tick), .slice p3 (x.ents.length) c4] 24) :: M) (by rfl) (up_cons rfl hs3) ?_
        refine l_val (v := .agg #[Ix (x.tick), .slice p3 (x.ents.length) c4]) rfl rfl rfl (e_load tf46 (cs := [Ix (x.tick), .slice p3 (x.ents.length) c4]) rfl (k_pt 0 (cs := #[Ix (x.tick), .slice p3 (x.ents.length) c4]) (vs := [Ix (x.tick), .slice p3 (x.ents.length) c4]) rfl rfl) rfl) ?_
        refine l_nil ?_
        exact f_owes_d (up_cons rfl hs3) rfl (perm_front 0 rfl)
      · rintro f M - ⟨i0, -⟩
        have hs11 : f 11 = Ix (e.id) := i0
        refine ob_start (L' := M) (by rfl) (up_cons rfl hs11) ?_
        refine l_val (v := Ix (e.id)) rfl rfl rfl (e_move) ?_
        refine l_nil ?_
        exact f_owes_d (up_cons rfl hs11) rfl (List.Perm.refl _)
      · rintro f M - ⟨i0, -⟩
        have hs10 : f 10 = .pointer (some ((ba p3).add (k * 2))) := i0
        refine ob_start (L' := M) (by rfl) (up_cons rfl hs10) ?_
        refine l_val (v := .pointer (some ((ba p3).add (k * 2)))) rfl rfl rfl (e_move) ?_
        refine l_nil ?_
        exact f_owes_d (up_cons rfl hs10) rfl (List.Perm.refl _)
      · rintro f M ⟨k0, -⟩ -
        have hs41 : f 41 = .pointer (some ((ba p3).add (k * 2))) := k0
        refine ob_start (L' := M) (by rfl) (up_cons rfl hs41) ?_
        refine l_val (v := .pointer (some ((ba p3).add (k * 2)))) rfl rfl rfl (e_nil (a := (ba p3).add (k * 2)) rfl) ?_
        refine l_nil ?_
        exact f_owes_d (up_cons rfl hs41) rfl (List.Perm.refl _)
      · rintro f M ⟨k0, -⟩ -
        have hs42 : f 42 = .pointer (some ((ba p3).add (k * 2))) := k0
        refine ob_start (L' := M) (by rfl) (up_cons rfl hs42) ?_
        refine l_val (v := .pointer (some ((ba p3).add (k * 2 + 0)))) rfl rfl rfl (ev_eq (by rw [Addr.add_add']) (e_fieldAddr (a := (ba p3).add (k * 2)) rfl tf9)) ?_
        refine l_nil ?_
        exact f_owes_d (up_cons rfl hs42) rfl (List.Perm.refl _)
      · rintro f M ⟨k0, -⟩ -
        have hs43 : f 43 = .pointer (some ((ba p3).add (k * 2 + 0))) := k0
        refine ob_start (L' := row (.slice p3 (x.ents.length) c4) 33 2 (x.ents.length) ((entCells vs5 (x.ents.set k ⟨(IntKind.i64.wrap (e.id + by_)), e.comps⟩))) :: M) (by rfl) (up_cons rfl hs43) ?_
        refine l_val (v := Ix ((IntKind.i64.wrap (e.id + by_)))) rfl rfl rfl (e_load1 tf10 (v := Ix ((IntKind.i64.wrap (e.id + by_)))) rfl (k_row 0 (o := k * 2 + 0) (us := [Ix ((IntKind.i64.wrap (e.id + by_)))]) rfl (ent_at0 hv he2) (Nat.succ_pos _))) ?_
        refine l_nil ?_
        exact f_owes_d (up_cons rfl hs43) rfl (perm_front 0 rfl)
      · rintro f M ⟨k0, -⟩ ⟨i0, -⟩
        have hs6 : f 6 = .pointer (some ⟨b2, 0, none⟩) := i0
        have hs39 : f 39 = .agg #[Ix (x.tick), .slice p3 (x.ents.length) c4] := k0
        refine ob_start (L' := pt b2 (.cells #[.int .i64 (0), .slice none 0 0] 24) :: M) (by rfl) (up_cons (up_cons rfl hs6) hs39) ?_
        refine l_mu rfl rfl (m_store 0 tf46 (b := b2) (o := 0) (T := 24) (cs := #[.int .i64 (0), .slice none 0 0]) (cs' := #[Ix (x.tick), .slice p3 (x.ents.length) c4]) (v := .agg #[Ix (x.tick), .slice p3 (x.ents.length) c4]) rfl rfl rfl rfl rfl rfl rfl) ?_
        refine l_nil ?_
        exact f_owes_n (up_cons (up_cons rfl hs6) hs39) trivial (perm_front 0 rfl)
      · rintro f M ⟨k0, -⟩ -
        have hs40 : f 40 = Ix (e.id) := k0
        refine ob_start (L' := M) (by rfl) (up_cons rfl hs40) ?_
        refine l_val (v := Ix (e.id)) rfl rfl rfl (e_assign) ?_
        refine l_nil ?_
        exact f_owes_d (up_cons rfl hs40) rfl (List.Perm.refl _)
      · rintro f M ⟨k0, -⟩ -
        have hs44 : f 44 = Ix ((IntKind.i64.wrap (e.id + by_))) := k0
        refine ob_start (L' := M) (by rfl) (up_cons rfl hs44) ?_
        refine l_val (v := Ix ((IntKind.i64.wrap (e.id + by_)))) rfl rfl rfl (e_assign) ?_
        refine l_nil ?_
        exact f_owes_d (up_cons rfl hs44) rfl (List.Perm.refl _)
      rintro fa8 ⟨-, -, -, -, -, -, -, k7, k8, -⟩ ⟨j0, -⟩
      refine f_re (L' := (row (.slice p3 (x.ents.length) c4) 33 2 (x.ents.length) ((entCells vs5 (x.ents.set k ⟨(IntKind.i64.wrap (e.id + by_)), e.comps⟩))) :: pt b1 (.cells #[Ix (x.tick), .slice p3 (x.ents.length) c4] 24) :: row (.slice pp (e.comps.length) cc) 55 5 (e.comps.length) ((e.comps.flatMap compE)) :: pt b2 (.cells #[Ix (x.tick), .slice p3 (x.ents.length) c4] 24) :: (compRows (vs5.eraseIdx k) (x.ents.eraseIdx k)))) (by rfl) ?_
      refine f_rebase (d := 6) (v := .pointer (some ⟨b2, 0, none⟩)) j0 ?_
      refine f_rebase (d := 7) (v := Ix (e.id)) k7 ?_
      refine f_rebase (d := 8) (v := Ix ((IntKind.i64.wrap (e.id + by_)))) k8 ?_
      refine f_then ?_
      refine c_ret ?_
      refine f_then_ret ?_
      refine f_block_ret ?_
      refine f_then_ret ?_
      refine f_then_ret ?_
      refine f_block_ret ?_
      refine f_then_ret ?_
      refine retG (l := [.cell 6 24, .tmp 7, .tmp 8]) (m := [.agg #[Ix (x.tick), .slice p3 (x.ents.length) c4], Ix (e.id), Ix ((IntKind.i64.wrap (e.id + by_)))]) (v := .tuple #[.agg #[Ix (x.tick), .slice p3 (x.ents.length) c4], Ix (e.id), Ix ((IntKind.i64.wrap (e.id + by_)))]) Try.results27 ⟨rd_cell tf46 (cs := [Ix (x.tick), .slice p3 (x.ents.length) c4]) rfl (k_pt 3 (cs := #[Ix (x.tick), .slice p3 (x.ents.length) c4]) (vs := [Ix (x.tick), .slice p3 (x.ents.length) c4]) rfl rfl) rfl, rd_tmp (v := Ix (e.id)) rfl, rd_tmp (v := Ix ((IntKind.i64.wrap (e.id + by_)))) rfl, trivial⟩ rfl ?_
      intro w hw
      have h1 := st_mask (L' := (row (.slice p3 (x.ents.length) c4) 33 2 (x.ents.length) ((entCells vs5 (x.ents.set k ⟨(IntKind.i64.wrap (e.id + by_)), e.comps⟩))) :: row (.slice pp (e.comps.length) cc) 55 5 (e.comps.length) ((e.comps.flatMap compE)) :: (compRows (vs5.eraseIdx k) (x.ents.eraseIdx k)))) [true, false, true, false] rfl hw
      have h2 := h1.perm (L' := (row (.slice p3 x.ents.length c4) 33 2 x.ents.length (entCells vs5 (x.ents.set k ⟨(IntKind.i64.wrap (e.id + by_)), e.comps⟩)) :: compRows vs5 (x.ents.set k ⟨(IntKind.i64.wrap (e.id + by_)), e.comps⟩))) ((comp_join' (e' := ⟨(IntKind.i64.wrap (e.id + by_)), e.comps⟩) hv he (by simp)).cons _)
      exact ⟨k, e, ⟨(IntKind.i64.wrap (e.id + by_)), e.comps⟩, p3, c4, vs5, rfl, he, (ent_id_ne (U_changed hby h0)), hvs, h2⟩
    ·
      refine c_skip ?_
      refine f_then ?_
      refine c_seq ?_
      refine c_seq ?_
      refine c_region ?_
      refine l_val (v := Nx (at_ - numsTo x.ents k)) rfl rfl rfl (e_move) ?_
      refine l_val (v := Nx ((at_ - numsTo x.ents k) - 1)) rfl rfl rfl (ev_eq (congrArg (Value.int .i64) (by omega)) (e_sub (a := ((at_ - numsTo x.ents k : Nat) : Int)) (b := (1 : Int)) rfl rfl (i64w (by omega)))) ?_
      refine l_val (v := Nx ((at_ - numsTo x.ents k) - 1)) rfl rfl rfl (e_assign) ?_
      refine l_nil ?_
      refine f_then ?_
      refine c_seq ?_
      refine c_region ?_
      refine l_val (v := Nx ((at_ - numsTo x.ents k) - 1)) rfl rfl rfl (e_move) ?_
      refine l_val (v := .pointer (some ((ba p3).add (k * 2)))) rfl rfl rfl (e_move) ?_
      refine l_val (v := .pointer (some ((ba p3).add (k * 2)))) rfl rfl rfl (e_nil (a := (ba p3).add (k * 2)) rfl) ?_
      refine l_val (v := .pointer (some ((ba p3).add (k * 2 + 1)))) rfl rfl rfl (ev_eq (by rw [Addr.add_add']) (e_fieldAddr (a := (ba p3).add (k * 2)) rfl tf11)) ?_
      refine l_val (v := .slice pp (e.comps.length) cc) rfl rfl rfl (e_load1 tf12 (v := .slice pp (e.comps.length) cc) rfl (k_row 0 (o := k * 2 + 1) (us := [.slice pp (e.comps.length) cc]) rfl (ent_at hv he) (Nat.succ_pos _))) ?_
      refine l_val (v := Nx (e.comps.length)) rfl rfl rfl (e_len (a := pp) (n := e.comps.length) (c := cc) rfl tf13) ?_
      refine l_val (v := Nx (5 * e.comps.length)) rfl rfl rfl (e_mul (a := (5 : Int)) (b := ((e.comps.length : Nat) : Int)) rfl rfl (i64n (by omega) (by omega))) ?_
      refine l_val (v := .bool (decide ((((at_ - numsTo x.ents k) - 1 : Nat) : Int) < ((5 * e.comps.length : Nat) : Int)))) rfl rfl rfl (e_lss (a := (((at_ - numsTo x.ents k) - 1 : Nat) : Int)) (b := ((5 * e.comps.length : Nat) : Int)) rfl rfl) ?_
      refine l_nil ?_
      refine f_then ?_
      refine c_if ((((at_ - numsTo x.ents k) - 1 : Nat) : Int) < ((5 * e.comps.length : Nat) : Int)) rfl (fun hc9 => ?_) (fun hc9 => ?_)
      ·
        refine c_seq ?_
        obtain ⟨aq, haq⟩ : ∃ z, z = ((at_ - numsTo x.ents k) - 1) / 5 := ⟨_, rfl⟩
        obtain ⟨cq, hcq⟩ : ∃ c_, e.comps[aq]? = some c_ := ⟨_, List.getElem?_eq_getElem (by omega)⟩
        refine c_region ?_
        refine l_val (v := .pointer (some ((ba p3).add (k * 2)))) rfl rfl rfl (e_move) ?_
        refine l_val (v := .pointer (some ((ba p3).add (k * 2)))) rfl rfl rfl (e_nil (a := (ba p3).add (k * 2)) rfl) ?_
        refine l_val (v := .pointer (some ((ba p3).add (k * 2 + 1)))) rfl rfl rfl (ev_eq (by rw [Addr.add_add']) (e_fieldAddr (a := (ba p3).add (k * 2)) rfl tf11)) ?_
        refine l_val (v := .slice pp (e.comps.length) cc) rfl rfl rfl (e_load1 tf12 (v := .slice pp (e.comps.length) cc) rfl (k_row 0 (o := k * 2 + 1) (us := [.slice pp (e.comps.length) cc]) rfl (ent_at hv he) (Nat.succ_pos _))) ?_
        refine l_val (v := Nx ((at_ - numsTo x.ents k) - 1)) rfl rfl rfl (e_move) ?_
        refine l_val (v := Nx (aq)) rfl rfl rfl (ev_eq (congrArg (fun z : Nat => Nx z) haq.symm) (e_quo (a := (((at_ - numsTo x.ents k) - 1 : Nat) : Int)) (b := (5 : Int)) rfl rfl (by decide) (i64n (nat_tdiv _ 5) (by omega)))) ?_
        refine l_val (v := .pointer (some ((ba pp).add (aq * 5)))) rfl rfl rfl (e_indexRow 3 (j := aq) (len := e.comps.length) (cap := cc) (p := pp) rfl rfl tf14 (by omega) (by omega) rfl) ?_
        refine l_val (v := .pointer (some ((ba pp).add (aq * 5)))) rfl rfl rfl (e_assign) ?_
        refine l_nil ?_
        refine f_then ?_
        refine c_seq ?_
        refine c_seq ?_
        refine c_region ?_
        refine l_val (v := Nx ((at_ - numsTo x.ents k) - 1)) rfl rfl rfl (e_move) ?_
        refine l_val (v := Nx (((at_ - numsTo x.ents k) - 1) % 5)) rfl rfl rfl (e_rem (a := (((at_ - numsTo x.ents k) - 1 : Nat) : Int)) (b := (5 : Int)) rfl rfl (by decide) (nat_tmod _ 5)) ?_
        refine l_val (v := .bool (decide (((((at_ - numsTo x.ents k) - 1) % 5 : Nat) : Int) = (4 : Int)))) rfl rfl rfl (e_eql (a := ((((at_ - numsTo x.ents k) - 1) % 5 : Nat) : Int)) (b := (4 : Int)) rfl rfl) ?_
        refine l_nil ?_
        refine f_then ?_
        refine c_if (((((at_ - numsTo x.ents k) - 1) % 5 : Nat) : Int) = (4 : Int)) rfl (fun hc10 => ?_) (fun hc10 => ?_)
        ·
          refine c_region ?_
          refine l_val (v := .pointer (some ((ba pp).add (aq * 5)))) rfl rfl rfl (e_move) ?_
          refine l_val (v := .pointer (some ((ba pp).add (aq * 5)))) rfl rfl rfl (e_nil (a := (ba pp).add (aq * 5)) rfl) ?_
          refine l_val (v := .pointer (some ((ba pp).add (aq * 5 + 0)))) rfl rfl rfl (ev_eq (by rw [Addr.add_add']) (e_fieldAddr (a := (ba pp).add (aq * 5)) rfl tf17)) ?_
          refine l_val (v := Bx (cq.kind)) rfl rfl rfl (e_load1 tf18 (v := Bx (cq.kind)) rfl (k_row 3 (o := aq * 5 + 0) (us := [Bx (cq.kind)]) rfl (flat_at1 hcq (j := 0) rfl) (Nat.succ_pos _))) ?_
          refine l_val (v := Ix (by_)) rfl rfl rfl (e_move) ?_
          refine l_val (v := Ux (U (by_))) rfl rfl rfl (e_conv (a := (by_)) rfl ⟨_, tf1⟩ tf76 (ux_of _)) ?_
          refine l_val (v := Ux ((U (by_)) % (255 : UInt64))) rfl rfl rfl (e_rem (a := ((U (by_)).toNat : Int)) (b := ((255 : UInt64).toNat : Int)) rfl rfl (by decide) (ux_rem _ _)) ?_
          refine l_val (v := Ux ((1 : UInt64) + ((U (by_)) % (255 : UInt64)))) rfl rfl rfl (e_add (a := ((1 : UInt64).toNat : Int)) (b := (((U (by_)) % (255 : UInt64)).toNat : Int)) rfl rfl (ux_add _ _)) ?_
          refine l_val (v := Bx (((1 : UInt64) + ((U (by_)) % (255 : UInt64))).toUInt8)) rfl rfl rfl (e_conv (a := (((1 : UInt64) + ((U (by_)) % (255 : UInt64))).toNat : Int)) rfl ⟨_, tf76⟩ tf8 (bx_of64 _)) ?_
          refine l_val (v := Bx (cq.kind + (((1 : UInt64) + ((U (by_)) % (255 : UInt64))).toUInt8))) rfl rfl rfl (e_add (a := ((cq.kind).toNat : Int)) (b := ((((1 : UInt64) + ((U (by_)) % (255 : UInt64))).toUInt8).toNat : Int)) rfl rfl (bx_add _ _)) ?_
          refine l_val (v := .pointer (some ((ba pp).add (aq * 5)))) rfl rfl rfl (e_nil (a := (ba pp).add (aq * 5)) rfl) ?_
          refine l_val (v := .pointer (some ((ba pp).add (aq * 5 + 0)))) rfl rfl rfl (ev_eq (by rw [Addr.add_add']) (e_fieldAddr (a := (ba pp).add (aq * 5)) rfl tf17)) ?_
          refine l_mu rfl rfl (m_storeRow 3 tf18 (o := aq * 5 + 0) (v := Bx (cq.kind + (((1 : UInt64) + ((U (by_)) % (255 : UInt64))).toUInt8))) rfl rfl rfl rfl rfl (by omega) (by omega)) ?_
          refine l_nil ?_
          refine f_then ?_
          refine c_seq ?_
          refine c_perm (L' := (row (.slice p3 (x.ents.length) c4) 33 2 (x.ents.length) ((entCells vs5 x.ents)) :: pt b2 (.cells #[.int .i64 (0), .slice none 0 0] 24) :: pt b1 (.cells #[Ix (x.tick), .slice p3 (x.ents.length) c4] 24) :: row (.slice pp (e.comps.length) cc) 55 5 (e.comps.length) ((overL (e.comps.flatMap compE) (aq * 5 + 0) [Bx (cq.kind + (((1 : UInt64) + ((U (by_)) % (255 : UInt64))).toUInt8))])) :: (compRows (vs5.eraseIdx k) (x.ents.eraseIdx k)))) (List.Perm.refl _) ?_
          rw [over_comp hcq (j := 0) (c' := { cq with kind := cq.kind + ((1 : UInt64) + U by_ % (255 : UInt64)).toUInt8 }) (by omega) rfl]
          refine c_region ?_
          refine l_val (v := .agg #[Ix (x.tick), .slice p3 (x.ents.length) c4]) rfl rfl rfl (e_load tf46 (cs := [Ix (x.tick), .slice p3 (x.ents.length) c4]) rfl (k_pt 2 (cs := #[Ix (x.tick), .slice p3 (x.ents.length) c4]) (vs := [Ix (x.tick), .slice p3 (x.ents.length) c4]) rfl rfl) rfl) ?_
          refine l_val (v := Ix (e.id)) rfl rfl rfl (e_move) ?_
          refine l_val (v := Ix (e.id)) rfl rfl rfl (e_move) ?_
          refine l_mu rfl rfl (m_store 1 tf46 (b := b2) (o := 0) (T := 24) (cs := #[.int .i64 (0), .slice none 0 0]) (cs' := #[Ix (x.tick), .slice p3 (x.ents.length) c4]) (v := .agg #[Ix (x.tick), .slice p3 (x.ents.length) c4]) rfl rfl rfl rfl rfl rfl rfl) ?_
          refine l_val (v := Ix (e.id)) rfl rfl rfl (e_assign) ?_
          refine l_val (v := Ix (e.id)) rfl rfl rfl (e_assign) ?_
          refine l_nil ?_
          refine f_then ?_
          refine c_ret ?_
          refine f_then_ret ?_
          refine f_block_ret ?_
          refine f_then_ret ?_
          refine f_then_ret ?_
          refine f_block_ret ?_
          refine f_then_ret ?_
          refine retG (l := [.cell 6 24, .tmp 7, .tmp 8]) (m := [.agg #[Ix (x.tick), .slice p3 (x.ents.length) c4], Ix (e.id), Ix (e.id)]) (v := .tuple #[.agg #[Ix (x.tick), .slice p3 (x.ents.length) c4], Ix (e.id), Ix (e.id)]) Try.results27 ⟨rd_cell tf46 (cs := [Ix (x.tick), .slice p3 (x.ents.length) c4]) rfl (k_pt 1 (cs := #[Ix (x.tick), .slice p3 (x.ents.length) c4]) (vs := [Ix (x.tick), .slice p3 (x.ents.length) c4]) rfl rfl) rfl, rd_tmp (v := Ix (e.id)) rfl, rd_tmp (v := Ix (e.id)) rfl, trivial⟩ rfl ?_
          intro w hw
          have h1 := st_mask (L' := (row (.slice p3 (x.ents.length) c4) 33 2 (x.ents.length) ((entCells vs5 x.ents)) :: row (.slice pp (e.comps.length) cc) 55 5 (e.comps.length) (((e.comps.set aq { cq with kind := cq.kind + ((1 : UInt64) + U by_ % (255 : UInt64)).toUInt8 }).flatMap compE)) :: (compRows (vs5.eraseIdx k) (x.ents.eraseIdx k)))) [true, false, false, true] rfl hw
          rw [← ents_same_id (e' := ⟨e.id, e.comps.set aq { cq with kind := cq.kind + ((1 : UInt64) + U by_ % (255 : UInt64)).toUInt8 }⟩) he rfl] at h1
          have h2 := h1.perm (L' := (row (.slice p3 x.ents.length c4) 33 2 x.ents.length (entCells vs5 (x.ents.set k ⟨e.id, e.comps.set aq { cq with kind := cq.kind + ((1 : UInt64) + U by_ % (255 : UInt64)).toUInt8 }⟩)) :: compRows vs5 (x.ents.set k ⟨e.id, e.comps.set aq { cq with kind := cq.kind + ((1 : UInt64) + U by_ % (255 : UInt64)).toUInt8 }⟩))) ((comp_join' (e' := ⟨e.id, e.comps.set aq { cq with kind := cq.kind + ((1 : UInt64) + U by_ % (255 : UInt64)).toUInt8 }⟩) hv he (by simp)).cons _)
          exact ⟨k, e, ⟨e.id, e.comps.set aq { cq with kind := cq.kind + ((1 : UInt64) + U by_ % (255 : UInt64)).toUInt8 }⟩, p3, c4, vs5, rfl, he, (ent_comp_ne hcq (kind_ne cq.kind (U by_)) (j := 0) rfl rfl), hvs, h2⟩
        ·
          obtain ⟨ar, har⟩ : ∃ z, z = ((at_ - numsTo x.ents k) - 1) % 5 := ⟨_, rfl⟩
          have harl : ar < 4 := by omega
          refine c_any [⟨[], [], [0], [77], fun f => f 77 = .pointer (some ((ba pp).add (aq * 5)))⟩, ⟨[], [], [1], [78], fun f => f 78 = Nx ((at_ - numsTo x.ents k) - 1)⟩, ⟨[1], [1], [], [79], fun f => f 79 = Nx (ar)⟩, ⟨[0], [0], [], [80], fun f => f 80 = .pointer (some ((ba pp).add (aq * 5)))⟩, ⟨[0, 3], [3], [], [81], fun f => f 81 = .pointer (some ((ba pp).add (aq * 5 + 1)))⟩, ⟨[0, 1, 2, 3, 4], [4, 2], [], [82], fun f => f 82 = .pointer (some ((ba pp).add (aq * 5 + 1 + ar * 1)))⟩, ⟨[0, 1, 2, 3, 4, 5], [5], [], [83], fun f => f 83 = Ix (cv cq ar)⟩, ⟨[], [], [2], [84], fun f => f 84 = Ix (by_)⟩, ⟨[0, 1, 2, 3, 4, 5, 6, 7], [6, 7], [], [85], fun f => f 85 = Ix (IntKind.i64.wrap ((cv cq ar) + (by_)))⟩, ⟨[0], [0], [], [86], fun f => f 86 = .pointer (some ((ba pp).add (aq * 5)))⟩, ⟨[0, 9], [9], [], [87], fun f => f 87 = .pointer (some ((ba pp).add (aq * 5 + 1)))⟩, ⟨[0, 1, 2, 3, 4, 5, 6, 7, 8, 9, 10], [10, 2], [], [88], fun f => f 88 = .pointer (some ((ba pp).add (aq * 5 + 1 + ar * 1)))⟩, ⟨[0, 1, 2, 3, 4, 5, 6, 7, 8, 9, 10, 11], [11, 8], [], [], fun _ => True⟩] [⟨none, none, [], [], fun _ => row (.slice p3 (x.ents.length) c4) 33 2 (x.ents.length) ((entCells vs5 x.ents))⟩, ⟨none, none, [], [], fun _ => pt b2 (.cells #[.int .i64 (0), .slice none 0 0] 24)⟩, ⟨none, none, [], [], fun _ => pt b1 (.cells #[Ix (x.tick), .slice p3 (x.ents.length) c4] 24)⟩, ⟨none, (some 12), [6, 12], [], fun _ => row (.slice pp (e.comps.length) cc) 55 5 (e.comps.length) ((e.comps.flatMap compE))⟩, ⟨(some 12), none, [], [], fun _ => row (.slice pp (e.comps.length) cc) 55 5 (e.comps.length) ((overL (e.comps.flatMap compE) (aq * 5 + 1 + ar * 1) [Ix (IntKind.i64.wrap ((cv cq ar) + (by_)))]))⟩] [(12, .pointer (some ((ba pp).add (aq * 5)))), (1, Nx ((at_ - numsTo x.ents k) - 1)), (2, Ix (by_)), (3, .pointer (some ⟨b1, 0, none⟩)), (6, .pointer (some ⟨b2, 0, none⟩)), (11, Ix (e.id))] [3, 4, 5] (compRows (vs5.eraseIdx k) (x.ents.eraseIdx k)) (by kernel_rfl) (by kernel_rfl) (by kernel_rfl) (by kernel_rfl) rfl ⟨rfl, rfl, rfl, rfl, rfl, rfl, trivial⟩ ⟨?_, ?_, ?_, ?_, ?_, ?_, ?_, ?_, ?_, ?_, ?_, ?_, ?_, trivial⟩ ?_
          · rintro f M - ⟨i0, -⟩
            have hs12 : f 12 = .pointer (some ((ba pp).add (aq * 5))) := i0
            refine ob_start (L' := M) (by rfl) (up_cons rfl hs12) ?_
            refine l_val (v := .pointer (some ((ba pp).add (aq * 5)))) rfl rfl rfl (e_move) ?_
            refine l_nil ?_
            exact f_owes_d (up_cons rfl hs12) rfl (List.Perm.refl _)
          · rintro f M - ⟨i0, -⟩
            have hs1 : f 1 = Nx ((at_ - numsTo x.ents k) - 1) := i0
            refine ob_start (L' := M) (by rfl) (up_cons rfl hs1) ?_
            refine l_val (v := Nx ((at_ - numsTo x.ents k) - 1)) rfl rfl rfl (e_move) ?_
            refine l_nil ?_
            exact f_owes_d (up_cons rfl hs1) rfl (List.Perm.refl _)
          · rintro f M ⟨k0, -⟩ -
            have hs78 : f 78 = Nx ((at_ - numsTo x.ents k) - 1) := k0
            refine ob_start (L' := M) (by rfl) (up_cons rfl hs78) ?_
            refine l_val (v := Nx (ar)) rfl rfl rfl (ev_eq (congrArg (fun z : Nat => Nx z) har.symm) (e_rem (a := (((at_ - numsTo x.ents k) - 1 : Nat) : Int)) (b := (5 : Int)) rfl rfl (by decide) (nat_tmod _ 5))) ?_
            refine l_nil ?_
            exact f_owes_d (up_cons rfl hs78) rfl (List.Perm.refl _)
          · rintro f M ⟨k0, -⟩ -
            have hs77 : f 77 = .pointer (some ((ba pp).add (aq * 5))) := k0
            refine ob_start (L' := M) (by rfl) (up_cons rfl hs77) ?_
            refine l_val (v := .pointer (some ((ba pp).add (aq * 5)))) rfl rfl rfl (e_nil (a := (ba pp).add (aq * 5)) rfl) ?_
            refine l_nil ?_
            exact f_owes_d (up_cons rfl hs77) rfl (List.Perm.refl _)
          · rintro f M ⟨k0, -⟩ -
            have hs80 : f 80 = .pointer (some ((ba pp).add (aq * 5))) := k0
            refine ob_start (L' := M) (by rfl) (up_cons rfl hs80) ?_
            refine l_val (v := .pointer (some ((ba pp).add (aq * 5 + 1)))) rfl rfl rfl (ev_eq (by rw [Addr.add_add']) (e_fieldAddr (a := (ba pp).add (aq * 5)) rfl tf19)) ?_
            refine l_nil ?_
            exact f_owes_d (up_cons rfl hs80) rfl (List.Perm.refl _)
          · rintro f M ⟨k0, k1, -⟩ -
            have hs81 : f 81 = .pointer (some ((ba pp).add (aq * 5 + 1))) := k0
            have hs79 : f 79 = Nx (ar) := k1
            refine ob_start (L' := M) (by rfl) (up_cons (up_cons rfl hs81) hs79) ?_
            refine l_val (v := .pointer (some ((ba pp).add (aq * 5 + 1 + ar * 1)))) rfl rfl rfl (ev_eq (by rw [Addr.add_add']) (e_indexArr (a := (ba pp).add (aq * 5 + 1)) (k := ar) rfl rfl tf21 (by omega))) ?_
            refine l_nil ?_
            exact f_owes_d (up_cons (up_cons rfl hs81) hs79) rfl (List.Perm.refl _)
          · rintro f M ⟨k0, -⟩ -
            have hs82 : f 82 = .pointer (some ((ba pp).add (aq * 5 + 1 + ar * 1))) := k0
            refine ob_start (L' := row (.slice pp (e.comps.length) cc) 55 5 (e.comps.length) ((e.comps.flatMap compE)) :: M) (by rfl) (up_cons rfl hs82) ?_
            refine l_val (v := Ix (cv cq ar)) rfl rfl rfl (e_load1 tf10 (v := Ix (cv cq ar)) rfl (k_row 0 (o := aq * 5 + 1 + ar * 1) (us := [Ix (cv cq ar)]) rfl (by rw [show aq * 5 + 1 + ar * 1 = aq * 5 + (1 + ar) by omega]; exact flat_at1 hcq (cv_cell cq (by omega))) (Nat.succ_pos _))) ?_
            refine l_nil ?_
            exact f_owes_d (up_cons rfl hs82) rfl (perm_front 0 rfl)
          · rintro f M - ⟨i0, -⟩
            have hs2 : f 2 = Ix (by_) := i0
            refine ob_start (L' := M) (by rfl) (up_cons rfl hs2) ?_
            refine l_val (v := Ix (by_)) rfl rfl rfl (e_move) ?_
            refine l_nil ?_
            exact f_owes_d (up_cons rfl hs2) rfl (List.Perm.refl _)
          · rintro f M ⟨k0, k1, -⟩ -
            have hs83 : f 83 = Ix (cv cq ar) := k0
            have hs84 : f 84 = Ix (by_) := k1
            refine ob_start (L' := M) (by rfl) (up_cons (up_cons rfl hs83) hs84) ?_
            refine l_val (v := Ix (IntKind.i64.wrap ((cv cq ar) + (by_)))) rfl rfl rfl (e_add (a := (cv cq ar)) (b := (by_)) rfl rfl rfl) ?_
            refine l_nil ?_
            exact f_owes_d (up_cons (up_cons rfl hs83) hs84) rfl (List.Perm.refl _)
          · rintro f M ⟨k0, -⟩ -
            have hs77 : f 77 = .pointer (some ((ba pp).add (aq * 5))) := k0
            refine ob_start (L' := M) (by rfl) (up_cons rfl hs77) ?_
            refine l_val (v := .pointer (some ((ba pp).add (aq * 5)))) rfl rfl rfl (e_nil (a := (ba pp).add (aq * 5)) rfl) ?_
            refine l_nil ?_
            exact f_owes_d (up_cons rfl hs77) rfl (List.Perm.refl _)
          · rintro f M ⟨k0, -⟩ -
            have hs86 : f 86 = .pointer (some ((ba pp).add (aq * 5))) := k0
            refine ob_start (L' := M) (by rfl) (up_cons rfl hs86) ?_
            refine l_val (v := .pointer (some ((ba pp).add (aq * 5 + 1)))) rfl rfl rfl (ev_eq (by rw [Addr.add_add']) (e_fieldAddr (a := (ba pp).add (aq * 5)) rfl tf19)) ?_
            refine l_nil ?_
            exact f_owes_d (up_cons rfl hs86) rfl (List.Perm.refl _)
          · rintro f M ⟨k0, k1, -⟩ -
            have hs87 : f 87 = .pointer (some ((ba pp).add (aq * 5 + 1))) := k0
            have hs79 : f 79 = Nx (ar) := k1
            refine ob_start (L' := M) (by rfl) (up_cons (up_cons rfl hs87) hs79) ?_
            refine l_val (v := .pointer (some ((ba pp).add (aq * 5 + 1 + ar * 1)))) rfl rfl rfl (ev_eq (by rw [Addr.add_add']) (e_indexArr (a := (ba pp).add (aq * 5 + 1)) (k := ar) rfl rfl tf21 (by omega))) ?_
            refine l_nil ?_
            exact f_owes_d (up_cons (up_cons rfl hs87) hs79) rfl (List.Perm.refl _)
          · rintro f M ⟨k0, k1, -⟩ -
            have hs88 : f 88 = .pointer (some ((ba pp).add (aq * 5 + 1 + ar * 1))) := k0
            have hs85 : f 85 = Ix (IntKind.i64.wrap ((cv cq ar) + (by_))) := k1
            refine ob_start (L' := row (.slice pp (e.comps.length) cc) 55 5 (e.comps.length) ((e.comps.flatMap compE)) :: M) (by rfl) (up_cons (up_cons rfl hs88) hs85) ?_
            refine l_mu rfl rfl (m_storeRow 0 tf10 (o := aq * 5 + 1 + ar * 1) (v := Ix (IntKind.i64.wrap ((cv cq ar) + (by_)))) rfl rfl rfl rfl rfl (by omega) (by omega)) ?_
            refine l_nil ?_
            exact f_owes_n (up_cons (up_cons rfl hs88) hs85) trivial (perm_front 0 rfl)
          rintro fa11 ⟨-, -, -, -, -, -, -, -, -, -, -, -, -, -⟩ ⟨j0, j1, j2, -⟩
          refine f_re (L' := (row (.slice p3 (x.ents.length) c4) 33 2 (x.ents.length) ((entCells vs5 x.ents)) :: pt b2 (.cells #[.int .i64 (0), .slice none 0 0] 24) :: pt b1 (.cells #[Ix (x.tick), .slice p3 (x.ents.length) c4] 24) :: row (.slice pp (e.comps.length) cc) 55 5 (e.comps.length) ((overL (e.comps.flatMap compE) (aq * 5 + 1 + ar * 1) [Ix (IntKind.i64.wrap ((cv cq ar) + (by_)))])) :: (compRows (vs5.eraseIdx k) (x.ents.eraseIdx k)))) (by rfl) ?_
          refine f_rebase (d := 3) (v := .pointer (some ⟨b1, 0, none⟩)) j0 ?_
          refine f_rebase (d := 6) (v := .pointer (some ⟨b2, 0, none⟩)) j1 ?_
          refine f_rebase (d := 11) (v := Ix (e.id)) j2 ?_
          refine f_then ?_
          refine c_seq ?_
          refine c_perm (L' := (row (.slice p3 (x.ents.length) c4) 33 2 (x.ents.length) ((entCells vs5 x.ents)) :: pt b2 (.cells #[.int .i64 (0), .slice none 0 0] 24) :: pt b1 (.cells #[Ix (x.tick), .slice p3 (x.ents.length) c4] 24) :: row (.slice pp (e.comps.length) cc) 55 5 (e.comps.length) ((overL (e.comps.flatMap compE) (aq * 5 + 1 + ar * 1) [Ix (IntKind.i64.wrap ((cv cq ar) + (by_)))])) :: (compRows (vs5.eraseIdx k) (x.ents.eraseIdx k)))) (List.Perm.refl _) ?_
          rw [show aq * 5 + 1 + ar * 1 = aq * 5 + (1 + ar) by omega, over_comp hcq (c' := (setV cq ar (IntKind.i64.wrap (cv cq ar + by_)))) (by omega) (setV_cells cq harl _)]
          refine c_region ?_
          refine l_val (v := .agg #[Ix (x.tick), .slice p3 (x.ents.length) c4]) rfl rfl rfl (e_load tf46 (cs := [Ix (x.tick), .slice p3 (x.ents.length) c4]) rfl (k_pt 2 (cs := #[Ix (x.tick), .slice p3 (x.ents.length) c4]) (vs := [Ix (x.tick), .slice p3 (x.ents.length) c4]) rfl rfl) rfl) ?_
          refine l_val (v := Ix (e.id)) rfl rfl rfl (e_move) ?_
          refine l_val (v := Ix (e.id)) rfl rfl rfl (e_move) ?_
          refine l_mu rfl rfl (m_store 1 tf46 (b := b2) (o := 0) (T := 24) (cs := #[.int .i64 (0), .slice none 0 0]) (cs' := #[Ix (x.tick), .slice p3 (x.ents.length) c4]) (v := .agg #[Ix (x.tick), .slice p3 (x.ents.length) c4]) rfl rfl rfl rfl rfl rfl rfl) ?_
          refine l_val (v := Ix (e.id)) rfl rfl rfl (e_assign) ?_
          refine l_val (v := Ix (e.id)) rfl rfl rfl (e_assign) ?_
          refine l_nil ?_
          refine f_then ?_
          refine c_ret ?_
          refine f_then_ret ?_
          refine f_block_ret ?_
          refine f_then_ret ?_
          refine f_then_ret ?_
          refine f_block_ret ?_
          refine f_then_ret ?_
          refine retG (l := [.cell 6 24, .tmp 7, .tmp 8]) (m := [.agg #[Ix (x.tick), .slice p3 (x.ents.length) c4], Ix (e.id), Ix (e.id)]) (v := .tuple #[.agg #[Ix (x.tick), .slice p3 (x.ents.length) c4], Ix (e.id), Ix (e.id)]) Try.results27 ⟨rd_cell tf46 (cs := [Ix (x.tick), .slice p3 (x.ents.length) c4]) rfl (k_pt 1 (cs := #[Ix (x.tick), .slice p3 (x.ents.length) c4]) (vs := [Ix (x.tick), .slice p3 (x.ents.length) c4]) rfl rfl) rfl, rd_tmp (v := Ix (e.id)) rfl, rd_tmp (v := Ix (e.id)) rfl, trivial⟩ rfl ?_
          intro w hw
          have h1 := st_mask (L' := (row (.slice p3 (x.ents.length) c4) 33 2 (x.ents.length) ((entCells vs5 x.ents)) :: row (.slice pp (e.comps.length) cc) 55 5 (e.comps.length) (((e.comps.set aq (setV cq ar (IntKind.i64.wrap (cv cq ar + by_)))).flatMap compE)) :: (compRows (vs5.eraseIdx k) (x.ents.eraseIdx k)))) [true, false, false, true] rfl hw
          rw [← ents_same_id (e' := ⟨e.id, e.comps.set aq (setV cq ar (IntKind.i64.wrap (cv cq ar + by_)))⟩) he rfl] at h1
          have h2 := h1.perm (L' := (row (.slice p3 x.ents.length c4) 33 2 x.ents.length (entCells vs5 (x.ents.set k ⟨e.id, e.comps.set aq (setV cq ar (IntKind.i64.wrap (cv cq ar + by_)))⟩)) :: compRows vs5 (x.ents.set k ⟨e.id, e.comps.set aq (setV cq ar (IntKind.i64.wrap (cv cq ar + by_)))⟩))) ((comp_join' (e' := ⟨e.id, e.comps.set aq (setV cq ar (IntKind.i64.wrap (cv cq ar + by_)))⟩) hv he (by simp)).cons _)
          exact ⟨k, e, ⟨e.id, e.comps.set aq (setV cq ar (IntKind.i64.wrap (cv cq ar + by_)))⟩, p3, c4, vs5, rfl, he, (ent_comp_ne hcq (U_changed hby h0) (cv_word cq harl) (setV_words cq harl _)), hvs, h2⟩
      ·
        refine c_skip ?_
        refine f_then ?_
        refine c_region ?_
        refine l_val (v := Nx ((at_ - numsTo x.ents k) - 1)) rfl rfl rfl (e_move) ?_
        refine l_val (v := .pointer (some ((ba p3).add (k * 2)))) rfl rfl rfl (e_move) ?_
        refine l_val (v := .pointer (some ((ba p3).add (k * 2)))) rfl rfl rfl (e_nil (a := (ba p3).add (k * 2)) rfl) ?_
        refine l_val (v := .pointer (some ((ba p3).add (k * 2 + 1)))) rfl rfl rfl (ev_eq (by rw [Addr.add_add']) (e_fieldAddr (a := (ba p3).add (k * 2)) rfl tf11)) ?_
        refine l_val (v := .slice pp (e.comps.length) cc) rfl rfl rfl (e_load1 tf12 (v := .slice pp (e.comps.length) cc) rfl (k_row 0 (o := k * 2 + 1) (us := [.slice pp (e.comps.length) cc]) rfl (ent_at hv he) (Nat.succ_pos _))) ?_
        refine l_val (v := Nx (e.comps.length)) rfl rfl rfl (e_len (a := pp) (n := e.comps.length) (c := cc) rfl tf13) ?_
        refine l_val (v := Nx (5 * e.comps.length)) rfl rfl rfl (e_mul (a := (5 : Int)) (b := ((e.comps.length : Nat) : Int)) rfl rfl (i64n (by omega) (by omega))) ?_
        refine l_val (v := Nx (((at_ - numsTo x.ents k) - 1) - (5 * e.comps.length))) rfl rfl rfl (ev_eq (congrArg (Value.int .i64) (by omega)) (e_sub (a := (((at_ - numsTo x.ents k) - 1 : Nat) : Int)) (b := ((5 * e.comps.length : Nat) : Int)) rfl rfl (i64w (by omega)))) ?_
        refine l_val (v := Nx (((at_ - numsTo x.ents k) - 1) - (5 * e.comps.length))) rfl rfl rfl (e_assign) ?_
        refine l_nil ?_
        refine f_block ?_
        refine f_then ?_
        refine c_region ?_
        refine l_val (v := Nx (k + 1)) rfl rfl rfl (e_add (a := ((k : Nat) : Int)) (b := (1 : Int)) rfl rfl (i64n (by omega) (by omega))) ?_
        refine l_val (v := Nx (k + 1)) rfl rfl rfl (e_move) ?_
        refine l_nil ?_
        refine f_perm (L' := (row (.slice p3 (x.ents.length) c4) 33 2 (x.ents.length) ((entCells vs5 x.ents)) :: pt b2 (.cells #[.int .i64 (0), .slice none 0 0] 24) :: pt b1 (.cells #[Ix (x.tick), .slice p3 (x.ents.length) c4] 24) :: (compRows vs5 x.ents))) (List.Perm.append_left [row (.slice p3 (x.ents.length) c4) 33 2 (x.ents.length) ((entCells vs5 x.ents)), pt b2 (.cells #[.int .i64 (0), .slice none 0 0] 24), pt b1 (.cells #[Ix (x.tick), .slice p3 (x.ents.length) c4] 24)] (comp_split hv he).symm) ?_
        exact f_cut ⟨k + 1, ⟨⟨congrArg (fun z : Nat => Nx z) (show at_ - numsTo x.ents k - 1 - 5 * e.comps.length = at_ - numsTo x.ents (k + 1) by rw [nums_succ he]; omega), rfl, rfl, rfl, rfl, rfl⟩, rfl, ⟨by omega, by rw [nums_succ he]; omega⟩⟩, (show x.ents.length - (k + 1) < x.ents.length - k from by omega)⟩
  ·
    refine c_exit ?_
    refine f_then_exit ?_
    refine f_then_exit ?_
    refine f_exit ?_
    refine f_then ?_
    refine c_seq ?_
    refine c_region ?_
    refine l_val (v := .agg #[Ix (x.tick), .slice p3 (x.ents.length) c4]) rfl rfl rfl (e_load tf46 (cs := [Ix (x.tick), .slice p3 (x.ents.length) c4]) rfl (k_pt 2 (cs := #[Ix (x.tick), .slice p3 (x.ents.length) c4]) (vs := [Ix (x.tick), .slice p3 (x.ents.length) c4]) rfl rfl) rfl) ?_
    refine l_mu rfl rfl (m_store 1 tf46 (b := b2) (o := 0) (T := 24) (cs := #[.int .i64 (0), .slice none 0 0]) (cs' := #[Ix (x.tick), .slice p3 (x.ents.length) c4]) (v := .agg #[Ix (x.tick), .slice p3 (x.ents.length) c4]) rfl rfl rfl rfl rfl rfl rfl) ?_
    refine l_val (v := .int .i64 (0)) rfl rfl rfl (e_assign) ?_
    refine l_val (v := .int .i64 (0)) rfl rfl rfl (e_assign) ?_
    refine l_nil ?_
    refine f_then ?_
    refine c_ret ?_
    refine retG (l := [.cell 6 24, .tmp 7, .tmp 8]) (m := [.agg #[Ix (x.tick), .slice p3 (x.ents.length) c4], .int .i64 (0), .int .i64 (0)]) (v := .tuple #[.agg #[Ix (x.tick), .slice p3 (x.ents.length) c4], .int .i64 (0), .int .i64 (0)]) Try.results27 ⟨rd_cell tf46 (cs := [Ix (x.tick), .slice p3 (x.ents.length) c4]) rfl (k_pt 1 (cs := #[Ix (x.tick), .slice p3 (x.ents.length) c4]) (vs := [Ix (x.tick), .slice p3 (x.ents.length) c4]) rfl rfl) rfl, rd_tmp (v := .int .i64 (0)) rfl, rd_tmp (v := .int .i64 (0)) rfl, trivial⟩ rfl ?_
    intro w hw
    have hke : k = x.ents.length := by omega
    subst hke
    omega
end Go.Proofs
