import Derived.Test.YtbfidhbcojbklaaDg9
import Derived.Test.YtbfidhbcojbklaaSlBytes
namespace Go.Proofs
open Go Go.Sl
theorem size_set (s : ByteArray) (k : Nat) (v : UInt8) (h : s.size ≤ 9223372036854775807) : (⟨(s.data.toList.set k v).toArray⟩ : ByteArray).size ≤ 9223372036854775807 := by
  show (s.data.toList.set k v).length ≤ _
  rw [List.length_set]; exact h
theorem size_back (s : ByteArray) (h : s.size ≤ 9223372036854775807) : (⟨(s.data.toList).toArray⟩ : ByteArray).size ≤ 9223372036854775807 := h
theorem names_nil {s : ByteArray} (h : ((s.size : Nat) : Int) = (0 : Int)) : ((seqU (wordsB s)).toNat : Int) = ((0 : UInt64).toNat : Int) := by
  have : s.data.toList = [] := List.eq_nil_of_length_eq_zero (show s.size = 0 by omega)
  rw [wordsB, this]; decide
theorem names_same (s : ByteArray) : ¬ (((seqU (wordsB (⟨(s.data.toList).toArray⟩))).toNat : Int) ≠ ((seqU (wordsB s)).toNat : Int)) := by
  have : (⟨(s.data.toList).toArray⟩ : ByteArray) = s := by cases s; simp
  rw [this]; simp
theorem max8_ne (b : UInt8) : max b 1 ≠ 0 := by
  intro h
  have h1 : (max b 1).toNat = 0 := by rw [h]; rfl
  have h2 := bx_max b 1
  rw [h1] at h2
  have h3 : ((1 : UInt8).toNat : Int) = 1 := rfl
  omega
theorem seqF_inj_h {h h' : UInt64} : ∀ {xs : List UInt64}, seqF h xs = seqF h' xs → h = h'
  | [], e => e
  | x :: xs, e => by
    have h1 := seqF_inj_h (xs := xs) (h := h * 0x9e3779b97f4a7c15 + x + 1) (h' := h' * 0x9e3779b97f4a7c15 + x + 1) e
    rw [UInt64.add_left_inj, UInt64.add_left_inj] at h1
    exact mul_inj (c' := 0xf1de83e19937733d) (by decide) h1
theorem seqF_set_ne {x y : UInt64} (hxy : x ≠ y) : ∀ {xs : List UInt64} {k : Nat} {h : UInt64}, xs[k]? = some x → seqF h (xs.set k y) ≠ seqF h xs
  | [], k, h, e => by simp at e
  | a :: xs, 0, h, e => by
    injection e with e
    subst e
    intro e2
    have h1 := seqF_inj_h (xs := xs) (h := h * 0x9e3779b97f4a7c15 + y + 1) (h' := h * 0x9e3779b97f4a7c15 + a + 1) e2
    rw [UInt64.add_left_inj, UInt64.add_right_inj] at h1
    exact hxy h1.symm
  | a :: xs, k + 1, h, e => seqF_set_ne hxy (xs := xs) (k := k) (by simpa using e)
theorem names_ne {s : ByteArray} {k : Nat} {c b : UInt8} (hc : s.data.toList[k]? = some c) :
    ¬ (((seqU (wordsB (⟨((s.data.toList).set (0 + k * 1) (c + max b (1 : UInt8))).toArray⟩))).toNat : Int) = ((seqU (wordsB s)).toNat : Int)) := by
  intro e
  have h1 := mix_inj (UInt64.toNat_inj.1 (Int.ofNat_inj.1 e))
  have hw : (wordsB s)[k]? = some c.toUInt64 := by simp only [wordsB, List.getElem?_map, hc]; rfl
  have hne : c.toUInt64 ≠ (c + max b 1).toUInt64 := by
    intro h
    have h2 : c.toNat = (c + max b 1).toNat := by
      have := congrArg UInt64.toNat h
      simpa using this
    have h3 : c = c + max b 1 := UInt8.toNat_inj.1 h2
    have h4 : c + 0 = c + max b 1 := by simpa using h3
    rw [UInt8.add_right_inj] at h4
    exact max8_ne b h4.symm
  refine seqF_set_ne (h := 0) hne hw ?_
  have h5 : (wordsB s).set k (c + max b 1).toUInt64 = wordsB ⟨((s.data.toList).set (0 + k * 1) (c + max b (1 : UInt8))).toArray⟩ := by
    simp [wordsB, List.map_set]
  rw [h5]; exact h1
theorem names_ent (c : UInt8) : ((entU (⟨((c.toNat : Nat) : Int), []⟩ : KEnt)).toNat : Int) = ((seqU (wordsB (⟨([c, (0 : UInt8)] : List UInt8).toArray⟩))).toNat : Int) := by
  have h : U ((c.toNat : Nat) : Int) = c.toUInt64 := by
    have h1 := ux_of ((c.toNat : Nat) : Int)
    have h2 := ux_of8 c
    exact UInt64.toNat_inj.1 (Int.ofNat_inj.1 (h1.symm.trans h2))
  show (((seqU [U ((c.toNat : Nat) : Int), U ((0 : Nat) : Int)]).toNat : Nat) : Int) = (((seqU [c.toUInt64, (0 : UInt8).toUInt64]).toNat : Nat) : Int)
  rw [h]; rfl
theorem names_tick {s z : ByteArray} {c : UInt8} (hc : s.data.toList[0]? = some c) (hz : z = s.extract 0 1) : ((tickU (((c.toNat : Nat) : Int))).toNat : Int) = ((seqU (wordsB z)).toNat : Int) := by
  have h : U ((c.toNat : Nat) : Int) = c.toUInt64 := by
    have h1 := ux_of ((c.toNat : Nat) : Int)
    have h2 := ux_of8 c
    exact UInt64.toNat_inj.1 (Int.ofNat_inj.1 (h1.symm.trans h2))
  have hw : wordsB z = [c.toUInt64] := by
    subst hz
    cases s with
    | mk d =>
      cases d with
      | mk l =>
        cases l with
        | nil => simp at hc
        | cons a l => simp at hc; subst hc; simp [wordsB, ByteArray.data_extract]
  rw [hw]
  show (((chainU 0 (U ((c.toNat : Nat) : Int))).toNat : Nat) : Int) = _
  rw [h]; rfl
theorem tf66 : Try.prog.underlying 50 = some (.slice 5) := by kernel_rfl
theorem tf67 : slB Try.prog 50 5 1 = true := by kernel_rfl
theorem tf68 : (Try.prog.info? 5).bind (·.zero) = some (.int .u8 (0)) := by kernel_rfl
theorem names_ok (β : Base) (w : World) (hw : St β [] w) (text : ByteArray) (ht : text.size ≤ 9223372036854775807) (at_ : Nat) (hat : at_ < 65536) (by_ : UInt8) : Calls Try.prog 7 #[.string text, .int .u16 ((at_ : Nat) : Int), Bx by_] w fun r w' => r = .returned (.bool true) ∧ St β [] w' := by
  refine enter (n := 79) Try.func7 rfl Try.ntmps7 rfl ?_ hw
  refine c_seq ?_
  refine c_region ?_
  refine l_val (v := .bool false) rfl rfl rfl (e_assign) ?_
  refine l_nil ?_
  refine f_then ?_
  refine c_seq ?_
  refine c_region ?_
  refine l_val (v := .string (text)) rfl rfl rfl (e_move) ?_
  refine l_val (v := .string (text)) rfl rfl rfl (e_move) ?_
  refine l_val (v := Nx ((text).size)) rfl rfl rfl (e_len_s (s := text) rfl tf7) ?_
  refine l_val (v := Nx (min ((text).size) 300)) rfl rfl rfl (ev_eq (congrArg (Value.int .i64) (by omega)) (e_min (a := (((text).size : Nat) : Int)) (b := (300 : Int)) rfl rfl)) ?_
  obtain ⟨s1, hz2⟩ : ∃ z, z = (text).extract 0 (min ((text).size) 300) := ⟨_, rfl⟩
  have zl3 : s1.size = min ((text).size) 300 := by rw [hz2, ByteArray.size_extract]; omega
  refine l_val (v := .string (s1)) rfl rfl rfl (ev_eq (congrArg Value.string hz2.symm) (e_slice_s (s := text) (h := min ((text).size) 300) tf7 rfl rfl (by omega))) ?_
  refine l_val (v := .string (s1)) rfl rfl rfl (e_assign) ?_
  refine l_nil ?_
  refine f_then ?_
  refine c_seq ?_
  refine c_region ?_
  refine l_val (v := .string (s1)) rfl rfl rfl (e_move) ?_
  refine l_call rfl rfl rfl (cl_value (fst := []) (cap := []) (vs := [.string (s1)]) (all := [.string (s1)]) tf56 rfl rfl rfl) ?_
  intro w hw
  obtain ⟨β1, sb, kn, hw1, back⟩ := St.frame_all hw
  refine (name_ok β1 w hw1 s1 (by omega)).mono ?_
  rintro e w' ⟨rfl, hw'⟩
  refine ⟨_, rfl, _, back _ _ hw', ?_⟩
  clear hw hw1 hw' back kn sb
  refine l_val (v := Ux (seqU (wordsB s1))) rfl rfl rfl (e_assign) ?_
  refine l_nil ?_
  refine f_then ?_
  refine c_seq ?_
  refine c_seq ?_
  refine c_region ?_
  refine l_val (v := .string (s1)) rfl rfl rfl (e_move) ?_
  refine l_val (v := Nx ((s1).size)) rfl rfl rfl (e_len_s (s := s1) rfl tf7) ?_
  refine l_val (v := .bool (decide ((((s1).size : Nat) : Int) = (0 : Int)))) rfl rfl rfl (e_eql (a := (((s1).size : Nat) : Int)) (b := (0 : Int)) rfl rfl) ?_
  refine l_nil ?_
  refine f_then ?_
  refine c_if ((((s1).size : Nat) : Int) = (0 : Int)) rfl (fun hc4 => ?_) (fun hc4 => ?_)
  ·
    refine c_seq ?_
    refine c_region ?_
    refine l_val (v := Ux (seqU (wordsB s1))) rfl rfl rfl (e_move) ?_
    refine l_val (v := .bool (decide (((seqU (wordsB s1)).toNat : Int) = ((0 : UInt64).toNat : Int)))) rfl rfl rfl (e_eql (a := ((seqU (wordsB s1)).toNat : Int)) (b := ((0 : UInt64).toNat : Int)) rfl rfl) ?_
    refine l_val (v := .bool (decide (((seqU (wordsB s1)).toNat : Int) = ((0 : UInt64).toNat : Int)))) rfl rfl rfl (e_move) ?_
    refine l_split (s := 23) (p := ((seqU (wordsB s1)).toNat : Int) = ((0 : UInt64).toNat : Int)) rfl (fun h => ?_) (fun h => ?_)
    rotate_left; exact absurd (names_nil hc4) h
    refine g_call rfl rfl rfl rfl rfl (cl_value (fst := []) (cap := []) (vs := []) (all := []) tf63 rfl rfl rfl) ?_
    intro w hw
    obtain ⟨β1, sb, kn, hw1, back⟩ := St.frame_all hw
    refine (awake_ok β1 w hw1).mono ?_
    rintro e w' ⟨rfl, hw'⟩
    refine ⟨_, rfl, _, back _ _ hw', ?_⟩
    clear hw hw1 hw' back kn sb
    refine l_val (v := .bool true) rfl rfl rfl (e_pick_t rfl) ?_
    refine l_val (v := .bool true) rfl rfl rfl (e_assign) ?_
    refine l_nil ?_
    refine f_then ?_
    refine c_ret ?_
    refine f_then_ret ?_
    refine ret1 Try.results7 (v := .bool true) rfl ?_
    intro w hw
    exact ⟨rfl, st_mask [] rfl hw⟩
  ·
    refine c_skip ?_
    refine f_then ?_
    refine c_seq ?_
    refine c_region ?_
    refine l_val (v := .int .u16 (((at_ : Nat)) : Int)) rfl rfl rfl (e_move) ?_
    refine l_val (v := Nx (at_)) rfl rfl rfl (e_conv (a := ((at_ : Nat) : Int)) rfl ⟨_, tf64⟩ tf1 (i64n rfl (by omega))) ?_
    refine l_val (v := .string (s1)) rfl rfl rfl (e_move) ?_
    refine l_val (v := Nx ((s1).size)) rfl rfl rfl (e_len_s (s := s1) rfl tf7) ?_
    refine l_val (v := Nx (at_ % ((s1).size))) rfl rfl rfl (e_rem (a := ((at_ : Nat) : Int)) (b := (((s1).size : Nat) : Int)) rfl rfl (by omega) (nat_tmod _ _)) ?_
    refine l_val (v := Nx (at_ % ((s1).size))) rfl rfl rfl (e_assign) ?_
    refine l_nil ?_
    refine f_then ?_
    refine c_seq ?_
    have hmod := Nat.mod_lt at_ (show 0 < s1.size by omega)
    refine c_region ?_
    refine l_val (v := .string (s1)) rfl rfl rfl (e_move) ?_
    refine l_mv rfl rfl rfl (m_toBytes (s := s1) rfl tf7 tf66 tf8) ?_
    rintro _ _ ⟨b5, cp6, rfl, rfl⟩
    refine l_val (v := .slice (some ⟨b5, 0, none⟩) (s1.size) cp6) rfl rfl rfl (e_assign) ?_
    refine l_nil ?_
    refine f_then ?_
    refine c_seq ?_
    refine c_region ?_
    refine l_val (v := .slice (some ⟨b5, 0, none⟩) (s1.size) cp6) rfl rfl rfl (e_move) ?_
    refine l_val (v := Nx (at_ % ((s1).size))) rfl rfl rfl (e_move) ?_
    refine l_val (v := .pointer (some ⟨b5, 0 + (at_ % ((s1).size)) * 1, none⟩)) rfl rfl rfl (e_indexPt (b := b5) (o := 0) (k := at_ % ((s1).size)) (len := s1.size) (cap := cp6) rfl rfl tf67 (by omega)) ?_
    obtain ⟨c7, hc8⟩ : ∃ c, (s1.data.toList)[at_ % ((s1).size)]? = some c := ⟨_, List.getElem?_eq_getElem (by simp; omega)⟩
    refine l_val (v := Bx (c7)) rfl rfl rfl (e_load1 tf18 (v := Bx c7) rfl (Knows.of_res 0 rfl (Cs.mono _ _) (fun _ h => byt_at h hc8))) ?_
    refine l_val (v := Bx (by_)) rfl rfl rfl (e_move) ?_
    refine l_val (v := Bx (max by_ (1 : UInt8))) rfl rfl rfl (ev_eq (congrArg (Value.int .u8) (bx_max _ _)) (e_max (a := ((by_).toNat : Int)) (b := ((1 : UInt8).toNat : Int)) rfl rfl)) ?_
    refine l_val (v := Bx (c7 + (max by_ (1 : UInt8)))) rfl rfl rfl (e_add (a := ((c7).toNat : Int)) (b := ((max by_ (1 : UInt8)).toNat : Int)) rfl rfl (bx_add _ _)) ?_
    refine l_val (v := .pointer (some ⟨b5, 0 + (at_ % ((s1).size)) * 1, none⟩)) rfl rfl rfl (e_indexPt (b := b5) (o := 0) (k := at_ % ((s1).size)) (len := s1.size) (cap := cp6) rfl rfl tf67 (by omega)) ?_
    refine l_mu rfl rfl (m_setByte 0 tf18 (b := b5) (k := 0 + (at_ % ((s1).size)) * 1) (v := c7 + (max by_ (1 : UInt8))) rfl rfl rfl (by simp; omega)) ?_
    refine l_nil ?_
    refine f_then ?_
    refine c_seq ?_
    refine c_seq ?_
    refine c_region ?_
    refine l_val (v := .slice (some ⟨b5, 0, none⟩) (s1.size) cp6) rfl rfl rfl (e_move) ?_
    refine l_val (v := .string (⟨((s1.data.toList.set (0 + (at_ % ((s1).size)) * 1) (c7 + (max by_ (1 : UInt8))))).toArray⟩)) rfl rfl rfl (e_bytesBack (b := b5) (o := 0) (m := s1.size) (cap := cp6) (bs := (s1.data.toList.set (0 + (at_ % ((s1).size)) * 1) (c7 + (max by_ (1 : UInt8))))) rfl (by simp) tf66 tf8 tf7 (Knows.of_res 0 rfl (Cs.mono _ _) (fun _ h => byt_cs h))) ?_
    refine l_call rfl rfl rfl (cl_value (fst := []) (cap := []) (vs := [.string (⟨((s1.data.toList.set (0 + (at_ % ((s1).size)) * 1) (c7 + (max by_ (1 : UInt8))))).toArray⟩)]) (all := [.string (⟨((s1.data.toList.set (0 + (at_ % ((s1).size)) * 1) (c7 + (max by_ (1 : UInt8))))).toArray⟩)]) tf56 rfl rfl rfl) ?_
    intro w hw
    obtain ⟨β1, sb, kn, hw1, back⟩ := St.frame_all hw
    refine (name_ok β1 w hw1 (⟨((s1.data.toList.set (0 + (at_ % ((s1).size)) * 1) (c7 + (max by_ (1 : UInt8))))).toArray⟩) (size_set _ _ _ (by omega))).mono ?_
    rintro e w' ⟨rfl, hw'⟩
    refine ⟨_, rfl, _, back _ _ hw', ?_⟩
    clear hw hw1 hw' back kn sb
    refine l_val (v := Ux (seqU (wordsB s1))) rfl rfl rfl (e_move) ?_
    refine l_val (v := .bool (decide (((seqU (wordsB (⟨((s1.data.toList.set (0 + (at_ % ((s1).size)) * 1) (c7 + (max by_ (1 : UInt8))))).toArray⟩))).toNat : Int) = ((seqU (wordsB s1)).toNat : Int)))) rfl rfl rfl (e_eql (a := ((seqU (wordsB (⟨((s1.data.toList.set (0 + (at_ % ((s1).size)) * 1) (c7 + (max by_ (1 : UInt8))))).toArray⟩))).toNat : Int)) (b := ((seqU (wordsB s1)).toNat : Int)) rfl rfl) ?_
    refine l_val (v := .bool (decide (((seqU (wordsB (⟨((s1.data.toList.set (0 + (at_ % ((s1).size)) * 1) (c7 + (max by_ (1 : UInt8))))).toArray⟩))).toNat : Int) = ((seqU (wordsB s1)).toNat : Int)))) rfl rfl rfl (e_move) ?_
    refine l_split (s := 46) (p := ((seqU (wordsB (⟨((s1.data.toList.set (0 + (at_ % ((s1).size)) * 1) (c7 + (max by_ (1 : UInt8))))).toArray⟩))).toNat : Int) = ((seqU (wordsB s1)).toNat : Int)) rfl (fun h => ?_) (fun h => ?_)
    exact absurd h (names_ne hc8)
    refine g_val (v := .string (s1)) rfl rfl rfl rfl rfl (e_move) ?_
    refine g_mv rfl rfl rfl rfl rfl (m_toBytes (s := s1) rfl tf7 tf66 tf8) ?_
    rintro _ _ ⟨b9, cp10, rfl, rfl⟩
    refine g_val (v := .string (⟨(s1.data.toList).toArray⟩)) rfl rfl rfl rfl rfl (e_bytesBack (b := b9) (o := 0) (m := s1.size) (cap := cp10) (bs := s1.data.toList) rfl (by simp) tf66 tf8 tf7 (Knows.of_res 0 rfl (Cs.mono _ _) (fun _ h => byt_cs h))) ?_
    refine g_call rfl rfl rfl rfl rfl (cl_value (fst := []) (cap := []) (vs := [.string (⟨(s1.data.toList).toArray⟩)]) (all := [.string (⟨(s1.data.toList).toArray⟩)]) tf56 rfl rfl rfl) ?_
    intro w hw
    obtain ⟨β1, sb, kn, hw1, back⟩ := St.frame_all hw
    refine (name_ok β1 w hw1 (⟨(s1.data.toList).toArray⟩) (size_back _ (by omega))).mono ?_
    rintro e w' ⟨rfl, hw'⟩
    refine ⟨_, rfl, _, back _ _ hw', ?_⟩
    clear hw hw1 hw' back kn sb
    refine g_val (v := Ux (seqU (wordsB s1))) rfl rfl rfl rfl rfl (e_move) ?_
    refine g_val (v := .bool (decide (((seqU (wordsB (⟨(s1.data.toList).toArray⟩))).toNat : Int) ≠ ((seqU (wordsB s1)).toNat : Int)))) rfl rfl rfl rfl rfl (e_neq (a := ((seqU (wordsB (⟨(s1.data.toList).toArray⟩))).toNat : Int)) (b := ((seqU (wordsB s1)).toNat : Int)) rfl rfl) ?_
    refine l_val (v := .bool (decide (((seqU (wordsB (⟨(s1.data.toList).toArray⟩))).toNat : Int) ≠ ((seqU (wordsB s1)).toNat : Int)))) rfl rfl rfl (e_pick_f rfl) ?_
    refine l_nil ?_
    refine f_then ?_
    refine c_if (((seqU (wordsB (⟨(s1.data.toList).toArray⟩))).toNat : Int) ≠ ((seqU (wordsB s1)).toNat : Int)) rfl (fun hc11 => ?_) (fun hc11 => ?_)
    ·
      exact absurd hc11 (names_same _)
    ·
      refine c_skip ?_
      refine f_then ?_
      refine c_seq ?_
      refine c_region ?_
      refine l_val (v := .string (s1)) rfl rfl rfl (e_move) ?_
      obtain ⟨c12, hc13⟩ : ∃ c, (s1).data.toList[0]? = some c := ⟨_, List.getElem?_eq_getElem (by simp; omega)⟩
      refine l_val (v := Bx (c12)) rfl rfl rfl (e_index_s (s := s1) (k := 0) (c := c12) rfl rfl tf7 hc13) ?_
      refine l_val (v := Nx (c12.toNat)) rfl rfl rfl (e_conv (a := ((c12).toNat : Int)) rfl ⟨_, tf8⟩ tf1 (i64n rfl (by have := (c12).toNat_lt; omega))) ?_
      refine l_val (v := .agg #[Nx (c12.toNat), .slice none 0 0]) rfl rfl rfl (e_build tf33 tf37 (vs := [(0, Nx (c12.toNat))]) (cells := #[Nx (c12.toNat), .slice none 0 0]) rfl rfl) ?_
      refine l_mv rfl rfl rfl (m_alloc tf33) ?_
      rintro _ _ ⟨b14, rfl, rfl⟩
      refine l_mu rfl rfl (m_store 0 tf24 (b := b14) (o := 0) (T := 33) (cs := #[.int .i64 (0), .slice none 0 0]) (cs' := #[Nx (c12.toNat), .slice none 0 0]) (v := .agg #[Nx (c12.toNat), .slice none 0 0]) rfl rfl rfl rfl rfl rfl rfl) ?_
      refine l_nil ?_
      refine f_then ?_
      refine c_seq ?_
      obtain ⟨s17, hz18⟩ : ∃ z, z = (s1).extract 0 (1) := ⟨_, rfl⟩
      have zl19 : s17.size = 1 := by rw [hz18, ByteArray.size_extract]; omega
      refine c_any [⟨[], [], [0], [58], fun f => f 58 = .agg #[Nx (c12.toNat), .slice none 0 0]⟩, ⟨[0], [0], [], [59], fun f => f 59 = Ux (entU (⟨((c12.toNat : Nat) : Int), []⟩ : KEnt))⟩, ⟨[], [], [1], [60], fun f => f 60 = .string (s1)⟩, ⟨[2], [2], [], [61], fun f => f 61 = Bx (c12)⟩, ⟨[2, 3], [3], [], [62], fun f => f 62 = .slice (some ⟨(blk (f 62)), 0, none⟩) 2 2⟩, ⟨[2, 3, 4], [4], [], [63], fun f => f 63 = .string (⟨([c12, (0 : UInt8)] : List UInt8).toArray⟩)⟩, ⟨[0, 1, 2, 3, 4, 5], [5], [], [64], fun f => f 64 = Ux (seqU (wordsB (⟨([c12, (0 : UInt8)] : List UInt8).toArray⟩)))⟩, ⟨[0, 1, 2, 3, 4, 5, 6], [1, 6], [], [65], fun f => f 65 = .bool true⟩, ⟨[0, 1, 2, 3, 4, 5, 6, 7], [7], [], [66], fun f => f 66 = .bool true⟩, ⟨[0, 1, 2, 3, 4, 5, 6, 7, 8], [8], [1], [67], fun f => f 67 = .string (s1)⟩, ⟨[0, 1, 2, 3, 4, 5, 6, 7, 8, 9], [9, 8], [], [68], fun f => f 68 = Bx (c12)⟩, ⟨[0, 1, 2, 3, 4, 5, 6, 7, 8, 9, 10], [10, 8], [], [69], fun f => f 69 = Nx (c12.toNat)⟩, ⟨[0, 1, 2, 3, 4, 5, 6, 7, 8, 9, 10, 11], [11, 8], [], [70], fun f => f 70 = Ux (tickU ((c12.toNat : Nat) : Int))⟩, ⟨[0, 1, 2, 3, 4, 5, 6, 7, 8], [8], [1], [71], fun f => f 71 = .string (s1)⟩, ⟨[0, 1, 2, 3, 4, 5, 6, 7, 8, 13], [13, 8], [], [72], fun f => f 72 = .string (s17)⟩, ⟨[0, 1, 2, 3, 4, 5, 6, 7, 8, 9, 10, 11, 12, 13, 14], [14, 8], [], [73], fun f => f 73 = Ux (seqU (wordsB s17))⟩, ⟨[0, 1, 2, 3, 4, 5, 6, 7, 8, 9, 10, 11, 12, 13, 14, 15], [12, 15, 8], [], [74], fun f => f 74 = .bool true⟩, ⟨[0, 1, 2, 3, 4, 5, 6, 7, 8, 9, 10, 11, 12, 13, 14, 15, 16], [8, 16], [], [75], fun f => f 75 = .bool true⟩, ⟨[0, 1, 2, 3, 4, 5, 6, 7, 8, 9, 10, 11, 12, 13, 14, 15, 16, 17], [17], [], [76], fun f => f 76 = .bool true⟩, ⟨[0, 1, 2, 3, 4, 5, 6, 7, 8, 9, 10, 11, 12, 13, 14, 15, 16, 17, 18], [18], [], [77], fun f => f 77 = .bool true⟩, ⟨[0, 1, 2, 3, 4, 5, 6, 7, 8, 9, 10, 11, 12, 13, 14, 15, 16, 17, 18, 19], [18, 19], [], [78], fun f => f 78 = .bool true⟩, ⟨[0, 1, 2, 3, 4, 5, 6, 7, 8, 9, 10, 11, 12, 13, 14, 15, 16, 17, 18, 19, 20], [20], [], [6], fun f => f 6 = .bool true⟩] [⟨none, none, [0], [], fun _ => pt b14 (.cells #[Nx (c12.toNat), .slice none 0 0] 33)⟩, ⟨none, none, [], [], fun _ => byt b9 5 s1.data.toList⟩, ⟨none, none, [], [], fun _ => byt b5 5 (s1.data.toList.set (0 + (at_ % ((s1).size)) * 1) (c7 + (max by_ (1 : UInt8))))⟩, ⟨(some 4), none, [5], [62], fun f => pt (blk (f 62)) (.cells #[Bx (c12), .int .u8 (0)] 5)⟩] [(10, .pointer (some ⟨b14, 0, none⟩)), (0, .string (s1))] [] [] (by kernel_rfl) (by kernel_rfl) (by kernel_rfl) (by kernel_rfl) rfl ⟨rfl, rfl, trivial⟩ ⟨?_, ?_, ?_, ?_, ?_, ?_, ?_, ?_, ?_, ?_, ?_, ?_, ?_, ?_, ?_, ?_, ?_, ?_, ?_, ?_, ?_, ?_, trivial⟩ ?_
      · rintro f M - ⟨i0, -⟩
        have hs10 : f 10 = .pointer (some ⟨b14, 0, none⟩) := i0
        refine ob_start (L' := pt b14 (.cells #[Nx (c12.toNat), .slice none 0 0] 33) :: M) (by rfl) (up_cons rfl hs10) ?_
        refine l_val (v := .agg #[Nx (c12.toNat), .slice none 0 0]) rfl rfl rfl (e_load tf24 (cs := [Nx (c12.toNat), .slice none 0 0]) rfl (k_pt 0 (cs := #[Nx (c12.toNat), .slice none 0 0]) (vs := [Nx (c12.toNat), .slice none 0 0]) rfl rfl) rfl) ?_
        refine l_nil ?_
        exact f_owes_d (up_cons rfl hs10) rfl (perm_front 0 rfl)
      · rintro f M ⟨k0, -⟩ -
        have hs58 : f 58 = .agg #[Nx (c12.toNat), .slice none 0 0] := k0
        refine ob_start (L' := M) (by rfl) (up_cons rfl hs58) ?_
        refine l_call rfl rfl rfl (cl_value (fst := []) (cap := []) (vs := [.agg #[Nx (c12.toNat), .slice none 0 0]]) (all := [.agg #[Nx (c12.toNat), .slice none 0 0]]) tf26 rfl rfl rfl) ?_
        intro w hw
        obtain ⟨β1, sb, kn, hw1, back⟩ := St.frame_all hw
        refine (entity_ok β1 w hw1 (⟨((c12.toNat : Nat) : Int), []⟩ : KEnt) _ (Sl.nil CompR _)).mono ?_
        rintro e w' ⟨rfl, hw'⟩
        refine ⟨_, rfl, _, back _ _ hw', ?_⟩
        clear hw hw1 hw' back kn sb
        refine l_nil ?_
        exact f_owes_d (up_cons rfl hs58) rfl (List.Perm.refl _)
      · rintro f M - ⟨i0, -⟩
        have hs0 : f 0 = .string (s1) := i0
        refine ob_start (L' := M) (by rfl) (up_cons rfl hs0) ?_
        refine l_val (v := .string (s1)) rfl rfl rfl (e_move) ?_
        refine l_nil ?_
        exact f_owes_d (up_cons rfl hs0) rfl (List.Perm.refl _)
      · rintro f M ⟨k0, -⟩ -
        have hs60 : f 60 = .string (s1) := k0
        refine ob_start (L' := M) (by rfl) (up_cons rfl hs60) ?_
        refine l_val (v := Bx (c12)) rfl rfl rfl (e_index_s (s := s1) (k := 0) (c := c12) rfl rfl tf7 hc13) ?_
        refine l_nil ?_
        exact f_owes_d (up_cons rfl hs60) rfl (List.Perm.refl _)
      · rintro f M ⟨k0, -⟩ -
        have hs61 : f 61 = Bx (c12) := k0
        refine ob_start (L' := M) (by rfl) (up_cons rfl hs61) ?_
        refine l_mv rfl rfl rfl (m_slices tf67 tf68 (vs := [(0, Bx (c12)), (1, .int .u8 (0))]) (cells := #[Bx (c12), .int .u8 (0)]) rfl rfl rfl rfl) ?_
        rintro _ _ ⟨b16, rfl, rfl⟩
        refine l_nil ?_
        exact f_owes_d (up_cons rfl hs61) rfl (perm_front 0 rfl)
      · rintro f M ⟨k0, -⟩ -
        have hs62 : f 62 = .slice (some ⟨(blk (f 62)), 0, none⟩) 2 2 := k0
        refine ob_start (L' := pt (blk (f 62)) (.cells #[Bx (c12), .int .u8 (0)] 5) :: M) (by rfl) (up_cons rfl hs62) ?_
        refine l_val (v := .string (⟨([c12, (0 : UInt8)] : List UInt8).toArray⟩)) rfl rfl rfl (e_bytesBack (b := (blk (f 62))) (o := 0) (m := 2) (cap := 2) (bs := [c12, (0 : UInt8)]) rfl rfl tf66 tf8 tf7 (k_pt 0 (cs := #[Bx (c12), .int .u8 (0)]) (vs := [Bx (c12), .int .u8 (0)]) rfl rfl)) ?_
        refine l_nil ?_
        exact f_owes_d (up_cons rfl hs62) rfl (perm_front 0 rfl)
      · rintro f M ⟨k0, -⟩ -
        have hs63 : f 63 = .string (⟨([c12, (0 : UInt8)] : List UInt8).toArray⟩) := k0
        refine ob_start (L' := M) (by rfl) (up_cons rfl hs63) ?_
        refine l_call rfl rfl rfl (cl_value (fst := []) (cap := []) (vs := [.string (⟨([c12, (0 : UInt8)] : List UInt8).toArray⟩)]) (all := [.string (⟨([c12, (0 : UInt8)] : List UInt8).toArray⟩)]) tf56 rfl rfl rfl) ?_
        intro w hw
        obtain ⟨β1, sb, kn, hw1, back⟩ := St.frame_all hw
        refine (name_ok β1 w hw1 (⟨([c12, (0 : UInt8)] : List UInt8).toArray⟩) (show 2 ≤ 9223372036854775807 from by decide)).mono ?_
        rintro e w' ⟨rfl, hw'⟩
        refine ⟨_, rfl, _, back _ _ hw', ?_⟩
        clear hw hw1 hw' back kn sb
        refine l_nil ?_
        exact f_owes_d (up_cons rfl hs63) rfl (List.Perm.refl _)
      · rintro f M ⟨k0, k1, -⟩ -
        have hs59 : f 59 = Ux (entU (⟨((c12.toNat : Nat) : Int), []⟩ : KEnt)) := k0
        have hs64 : f 64 = Ux (seqU (wordsB (⟨([c12, (0 : UInt8)] : List UInt8).toArray⟩))) := k1
        refine ob_start (L' := M) (by rfl) (up_cons (up_cons rfl hs59) hs64) ?_
        refine l_val (v := .bool true) rfl rfl rfl ((ev_t (names_ent _) (e_eql (a := ((entU (⟨((c12.toNat : Nat) : Int), []⟩ : KEnt)).toNat : Int)) (b := ((seqU (wordsB (⟨([c12, (0 : UInt8)] : List UInt8).toArray⟩))).toNat : Int)) rfl rfl))) ?_
        refine l_nil ?_
        exact f_owes_d (up_cons (up_cons rfl hs59) hs64) rfl (List.Perm.refl _)
      · rintro f M ⟨k0, -⟩ -
        have hs65 : f 65 = .bool true := k0
        refine ob_start (L' := M) (by rfl) (up_cons rfl hs65) ?_
        refine l_val (v := .bool true) rfl rfl rfl (e_move) ?_
        refine l_nil ?_
        exact f_owes_d (up_cons rfl hs65) rfl (List.Perm.refl _)
      · rintro f M ⟨k0, -⟩ ⟨i0, -⟩
        have hs0 : f 0 = .string (s1) := i0
        have hs66 : f 66 = .bool true := k0
        refine ob_start (L' := M) (by rfl) (up_cons (up_cons rfl hs0) hs66) ?_
        refine g_val (v := .string (s1)) rfl rfl rfl rfl rfl (e_move) ?_
        refine l_nil ?_
        exact f_owes_d (up_cons (up_cons rfl hs0) hs66) rfl (List.Perm.refl _)
      · rintro f M ⟨k0, k1, -⟩ -
        have hs67 : f 67 = .string (s1) := k0
        have hs66 : f 66 = .bool true := k1
        refine ob_start (L' := M) (by rfl) (up_cons (up_cons rfl hs67) hs66) ?_
        refine g_val (v := Bx (c12)) rfl rfl rfl rfl rfl (e_index_s (s := s1) (k := 0) (c := c12) rfl rfl tf7 hc13) ?_
        refine l_nil ?_
        exact f_owes_d (up_cons (up_cons rfl hs67) hs66) rfl (List.Perm.refl _)
      · rintro f M ⟨k0, k1, -⟩ -
        have hs68 : f 68 = Bx (c12) := k0
        have hs66 : f 66 = .bool true := k1
        refine ob_start (L' := M) (by rfl) (up_cons (up_cons rfl hs68) hs66) ?_
        refine g_val (v := Nx (c12.toNat)) rfl rfl rfl rfl rfl (e_conv (a := ((c12).toNat : Int)) rfl ⟨_, tf8⟩ tf1 (i64n rfl (by have := (c12).toNat_lt; omega))) ?_
        refine l_nil ?_
        exact f_owes_d (up_cons (up_cons rfl hs68) hs66) rfl (List.Perm.refl _)
      · rintro f M ⟨k0, k1, -⟩ -
        have hs69 : f 69 = Nx (c12.toNat) := k0
        have hs66 : f 66 = .bool true := k1
        refine ob_start (L' := M) (by rfl) (up_cons (up_cons rfl hs69) hs66) ?_
        refine g_call rfl rfl rfl rfl rfl (cl_value (fst := []) (cap := []) (vs := [Nx (c12.toNat)]) (all := [Nx (c12.toNat)]) tf28 rfl rfl rfl) ?_
        intro w hw
        obtain ⟨β1, sb, kn, hw1, back⟩ := St.frame_all hw
        refine (tick_ok β1 w hw1 ((c12.toNat : Nat) : Int)).mono ?_
        rintro e w' ⟨rfl, hw'⟩
        refine ⟨_, rfl, _, back _ _ hw', ?_⟩
        clear hw hw1 hw' back kn sb
        refine l_nil ?_
        exact f_owes_d (up_cons (up_cons rfl hs69) hs66) rfl (List.Perm.refl _)
      · rintro f M ⟨k0, -⟩ ⟨i0, -⟩
        have hs0 : f 0 = .string (s1) := i0
        have hs66 : f 66 = .bool true := k0
        refine ob_start (L' := M) (by rfl) (up_cons (up_cons rfl hs0) hs66) ?_
        refine g_val (v := .string (s1)) rfl rfl rfl rfl rfl (e_move) ?_
        refine l_nil ?_
        exact f_owes_d (up_cons (up_cons rfl hs0) hs66) rfl (List.Perm.refl _)
      · rintro f M ⟨k0, k1, -⟩ -
        have hs71 : f 71 = .string (s1) := k0
        have hs66 : f 66 = .bool true := k1
        refine ob_start (L' := M) (by rfl) (up_cons (up_cons rfl hs71) hs66) ?_
        refine g_val (v := .string (s17)) rfl rfl rfl rfl rfl (ev_eq (congrArg Value.string hz18.symm) (e_slice_s (s := s1) (h := 1) tf7 rfl rfl (by omega))) ?_
        refine l_nil ?_
        exact f_owes_d (up_cons (up_cons rfl hs71) hs66) rfl (List.Perm.refl _)
      · rintro f M ⟨k0, k1, -⟩ -
        have hs72 : f 72 = .string (s17) := k0
        have hs66 : f 66 = .bool true := k1
        refine ob_start (L' := M) (by rfl) (up_cons (up_cons rfl hs72) hs66) ?_
        refine g_call rfl rfl rfl rfl rfl (cl_value (fst := []) (cap := []) (vs := [.string (s17)]) (all := [.string (s17)]) tf56 rfl rfl rfl) ?_
        intro w hw
        obtain ⟨β1, sb, kn, hw1, back⟩ := St.frame_all hw
        refine (name_ok β1 w hw1 s17 (by omega)).mono ?_
        rintro e w' ⟨rfl, hw'⟩
        refine ⟨_, rfl, _, back _ _ hw', ?_⟩
        clear hw hw1 hw' back kn sb
        refine l_nil ?_
        exact f_owes_d (up_cons (up_cons rfl hs72) hs66) rfl (List.Perm.refl _)
      · rintro f M ⟨k0, k1, k2, -⟩ -
        have hs70 : f 70 = Ux (tickU ((c12.toNat : Nat) : Int)) := k0
        have hs73 : f 73 = Ux (seqU (wordsB s17)) := k1
        have hs66 : f 66 = .bool true := k2
        refine ob_start (L' := M) (by rfl) (up_cons (up_cons (up_cons rfl hs70) hs73) hs66) ?_
        refine g_val (v := .bool true) rfl rfl rfl rfl rfl ((ev_t (names_tick hc13 hz18) (e_eql (a := ((tickU ((c12.toNat : Nat) : Int)).toNat : Int)) (b := ((seqU (wordsB s17)).toNat : Int)) rfl rfl))) ?_
        refine l_nil ?_
        exact f_owes_d (up_cons (up_cons (up_cons rfl hs70) hs73) hs66) rfl (List.Perm.refl _)
      · rintro f M ⟨k0, k1, -⟩ -
        have hs66 : f 66 = .bool true := k0
        have hs74 : f 74 = .bool true := k1
        refine ob_start (L' := M) (by rfl) (up_cons (up_cons rfl hs66) hs74) ?_
        refine l_val (v := .bool true) rfl rfl rfl (e_pick_t rfl) ?_
        refine l_nil ?_
        exact f_owes_d (up_cons (up_cons rfl hs66) hs74) rfl (List.Perm.refl _)
      · rintro f M ⟨k0, -⟩ -
        have hs75 : f 75 = .bool true := k0
        refine ob_start (L' := M) (by rfl) (up_cons rfl hs75) ?_
        refine l_val (v := .bool true) rfl rfl rfl (e_move) ?_
        refine l_nil ?_
        exact f_owes_d (up_cons rfl hs75) rfl (List.Perm.refl _)
      · rintro f M ⟨k0, -⟩ -
        have hs76 : f 76 = .bool true := k0
        refine ob_start (L' := M) (by rfl) (up_cons rfl hs76) ?_
        refine g_call rfl rfl rfl rfl rfl (cl_value (fst := []) (cap := []) (vs := []) (all := []) tf63 rfl rfl rfl) ?_
        intro w hw
        obtain ⟨β1, sb, kn, hw1, back⟩ := St.frame_all hw
        refine (awake_ok β1 w hw1).mono ?_
        rintro e w' ⟨rfl, hw'⟩
        refine ⟨_, rfl, _, back _ _ hw', ?_⟩
        clear hw hw1 hw' back kn sb
        refine l_nil ?_
        exact f_owes_d (up_cons rfl hs76) rfl (List.Perm.refl _)
      · rintro f M ⟨k0, k1, -⟩ -
        have hs76 : f 76 = .bool true := k0
        have hs77 : f 77 = .bool true := k1
        refine ob_start (L' := M) (by rfl) (up_cons (up_cons rfl hs76) hs77) ?_
        refine l_val (v := .bool true) rfl rfl rfl (e_pick_t rfl) ?_
        refine l_nil ?_
        exact f_owes_d (up_cons (up_cons rfl hs76) hs77) rfl (List.Perm.refl _)
      · rintro f M ⟨k0, -⟩ -
        have hs78 : f 78 = .bool true := k0
        refine ob_start (L' := M) (by rfl) (up_cons rfl hs78) ?_
        refine l_val (v := .bool true) rfl rfl rfl (e_assign) ?_
        refine l_nil ?_
        exact f_owes_d (up_cons rfl hs78) rfl (List.Perm.refl _)
      rintro fa20 ⟨-, -, -, -, -, -, -, -, -, -, -, -, -, -, -, -, -, -, -, -, -, k21, -⟩ -
      refine f_re (L' := [pt b14 (.cells #[Nx (c12.toNat), .slice none 0 0] 33), byt b9 5 s1.data.toList, byt b5 5 (s1.data.toList.set (0 + (at_ % ((s1).size)) * 1) (c7 + (max by_ (1 : UInt8)))), pt (blk (fa20 62)) (.cells #[Bx (c12), .int .u8 (0)] 5)]) (by rfl) ?_
      refine f_rebase (d := 6) (v := .bool true) k21 ?_
      refine f_then ?_
      refine c_ret ?_
      refine ret1 Try.results7 (v := .bool true) rfl ?_
      intro w hw
      exact ⟨rfl, st_mask [false, false, false, false] rfl hw⟩
end Go.Proofs
