/-
  A head with one byte changed: the other copy counts. With it the old area is read.
-/
import Derived.Test.YtkpdcajddpiknaaJnLaw5
import Derived.Test.YtkpdcajddpiknaaJnLaw6
namespace Go.Jn
open Go Go.Sl
theorem be_word {s : Bs} (h : s.length = 8) : be 8 (wordU s) = s := wordU_inj (by rw [be_length]; omega) (by rw [be_length, h]) (wordU_be8 _)
theorem mix_zero : mixU 0 = 0 := by decide
theorem tick_ne0 {m : UInt64} (h : m < 4611686018427387904) : tickU ((m.toNat : Nat) : Int) ≠ 0 := by
  intro q
  have q1 : mixU (0 * 0x9e3779b97f4a7c15 + U ((m.toNat : Nat) : Int) + 1) = mixU 0 := by rw [mix_zero]; exact q
  have q2 := mix_inj q1
  rw [U_nat] at q2
  have q3 := congrArg UInt64.toNat q2
  have q4 := ux_lt.1 h
  have q5 : (4611686018427387904 : UInt64).toNat = 4611686018427387904 := rfl
  rw [UInt64.toNat_add, UInt64.toNat_add] at q3
  have q6 : ((0 : UInt64) * 0x9e3779b97f4a7c15).toNat = 0 := rfl
  have q7 : (1 : UInt64).toNat = 1 := rfl
  have q8 : (0 : UInt64).toNat = 0 := rfl
  rw [q6, q7, q8] at q3
  omega
theorem ep_dead {b j m : UInt64} {s : Bs} (h : ¬ (0 < m ∧ ok4 j m s)) : ep4 b j m s = b := by
  refine if_neg fun q => h ⟨?_, q.2⟩
  refine ux_lt.2 ?_
  have := ux_lt.1 q.1
  have h0 : (0 : UInt64).toNat = 0 := rfl
  omega
theorem copy_parts (e : Nat) : ∃ t, t.length = 8 ∧ copyZ e = be 8 (U (e : Int)) ++ t ∧ ((e ≠ 0 ∧ wordU t = tickU (e : Int)) ∨ (e = 0 ∧ wordU t = 0)) := by
  by_cases he : e = 0
  · subst he
    exact ⟨List.replicate 8 0, by simp, by decide, .inr ⟨rfl, by decide⟩⟩
  · exact ⟨be 8 (tickU (e : Int)), be_length _ _, by unfold copyZ copyB; rw [if_neg he], .inl ⟨he, wordU_be8 _⟩⟩
theorem copy_broken {e k : Nat} {x y : UInt8} (he : e < 256) (hx : (copyZ e)[k]? = some x) (hxy : x ≠ y) : ∃ m s, s.length = 8 ∧ (copyZ e).set k y = be 8 m ++ s ∧ ∀ b j, ep4 b j m s = b := by
  obtain ⟨t, ht, hc, hw⟩ := copy_parts e
  rw [hc] at hx ⊢
  have hU : (U (e : Int)).toNat = e := U_toNat (by omega)
  by_cases hk : k < 8
  · rw [List.getElem?_append_left (by rw [be_length]; exact hk)] at hx
    rw [set_app_l (by rw [be_length]; exact hk)]
    have hs := set_wordU (by rw [be_length]; omega) hx hxy
    rw [wordU_be8] at hs
    refine ⟨wordU ((be 8 (U (e : Int))).set k y), t, ht, by rw [be_word (by simp [be_length])], fun b j => ep_dead fun q => ?_⟩
    obtain ⟨_, q1, _, q2⟩ := q
    rcases hw with ⟨_, h2⟩ | ⟨h1, h2⟩
    · rw [h2] at q2
      have q3 : tickU (((U (e : Int)).toNat : Nat) : Int) = tickU (((wordU ((be 8 (U (e : Int))).set k y)).toNat : Nat) : Int) := by rw [hU]; exact q2
      exact hs (tick_inj q3).symm
    · rw [h2] at q2
      exact tick_ne0 q1 q2.symm
  · rw [List.getElem?_append_right (by rw [be_length]; omega), be_length] at hx
    rw [set_app_r (by rw [be_length]; omega), be_length]
    have hs := set_wordU (by omega) hx hxy
    refine ⟨U (e : Int), t.set (k - 8) y, by simp [ht], rfl, fun b j => ep_dead fun q => ?_⟩
    obtain ⟨q0, q1, _, q2⟩ := q
    rcases hw with ⟨_, h2⟩ | ⟨h1, h2⟩
    · rw [hU, ← h2] at q2
      exact hs q2
    · subst h1
      exact absurd q0 (by decide)
theorem copy_live {e : Nat} (he : e < 256) : ∃ s, s.length = 8 ∧ copyZ e = be 8 (U (e : Int)) ++ s ∧ ep4 0 (U ((e % 2 : Nat) : Int)) (U (e : Int)) s = U (e : Int) := by
  obtain ⟨t, ht, hc, hw⟩ := copy_parts e
  refine ⟨t, ht, hc, ?_⟩
  have hU : (U (e : Int)).toNat = e := U_toNat (by omega)
  rcases hw with ⟨h1, h2⟩ | ⟨h1, h2⟩
  · have u62 : (4611686018427387904 : UInt64).toNat = 4611686018427387904 := rfl
    have u0 : (0 : UInt64).toNat = 0 := rfl
    exact if_pos ⟨ux_lt.2 (by rw [hU, u0]; omega), ux_lt.2 (by rw [hU, u62]; omega), par_U he, by rw [hU, h2]⟩
  · subst h1
    exact if_neg fun q => absurd q.1 (by decide)
theorem head_broken {head : Bs} {e k : Nat} {x y : UInt8} (h : HeadX head (e + 1)) (he : e + 1 < 256) (hk : k < 32) (hx : head[k]? = some x) (hxy : x ≠ y) :
    epochF (head.set k y) = if k / 16 = (e + 1) % 2 then e else e + 1 := by
  rcases h with ⟨h0, _⟩ | ⟨_, hh⟩
  · omega
  rw [Nat.add_sub_cancel] at hh
  have hU0 : (U (e : Int)).toNat = e := U_toNat (by omega)
  have hU1 : (U ((e + 1 : Nat) : Int)).toNat = e + 1 := U_toNat (by omega)
  have hz0 := copyZ_len e
  have hz1 := copyZ_len (e + 1)
  rcases Nat.mod_two_eq_zero_or_one (e + 1) with hp | hp
  · rw [if_pos hp] at hh
    have hp0 : e % 2 = 1 := by omega
    subst hh
    by_cases hk16 : k < 16
    · rw [List.getElem?_append_left (by omega)] at hx
      rw [set_app_l (by omega)]
      obtain ⟨m, s, hs, hc, hd⟩ := copy_broken he hx hxy
      obtain ⟨t, ht, hl, hv⟩ := copy_live (show e < 256 by omega)
      rw [hc, hl, show be 8 m ++ s ++ (be 8 (U (e : Int)) ++ t) = hd4 m s (U (e : Int)) t from rfl, epoch_hd4 hs ht, hd]
      rw [hp0] at hv
      rw [show (1 : UInt64) = U ((1 : Nat) : Int) by decide, hv, hU0, if_pos (by omega)]
    · rw [List.getElem?_append_right (by omega), hz1] at hx
      rw [set_app_r (by omega), hz1]
      obtain ⟨m, s, hs, hc, hd⟩ := copy_broken (show e < 256 by omega) hx hxy
      obtain ⟨t, ht, hl, hv⟩ := copy_live he
      rw [hc, hl, show be 8 (U ((e + 1 : Nat) : Int)) ++ t ++ (be 8 m ++ s) = hd4 (U ((e + 1 : Nat) : Int)) t m s from rfl, epoch_hd4 ht hs, hd]
      rw [hp] at hv
      rw [show ep4 0 0 (U ((e + 1 : Nat) : Int)) t = ep4 0 (U ((0 : Nat) : Int)) (U ((e + 1 : Nat) : Int)) t from rfl, hv, hU1, if_neg (by omega)]
  · rw [if_neg (by omega)] at hh
    have hp0 : e % 2 = 0 := by omega
    subst hh
    by_cases hk16 : k < 16
    · rw [List.getElem?_append_left (by omega)] at hx
      rw [set_app_l (by omega)]
      obtain ⟨m, s, hs, hc, hd⟩ := copy_broken (show e < 256 by omega) hx hxy
      obtain ⟨t, ht, hl, hv⟩ := copy_live he
      rw [hc, hl, show be 8 m ++ s ++ (be 8 (U ((e + 1 : Nat) : Int)) ++ t) = hd4 m s (U ((e + 1 : Nat) : Int)) t from rfl, epoch_hd4 hs ht, hd]
      rw [hp] at hv
      rw [show (1 : UInt64) = U ((1 : Nat) : Int) by decide, hv, hU1, if_neg (by omega)]
    · rw [List.getElem?_append_right (by omega), hz0] at hx
      rw [set_app_r (by omega), hz0]
      obtain ⟨m, s, hs, hc, hd⟩ := copy_broken he hx hxy
      obtain ⟨t, ht, hl, hv⟩ := copy_live (show e < 256 by omega)
      rw [hc, hl, show be 8 (U (e : Int)) ++ t ++ (be 8 m ++ s) = hd4 (U (e : Int)) t m s from rfl, epoch_hd4 ht hs, hd]
      rw [hp0] at hv
      rw [show ep4 0 0 (U (e : Int)) t = ep4 0 (U ((0 : Nat) : Int)) (U (e : Int)) t from rfl, hv, hU0, if_pos (by omega)]
theorem heads_read {K K' : KS} {I I' : KI} {N N' k : Nat} {x y : UInt8} (h : Inv K I N true) (h' : Inv K' I' N' true) (he : I'.epoch = I.epoch + 1) (hold : K'.area I.epoch = encI I) (hN : I.epoch + 1 < 256) (hX : HeadX K'.head I'.epoch)
    (hk : k < 32) (hx : K'.head[k]? = some x) (hxy : x ≠ y) :
    (k / 16 = I'.epoch % 2 → readI { K' with head := K'.head.set k y } = some I) ∧ (k / 16 ≠ I'.epoch % 2 → readI { K' with head := K'.head.set k y } = some I') := by
  rw [he] at hX ⊢
  have hb := head_broken hX hN hk hx hxy
  constructor
  · intro hp
    rw [if_pos hp] at hb
    exact read_enc (tail := []) hb (by rw [List.append_nil]; exact hold) (rec_nil _) h.wf
  · intro hp
    rw [if_neg hp] at hb
    exact read_enc (tail := []) (by rw [he]; exact hb) (by rw [List.append_nil, ← h'.exact]; rfl) (rec_nil _) h'.wf
/-- what stands where nothing is torn and the power is on -/
theorem cut_self {K : KS} {I : KI} {N : Nat} (h : Inv K I N true) (hp : K.power = -1) : cutS (powS K) I.epoch I.size = K := by
  have h1 := h.exact
  have h2 := h.wf.size
  have e1 : powS K = K := by unfold powS; rw [← hp]
  rw [e1]
  unfold cutS
  have hl : (K.area I.epoch).length = I.size := by rw [h1]; exact h2.symm
  have e2 : cutA (K.area I.epoch) K.power I.size = K.area I.epoch := by unfold cutA; rw [if_neg (by rw [hp]; decide), List.take_of_length_le (by omega)]
  have e3 : cutP (K.area I.epoch) K.power I.size = K.power := by unfold cutP; rw [if_neg (by omega)]
  rw [e2, e3]
  unfold KS.setArea KS.area
  split <;> rfl
theorem ck_old {K : KS} {I : KI} {N : Nat} {bs : Bs} (h : Inv K I N true) (hp : K.power = -1) : (ckS K (I.epoch + 1) I.next bs).area I.epoch = encI I := by
  rw [ckS_all hp, ck4_area, ck2_other (by omega), h.exact]
theorem ap_old {K : KS} {I : KI} {e : Nat} {bs xs : Bs} (h : K.area e = xs) (he : I.epoch = e + 1) : (apS K I bs).area e = xs := by
  rw [← h]
  show (K.setArea I.epoch _).area e = _
  exact area_set_ne K (by omega) _
theorem headX_len {head : Bs} {e : Nat} (h : HeadX head e) (he : e ≠ 0) : head.length = 32 := by
  rcases h with ⟨h0, _⟩ | ⟨_, hh⟩
  · exact absurd h0 he
  · rw [hh]; split <;> simp [copyZ_len]
end Go.Jn
